/- Part 7 of the texts of this claim, one behind the other. -/
import Derived.Test.YtoameenjkiaefaaGreatDoorB6
set_option linter.unusedVariables false
set_option linter.unusedSimpArgs false
set_option maxRecDepth 100000
namespace Go.Proofs.YtoameenjkiaefaaGreatDoor
open Go.Px
structure PrmT (pb : Nat × Nat) (bt : TBk pb) (bm : Nat) (s : Ps) (M : Mem) : Prop where
  ex : ∃ (sv : Value) (B MT : Mem), M = (pb.1, blk [.int .u8 1, sv, (vI s.n), (vP bt)] 118) :: (B ++ MT) ∧ By B sv s.seed ∧ Tab bt bm s.ts MT
theorem PrmT.p {pb : Nat × Nat} {bt : TBk pb} {bm : Nat} {s : Ps} {M : Mem} (h : PrmT pb bt bm s M) : Prm pb s M := by
  obtain ⟨sv, B, MT, h1, h2, h3⟩ := h.ex
  exact ⟨sv, bt, bm, B, MT, h1, h2, h3⟩
theorem Prm.t {pb : Nat × Nat} {s : Ps} {M : Mem} (h : Prm pb s M) : ∃ bt bm, PrmT pb bt bm s M := by
  obtain ⟨sv, bt, bm, B, MT, h1, h2, h3⟩ := h.ex
  exact ⟨bt, bm, sv, B, MT, h1, h2, h3⟩
def A4l (x : Int) : Tm := ⟨3, [x], [], 0⟩
def B0X (s : Ps) (w : LN) : Ps := { s with ts := add (rdT s.ts w) (A4l ((rdI s.ts w : Nat) : Int)) }
def B2y (s : Ps) (w : LN) : LN := bts ((at_ (rdT s.ts w) (A4l ((rdI s.ts w : Nat) : Int)) : Nat) : Int)
def B5w (s : Ps) (w u : LN) : Ps := { s with ts := add (rdT (rdT s.ts w) u) (agT (rdT (rdT s.ts w) u) ((rdI s.ts w : Nat) : Int) ((rdI (rdT s.ts w) u : Nat) : Int)) }
def B5x (s : Ps) (w u : LN) : LN := bts ((at_ (rdT (rdT s.ts w) u) (agT (rdT (rdT s.ts w) u) ((rdI s.ts w : Nat) : Int) ((rdI (rdT s.ts w) u : Nat) : Int)) : Nat) : Int)
theorem A8L {x : Int} (h : i64 x) : Tmo (A4l x) := ⟨show 3 < 256 by decide, show i64 (0 : Int) by unfold i64; omega, fun i hi => by rw [List.mem_singleton.1 hi]; exact h, show 1 ≤ 1048576 by decide, ⟨fun x hx => (List.not_mem_nil hx).elim⟩, show 0 ≤ 1099511627776 by decide⟩
theorem A2o {ts : List Tm} {w : LN} (hw : ∀ x ∈ w, x < 256) (hl : w.length ≤ 1099511627776) (hts : ∀ t ∈ ts, Tmo t) (hn : ts.length ≤ 1048576) : i64 ((rdI ts w : Nat) : Int) := by
  have h1 := A8I hw hl hts
  have h2 : (rdT ts w).length ≤ ts.length + 1 := L8
  unfold i64; omega
theorem U8 (pb : Nat × Nat) (bt : TBk pb) (bm : Nat) (m k : Int) (sv : Value) [hsv : Cel sv [sv]] (ts : List Tm) (v : Value) (w : LN) (MT A : Mem) (hT : Tab bt bm ts MT) (hpb : (pb.1, blk [.int .u8 m, sv, .int .i64 k, (vP bt)] 118) ∈ A) (hn : ts.length ≤ 1048576) (hv : By A v w) {e4 : TypeId} {f4 : Nat × Nat} (h4 : (4, Obj.cells (I3 .u64 N8).toArray e4 f4) ∈ A) : FnX Tryz.prog 97 [.pointer (some ⟨pb.1, 0, none⟩), v] MT A fun q M J => q = .int .i64 ((rdI ts w : Nat) : Int) ∧ Tab bt bm (rdT ts w) M := by
 haveI := hv.cel
 have hvl := hv.len
 refine FnX.enterZ (N := 11) Tryz.func97 rfl rfl rfl fun w_ => ?_
 refine A8 (D0 0 1) (A1 (as_ (A0 (D0 0 1) (A1 (mv_ ?_)))))
 refine A2 (D8 rfl) rfl ?_
 refine A2 (qf_ 3 3) rfl ?_
 refine A2 ql_ rfl ?_
 refine mv_ ?_
 refine A4 rfl (A9 (Mc := MT) (R := _) (aS rfl (aS rfl a0)) kR qP (A2h bt bm ts v w MT _ hT hn (hv.rd.mono qS) hv.lt (by have := hv.len; omega) (qS _ h4)) rfl ?_)
 rintro v10 M10 J10 ⟨rfl, rfl, hT10⟩
 refine as_ (A0 (C7 4) (A7 ?_))
 exact ⟨_, M10, [], F7 rfl rfl, Fit.none (Fit.last qP), rfl, hT10⟩
theorem A5z (pb : Nat × Nat) (bt : TBk pb) (bm : Nat) (s : Ps) (hr : s.real = false) (v : Value) (w : LN) (MP A : Mem) (hP : PrmT pb bt bm s MP) (hn : s.ts.length < 1048576) (hv : By A v w) (hG : Glb A) : FnX Tryz.prog 52 [.pointer (some ⟨pb.1, 0, none⟩), v] MP A fun q M J => PrmT pb bt bm (B0X s w) M ∧ By J q (B2y s w) := by
 obtain ⟨sv, B, MT, rfl, hby, hT⟩ := hP.ex
 obtain ⟨ge4, gf4, h4⟩ := hG.pow
 haveI := hv.cel
 haveI := hby.cel
 have hvl := hv.len
 refine FnX.enterZ (N := 26) Tryz.func52 rfl rfl rfl fun w_ => ?_
 refine A8 (D0 0 1) (A1 (as_ (A0 (D0 0 1) (A6 (A1 (mv_ ?_))))))
 refine A2 (C9 (e := 118) rfl rfl kR) rfl ?_
 refine A0 (E5 0 1 6) ?_
 refine B0 rfl ?_
 refine A5 (nx (D0 0 1) (A6 (A1 (mv_ ?_))))
 refine A2 (D8 rfl) rfl ?_
 refine A2 (qf_ 0 0) rfl ?_
 refine A2 ql_ rfl ?_
 refine A2 (F0 false rfl rfl (eqF qD)) rfl ?_
 refine A0 (E5 0 1 11) ?_
 refine B0 rfl ?_
 refine A5 (nx (D0 0 1) ?_)
 refine E6 (MT) (_) true [0, 1, 2, 3, 4, 5, 6, 7, 8, 11] (zp 0 [0, 0, 0, 1, 0, 0, 2, 2, 0, 2, 2, 0]) kR kR qP fun hs K n0 hKm hKs hKn => ?_
 refine km_ hs ?_
 refine F1 hs rfl (D8 rfl) rfl ?_
 refine F1 hs rfl (qf_ 3 3) rfl ?_
 refine I1 hs rfl hKs ql_ ?_
 refine km_ hs ?_
 refine km_ hs ?_
 refine F9 _ _ rfl rfl (List.Perm.refl _) hKm fun w0 => (A9 (Mc := MT) (R := _) (aS rfl (aS rfl a0)) kR qP (U8 pb bt bm 1 _ sv s.ts v w MT _ hT At.mem qO (hv.mono qS) (qS _ h4)) rfl ?_)
 rintro v21 M21 J21 ⟨rfl, hT21⟩ hKx
 refine F9 [] _ rfl rfl (List.Perm.refl _) (fun _ h => by cases h) fun w0 => (C4 (e := 3) (sz := 1) (z := [.int .i64 0]) kR (eS rfl e0) (bdS 0 1 rfl qR bd0) rfl fun b22 => fun _ => ?_)
 refine A0B (M' := (b22, blk [.int .i64 ((rdI s.ts w : Nat) : Int)] 3) :: (M21 ++ ((pb.1, blk [.int .u8 1, sv, .int .i64 (((s.n : Nat) : Int)), (vP bt)] 118) :: (B ++ [])))) qM ?_
 refine F1 hs rfl (D6 (place := fun x => #[(0, 1), (1, 1), (2, 1), (3, 1)][x]?) (z := [.int .u8 0, vS, .string ByteArray.empty, .int .i64 0]) (fun _ => by kernel_rfl) (eS rfl (eS rfl e0)) (bdS 0 1 rfl qR (bdS 1 1 rfl qR bd0))) rfl ?_
 refine K2 rfl rfl rfl (A9 (Mc := M21) (R := _) (aS rfl (aS rfl a0)) kR qP (N1 bt bm (rdT s.ts w) _ (A4l ((rdI s.ts w : Nat) : Int)) M21 _ hT21 (by have := L8 (ts := s.ts) (ws := w); omega) (Rd.whole (n := 1) At.mem qR) (A8L (A2o hv.lt qO hT.tok.tmo qO)) (qS _ h4)) rfl ?_)
 rintro v24 M24 J24 ⟨rfl, rfl, hT24⟩
 refine K2 rfl rfl rfl (K0 (aS rfl a0) kR (P4 _ _) rfl ?_)
 rintro v25 M25 J25 ⟨rfl, h25⟩
 refine F1 hs rfl (F5 rfl) rfl ?_
 refine G7 (C7 4) (A7 ?_)
 exact ⟨_, (pb.1, blk [.int .u8 1, sv, .int .i64 (((s.n : Nat) : Int)), (vP bt)] 118) :: (B ++ M24), [], F7 rfl rfl, (Fit.none (Fit.pick (B := [_]) qP (Fit.pick qP (Fit.last qP)))), ⟨sv, B, M24, rfl, hby, hT24⟩, h25.mono qS⟩
theorem A5A (pb : Nat × Nat) (bt : TBk pb) (bm : Nat) (s : Ps) (hr : s.real = false) (v v2 : Value) (w u : LN) (MP A : Mem) (hP : PrmT pb bt bm s MP) (hn : s.ts.length + 1 < 1048576) (hv : By A v w) (hu : By A v2 u) (hG : Glb A) : FnX Tryz.prog 111 [.pointer (some ⟨pb.1, 0, none⟩), v, v2] MP A fun q M J => PrmT pb bt bm (B5w s w u) M ∧ By J q (B5x s w u) := by
 obtain ⟨sv, B, MT, rfl, hby, hT⟩ := hP.ex
 obtain ⟨ge4, gf4, h4⟩ := hG.pow
 haveI := hv.cel
 haveI := hu.cel
 haveI := hby.cel
 have hvl := hv.len
 have hul := hu.len
 refine FnX.enterZ (N := 31) Tryz.func111 rfl rfl rfl fun w_ => ?_
 refine A8 (E5 0 1 2) (A1 (as_ (A0 (E5 0 1 2) (A6 (A1 (mv_ ?_))))))
 refine A2 (C9 (e := 118) rfl rfl kR) rfl ?_
 refine A0 (F4 0 1 2 8) ?_
 refine B0 rfl ?_
 refine A5 (nx (E5 0 1 2) (A6 (A1 (mv_ ?_))))
 refine A2 (D8 rfl) rfl ?_
 refine A2 (qf_ 0 0) rfl ?_
 refine A2 ql_ rfl ?_
 refine A2 (F0 false rfl rfl (eqF qD)) rfl ?_
 refine A0 (F4 0 1 2 13) ?_
 refine B0 rfl ?_
 refine A5 (nx (E5 0 1 2) ?_)
 refine E6 (MT) (_) true [0, 1, 2, 3, 4, 5, 6, 7, 8, 9, 12] [(0, 0), (1, 0), (2, 0), (3, 1), (4, 0), (5, 0), (7, 0), (8, 0), (6, 2), (9, 2), (10, 2), (11, 2), (12, 0)] kR kR qP fun hs K n0 hKm hKs hKn => ?_
 refine km_ hs ?_
 refine F1 hs rfl (D8 rfl) rfl ?_
 refine F1 hs rfl (qf_ 3 3) rfl ?_
 refine I1 hs rfl hKs ql_ ?_
 refine km_ hs ?_
 refine km_ hs ?_
 refine km_ hs ?_
 refine km_ hs ?_
 refine F9 _ _ rfl rfl (List.Perm.refl _) hKm fun w0 => (A9 (Mc := MT) (R := _) (aS rfl (aS rfl a0)) kR qP (U8 pb bt bm 1 _ sv s.ts v w MT _ hT At.mem qO (hv.mono qS) (qS _ h4)) rfl ?_)
 rintro v25 M25 J25 ⟨rfl, hT25⟩ hKx
 refine F9 (M25 ++ []) _ rfl rfl qP (hKx (hKn rfl)) fun w0 => (A9 (Mc := M25) (R := _) (aS rfl (aS rfl a0)) kR qP (U8 pb bt bm 1 _ sv (rdT s.ts w) v2 u M25 _ hT25 At.mem (by have := L8 (ts := s.ts) (ws := w); omega) (hu.mono qS) (qS _ h4)) rfl ?_)
 rintro v28 M28 J28 ⟨rfl, hT28⟩ hKy
 refine K2 rfl rfl rfl (A9 (Mc := M28) (R := _) (aS rfl (aS rfl (aS rfl a0))) kR qP (A7d bt bm (rdT (rdT s.ts w) u) _ _ M28 _ hT28 (by have := L8 (ts := s.ts) (ws := w); have := L8 (ts := rdT s.ts w) (ws := u); omega) (A2o hv.lt qO hT.tok.tmo qO) (A2o hu.lt qO hT25.tok.tmo (by have := L8 (ts := s.ts) (ws := w); omega)) (qS _ h4)) rfl ?_)
 rintro v29 M29 J29 ⟨rfl, rfl, hT29⟩
 refine K2 rfl rfl rfl (K0 (aS rfl a0) kR (P4 _ _) rfl ?_)
 rintro v30 M30 J30 ⟨rfl, h30⟩
 refine F1 hs rfl (F5 rfl) rfl ?_
 refine G7 (C7 6) (A7 ?_)
 exact ⟨_, (pb.1, blk [.int .u8 1, sv, .int .i64 (((s.n : Nat) : Int)), (vP bt)] 118) :: (B ++ M29), [], F7 rfl rfl, (Fit.none (Fit.pick (B := [_]) qP (Fit.pick qP (Fit.last qP)))), ⟨sv, B, M29, rfl, hby, hT29⟩, h30.mono qS⟩
theorem A6n (pb : Nat × Nat) (s : Ps) (hr : s.real = false) (v : Value) (w : LN) (MP A : Mem) (hP : Prm pb s MP) (hn : s.ts.length < 1048576) (hv : By A v w) (hG : Glb A) : FnX Tryz.prog 52 [.pointer (some ⟨pb.1, 0, none⟩), v] MP A fun q M J => Prm pb (B0X s w) M ∧ By J q (B2y s w) := by
  obtain ⟨bt, bm, h⟩ := hP.t
  exact (A5z pb bt bm s hr v w MP A h hn hv hG).mono fun q M J ⟨h1, h2⟩ => ⟨h1.p, h2⟩
theorem B0Y (pb : Nat × Nat) (s : Ps) (hr : s.real = false) (v v2 : Value) (w u : LN) (MP A : Mem) (hP : Prm pb s MP) (hn : s.ts.length + 1 < 1048576) (hv : By A v w) (hu : By A v2 u) (hG : Glb A) : FnX Tryz.prog 111 [.pointer (some ⟨pb.1, 0, none⟩), v, v2] MP A fun q M J => Prm pb (B5w s w u) M ∧ By J q (B5x s w u) := by
  obtain ⟨bt, bm, h⟩ := hP.t
  exact (A5A pb bt bm s hr v v2 w u MP A h hn hv hu hG).mono fun q M J ⟨h1, h2⟩ => ⟨h1.p, h2⟩
theorem A5B (pb : Nat × Nat) (bt : TBk pb) (k : Int) (sv : Value) (A : Mem) (hpb : (pb.1, blk [.int .u8 1, sv, .int .i64 k, (vP bt)] 118) ∈ A) : FnV Tryz.prog 70 [.pointer (some ⟨pb.1, 0, none⟩)] A (vP bt) := by
 refine FnX.enter (N := 16) Tryz.func70 rfl rfl rfl fun w => ?_
 refine A8 (C7 0) (A1 (as_ (A0 (C7 0) (A6 (A1 (mv_ ?_))))))
 refine A2 (C9 (e := 118) rfl rfl kR) rfl ?_
 refine mv_ ?_
 refine C0 rfl rfl (OpQ.opL qm_ rfl ?_)
 refine C0 rfl rfl (OpQ.opL (D8 rfl) rfl ?_)
 refine C0 rfl rfl (OpQ.opL (qf_ 0 0) rfl ?_)
 refine C0 rfl rfl (OpQ.opL (G3 rfl kR (mA hpb) qR) rfl ?_)
 refine C0 rfl rfl (OpQ.opL (F0 false rfl rfl (eqF qD)) rfl ?_)
 refine A2 (C8 rfl rfl) rfl ?_
 refine A0 (D0 0 11) ?_
 refine B0 rfl ?_
 refine A5 (nx (C7 0) (A1 (mv_ ?_)))
 refine A2 (D8 rfl) rfl ?_
 refine A2 (qf_ 3 3) rfl ?_
 refine A2 (G3 rfl kR (mA hpb) qR) rfl ?_
 refine as_ (A0 (C7 2) (A7 ?_))
 exact ⟨_, [], [], F7 rfl rfl, List.nil_sublist _, by simp, rfl, rfl, rfl⟩

def A03 (x : Int) (a b : LN) : Tm := ⟨6, [x], mark a ++ mark b, 0⟩
def A3d (x : Int) (m : LN) : Tm := ⟨7, [x], m, 0⟩
def A7j (s : Ps) (w : LN) (f : Int → Tm) : Ps := { s with ts := add (rdT s.ts w) (f ((rdI s.ts w : Nat) : Int)) }
def A8M (s : Ps) (w : LN) (f : Int → Tm) : LN := bts ((at_ (rdT s.ts w) (f ((rdI s.ts w : Nat) : Int)) : Nat) : Int)
theorem A6o {x : Int} (h : i64 x) {a b : LN} (ha : ∀ y ∈ a, y < 256) (hb : ∀ y ∈ b, y < 256) (la : a.length ≤ 16777216) (lb : b.length ≤ 16777216) : Tmo (A03 x a b) := by
  haveI : B256 a := ⟨ha⟩
  haveI : B256 b := ⟨hb⟩
  have h1 := A0Y a qO
  have h2 := A0Y b qO
  exact ⟨show 6 < 256 by decide, show i64 (0 : Int) by unfold i64; omega, fun i hi => by rw [List.mem_singleton.1 hi]; exact h, show 1 ≤ 1048576 by decide, inferInstanceAs (B256 (mark a ++ mark b)), by show (mark a ++ mark b).length ≤ _; rw [List.length_append]; omega⟩
theorem B2z {x : Int} (h : i64 x) {m : LN} (hm : ∀ y ∈ m, y < 256) (lm : m.length ≤ 16777216) : Tmo (A3d x m) :=
  ⟨show 7 < 256 by decide, show i64 (0 : Int) by unfold i64; omega, fun i hi => by rw [List.mem_singleton.1 hi]; exact h, show 1 ≤ 1048576 by decide, ⟨hm⟩, show m.length ≤ 1099511627776 by omega⟩
theorem A8N (pb : Nat × Nat) (bt : TBk pb) (bm : Nat) (s : Ps) (hr : s.real = false) (v v2 v3 : Value) (w wa wb : LN) (MP A : Mem) (hP : PrmT pb bt bm s MP) (hn : s.ts.length < 1048576) (hv : By A v w) (hya : By A v2 wa) (hyb : By A v3 wb) (hG : Glb A) : FnX Tryz.prog 88 [.pointer (some ⟨pb.1, 0, none⟩), v, v2, v3] MP A fun q M J => PrmT pb bt bm (A7j s w fun x => A03 x wa wb) M ∧ By J q (A8M s w fun x => A03 x wa wb) := by
 obtain ⟨sv, B, MT, rfl, hby, hT⟩ := hP.ex
 obtain ⟨ge4, gf4, h4⟩ := hG.pow
 haveI := hv.cel
 haveI := hya.cel
 haveI := hyb.cel
 haveI := hby.cel
 have hvl := hv.len
 have hal := hya.len
 have hbl := hyb.len
 refine FnX.enterZ (N := 38) Tryz.func88 rfl rfl rfl fun w_ => ?_
 refine A8 (F4 0 1 2 3) (A1 (as_ (A0 (F4 0 1 2 3) (A6 (A1 (mv_ ?_))))))
 refine A2 (C9 (e := 118) rfl rfl kR) rfl ?_
 refine A0 (G6 0 1 2 3 10) ?_
 refine B0 rfl ?_
 refine A5 (nx (F4 0 1 2 3) (A6 (A1 (mv_ ?_))))
 refine A2 (D8 rfl) rfl ?_
 refine A2 (qf_ 0 0) rfl ?_
 refine A2 ql_ rfl ?_
 refine A2 (F0 false rfl rfl (eqF qD)) rfl ?_
 refine A0 (G6 0 1 2 3 15) ?_
 refine B0 rfl ?_
 refine A5 (nx (F4 0 1 2 3) ?_)
 refine E6 (MT) (_) true [0, 1, 2, 3, 4, 5, 6, 7, 8, 9, 10, 11, 12, 13, 16] [(0, 0), (1, 0), (2, 0), (3, 1), (4, 0), (5, 0), (8, 0), (10, 0), (6, 2), (7, 3), (9, 3), (11, 3), (12, 4), (13, 0), (14, 2), (15, 2), (16, 0)] kR kR qP fun hs K n0 hKm hKs hKn => ?_
 refine km_ hs ?_
 refine F1 hs rfl (D8 rfl) rfl ?_
 refine F1 hs rfl (qf_ 3 3) rfl ?_
 refine I1 hs rfl hKs ql_ ?_
 refine km_ hs ?_
 refine km_ hs ?_
 refine km_ hs ?_
 refine km_ hs ?_
 refine F9 _ _ rfl rfl (List.Perm.refl _) hKm fun w0 => (A9 (Mc := MT) (R := _) (aS rfl (aS rfl a0)) kR qP (U8 pb bt bm 1 _ sv s.ts v w MT _ hT At.mem qO (hv.mono qS) (qS _ h4)) rfl ?_)
 rintro v28 M28 J28 ⟨rfl, hT28⟩ hKx
 refine A8h [⟨7, 29, fun v B _ => ∃ b, v = .slice (some ⟨b, 0, none⟩) 1 1 ∧ B = [(b, blk [.int .i64 ((rdI s.ts w : Nat) : Int)] 3)]⟩, ⟨9, 31, fun v B _ => B = [] ∧ v = .string (txt (mark wa))⟩, ⟨11, 33, fun v B _ => B = [] ∧ v = .string (txt (mark wb))⟩, ⟨12, 34, fun v B _ => B = [] ∧ v = .string (txt (mark wa ++ mark wb))⟩]
  (A3 (fun _ _ _ _ _ h => h) (A3 (fun _ _ _ _ _ h => h) (A3 (fun _ _ _ _ _ h => h) (A3 (fun _ _ _ _ _ h => h) (H9))))) (show List.Nodup [29, 31, 33, 34] by decide) (show List.Nodup [7, 9, 11, 12] by decide) (A3 (D5 rfl) (A3 (D5 rfl) (A3 (D5 rfl) (A3 (D5 rfl) (H9)))))
  (A3 ⟨_, rfl, fun vs bs R w hb ha => ⟨.inl rfl, ?_⟩⟩ (A3 ⟨_, rfl, fun vs bs R w hb ha => ⟨.inl rfl, ?_⟩⟩ (A3 ⟨_, rfl, fun vs bs R w hb ha => ⟨.inl rfl, ?_⟩⟩ (A3 ⟨_, rfl, fun vs bs R w hb ha => ⟨.inl rfl, ?_⟩⟩ (H9))))) ?_
 ·
  exact C4 (e := 3) (sz := 1) (z := [.int .i64 0]) kR (eS rfl e0) (bdS 0 1 rfl qR bd0) rfl fun b => ⟨_, rfl, b, rfl, rfl⟩
 ·
  exact X3 (aS rfl a0) kR (A2f v2 wa _ (hya.rd.mono fun x hx => hb _ (qS x hx)) (hb := hya.b256) (by have := hya.len; omega) (hb _ (qS _ h4))) rfl ⟨_, rfl, rfl, rfl⟩
 ·
  exact X3 (aS rfl a0) kR (A2f v3 wb _ (hyb.rd.mono fun x hx => hb _ (qS x hx)) (hb := hyb.b256) (by have := hyb.len; omega) (hb _ (qS _ h4))) rfl ⟨_, rfl, rfl, rfl⟩
 ·
  have g9 := ha _ (List.mem_of_getElem? (i := 1) rfl) kR
  replace g9 : (fun v B _ => B = [] ∧ v = .string (txt (mark wa))) (vs 9) (bs 9) R := g9
  dsimp only at g9
  have g11 := ha _ (List.mem_of_getElem? (i := 2) rfl) kR
  replace g11 : (fun v B _ => B = [] ∧ v = .string (txt (mark wb))) (vs 11) (bs 11) R := g11
  dsimp only at g11
  obtain ⟨-, h9⟩ := g9
  obtain ⟨-, h11⟩ := g11
  exact OpQ.opL (A0u (ws := mark wa) (ws' := mark wb) (by rw [← h9]; rfl) (by rw [← h11]; rfl) rfl rfl (by have h1 := A0Y wa qO; have h2 := A0Y wb qO; omega)) rfl ⟨_, rfl, rfl, rfl⟩
 intro vs bs Jn0 hφ
 have g7 := ofH hφ
 dsimp only at g7
 replace hφ := ofT hφ
 have g9 := ofH hφ
 dsimp only at g9
 replace hφ := ofT hφ
 have g11 := ofH hφ
 dsimp only at g11
 replace hφ := ofT hφ
 have g12 := ofH hφ
 dsimp only at g12
 clear hφ
 dsimp only [A1i, W9, List.map, List.flatten, List.cons_append, List.nil_append]
 generalize bs 7 = B29 at *
 generalize bs 9 = B31 at *
 generalize bs 11 = B33 at *
 generalize bs 12 = B34 at *
 generalize vs 7 = u29 at *
 generalize vs 9 = u31 at *
 generalize vs 11 = u33 at *
 generalize vs 12 = u34 at *
 obtain ⟨b29, rfl, rfl⟩ := g7
 obtain ⟨rfl, rfl⟩ := g9
 obtain ⟨rfl, rfl⟩ := g11
 obtain ⟨rfl, rfl⟩ := g12
 dsimp only [List.append_eq, List.nil_append, List.cons_append]
 refine F1 hs rfl (D6 (place := fun x => #[(0, 1), (1, 1), (2, 1), (3, 1)][x]?) (z := [.int .u8 0, vS, .string ByteArray.empty, .int .i64 0]) (fun _ => by kernel_rfl) (eS rfl (eS rfl (eS rfl e0))) (bdS 0 1 rfl qR (bdS 1 1 rfl qR (bdS 2 1 rfl qR bd0)))) rfl ?_
 refine K2 rfl rfl rfl (A9 (Mc := M28) (R := _) (aS rfl (aS rfl a0)) kR qP (N1 bt bm (rdT s.ts w) _ (A03 ((rdI s.ts w : Nat) : Int) wa wb) M28 _ hT28 (by have := L8 (ts := s.ts) (ws := w); omega) (Rd.whole (n := 1) At.mem qR) (A6o (A2o hv.lt qO hT.tok.tmo qO) hya.lt hyb.lt hya.len hyb.len) (qS _ h4)) rfl ?_)
 rintro v36 M36 J36 ⟨rfl, rfl, hT36⟩
 refine K2 rfl rfl rfl (K0 (aS rfl a0) kR (P4 _ _) rfl ?_)
 rintro v37 M37 J37 ⟨rfl, h37⟩
 refine F1 hs rfl (F5 rfl) rfl ?_
 refine G7 (C7 8) (A7 ?_)
 exact ⟨_, (pb.1, blk [.int .u8 1, sv, .int .i64 (((s.n : Nat) : Int)), (vP bt)] 118) :: (B ++ M36), [], F7 rfl rfl, (Fit.none (Fit.pick (B := [_]) qP (Fit.pick qP (Fit.last qP)))), ⟨sv, B, M36, rfl, hby, hT36⟩, h37.mono qS⟩
theorem A8O (pb : Nat × Nat) (bt : TBk pb) (bm : Nat) (s : Ps) (hr : s.real = false) (v v2 : Value) (w wm : LN) (MP A : Mem) (hP : PrmT pb bt bm s MP) (hn : s.ts.length < 1048576) (hv : By A v w) (hm : By A v2 wm) (hG : Glb A) : FnX Tryz.prog 100 [.pointer (some ⟨pb.1, 0, none⟩), v, v2] MP A fun q M J => PrmT pb bt bm (A7j s w fun x => A3d x wm) M ∧ By J q (Y7 (A8M s w fun x => A3d x wm) 64) := by
 obtain ⟨sv, B, MT, rfl, hby, hT⟩ := hP.ex
 obtain ⟨ge4, gf4, h4⟩ := hG.pow
 haveI := hv.cel
 haveI := hm.cel
 haveI := hby.cel
 have hvl := hv.len
 have hml := hm.len
 refine FnX.enterZ (N := 32) Tryz.func100 rfl rfl rfl fun w_ => ?_
 refine A8 (E5 0 1 2) (A1 (as_ (A0 (E5 0 1 2) (A6 (A1 (mv_ ?_))))))
 refine A2 (C9 (e := 118) rfl rfl kR) rfl ?_
 refine A0 (F4 0 1 2 8) ?_
 refine B0 rfl ?_
 refine A5 (nx (E5 0 1 2) (A6 (A1 (mv_ ?_))))
 refine A2 (D8 rfl) rfl ?_
 refine A2 (qf_ 0 0) rfl ?_
 refine A2 ql_ rfl ?_
 refine A2 (F0 false rfl rfl (eqF qD)) rfl ?_
 refine A0 (F4 0 1 2 13) ?_
 refine B0 rfl ?_
 refine A5 (nx (E5 0 1 2) ?_)
 refine E6 (MT) (_) true [0, 1, 2, 3, 4, 5, 6, 7, 8, 9, 10, 14] [(0, 0), (1, 0), (2, 0), (3, 1), (4, 0), (5, 0), (8, 0), (9, 1), (6, 2), (7, 2), (10, 0), (11, 2), (12, 2), (13, 2), (14, 0)] kR kR qP fun hs K n0 hKm hKs hKn => ?_
 refine km_ hs ?_
 refine F1 hs rfl (D8 rfl) rfl ?_
 refine F1 hs rfl (qf_ 3 3) rfl ?_
 refine I1 hs rfl hKs ql_ ?_
 refine km_ hs ?_
 refine km_ hs ?_
 refine km_ hs ?_
 refine I1 hs rfl hKs (Q3 rfl kR (hm.rd.mono qS)) ?_
 refine F9 _ _ rfl rfl (List.Perm.refl _) hKm fun w0 => (A9 (Mc := MT) (R := _) (aS rfl (aS rfl a0)) kR qP (U8 pb bt bm 1 _ sv s.ts v w MT _ hT At.mem qO (hv.mono qS) (qS _ h4)) rfl ?_)
 rintro v24 M24 J24 ⟨rfl, hT24⟩ hKx
 refine F9 [] _ rfl rfl (List.Perm.refl _) (fun _ h => by cases h) fun w0 => (C4 (e := 3) (sz := 1) (z := [.int .i64 0]) kR (eS rfl e0) (bdS 0 1 rfl qR bd0) rfl fun b25 => fun _ => ?_)
 refine A0B (M' := (b25, blk [.int .i64 ((rdI s.ts w : Nat) : Int)] 3) :: (M24 ++ ((pb.1, blk [.int .u8 1, sv, .int .i64 (((s.n : Nat) : Int)), (vP bt)] 118) :: (B ++ [])))) qM ?_
 refine F1 hs rfl (D6 (place := fun x => #[(0, 1), (1, 1), (2, 1), (3, 1)][x]?) (z := [.int .u8 0, vS, .string ByteArray.empty, .int .i64 0]) (fun _ => by kernel_rfl) (eS rfl (eS rfl (eS rfl e0))) (bdS 0 1 rfl qR (bdS 1 1 rfl qR (bdS 2 1 rfl qR bd0)))) rfl ?_
 refine K2 rfl rfl rfl (A9 (Mc := M24) (R := _) (aS rfl (aS rfl a0)) kR qP (N1 bt bm (rdT s.ts w) _ (A3d ((rdI s.ts w : Nat) : Int) wm) M24 _ hT24 (by have := L8 (ts := s.ts) (ws := w); omega) (Rd.whole (n := 1) At.mem qR) (B2z (A2o hv.lt qO hT.tok.tmo qO) hm.lt hm.len) (qS _ h4)) rfl ?_)
 rintro v29 M29 J29 ⟨rfl, rfl, hT29⟩
 refine K2 rfl rfl rfl (K0 (aS rfl a0) kR (P4 _ _) rfl ?_)
 rintro v30 M30 J30 ⟨rfl, h30⟩
 haveI := h30.cel
 refine K2 rfl rfl rfl (K0 (aS rfl (aS rfl a0)) kR (B0T v30 _ 64 _ (h30.mono qS) qD) rfl ?_)
 rintro v31 M31 J31 ⟨rfl, h31⟩
 refine F1 hs rfl (F5 rfl) rfl ?_
 refine G7 (C7 6) (A7 ?_)
 exact ⟨_, (pb.1, blk [.int .u8 1, sv, .int .i64 (((s.n : Nat) : Int)), (vP bt)] 118) :: (B ++ M29), [], F7 rfl rfl, (Fit.none (Fit.pick (B := [_]) qP (Fit.pick qP (Fit.last qP)))), ⟨sv, B, M29, rfl, hby, hT29⟩, h31.mono qS⟩

end Go.Proofs.YtoameenjkiaefaaGreatDoor
namespace Go.Px
theorem A1N {P : Program} {R : Mem} {l : Env} {d : Option Nat} {ty : TypeId} {pos : String} {af : Array Edge} {g : Option (Nat × Bool)} {fn : Fn} {xs : List Operand} {vs : List Value} (hx : Evs l xs vs) :
    OpQ P R ⟨d, .makeFunc fn #[] xs.toArray, ty, pos, af, g⟩ l (.func fn #[] vs.toArray) := fun N a w ha hw => by
  have e : xs.toArray.map a.eval = vs.toArray := by simp [hx.map ha]
  simp only [execOp, e]
  simp [Instr.makeFunc]
section call
variable {C : Cx} {l : Env} {M J : Mem} {K : Env → Mem → Mem → Prop} {d : Nat} {ty : TypeId} {pos : String} {af : Array Edge} {g : Option (Nat × Bool)} {x : Operand} {f : FuncId} {xs : List Operand} {vs cs : List Value} {ts : Array TypeId}
theorem B3M {Mc R : Mem} {post : Value → Mem → Mem → Prop} (h0 : ev l x = some (.func (.func f) #[] cs.toArray)) (hx : Evs l xs vs) (hc : H2 C.P f = true)
    (hM : M.Perm (Mc ++ R)) (hf : FnX C.P f (vs ++ cs) Mc (R ++ (J ++ C.A)) post) (hd : Nat.blt d C.N = true) (k : ∀ v M' J', post v M' J' → K ((d, v) :: l) (M' ++ R) (J' ++ J)) :
    OpL C ⟨some d, .call { callee := .value x, args := xs.toArray, argTypes := ts }, ty, pos, af, g⟩ l M J K := by
  intro Qp a w ha hw
  have hrun : (execOp a.eval ⟨some d, .call { callee := .value x, args := xs.toArray, argTypes := ts }, ty, pos, af, g⟩).run C.P w = .ok (.enter f (vs ++ cs).toArray) w := by
    have e : xs.toArray.map a.eval = vs.toArray := by simp [hx.map ha]
    simp only [execOp, resolve, e, Sem.run_bind, ha.ev h0]
    simp [Deferred.ofValue, invoke, A3t hc]
  unfold Oper.wp
  rw [hrun]
  refine Calls.mono (hf w (hw.callee hM)) ?_
  rintro e w' ⟨v, M', J', rfl, hp, hs⟩
  exact ⟨_, _, _, ha.put (D5 hd) v, hw.back hM hs, k v M' J' hp⟩
theorem X7 {v : Value} (h0 : ev l x = some (.func (.func f) #[] cs.toArray)) (hx : Evs l xs vs) (hc : H2 C.P f = true) (hf : FnV C.P f (vs ++ cs) (M ++ (J ++ C.A)) v) (hd : Nat.blt d C.N = true) (k : K ((d, v) :: l) M J) :
    OpL C ⟨some d, .call { callee := .value x, args := xs.toArray, argTypes := ts }, ty, pos, af, g⟩ l M J K :=
  B3M (Mc := []) (R := M) h0 hx hc (.refl _) hf hd fun r M' J' ⟨e, h1, h2⟩ => by subst e; subst h1; subst h2; exact k
end call
def A2K (p : Nat → Bool) (n : Nat) : Int := match (List.range n).find? p with
  | some i => (i : Int)
  | none => -1
theorem U9 {p : Nat → Bool} {n i : Nat} (hi : i < n) (h0 : ∀ j, j < i → p j = false) (h : p i = true) : A2K p n = (i : Int) := by
  unfold A2K
  have : (List.range n).find? p = some i := by
    rw [List.find?_range_eq_some]
    exact ⟨h, List.mem_range.2 hi, fun j hj => by rw [h0 j hj]; rfl⟩
  rw [this]
theorem V0 {p : Nat → Bool} {n : Nat} (h0 : ∀ j, j < n → p j = false) : A2K p n = -1 := by
  unfold A2K
  have : (List.range n).find? p = none := by
    rw [List.find?_eq_none]
    intro j hj
    rw [h0 j (List.mem_range.1 hj)]; decide
  rw [this]
theorem A0k (p : Nat → Bool) (n : Nat) : (A2K p n = -1 ∧ ∀ j, j < n → p j = false) ∨ ∃ i, i < n ∧ A2K p n = (i : Int) ∧ p i = true ∧ ∀ j, j < i → p j = false := by
  cases h : (List.range n).find? p with
  | none =>
    have h1 : ∀ j, j < n → p j = false := fun j hj => by
      have := List.find?_eq_none.1 h j (List.mem_range.2 hj)
      simpa using this
    exact .inl ⟨V0 h1, h1⟩
  | some i =>
    obtain ⟨h1, h2, h3⟩ := List.find?_range_eq_some.1 h
    have h4 : ∀ j, j < i → p j = false := fun j hj => by simpa using h3 j hj
    exact .inr ⟨i, List.mem_range.1 h2, U9 (List.mem_range.1 h2) h4 h1, h1, h4⟩
structure RowT {α : Type} (sz : Nat) (φ : Mem → α → List Value → Prop) : Prop where
  mono : ∀ R R' x r, (∀ q, q ∈ R → q ∈ R') → φ R x r → φ R' x r
  len : ∀ R x r, φ R x r → r.length = sz
  one : ∀ R x r, φ R x r → ∀ c ∈ r, c.oneCell' = true
structure RwL {α : Type} (φ : Mem → α → List Value → Prop) (R : Mem) (rows : List (List Value)) (xs : List α) : Prop where
  len : rows.length = xs.length
  get : ∀ (j : Nat) (x : α), xs[j]? = some x → ∃ r, rows[j]? = some r ∧ φ R x r
section rows
variable {α : Type} {sz : Nat} {φ : Mem → α → List Value → Prop} {R R' : Mem} {rows : List (List Value)} {xs : List α} {x : α} {r : List Value}
theorem RwL.mono (hφ : RowT sz φ) (h : RwL φ R rows xs) (hR : ∀ q, q ∈ R → q ∈ R') : RwL φ R' rows xs := ⟨h.len, fun j x hj => by
  obtain ⟨r, h1, h2⟩ := h.get j x hj
  exact ⟨r, h1, hφ.mono _ _ _ _ hR h2⟩⟩
theorem RwL.nil : RwL φ R [] [] := ⟨rfl, fun j x h => by simp at h⟩
theorem RwL.of (h : RwL φ R rows xs) {j : Nat} (hr : rows[j]? = some r) : ∃ x, xs[j]? = some x ∧ φ R x r := by
  have hj : j < xs.length := by rw [← h.len]; exact (List.getElem?_eq_some_iff.1 hr).1
  obtain ⟨r', h1, h2⟩ := h.get j xs[j] (List.getElem?_eq_getElem hj)
  rw [hr] at h1
  cases h1
  exact ⟨_, List.getElem?_eq_getElem hj, h2⟩
theorem RwL.lens (hφ : RowT sz φ) (h : RwL φ R rows xs) : ∀ r ∈ rows, r.length = sz := by
  intro r hr
  obtain ⟨j, hj⟩ := List.getElem?_of_mem hr
  obtain ⟨x, _, h2⟩ := h.of hj
  exact hφ.len _ _ _ h2
theorem RwL.ones (hφ : RowT sz φ) (h : RwL φ R rows xs) : ∀ c ∈ rows.flatten, c.oneCell' = true := by
  intro c hc
  obtain ⟨r, hr, hc⟩ := List.mem_flatten.1 hc
  obtain ⟨j, hj⟩ := List.getElem?_of_mem hr
  obtain ⟨x, _, h2⟩ := h.of hj
  exact hφ.one _ _ _ h2 c hc
theorem RwL.snoc (h : RwL φ R rows xs) (hx : φ R x r) : RwL φ R (rows ++ [r]) (xs ++ [x]) := ⟨by simp [h.len], fun j y hj => by
  by_cases hlt : j < xs.length
  · rw [List.getElem?_append_left hlt] at hj
    obtain ⟨r', h1, h2⟩ := h.get j y hj
    exact ⟨r', by rw [List.getElem?_append_left (List.getElem?_eq_some_iff.1 h1).1]; exact h1, h2⟩
  · rw [List.getElem?_append_right (by omega)] at hj
    have hj0 : j = xs.length := by
      have := (List.getElem?_eq_some_iff.1 hj).1
      simp at this; omega
    subst hj0
    simp at hj
    subst hj
    exact ⟨r, by rw [List.getElem?_append_right (by rw [h.len]; omega), h.len]; simp, hx⟩⟩
theorem RwL.app {rows' : List (List Value)} {xs' : List α} (h : RwL φ R rows xs) (h' : RwL φ R rows' xs') : RwL φ R (rows ++ rows') (xs ++ xs') := ⟨by simp [h.len, h'.len], fun j y hj => by
  by_cases hlt : j < xs.length
  · rw [List.getElem?_append_left hlt] at hj
    obtain ⟨r', h1, h2⟩ := h.get j y hj
    exact ⟨r', by rw [List.getElem?_append_left (List.getElem?_eq_some_iff.1 h1).1]; exact h1, h2⟩
  · rw [List.getElem?_append_right (by omega)] at hj
    obtain ⟨r', h1, h2⟩ := h'.get _ y hj
    exact ⟨r', by rw [List.getElem?_append_right (by rw [h.len]; omega), h.len]; exact h1, h2⟩⟩
theorem RwL.cons (hx : φ R x r) (h : RwL φ R rows xs) : RwL φ R (r :: rows) (x :: xs) := ⟨by simp [h.len], fun j y hj => by
  cases j with
  | zero => simp at hj; subst hj; exact ⟨r, rfl, hx⟩
  | succ j => exact h.get j y hj⟩
theorem RwL.take (h : RwL φ R rows xs) (k : Nat) : RwL φ R (rows.take k) (xs.take k) := ⟨by simp [h.len], fun j y hj => by
  have hk : j < k := by
    rcases Nat.lt_or_ge j k with h | h
    · exact h
    · rw [List.getElem?_eq_none (by simp; omega)] at hj; cases hj
  rw [List.getElem?_take_of_lt hk] at hj ⊢
  exact h.get j y hj⟩
theorem RwL.drop (h : RwL φ R rows xs) (k : Nat) : RwL φ R (rows.drop k) (xs.drop k) := ⟨by simp [h.len], fun j y hj => by
  rw [List.getElem?_drop] at hj ⊢
  exact h.get _ y hj⟩
theorem RwL.erase (h : RwL φ R rows xs) (i : Nat) : RwL φ R (rows.take i ++ rows.drop (i + 1)) (xs.eraseIdx i) := by
  rw [List.eraseIdx_eq_take_drop_succ]
  exact (h.take i).app (h.drop (i + 1))
theorem A3e (hl : ∀ r ∈ rows, r.length = sz) (i : Nat) : rows.flatten.take (i * sz) ++ rows.flatten.drop ((i + 1) * sz) = (rows.take i ++ rows.drop (i + 1)).flatten := by
  rw [A0T hl, A0S hl, List.flatten_append]
end rows
def Q5 {α : Type} (q : α → Bool) (xs : List α) : Int := A2K (fun j => (xs[j]?.map q).getD false) xs.length
theorem N2 {α : Type} (q : α → Bool) (xs : List α) : (Q5 q xs = -1 ∧ ∀ x ∈ xs, q x = false) ∨ ∃ (i : Nat) (x : α), Q5 q xs = (i : Int) ∧ xs[i]? = some x ∧ q x = true ∧ ∀ (j : Nat) (y : α), j < i → xs[j]? = some y → q y = false := by
  rcases A0k (fun j => (xs[j]?.map q).getD false) xs.length with ⟨h1, h2⟩ | ⟨i, h1, h2, h3, h4⟩
  · refine .inl ⟨h1, fun x hx => ?_⟩
    obtain ⟨j, hj⟩ := List.getElem?_of_mem hx
    have := h2 j (List.getElem?_eq_some_iff.1 hj).1
    rw [hj] at this
    exact this
  · refine .inr ⟨i, xs[i], h2, List.getElem?_eq_getElem h1, ?_, fun j y hj hy => ?_⟩
    · rw [List.getElem?_eq_getElem h1] at h3
      exact h3
    · have := h4 j hj
      rw [hy] at this
      exact this
end Go.Px

namespace Go.Px
structure Gv where
  i : Nat
  d : Nat
  m : Mem
  φ : Value → Mem → Mem → Prop
def B3N (G : List Gv) (vs : Nat → Value) : Env := G.map fun g => (g.d, vs g.i)
def toGM (G : List Gv) : List Gm := G.map fun g => ⟨g.i, g.d, fun _ _ => True⟩
def curM (X : List Nat) (bs : Nat → Mem) (G : List Gv) : Mem := (G.map fun g => if g.i ∈ X then bs g.i else g.m).flatten
def doneM (X : List Nat) (bs : Nat → Mem) (G : List Gv) : Mem := (G.map fun g => if g.i ∈ X then bs g.i else []).flatten
def allM (bs : Nat → Mem) (G : List Gv) : Mem := (G.map fun g => bs g.i).flatten
theorem St.widen {P : Program} {w w' : World} {F : List Nat} {A A' Mc M' J' : Mem} {n : Nat} (h : St ⟨P, w, F, A', n⟩ Mc [] w) (hs : St ⟨P, w, F, A, n⟩ M' J' w') : St ⟨P, w, F, A', n⟩ M' J' w' := by
  refine ⟨hs.os, hs.tape, hs.output, hs.size, hs.frame, fun b o hb => ?_, hs.nodup, hs.own, hs.sepJ, h.sepA, hs.old⟩
  simp only [List.mem_append] at hb
  rcases hb with hb | hb | hb
  · exact hs.mem b o (by simp [hb])
  · exact hs.mem b o (by simp [hb])
  · have h1 := h.sepA b o hb
    have h2 := hs.frame b h1.2 h1.1
    rw [h2]
    exact h.mem b o (by simp; exact .inr hb)
theorem St.less {P : Program} {w : World} {F : List Nat} {A A' Mc : Mem} {n : Nat} (h : St ⟨P, w, F, A', n⟩ Mc [] w) (hA : ∀ x ∈ A, x ∈ A') : St ⟨P, w, F, A, n⟩ Mc [] w :=
  ⟨h.os, h.tape, h.output, h.size, h.frame, fun b o hb => h.mem b o (by simp at hb ⊢; exact hb.imp id (hA _)), h.nodup, h.own, h.sepJ, fun b o hb => h.sepA b o (hA _ hb), h.old⟩
section group
variable {C : Cx} {Q : XQ} {l : Env} {M M0 J : Mem} {os : List Oper} {K : Nat → Prop} {n0 : Nat} {nd : List Nat} {plan : List (Nat × Nat)}
def OwesM (C : Cx) (os : List Oper) (l : Env) (M0 J : Mem) (G : List Gv) (g : Gv) : Prop :=
  ∃ o, nth os g.i = some o ∧ ∀ (vs : Nat → Value) (bs : Nat → Mem) (R Rj : Mem) (w : World), (∀ x ∈ M0 ++ (J ++ C.A), x ∈ R) → (∀ x ∈ J ++ C.A, x ∈ Rj) → (∀ x ∈ Rj, x ∈ R) → (∀ g' ∈ G, anc os.toArray os.toArray.size g.i g'.i = true → g'.φ (vs g'.i) (bs g'.i) Rj) →
    A76 os (B3N G vs ++ l) o ∧ OpL ⟨C.P, w, g.m.map Prod.fst, R, C.N⟩ o (B3N G vs ++ l) g.m [] (fun l' M' J' => ∃ v, l' = (g.d, v) :: (B3N G vs ++ l) ∧ g.φ v M' (J' ++ Rj))
end group
end Go.Px

namespace Go.Px
structure Gc where
  i : Nat
  d : Nat
  s : Option Nat
  m : Mem
  φ : Value → Mem → Mem → Prop
def Gc.inp (g : Gc) (bs : Nat → Mem) : Mem := match g.s with
  | none => g.m
  | some s => bs s
theorem Gc.inp_none {g : Gc} {bs : Nat → Mem} (h : g.s = none) : g.inp bs = g.m := by unfold Gc.inp; rw [h]
theorem Gc.inp_some {g : Gc} {bs : Nat → Mem} {s : Nat} (h : g.s = some s) : g.inp bs = bs s := by unfold Gc.inp; rw [h]
def N3 (G : List Gc) (vs : Nat → Value) : Env := G.map fun g => (g.d, vs g.i)
def B0Z (G : List Gc) : List Gm := G.map fun g => ⟨g.i, g.d, fun _ _ => True⟩
theorem A8P (G : List Gc) : (B0Z G).map (·.i) = G.map (·.i) := by simp [B0Z]
theorem A8Q (G : List Gc) : (B0Z G).map (·.d) = G.map (·.d) := by simp [B0Z]
theorem A0l (G : List Gc) (vs : Nat → Value) : A13 (B0Z G) vs = N3 G vs := by simp [A13, N3, B0Z]
theorem V8 {G : List Gc} (h : (G.map (·.i)).Nodup) {g g' : Gc} (hg : g ∈ G) (hg' : g' ∈ G) (e : g.i = g'.i) : g = g' := by
  induction G with
  | nil => cases hg
  | cons x G ih =>
    simp only [List.map_cons, List.nodup_cons] at h
    rcases List.mem_cons.1 hg with h1 | h1 <;> rcases List.mem_cons.1 hg' with h2 | h2
    · rw [h1, h2]
    · exact absurd (by rw [← h1, e]; exact List.mem_map_of_mem (f := Gc.i) h2) h.1
    · exact absurd (by rw [← h2, ← e]; exact List.mem_map_of_mem (f := Gc.i) h1) h.1
    · exact ih h.2 h1 h2
def A1t (G : List Gc) (X : List Nat) (bs : Nat → Mem) (g : Gc) : Mem :=
  if g.i ∈ X then (if ∃ g' ∈ G, g'.s = some g.i ∧ g'.i ∈ X then [] else bs g.i) else (if g.s = none then g.m else [])
def A5C (X : List Nat) (bs : Nat → Mem) (G : List Gc) : Mem := (G.map (A1t G X bs)).flatten
def A8R (l : List (Nat × Option Nat)) (i : Nat) : Bool := l.any fun p => p.2 == some i
def A7k (G : List Gc) (bs : Nat → Mem) : List Mem := (G.filter fun g => !A8R (G.map fun g => (g.i, g.s)) g.i).map fun g => bs g.i
def Q6 (l : List Mem) (M : Mem) : Mem := l.foldr (· ++ ·) M
def W4 (G : List Gc) : List Mem := (G.filter fun g => g.s.isNone).map (·.m)
def A5D (ops : Array Oper) (l : List (Nat × Option Nat)) : Bool :=
  l.all fun p => match p.2 with
    | none => true
    | some s => (l.map Prod.fst).contains s && anc ops ops.size p.1 s && l.all fun q => q.2 != some s || q.1 == p.1
structure ChainOk (ops : Array Oper) (G : List Gc) : Prop where
  anc : ∀ g ∈ G, ∀ s, g.s = some s → anc ops ops.size g.i s = true
  mem : ∀ g ∈ G, ∀ s, g.s = some s → s ∈ G.map (·.i)
  one : ∀ g ∈ G, ∀ g' ∈ G, ∀ s, g.s = some s → g'.s = some s → g'.i = g.i
theorem A6p {ops : Array Oper} {G : List Gc} (h : A5D ops (G.map fun g => (g.i, g.s)) = true) : ChainOk ops G := by
  have key : ∀ g ∈ G, ∀ s, g.s = some s → s ∈ G.map (·.i) ∧ Px.anc ops ops.size g.i s = true ∧ ∀ g' ∈ G, g'.s = some s → g'.i = g.i := by
    intro g hg s hs
    have h1 := List.all_eq_true.1 h (g.i, g.s) (List.mem_map_of_mem (f := fun g : Gc => (g.i, g.s)) hg)
    simp only [hs, Bool.and_eq_true, List.contains_iff_mem, List.map_map] at h1
    obtain ⟨⟨h2, h3⟩, h4⟩ := h1
    refine ⟨by simpa [Function.comp_def] using h2, h3, fun g' hg' hs' => ?_⟩
    have h5 := List.all_eq_true.1 h4 (g'.i, g'.s) (List.mem_map_of_mem (f := fun g : Gc => (g.i, g.s)) hg')
    simp [hs'] at h5
    exact h5
  exact ⟨fun g hg s hs => (key g hg s hs).2.1, fun g hg s hs => (key g hg s hs).1, fun g hg g' hg' s hs hs' => (key g hg s hs).2.2 g' hg' hs'⟩
theorem A5E {G : List Gc} (hi : (G.map (·.i)).Nodup) {g : Gc} (hg : g ∈ G) (f : Gc → Mem) :
    ∃ R, ∀ f' : Gc → Mem, (∀ x ∈ G, x.i ≠ g.i → f' x = f x) → (G.map f').flatten.Perm (f' g ++ R) := by
  obtain ⟨s, t, rfl⟩ := List.append_of_mem hg
  have hne : ∀ x ∈ s ++ t, x.i ≠ g.i := by
    intro x hx e
    simp only [List.map_append, List.map_cons, List.nodup_append, List.nodup_cons] at hi
    rcases List.mem_append.1 hx with h | h
    · exact hi.2.2 _ (List.mem_map_of_mem (f := Gc.i) h) _ List.mem_cons_self e
    · exact hi.2.1.1 (e ▸ List.mem_map_of_mem (f := Gc.i) h)
  refine ⟨(s.map f).flatten ++ (t.map f).flatten, fun f' h => ?_⟩
  have es : s.map f' = s.map f := List.map_congr_left fun x hx => h x (by simp [hx]) (hne x (List.mem_append_left _ hx))
  have et : t.map f' = t.map f := List.map_congr_left fun x hx => h x (by simp [hx]) (hne x (List.mem_append_right _ hx))
  simp only [List.map_append, List.map_cons, List.flatten_append, List.flatten_cons, es, et]
  exact List.perm_append_comm_assoc _ _ _
theorem A2p {ops : Array Oper} {X : List Nat} {bs : Nat → Mem} {G : List Gc} {g : Gc} (hi : (G.map (·.i)).Nodup) (hc : ChainOk ops G) (hg : g ∈ G) (hX : g.i ∉ X) (hcl : ∀ g' ∈ G, g'.i ∈ X → ∀ s, g'.s = some s → s ∈ X) (hsx : ∀ s, g.s = some s → s ∈ X) :
    ∃ R, (A5C X bs G).Perm (g.inp bs ++ R) ∧ ∀ M', (M' ++ R).Perm (A5C (X ++ [g.i]) (fun k => if k = g.i then M' else bs k) G) := by
  have hmem : ∀ x : Gc, x.i ≠ g.i → (x.i ∈ X ++ [g.i] ↔ x.i ∈ X) := fun x h => by simp [h]
  have hself : ∀ M' : Mem, A1t G (X ++ [g.i]) (fun k => if k = g.i then M' else bs k) g = M' := by
    intro M'
    have hno : ¬ ∃ g' ∈ G, g'.s = some g.i ∧ g'.i ∈ X ++ [g.i] := by
      rintro ⟨g', hg', hs', hx'⟩
      rcases List.mem_append.1 hx' with h | h
      · exact hX (hcl g' hg' h _ hs')
      · have h2 : g' = g := V8 hi hg' hg (by simpa using h)
        subst h2
        exact hX (hsx _ hs')
    unfold A1t
    rw [if_pos (by simp), if_neg hno]
    exact if_pos rfl
  cases hs : g.s with
  | none =>
    obtain ⟨R, hR⟩ := A5E hi hg (A1t G X bs)
    refine ⟨R, ?_, fun M' => ?_⟩
    · have h1 := hR (A1t G X bs) fun _ _ _ => rfl
      have h2 : A1t G X bs g = g.inp bs := by unfold A1t; rw [if_neg hX, if_pos hs, Gc.inp_none hs]
      rw [h2] at h1
      exact h1
    · have h1 := hR (A1t G (X ++ [g.i]) fun k => if k = g.i then M' else bs k) fun x hx hne => by
        unfold A1t
        by_cases hxX : x.i ∈ X
        · rw [if_pos ((hmem x hne).2 hxX), if_pos hxX]
          have hiff : (∃ g' ∈ G, g'.s = some x.i ∧ g'.i ∈ X ++ [g.i]) ↔ (∃ g' ∈ G, g'.s = some x.i ∧ g'.i ∈ X) := by
            constructor
            · rintro ⟨g', h1, h2, h3⟩
              rcases List.mem_append.1 h3 with h4 | h4
              · exact ⟨g', h1, h2, h4⟩
              · have h5 : g' = g := V8 hi h1 hg (by simpa using h4)
                subst h5; rw [hs] at h2; cases h2
            · rintro ⟨g', h1, h2, h3⟩; exact ⟨g', h1, h2, List.mem_append_left _ h3⟩
          simp only [hiff, if_neg hne]
        · rw [if_neg (fun h => hxX ((hmem x hne).1 h)), if_neg hxX]
      rw [hself M'] at h1
      exact h1.symm
  | some s =>
    have hsX := hsx s hs
    obtain ⟨gs, hgs, rfl⟩ := List.mem_map.1 (hc.mem g hg s hs)
    have hne0 : gs.i ≠ g.i := fun h => hX (h ▸ hsX)
    obtain ⟨R1, hR1⟩ := A5E hi hgs (A1t G X bs)
    have h1 := hR1 (A1t G X bs) fun _ _ _ => rfl
    have e1 : A1t G X bs gs = bs gs.i := by
      unfold A1t
      rw [if_pos hsX, if_neg]
      rintro ⟨g', hg', hs', hx'⟩
      exact hX (hc.one g hg g' hg' _ hs hs' ▸ hx')
    rw [e1] at h1
    have h2 := hR1 (fun x => if x.i = gs.i then [] else A1t G X bs x) fun x _ hne => if_neg hne
    simp only [if_true, List.nil_append] at h2
    obtain ⟨R2, hR2⟩ := A5E hi hg (fun x => if x.i = gs.i then [] else A1t G X bs x)
    have h3 := hR2 (fun x => if x.i = gs.i then [] else A1t G X bs x) fun _ _ _ => rfl
    have e3 : (if g.i = gs.i then [] else A1t G X bs g) = ([] : Mem) := by
      rw [if_neg (Ne.symm hne0)]
      unfold A1t
      rw [if_neg hX, if_neg (by rw [hs]; exact fun h => by cases h)]
    simp only [e3, List.nil_append] at h3
    refine ⟨R2, ?_, fun M' => ?_⟩
    · rw [Gc.inp_some hs]
      exact h1.trans (List.Perm.append_left _ (h2.symm.trans h3))
    · have h4 := hR2 (A1t G (X ++ [g.i]) fun k => if k = g.i then M' else bs k) fun x hx hne => by
        by_cases hxs : x.i = gs.i
        · rw [if_pos hxs]
          unfold A1t
          rw [if_pos ((hmem x hne).2 (hxs ▸ hsX)), if_pos ⟨g, hg, by rw [hs, hxs], by simp⟩]
        · rw [if_neg hxs]
          unfold A1t
          by_cases hxX : x.i ∈ X
          · rw [if_pos ((hmem x hne).2 hxX), if_pos hxX]
            have hiff : (∃ g' ∈ G, g'.s = some x.i ∧ g'.i ∈ X ++ [g.i]) ↔ (∃ g' ∈ G, g'.s = some x.i ∧ g'.i ∈ X) := by
              constructor
              · rintro ⟨g', h1, h2, h3⟩
                rcases List.mem_append.1 h3 with h4 | h4
                · exact ⟨g', h1, h2, h4⟩
                · have h5 : g' = g := V8 hi h1 hg (by simpa using h4)
                  subst h5; rw [hs] at h2; exact absurd (Option.some.inj h2).symm hxs
              · rintro ⟨g', h1, h2, h3⟩; exact ⟨g', h1, h2, List.mem_append_left _ h3⟩
            simp only [hiff, if_neg hne]
          · rw [if_neg (fun h => hxX ((hmem x hne).1 h)), if_neg hxX]
      rw [hself M'] at h4
      exact h4.symm
theorem A6q {bs : Nat → Mem} {G : List Gc} : A5C [] bs G = (W4 G).flatten := by
  have : ∀ G' : List Gc, (G'.map (A1t G [] bs)).flatten = (W4 G').flatten := by
    intro G'
    induction G' with
    | nil => rfl
    | cons g G' ih =>
      rw [List.map_cons, List.flatten_cons, ih]
      have e : A1t G [] bs g = if g.s = none then g.m else [] := by unfold A1t; rw [if_neg (by simp)]
      rw [e]
      cases hs : g.s with
      | none => simp [W4, hs]
      | some s => simp [W4, hs]
  exact this G
theorem A6r {X : List Nat} {bs : Nat → Mem} {G : List Gc} (h : ∀ g ∈ G, g.i ∈ X) : A5C X bs G = (A7k G bs).flatten := by
  have he : ∀ g ∈ G, A1t G X bs g = if A8R (G.map fun g => (g.i, g.s)) g.i = true then [] else bs g.i := by
    intro g hg
    unfold A1t
    rw [if_pos (h g hg)]
    have : (∃ g' ∈ G, g'.s = some g.i ∧ g'.i ∈ X) ↔ A8R (G.map fun g => (g.i, g.s)) g.i = true := by
      unfold A8R
      simp only [List.any_eq_true, List.mem_map]
      constructor
      · rintro ⟨g', h1, h2, _⟩; exact ⟨_, ⟨g', h1, rfl⟩, by simp [h2]⟩
      · rintro ⟨_, ⟨g', h1, rfl⟩, h2⟩; exact ⟨g', h1, by simpa using h2, h g' h1⟩
    simp only [this]
  unfold A5C A7k
  rw [List.map_congr_left he]
  have : ∀ (G' : List Gc) (p : Gc → Bool), (G'.map fun g => if p g = true then ([] : Mem) else bs g.i).flatten = ((G'.filter fun g => !p g).map fun g => bs g.i).flatten := by
    intro G' p
    induction G' with
    | nil => rfl
    | cons g G' ih =>
      rw [List.map_cons, List.flatten_cons, ih]
      cases hp : p g <;> simp [hp]
  exact this G fun g => A8R (G.map fun g => (g.i, g.s)) g.i
theorem A1O (l : List Mem) (M : Mem) : Q6 l M = l.flatten ++ M := by
  induction l with
  | nil => rfl
  | cons a l ih => show a ++ Q6 l M = _; rw [ih, List.flatten_cons, List.append_assoc]
section group
variable {C : Cx} {Q : XQ} {l : Env} {M M0 J : Mem} {os : List Oper} {K : Nat → Prop} {n0 : Nat} {nd : List Nat} {plan : List (Nat × Nat)}
def A8S (C : Cx) (os : List Oper) (l : Env) (M0 J : Mem) (G : List Gc) (g : Gc) : Prop :=
  ∃ o, nth os g.i = some o ∧ ∀ (vs : Nat → Value) (bs : Nat → Mem) (R Rj : Mem) (w : World), (∀ x ∈ M0 ++ (J ++ C.A), x ∈ R) → (∀ x ∈ J ++ C.A, x ∈ Rj) → (∀ x ∈ Rj, x ∈ R) → (∀ g' ∈ G, anc os.toArray os.toArray.size g.i g'.i = true → g'.φ (vs g'.i) (bs g'.i) Rj) →
    A76 os (N3 G vs ++ l) o ∧ OpL ⟨C.P, w, (g.inp bs).map Prod.fst, R, C.N⟩ o (N3 G vs ++ l) (g.inp bs) [] (fun l' M' J' => ∃ v, l' = (g.d, v) :: (N3 G vs ++ l) ∧ g.φ v M' (J' ++ Rj))
theorem A8T {G : List Gc} (hmono : ∀ g ∈ G, A2c g.φ) (hd : (G.map (·.d)).Nodup) (hi : (G.map (·.i)).Nodup) (hc : ChainOk os.toArray G) (hKn : ∀ b, n0 ≤ b → K b) (hK : ∀ m ∈ W4 G, ∀ x ∈ m, K x.1) (hob : ∀ g ∈ G, A8S C os l M0 J G g) {A B : Array Bool} (hok : GOk os.toArray A (G.map (·.i)) B)
    (hfin : ∀ (vs : Nat → Value) (bs : Nat → Mem) Jn a w, (∀ g ∈ G, g.φ (vs g.i) (bs g.i) ((Jn ++ J) ++ C.A)) → (∀ g ∈ G, ∀ x ∈ bs g.i, K x.1) → Ag C.N (N3 G vs ++ l) a → St C ((A7k G bs).flatten ++ M0) (Jn ++ J) w → n0 ≤ w.heap.size → V4 C.P os.toArray (N6 (A5h C Q)) (Sk K) nd.contains plan.length B a w) :
    ∀ (n : Nat) (X : List Nat) (vs : Nat → Value) (bs : Nat → Mem) (Jn : Mem) (a : Act) (w : World), X.Nodup → (∀ i ∈ X, i ∈ G.map (·.i)) → n + X.length = G.length → M3 os.toArray (mark A X) → (∀ g ∈ G, g.i ∈ X → ∀ s, g.s = some s → s ∈ X) →
      (∀ g ∈ G, g.i ∈ X → g.φ (vs g.i) (bs g.i) ((Jn ++ J) ++ C.A)) → (∀ g ∈ G, g.i ∈ X → ∀ x ∈ bs g.i, K x.1) → Ag C.N (N3 G vs ++ l) a → St C (A5C X bs G ++ M0) (Jn ++ J) w → n0 ≤ w.heap.size →
      V4 C.P os.toArray (N6 (A5h C Q)) (Sk K) nd.contains (n + plan.length) (mark A X) a w := by
  intro n
  induction n with
  | zero =>
    intro X vs bs Jn a w hnd hX hlen hcl hXs hφ hN ha hw hn
    have hall : ∀ i, i ∈ X ↔ i ∈ G.map (·.i) := fun i => ⟨hX i, A0W hnd hX (by simp; omega) i⟩
    have hin : ∀ g ∈ G, g.i ∈ X := fun g hg => (hall _).2 (List.mem_map_of_mem (f := Gc.i) hg)
    have hcur := A6r (bs := bs) hin
    rw [hcur] at hw
    rw [Nat.zero_add, A3F hall, ← hok.mark]
    exact hfin vs bs Jn a w (fun g hg => hφ g hg (hin g hg)) (fun g hg => hN g hg (hin g hg)) ha hw hn
  | succ n ih =>
    intro X vs bs Jn a w hnd hX hlen hcl hXs hφ hN ha hw hn
    have hmiss : ∃ k ∈ G.map (·.i), k ∉ X := by
      apply Classical.byContradiction
      intro hno
      have hs : ∀ k ∈ G.map (·.i), k ∈ X := fun k hk => Classical.byContradiction fun h => hno ⟨k, hk, h⟩
      have := A0V hi hs
      simp at this; omega
    obtain ⟨k, hkG, hkX⟩ := hmiss
    have hun : ∀ i ∈ G.map (·.i), A.getD i true = false := by
      have : ∀ {is A B}, GOk os.toArray A is B → ∀ i ∈ is, A.getD i true = false := by
        intro is A B h
        induction h with
        | nil => intro i hi; cases hi
        | @cons A B i r hr ho h ih =>
          intro k hk
          rcases List.mem_cons.1 hk with rfl | hk
          · exact I9 hr
          · have h2 := ih k hk
            by_cases e : i = k
            · subst e; exact I9 hr
            · rwa [getD_set_ne true e] at h2
      exact this hok
    have hkun : (mark A X).getD k true = false := H3.2 ⟨hun k hkG, fun h => hkX h.1⟩
    rw [show n + 1 + plan.length = (n + plan.length) + 1 by omega]
    refine ⟨fun h0 => ?_, fun i hir => ?_⟩
    · obtain ⟨i, hir⟩ := hok.first (Z0 A X) (fun j hj => Z1 hj) hkG hkun
      rw [h0] at hir; cases hir
    · have hiG : i ∈ G.map (·.i) := by
        apply Classical.byContradiction
        intro hno
        have h1 := H3.1 (I9 hir)
        have h2 := hok.outer k hkG i (A1F hir) h1.1 hno
        exact P0 hkun (N0 hcl h2 hir)
      obtain ⟨g, hg, rfl⟩ := List.mem_map.1 hiG
      have hiX : g.i ∉ X := fun h => (H3.1 (I9 hir)).2 ⟨h, S4 (hun _ hiG)⟩
      have hin : ∀ j ∈ G.map (·.i), anc os.toArray os.toArray.size g.i j = true → j ∈ X := fun j hj hanc => by
        have h3 := N0 hcl hanc hir
        rcases U3 h3 with h4 | h4
        · exact (P0 (hun _ hj) h4).elim
        · exact h4
      have hsx : ∀ s, g.s = some s → s ∈ X := fun s hs => hin s (hc.mem g hg s hs) (hc.anc g hg s hs)
      have hKi : ∀ x ∈ g.inp bs, K x.1 := by
        intro x hx
        cases hs : g.s with
        | none =>
          rw [Gc.inp_none hs] at hx
          exact hK g.m (List.mem_map.2 ⟨g, List.mem_filter.2 ⟨hg, by simp [hs]⟩, rfl⟩) x hx
        | some s =>
          rw [Gc.inp_some hs] at hx
          obtain ⟨gs, hgs, rfl⟩ := List.mem_map.1 (hc.mem g hg s hs)
          exact hN gs hgs (hsx _ hs) x hx
      obtain ⟨o, hget, howe⟩ := hob g hg
      have hi' : os.toArray[g.i]? = some o := by rw [R3] at hget; simpa using hget
      obtain ⟨hask, hop⟩ := howe vs bs (M0 ++ ((Jn ++ J) ++ C.A)) ((Jn ++ J) ++ C.A) w (fun x hx => by simp only [List.mem_append] at hx ⊢; rcases hx with h | h | h <;> simp [h]) (fun x hx => by simp only [List.mem_append] at hx ⊢; rcases hx with h | h <;> simp [h]) (fun x hx => List.mem_append_right _ hx) (fun g' hg' hanc => hφ g' hg' (hin _ (List.mem_map_of_mem (f := Gc.i) hg') hanc))
      unfold wpOp
      simp only [hi']
      rw [if_pos (hask.wanted ha)]
      obtain ⟨R0, hp0, hq0⟩ := A2p (bs := bs) hi hc hg hiX hXs hsx
      have hpc : (A5C X bs G ++ M0).Perm (g.inp bs ++ (R0 ++ M0)) := by
        rw [← List.append_assoc]; exact List.Perm.append_right _ hp0
      have hcal := hw.callee hpc
      have hcal2 := St.less (A := M0 ++ ((Jn ++ J) ++ C.A)) hcal fun x hx => by
        simp only [List.mem_append] at hx ⊢
        rcases hx with h | h
        · exact .inl (.inr h)
        · exact .inr h
      refine .inl (Oper.wp_mono ?_ (hop _ a w ha hcal2.cx))
      rintro a' w' ⟨l', M', J', ha', hs', v, rfl, hφv⟩
      have hsz : w.heap.size ≤ w'.heap.size := hs'.size
      have hs2 := St.widen hcal.cx hs'
      have hb := hw.back hpc hs2.cx
      let bs' : Nat → Mem := fun k => if k = g.i then M' else bs k
      have hperm : (M' ++ (R0 ++ M0)).Perm (A5C (X ++ [g.i]) bs' G ++ M0) := by
        rw [← List.append_assoc]
        exact List.Perm.append_right _ (hq0 M')
      have hfr2 : St C (A5C (X ++ [g.i]) bs' G ++ M0) ((J' ++ Jn) ++ J) w' := (hb.perm hperm).drop (List.Sublist.refl _) fun x hx => by
        simp only [List.mem_append] at hx ⊢
        rcases hx with (h | h) | h <;> simp [h]
      refine ⟨fun _ b hb' hnk => hs'.frame b hb' fun hm => ?_, ?_⟩
      · obtain ⟨x, hx, e⟩ := List.mem_map.1 hm
        exact hnk (e ▸ hKi x hx)
      rw [← N7]
      have henv := A0X (N := C.N) (G := B0Z G) (l := l) (vs := vs) (g := ⟨g.i, g.d, fun _ _ => True⟩) (a := a') (v := v) (List.mem_map_of_mem (f := fun g : Gc => (⟨g.i, g.d, fun _ _ => True⟩ : Gm)) hg) (by rw [A8Q]; exact hd) (by rw [A8P]; exact hi) (by rw [A0l]; exact ha')
      rw [A0l] at henv
      refine ih (X ++ [g.i]) (fun k => if k = g.i then v else vs k) bs' (J' ++ Jn) a' w' ?_ ?_ (by simp; omega) ?_ ?_ ?_ ?_ henv hfr2 (Nat.le_trans hn hsz)
      · rw [List.nodup_append]; exact ⟨hnd, by simp, fun x hx y hy e => hiX (by simp at hy; subst hy; exact e ▸ hx)⟩
      · intro j hj
        rcases List.mem_append.1 hj with hj | hj
        · exact hX j hj
        · simp at hj; subst hj; exact hiG
      · rw [N7]; exact H5 hcl hir
      · intro g' hg' hm s hs
        rcases List.mem_append.1 hm with h | h
        · exact List.mem_append_left _ (hXs g' hg' h s hs)
        · have h2 : g' = g := V8 hi hg' hg (by simpa using h)
          subst h2
          exact List.mem_append_left _ (hsx s hs)
      · intro g' hg' hm
        by_cases e : g'.i = g.i
        · have : g' = g := V8 hi hg' hg e
          subst this
          simp only [if_true, bs']
          exact hmono g' hg' _ _ _ _ (fun x hx => by simp only [List.mem_append] at hx ⊢; rcases hx with h | (h | h) | h <;> simp [h]) hφv
        · simp only [e, if_false, bs']
          have hm' : g'.i ∈ X := by simpa [e] using hm
          exact hmono g' hg' _ _ _ _ (fun x hx => by simp only [List.mem_append] at hx ⊢; rcases hx with (h | h) | h <;> simp [h]) (hφ g' hg' hm')
      · intro g' hg' hk x hx
        by_cases e : g'.i = g.i
        · have : g' = g := V8 hi hg' hg e
          subst this
          simp only [if_true, bs'] at hx
          rcases hs'.own x.1 x.2 (by simp [hx]) with h6 | h6
          · obtain ⟨y, hy, e6⟩ := List.mem_map.1 h6
            exact e6 ▸ hKi y hy
          · exact hKn _ (Nat.le_trans hn h6)
        · simp only [e, if_false, bs'] at hx
          have hk' : g'.i ∈ X := by simpa [e] using hk
          exact hN g' hg' hk' x hx
theorem V1 (G : List Gc) (M0 : Mem) (Lf : (Nat → Mem) → List Mem) (hKn : ∀ b, n0 ≤ b → K b) (hM : M.Perm (Q6 (W4 G) M0)) (hK : ∀ m ∈ W4 G, ∀ x ∈ m, K x.1) (hck : A5D os.toArray (G.map fun g => (g.i, g.s)) = true) (hLf : ∀ bs, A7k G bs = Lf bs)
    (hmono : ∀ g ∈ G, A2c g.φ) (hd : (G.map (·.d)).Nodup) (hi : (G.map (·.i)).Nodup) (hdN : ∀ g ∈ G, g.d < C.N) (hob : ∀ g ∈ G, A8S C os l M0 J G g)
    (h : ∀ (vs : Nat → Value) (bs : Nat → Mem) Jn, (∀ g ∈ G, g.φ (vs g.i) (bs g.i) ((Jn ++ J) ++ C.A)) → (∀ g ∈ G, ∀ x ∈ bs g.i, K x.1) → XK C os Q K n0 nd plan (N3 G vs ++ l) (Q6 (Lf bs) M0) (Jn ++ J)) : XK C os Q K n0 nd (enc (G.map (·.i)) ++ plan) l M J := by
  refine A0B hM ?_
  rw [A1O]
  intro listed hcl hp a w ha hw hn
  obtain ⟨B, hok, hp2⟩ := A55 hp
  have hBcl : M3 os.toArray B := by
    have : ∀ {A is B}, GOk os.toArray A is B → M3 os.toArray A → M3 os.toArray B := by
      intro A is B h
      induction h with
      | nil => exact id
      | cons hr _ _ ih => exact fun hc => ih (H5 hc hr)
    exact this hok hcl
  have hlen : (enc (G.map (·.i)) ++ plan).length = G.length + plan.length := by
    have : ∀ is : List Nat, (enc is).length = is.length := by
      intro is
      induction is with
      | nil => rfl
      | cons i r ih => cases r with
        | nil => rfl
        | cons j r => simp only [enc, List.length_cons] at ih ⊢; rw [ih]
    simp [this]
  rw [hlen]
  let vs : Nat → Value := fun k => match G.find? (fun g => g.i == k) with
    | some g => (a.tmps[g.d]?).getD undef
    | none => undef
  have hag : Ag C.N (N3 G vs ++ l) a := by
    refine ⟨ha.defers, ha.size, ?_⟩
    intro k u hk
    have key : ∀ G' : List Gc, (∀ g ∈ G', g ∈ G) → lk (N3 G' vs ++ l) k = some u → a.tmps[k]? = some u := by
      intro G'
      induction G' with
      | nil => intro _ h; exact ha.slot k u h
      | cons g G' ih =>
        intro hs h
        simp only [N3, List.map_cons, List.cons_append, lk] at h
        by_cases e : g.d = k
        · subst e
          simp at h
          have hf : G.find? (fun x => x.i == g.i) = some g := by
            have hgG := hs g List.mem_cons_self
            cases hq : G.find? (fun x => x.i == g.i) with
            | none => have := List.find?_eq_none.1 hq g hgG; simp at this
            | some x =>
              have h1 := List.find?_some hq
              have h2 := List.mem_of_find?_eq_some hq
              rw [V8 hi h2 hgG (by simpa using h1)]
          have hlt : g.d < a.tmps.size := by rw [ha.size]; exact hdN g (hs g List.mem_cons_self)
          rw [← h]
          show a.tmps[g.d]? = some (vs g.i)
          simp only [vs, hf, Array.getElem?_eq_getElem hlt, Option.getD_some]
        · simp only [T9 e, cond_false] at h
          exact ih (fun x hx => hs x (List.mem_cons_of_mem _ hx)) h
    exact key G (fun _ h => h) hk
  refine A8T (n0 := n0) (K := K) hmono hd hi (A6p hck) hKn hK hob hok (fun vs bs Jn a w hφ hN ha hw hn => h vs bs Jn hφ hN B hBcl hp2 a w ha (by rw [A1O, ← hLf]; exact hw) hn) G.length [] vs (fun _ => []) [] a w .nil (fun _ h => by cases h) (by simp) hcl (fun _ _ h => by cases h) (fun _ _ h => by cases h) (fun _ _ h => by cases h) hag (by rw [A6q]; exact hw) hn
end group
end Go.Px

namespace Go.Proofs.YtoameenjkiaefaaGreatDoor
open Go.Px
def G1 (s : Ps) (w : LN) : Ps := if s.real then s else B0X s w
noncomputable def I5 (s : Ps) (w : LN) : LN := if s.real then A2j (Y7 w 32) else B2y s w
noncomputable def B5y (s : Ps) (w : LN) : LN := if s.real then pubB (Y7 w 32) else B2y s w
def I6 (s : Ps) (w u : LN) : Ps := if s.real then s else B5w s w u
noncomputable def Y6 (s : Ps) (w u : LN) : LN := if s.real then x25 (Y7 w 32) (Y7 u 32) else B5x s w u
def A4S (s : Ps) (w m : LN) : Ps := if s.real then s else A7j s w fun x => A3d x m
noncomputable def B2A (s : Ps) (w m : LN) : LN := if s.real then B7C (Y7 w 32) m else Y7 (A8M s w fun x => A3d x m) 64
theorem A8U (pb : Nat × Nat) (s : Ps) (v : Value) (w : LN) (MP A : Mem) (hP : Prm pb s MP) (hn : s.ts.length < 1048576) (hv : By A v w) (hG : Glb A) : FnX Tryz.prog 92 [.pointer (some ⟨pb.1, 0, none⟩), v] MP A fun q M J => Prm pb (G1 s w) M ∧ By J q (B5y s w) := by
 obtain ⟨sv, bt, bm, B, MT, rfl, hby, hT⟩ := hP.ex
 haveI := hv.cel
 haveI := hby.cel
 have hvl := hv.len
 refine FnX.enterZ (N := 18) Tryz.func92 rfl rfl rfl fun w_ => ?_
 refine A8 (D0 0 1) (A1 (as_ (A0 (D0 0 1) (A6 (A1 (mv_ ?_))))))
 refine A2 (C9 (e := 118) rfl rfl kR) rfl ?_
 refine A0 (E5 0 1 6) ?_
 refine B0 rfl ?_
 refine A5 (nx (D0 0 1) (A6 (A1 (mv_ ?_))))
 refine A2 (D8 rfl) rfl ?_
 refine A2 (qf_ 0 0) rfl ?_
 refine A2 ql_ rfl ?_
 refine A2 (F0 false rfl rfl (eqF qD)) rfl ?_
 refine A0 (E5 0 1 11) ?_
 refine B0 rfl ?_
 refine A5 (nx (D0 0 1) (A1 (mv_ (mv_ ?_))))
 refine A4 rfl (A9 (Mc := (pb.1, blk [.int .u8 1, sv, .int .i64 (((s.n : Nat) : Int)), (vP bt)] 118) :: (B ++ MT)) (R := _) (aS rfl (aS rfl a0)) kR qP (A6n pb s rfl v w _ _ ⟨sv, bt, bm, B, MT, rfl, hby, hT⟩ hn (hv.mono qS) hG.up) rfl ?_)
 rintro v17 M17 J17 ⟨hP17, h17⟩
 haveI := h17.cel
 refine as_ (A0 (C7 4) (A7 ?_))
 exact ⟨_, M17, [], F7 rfl rfl, Fit.none (Fit.last qP), hP17, h17.mono qS⟩
theorem A0m (pb : Nat × Nat) (s : Ps) (v : Value) (w : LN) (MP A : Mem) (hP : Prm pb s MP) (hn : s.ts.length < 1048576) (hv : By A v w) (hG : Glb A) : FnX Tryz.prog 52 [.pointer (some ⟨pb.1, 0, none⟩), v] MP A fun q M J => Prm pb (G1 s w) M ∧ By J q (I5 s w) := A6n pb s rfl v w MP A hP hn hv hG
theorem X8 (pb : Nat × Nat) (s : Ps) (v v2 : Value) (w u : LN) (MP A : Mem) (hP : Prm pb s MP) (hn : s.ts.length + 1 < 1048576) (hv : By A v w) (hu : By A v2 u) (hG : Glb A) : FnX Tryz.prog 111 [.pointer (some ⟨pb.1, 0, none⟩), v, v2] MP A fun q M J => Prm pb (I6 s w u) M ∧ By J q (Y6 s w u) := B0Y pb s rfl v v2 w u MP A hP hn hv hu hG
theorem B3O (pb : Nat × Nat) (s : Ps) (v v2 : Value) (w m : LN) (MP A : Mem) (hP : Prm pb s MP) (hn : s.ts.length < 1048576) (hv : By A v w) (hm : By A v2 m) (hG : Glb A) : FnX Tryz.prog 100 [.pointer (some ⟨pb.1, 0, none⟩), v, v2] MP A fun q M J => Prm pb (A4S s w m) M ∧ By J q (B2A s w m) := by
  obtain ⟨bt, bm, h⟩ := hP.t
  exact (A8O pb bt bm s rfl v v2 w m MP A h hn hv hm hG).mono fun q M J ⟨h1, h2⟩ => ⟨h1.p, h2⟩

structure Ext (s s' : Ps) : Prop where
  p : Pext s s'
  seed : s'.seed = s.seed
  n : s.n ≤ s'.n
theorem Ext.refl (s : Ps) : Ext s s := ⟨Pext.refl s, rfl, Nat.le_refl _⟩
theorem Ext.trans {a b c : Ps} (h : Ext a b) (h' : Ext b c) : Ext a c := ⟨h.p.trans h'.p, h'.seed.trans h.seed, Nat.le_trans h.n h'.n⟩
theorem A2q (ts : List Tm) (t : Tm) : ∃ l, add ts t = ts ++ l := by
  unfold add
  split
  · exact ⟨[], by simp⟩
  · exact ⟨_, rfl⟩
theorem A0J (ts : List Tm) (w : LN) : ∃ l, rdT ts w = ts ++ l := by
  cases hp : plc w ts.length with
  | some j => exact ⟨[], by rw [(Q4 hp).1]; simp⟩
  | none => rw [(T3 hp).1]; exact A2q _ _
theorem A3S (ts : List Tm) (w : LN) (t : Tm) : ∃ l, add (rdT ts w) t = ts ++ l := by
  obtain ⟨l1, e1⟩ := A0J ts w
  obtain ⟨l2, e2⟩ := A2q (rdT ts w) t
  exact ⟨l1 ++ l2, by rw [e2, e1, List.append_assoc]⟩
theorem X9 (s : Ps) : Ext s (D4 s) := ⟨A4R s, by unfold D4; split <;> rfl, by unfold D4; split <;> exact Nat.le_succ _⟩
theorem Y4 (s : Ps) (w : LN) : Ext s (G1 s w) := by
  unfold G1
  split
  · exact Ext.refl s
  · exact ⟨⟨rfl, A3S _ _ _⟩, rfl, Nat.le_refl _⟩
theorem B2B (s : Ps) (w m : LN) : Ext s (A4S s w m) := by
  unfold A4S
  split
  · exact Ext.refl s
  · exact ⟨⟨rfl, A3S _ _ _⟩, rfl, Nat.le_refl _⟩
theorem B6h {s : Ps} {i : Nat} (hi : i < s.ts.length) (hl : s.ts.length ≤ 1048576) : B0X s (bts ((i : Nat) : Int)) = { s with ts := add s.ts (A4l ((i : Nat) : Int)) } ∧ B2y s (bts ((i : Nat) : Int)) = bts ((at_ s.ts (A4l ((i : Nat) : Int)) : Nat) : Int) := by
  obtain ⟨h1, h2⟩ := A2m hi hl
  unfold B0X B2y
  rw [h1, h2]
  exact ⟨rfl, rfl⟩
theorem B3P {s : Ps} {i : Nat} (hi : i < s.ts.length) (hl : s.ts.length ≤ 1048576) (f : Int → Tm) : A7j s (bts ((i : Nat) : Int)) f = { s with ts := add s.ts (f ((i : Nat) : Int)) } ∧ A8M s (bts ((i : Nat) : Int)) f = bts ((at_ s.ts (f ((i : Nat) : Int)) : Nat) : Int) := by
  obtain ⟨h1, h2⟩ := A2m hi hl
  unfold A7j A8M
  rw [h1, h2]
  exact ⟨rfl, rfl⟩
theorem A1l {i : Nat} (h : i ≤ 1048576) : i64 ((i : Nat) : Int) := by unfold i64; omega
def B2C (s : Ps) (w p : LN) : Prop := ∃ i j : Nat, i < s.ts.length ∧ w = bts ((i : Nat) : Int) ∧ s.ts[j]? = some (A4l ((i : Nat) : Int)) ∧ p = bts ((j : Nat) : Int)
def K8 (s : Ps) (w p : LN) : Prop := if s.real then p = A2j (Y7 w 32) else B2C s w p
def B0e (s : Ps) (w p : LN) : Prop := if s.real then p = pubB (Y7 w 32) else B2C s w p
def A3T (s : Ps) (w m g : LN) : Prop := if s.real then g = B7C (Y7 w 32) m else ∃ i j : Nat, i < s.ts.length ∧ w = bts ((i : Nat) : Int) ∧ s.ts[j]? = some (A3d ((i : Nat) : Int) m) ∧ g = Y7 (bts ((j : Nat) : Int)) 64
theorem B2C.ext {s s' : Ps} {w p : LN} (h : B2C s w p) (he : Pext s s') : B2C s' w p := by
  obtain ⟨l, e⟩ := he.ts
  obtain ⟨i, j, h1, h2, h3, h4⟩ := h
  exact ⟨i, j, by rw [e, List.length_append]; omega, h2, by rw [e]; exact A1s h3, h4⟩
theorem K8.ext {s s' : Ps} {w p : LN} (h : K8 s w p) (he : Pext s s') : K8 s' w p := by
  unfold K8 at *
  rw [he.real]
  split
  · rename_i hr; rwa [if_pos hr] at h
  · rename_i hr; rw [if_neg hr] at h; exact h.ext he
theorem B0e.ext {s s' : Ps} {w p : LN} (h : B0e s w p) (he : Pext s s') : B0e s' w p := by
  unfold B0e at *
  rw [he.real]
  split
  · rename_i hr; rwa [if_pos hr] at h
  · rename_i hr; rw [if_neg hr] at h; exact h.ext he
theorem A3T.ext {s s' : Ps} {w m g : LN} (h : A3T s w m g) (he : Pext s s') : A3T s' w m g := by
  unfold A3T at *
  rw [he.real]
  split
  · rename_i hr; rwa [if_pos hr] at h
  · rename_i hr
    rw [if_neg hr] at h
    obtain ⟨l, e⟩ := he.ts
    obtain ⟨i, j, h1, h2, h3, h4⟩ := h
    exact ⟨i, j, by rw [e, List.length_append]; omega, h2, by rw [e]; exact A1s h3, h4⟩
theorem B2C.kok {s : Ps} {w p : LN} (h : B2C s w p) : B0W s.ts w ∧ B0W s.ts p := by
  obtain ⟨i, j, h1, h2, h3, h4⟩ := h
  exact ⟨⟨i, h1, h2⟩, ⟨j, (List.getElem?_eq_some_iff.1 h3).1, h4⟩⟩
theorem K8.kok {s : Ps} {w p : LN} (h : K8 s w p) : Kok s w ∧ Kok s p := by
  unfold K8 at h
  refine ⟨fun hr => ?_, fun hr => ?_⟩ <;> rw [if_neg (by rw [hr]; decide)] at h
  · exact h.kok.1
  · exact h.kok.2
theorem B3Q {s : Ps} {w : LN} (h : B0W s.ts w) (ht : Tok s.ts) (hl : s.ts.length ≤ 1048576) : B2C (B0X s w) w (B2y s w) ∧ Tok (B0X s w).ts := by
  obtain ⟨i, hi, rfl⟩ := h
  obtain ⟨e1, e2⟩ := B6h hi hl
  obtain ⟨l, g1, g2, g3, g4⟩ := A1x (A8L (A1l (show i ≤ 1048576 by omega))) ht
  rw [e1, e2]
  exact ⟨⟨i, _, by show i < (add s.ts _).length; rw [g1, List.length_append]; omega, rfl, g3, rfl⟩, g4⟩
theorem A4T {s : Ps} {w : LN} (h : Kok s w) (ht : Tok s.ts) (hl : s.ts.length ≤ 1048576) : K8 (G1 s w) w (I5 s w) ∧ B0e (G1 s w) w (B5y s w) ∧ Tok (G1 s w).ts := by
  unfold K8 B0e G1 I5 B5y
  cases hr : s.real with
  | true => simp [hr, ht]
  | false =>
    obtain ⟨h1, h2⟩ := B3Q (h hr) ht hl
    have h3 : (B0X s w).real = false := hr
    simp only [Bool.false_eq_true, if_false, h3]
    exact ⟨h1, h1, h2⟩
theorem B2C.eq {s : Ps} {w p : LN} (h : B2C s w p) (ht : Tok s.ts) (hl : s.ts.length ≤ 1048576) : B0X s w = s ∧ B2y s w = p := by
  obtain ⟨i, j, h1, rfl, h3, rfl⟩ := h
  obtain ⟨e1, e2⟩ := B6h h1 hl
  obtain ⟨e3, e4⟩ := B0V ht h3
  rw [e1, e2, e3, e4]
  exact ⟨rfl, rfl⟩
theorem K8.eq {s : Ps} {w p : LN} (h : K8 s w p) (ht : Tok s.ts) (hl : s.ts.length ≤ 1048576) : G1 s w = s ∧ I5 s w = p := by
  unfold K8 at h
  unfold G1 I5
  cases hr : s.real with
  | true => rw [hr] at h; exact ⟨rfl, h.symm⟩
  | false => rw [hr] at h; exact B2C.eq h ht hl
theorem B0e.eq {s : Ps} {w p : LN} (h : B0e s w p) (ht : Tok s.ts) (hl : s.ts.length ≤ 1048576) : G1 s w = s ∧ B5y s w = p := by
  unfold B0e at h
  unfold G1 B5y
  cases hr : s.real with
  | true => rw [hr] at h; exact ⟨rfl, h.symm⟩
  | false => rw [hr] at h; exact B2C.eq h ht hl
theorem B3R {s : Ps} {i : Nat} {m : LN} (hi : i < s.ts.length) (ht : Tok s.ts) (hl : s.ts.length ≤ 1048576) (hm : ∀ y ∈ m, y < 256) (lm : m.length ≤ 16777216) : ∃ j, i < (A7j s (bts ((i : Nat) : Int)) fun x => A3d x m).ts.length ∧ (A7j s (bts ((i : Nat) : Int)) fun x => A3d x m).ts[j]? = some (A3d ((i : Nat) : Int) m) ∧ (A8M s (bts ((i : Nat) : Int)) fun x => A3d x m) = bts ((j : Nat) : Int) ∧ Tok (A7j s (bts ((i : Nat) : Int)) fun x => A3d x m).ts := by
  obtain ⟨e1, e2⟩ := B3P hi hl fun x => A3d x m
  have hT : Tmo (A3d ((i : Nat) : Int) m) := B2z (A1l (show i ≤ 1048576 by omega)) hm lm
  rw [e1, e2]
  generalize A3d ((i : Nat) : Int) m = t at *
  obtain ⟨l, g1, g2, g3, g4⟩ := A1x hT ht
  refine ⟨at_ s.ts t, ?_, g3, rfl, g4⟩
  show i < (add s.ts t).length
  rw [g1, List.length_append]; omega
theorem A8V (s : Ps) (w : LN) (f : Int → Tm) : (A7j s w f).real = s.real := rfl
theorem A3T.t {s : Ps} (h : s.real = true) {w m g : LN} : A3T s w m g ↔ g = B7C (Y7 w 32) m := by unfold A3T; rw [if_pos h]
theorem A3T.f {s : Ps} (h : s.real = false) {w m g : LN} : A3T s w m g ↔ ∃ i j : Nat, i < s.ts.length ∧ w = bts ((i : Nat) : Int) ∧ s.ts[j]? = some (A3d ((i : Nat) : Int) m) ∧ g = Y7 (bts ((j : Nat) : Int)) 64 := by unfold A3T; rw [if_neg (by rw [h]; decide)]
theorem B6i {s : Ps} (h : s.real = true) (w m : LN) : A4S s w m = s := by unfold A4S; rw [if_pos h]
theorem B6j {s : Ps} (h : s.real = false) (w m : LN) : A4S s w m = A7j s w fun x => A3d x m := by unfold A4S; rw [if_neg (by rw [h]; decide)]
theorem B6k {s : Ps} (h : s.real = true) (w m : LN) : B2A s w m = B7C (Y7 w 32) m := by unfold B2A; rw [if_pos h]
theorem B6l {s : Ps} (h : s.real = false) (w m : LN) : B2A s w m = Y7 (A8M s w fun x => A3d x m) 64 := by unfold B2A; rw [if_neg (by rw [h]; decide)]
theorem B6m {s : Ps} {w m : LN} (h : Kok s w) (ht : Tok s.ts) (hl : s.ts.length ≤ 1048576) (hm : ∀ y ∈ m, y < 256) (lm : m.length ≤ 16777216) : A3T (A4S s w m) w m (B2A s w m) ∧ Tok (A4S s w m).ts := by
  cases hr : s.real with
  | true =>
    rw [B6i hr, B6k hr, A3T.t hr]
    exact ⟨rfl, ht⟩
  | false =>
    obtain ⟨i, hi, e⟩ := h hr
    rw [B6j hr, B6l hr, e]
    obtain ⟨j, g1, g2, g3, g4⟩ := B3R hi ht hl hm lm
    rw [A3T.f ((A8V _ _ _).trans hr), g3]
    exact ⟨⟨i, j, g1, rfl, g2, rfl⟩, g4⟩
def B0f (ts : List Tm) (p m g : LN) : Bool := decide (g.length = 64) && match plc g ts.length, plc p ts.length with
  | some i, some k => decide (p.length = 32) && match ts[i]?, ts[k]? with
    | some t, some u => decide (t.kind = 7) && decide (t.text = m) && decide (u.kind = 3) && decide (u.of.getD 0 0 = t.of.getD 0 0)
    | _, _ => false
  | _, _ => false
noncomputable def B2D (s : Ps) (p m g : LN) : Bool := if s.real then B8k p m g else B0f s.ts p m g
def Ar (ts : List Tm) : Prop := ∀ t ∈ ts, (t.kind = 3 ∨ t.kind = 6 ∨ t.kind = 7) → 0 < t.of.length
theorem Ar.nil : Ar [] := fun t h => by cases h
theorem Ar.add {ts : List Tm} (h : Ar ts) {t : Tm} (ht : (t.kind = 3 ∨ t.kind = 6 ∨ t.kind = 7) → 0 < t.of.length) : Ar (add ts t) := by
  unfold Go.Proofs.YtoameenjkiaefaaGreatDoor.add
  split
  · exact h
  · intro u hu
    rcases List.mem_append.1 hu with h1 | h1
    · exact h u h1
    · rw [List.mem_singleton.1 h1]; exact ht
theorem Ar.rd {ts : List Tm} (h : Ar ts) (w : LN) : Ar (rdT ts w) := by
  cases hp : plc w ts.length with
  | some j => rw [(Q4 hp).1]; exact h
  | none => rw [(T3 hp).1]; exact h.add (by intro h; rcases h with h | h | h <;> cases h)
theorem Ar.fresh {s : Ps} (h : Ar s.ts) : Ar (D4 s).ts := by
  cases hr : s.real with
  | true => rw [A1L hr]; exact h
  | false => rw [A01 hr]; exact h.add (by intro h; rcases h with h | h | h <;> cases h)
theorem Ar.pub {s : Ps} (h : Ar s.ts) (w : LN) : Ar (G1 s w).ts := by
  unfold G1
  split
  · exact h
  · exact (h.rd w).add fun _ => Nat.one_pos
theorem Ar.sgn {s : Ps} (h : Ar s.ts) (w m : LN) : Ar (A4S s w m).ts := by
  unfold A4S
  split
  · exact h
  · exact (h.rd w).add fun _ => Nat.one_pos

end Go.Proofs.YtoameenjkiaefaaGreatDoor
