/- Part 7 of the texts of this claim, one behind the other. -/
import Derived.Test.YtoameenjkiaefaaGreatDoorB6
set_option linter.unusedVariables false
set_option linter.unusedSimpArgs false
set_option maxRecDepth 100000
namespace Go.Proofs.YtoameenjkiaefaaGreatDoor
open Go.Px
structure PrmT (pb : Nat × Nat) (bt : TBk pb) (bm : Nat) (s : Ps) (M : Mem) : Prop where
  ex : ∃ (sv : Value) (B MT : Mem), M = (pb.1, blk [.int .u8 1, sv, (vI s.n), (vP bt)] 118) :: (B ++ MT) ∧ By B sv s.seed ∧ Tab bt bm s.ts MT
theorem PrmT.p {pb : Nat × Nat} {bt : TBk pb} {bm : Nat} {s : Ps} {M : Mem} (h : PrmT pb bt bm s M) : Prm pb s M := by
  obtain ⟨sv, B, MT, h1, h2, h3⟩ := h.ex
  exact ⟨sv, bt, bm, B, MT, h1, h2, h3⟩
theorem Prm.t {pb : Nat × Nat} {s : Ps} {M : Mem} (h : Prm pb s M) : ∃ bt bm, PrmT pb bt bm s M := by
  obtain ⟨sv, bt, bm, B, MT, h1, h2, h3⟩ := h.ex
  exact ⟨bt, bm, sv, B, MT, h1, h2, h3⟩
def A4g (x : Int) : Tm := ⟨3, [x], [], 0⟩
def A8V (s : Ps) (w : LN) : Ps := { s with ts := add (rdT s.ts w) (A4g ((rdI s.ts w : Nat) : Int)) }
def A9P (s : Ps) (w : LN) : LN := bts ((at_ (rdT s.ts w) (A4g ((rdI s.ts w : Nat) : Int)) : Nat) : Int)
def B2C (s : Ps) (w u : LN) : Ps := { s with ts := add (rdT (rdT s.ts w) u) (agT (rdT (rdT s.ts w) u) ((rdI s.ts w : Nat) : Int) ((rdI (rdT s.ts w) u : Nat) : Int)) }
def B2D (s : Ps) (w u : LN) : LN := bts ((at_ (rdT (rdT s.ts w) u) (agT (rdT (rdT s.ts w) u) ((rdI s.ts w : Nat) : Int) ((rdI (rdT s.ts w) u : Nat) : Int)) : Nat) : Int)
theorem A6k {x : Int} (h : i64 x) : Tmo (A4g x) := ⟨show 3 < 256 by decide, show i64 (0 : Int) by unfold i64; omega, fun i hi => by rw [List.mem_singleton.1 hi]; exact h, show 1 ≤ 1048576 by decide, ⟨fun x hx => (List.not_mem_nil hx).elim⟩, show 0 ≤ 1099511627776 by decide⟩
theorem A09 {ts : List Tm} {w : LN} (hw : ∀ x ∈ w, x < 256) (hl : w.length ≤ 1099511627776) (hts : ∀ t ∈ ts, Tmo t) (hn : ts.length ≤ 1048576) : i64 ((rdI ts w : Nat) : Int) := by
  have h1 := A6f hw hl hts
  have h2 : (rdT ts w).length ≤ ts.length + 1 := K9
  unfold i64; omega
theorem S0 (pb : Nat × Nat) (bt : TBk pb) (bm : Nat) (m k : Int) (sv : Value) [hsv : Cel sv [sv]] (ts : List Tm) (v : Value) (w : LN) (MT A : Mem) (hT : Tab bt bm ts MT) (hpb : (pb.1, blk [.int .u8 m, sv, .int .i64 k, (vP bt)] 118) ∈ A) (hn : ts.length ≤ 1048576) (hv : By A v w) {e4 : TypeId} {f4 : Nat × Nat} (h4 : (4, Obj.cells (H6 .u64 L7).toArray e4 f4) ∈ A) : FnX Tryz.prog 97 [.pointer (some ⟨pb.1, 0, none⟩), v] MT A fun q M J => q = .int .i64 ((rdI ts w : Nat) : Int) ∧ Tab bt bm (rdT ts w) M := by
 haveI := hv.cel
 have hvl := hv.len
 refine FnX.enterZ (N := 11) Tryz.func97 rfl rfl rfl fun w_ => ?_
 refine A8 (D0 0 1) (A1 (as_ (A0 (D0 0 1) (A1 (mv_ ?_)))))
 refine A2 (D5 rfl) rfl ?_
 refine A2 (qf_ 3 3) rfl ?_
 refine A2 ql_ rfl ?_
 refine mv_ ?_
 refine A4 rfl (A9 (Mc := MT) (R := _) (aS rfl (aS rfl a0)) kR qP (A05 bt bm ts v w MT _ hT hn (hv.rd.mono qS) hv.lt (by have := hv.len; omega) (qS _ h4)) rfl ?_)
 rintro v10 M10 J10 ⟨rfl, rfl, hT10⟩
 refine as_ (A0 (C8 4) (A6 ?_))
 exact ⟨_, M10, [], F4 rfl rfl, Fit.none (Fit.last qP), rfl, hT10⟩
theorem A3r (pb : Nat × Nat) (bt : TBk pb) (bm : Nat) (s : Ps) (hr : s.real = false) (v : Value) (w : LN) (MP A : Mem) (hP : PrmT pb bt bm s MP) (hn : s.ts.length < 1048576) (hv : By A v w) (hG : Glb A) : FnX Tryz.prog 52 [.pointer (some ⟨pb.1, 0, none⟩), v] MP A fun q M J => PrmT pb bt bm (A8V s w) M ∧ By J q (A9P s w) := by
 obtain ⟨sv, B, MT, rfl, hby, hT⟩ := hP.ex
 obtain ⟨ge4, gf4, h4⟩ := hG.pow
 haveI := hv.cel
 haveI := hby.cel
 have hvl := hv.len
 refine FnX.enterZ (N := 26) Tryz.func52 rfl rfl rfl fun w_ => ?_
 refine A8 (D0 0 1) (A1 (as_ (A0 (D0 0 1) (A7 (A1 (mv_ ?_))))))
 refine A2 (C9 (e := 118) rfl rfl kR) rfl ?_
 refine A0 (E7 0 1 6) ?_
 refine B8 rfl ?_
 refine A5 (nx (D0 0 1) (A7 (A1 (mv_ ?_))))
 refine A2 (D5 rfl) rfl ?_
 refine A2 (qf_ 0 0) rfl ?_
 refine A2 ql_ rfl ?_
 refine A2 (F6 false rfl rfl (eqF qD)) rfl ?_
 refine A0 (E7 0 1 11) ?_
 refine B8 rfl ?_
 refine A5 (nx (D0 0 1) ?_)
 refine E5 (MT) (_) true [0, 1, 2, 3, 4, 5, 6, 7, 8, 11] (zp 0 [0, 0, 0, 1, 0, 0, 2, 2, 0, 2, 2, 0]) kR kR qP fun hs K n0 hKm hKs hKn => ?_
 refine km_ hs ?_
 refine E4 hs rfl (D5 rfl) rfl ?_
 refine E4 hs rfl (qf_ 3 3) rfl ?_
 refine I2 hs rfl hKs ql_ ?_
 refine km_ hs ?_
 refine km_ hs ?_
 refine F7 _ _ rfl rfl (List.Perm.refl _) hKm fun w0 => (A9 (Mc := MT) (R := _) (aS rfl (aS rfl a0)) kR qP (S0 pb bt bm 1 _ sv s.ts v w MT _ hT At.mem qO (hv.mono qS) (qS _ h4)) rfl ?_)
 rintro v21 M21 J21 ⟨rfl, hT21⟩ hKx
 refine F7 [] _ rfl rfl (List.Perm.refl _) (fun _ h => by cases h) fun w0 => (C3 (e := 3) (sz := 1) (z := [.int .i64 0]) kR (eS rfl e0) (bdS 0 1 rfl qR bd0) rfl fun b22 => fun _ => ?_)
 refine Y2 (M' := (b22, blk [.int .i64 ((rdI s.ts w : Nat) : Int)] 3) :: (M21 ++ ((pb.1, blk [.int .u8 1, sv, .int .i64 (((s.n : Nat) : Int)), (vP bt)] 118) :: (B ++ [])))) qM ?_
 refine E4 hs rfl (D2 (place := fun x => #[(0, 1), (1, 1), (2, 1), (3, 1)][x]?) (z := [.int .u8 0, vS, .string ByteArray.empty, .int .i64 0]) (fun _ => by kernel_rfl) (eS rfl (eS rfl e0)) (bdS 0 1 rfl qR (bdS 1 1 rfl qR bd0))) rfl ?_
 refine I6 rfl rfl rfl (A9 (Mc := M21) (R := _) (aS rfl (aS rfl a0)) kR qP (K8 bt bm (rdT s.ts w) _ (A4g ((rdI s.ts w : Nat) : Int)) M21 _ hT21 (by have := K9 (ts := s.ts) (ws := w); omega) (Rd.whole (n := 1) At.mem qR) (A6k (A09 hv.lt qO hT.tok.tmo qO)) (qS _ h4)) rfl ?_)
 rintro v24 M24 J24 ⟨rfl, rfl, hT24⟩
 refine I6 rfl rfl rfl (K1 (aS rfl a0) kR (N6 _ _) rfl ?_)
 rintro v25 M25 J25 ⟨rfl, h25⟩
 refine E4 hs rfl (G4 rfl) rfl ?_
 refine H7 (C8 4) (A6 ?_)
 exact ⟨_, (pb.1, blk [.int .u8 1, sv, .int .i64 (((s.n : Nat) : Int)), (vP bt)] 118) :: (B ++ M24), [], F4 rfl rfl, (Fit.none (Fit.pick (B := [_]) qP (Fit.pick qP (Fit.last qP)))), ⟨sv, B, M24, rfl, hby, hT24⟩, h25.mono qS⟩
theorem A3s (pb : Nat × Nat) (bt : TBk pb) (bm : Nat) (s : Ps) (hr : s.real = false) (v v2 : Value) (w u : LN) (MP A : Mem) (hP : PrmT pb bt bm s MP) (hn : s.ts.length + 1 < 1048576) (hv : By A v w) (hu : By A v2 u) (hG : Glb A) : FnX Tryz.prog 111 [.pointer (some ⟨pb.1, 0, none⟩), v, v2] MP A fun q M J => PrmT pb bt bm (B2C s w u) M ∧ By J q (B2D s w u) := by
 obtain ⟨sv, B, MT, rfl, hby, hT⟩ := hP.ex
 obtain ⟨ge4, gf4, h4⟩ := hG.pow
 haveI := hv.cel
 haveI := hu.cel
 haveI := hby.cel
 have hvl := hv.len
 have hul := hu.len
 refine FnX.enterZ (N := 31) Tryz.func111 rfl rfl rfl fun w_ => ?_
 refine A8 (E7 0 1 2) (A1 (as_ (A0 (E7 0 1 2) (A7 (A1 (mv_ ?_))))))
 refine A2 (C9 (e := 118) rfl rfl kR) rfl ?_
 refine A0 (F8 0 1 2 8) ?_
 refine B8 rfl ?_
 refine A5 (nx (E7 0 1 2) (A7 (A1 (mv_ ?_))))
 refine A2 (D5 rfl) rfl ?_
 refine A2 (qf_ 0 0) rfl ?_
 refine A2 ql_ rfl ?_
 refine A2 (F6 false rfl rfl (eqF qD)) rfl ?_
 refine A0 (F8 0 1 2 13) ?_
 refine B8 rfl ?_
 refine A5 (nx (E7 0 1 2) ?_)
 refine E5 (MT) (_) true [0, 1, 2, 3, 4, 5, 6, 7, 8, 9, 12] [(0, 0), (1, 0), (2, 0), (3, 1), (4, 0), (5, 0), (7, 0), (8, 0), (6, 2), (9, 2), (10, 2), (11, 2), (12, 0)] kR kR qP fun hs K n0 hKm hKs hKn => ?_
 refine km_ hs ?_
 refine E4 hs rfl (D5 rfl) rfl ?_
 refine E4 hs rfl (qf_ 3 3) rfl ?_
 refine I2 hs rfl hKs ql_ ?_
 refine km_ hs ?_
 refine km_ hs ?_
 refine km_ hs ?_
 refine km_ hs ?_
 refine F7 _ _ rfl rfl (List.Perm.refl _) hKm fun w0 => (A9 (Mc := MT) (R := _) (aS rfl (aS rfl a0)) kR qP (S0 pb bt bm 1 _ sv s.ts v w MT _ hT At.mem qO (hv.mono qS) (qS _ h4)) rfl ?_)
 rintro v25 M25 J25 ⟨rfl, hT25⟩ hKx
 refine F7 (M25 ++ []) _ rfl rfl qP (hKx (hKn rfl)) fun w0 => (A9 (Mc := M25) (R := _) (aS rfl (aS rfl a0)) kR qP (S0 pb bt bm 1 _ sv (rdT s.ts w) v2 u M25 _ hT25 At.mem (by have := K9 (ts := s.ts) (ws := w); omega) (hu.mono qS) (qS _ h4)) rfl ?_)
 rintro v28 M28 J28 ⟨rfl, hT28⟩ hKy
 refine I6 rfl rfl rfl (A9 (Mc := M28) (R := _) (aS rfl (aS rfl (aS rfl a0))) kR qP (A4X bt bm (rdT (rdT s.ts w) u) _ _ M28 _ hT28 (by have := K9 (ts := s.ts) (ws := w); have := K9 (ts := rdT s.ts w) (ws := u); omega) (A09 hv.lt qO hT.tok.tmo qO) (A09 hu.lt qO hT25.tok.tmo (by have := K9 (ts := s.ts) (ws := w); omega)) (qS _ h4)) rfl ?_)
 rintro v29 M29 J29 ⟨rfl, rfl, hT29⟩
 refine I6 rfl rfl rfl (K1 (aS rfl a0) kR (N6 _ _) rfl ?_)
 rintro v30 M30 J30 ⟨rfl, h30⟩
 refine E4 hs rfl (G4 rfl) rfl ?_
 refine H7 (C8 6) (A6 ?_)
 exact ⟨_, (pb.1, blk [.int .u8 1, sv, .int .i64 (((s.n : Nat) : Int)), (vP bt)] 118) :: (B ++ M29), [], F4 rfl rfl, (Fit.none (Fit.pick (B := [_]) qP (Fit.pick qP (Fit.last qP)))), ⟨sv, B, M29, rfl, hby, hT29⟩, h30.mono qS⟩
theorem A4h (pb : Nat × Nat) (s : Ps) (hr : s.real = false) (v : Value) (w : LN) (MP A : Mem) (hP : Prm pb s MP) (hn : s.ts.length < 1048576) (hv : By A v w) (hG : Glb A) : FnX Tryz.prog 52 [.pointer (some ⟨pb.1, 0, none⟩), v] MP A fun q M J => Prm pb (A8V s w) M ∧ By J q (A9P s w) := by
  obtain ⟨bt, bm, h⟩ := hP.t
  exact (A3r pb bt bm s hr v w MP A h hn hv hG).mono fun q M J ⟨h1, h2⟩ => ⟨h1.p, h2⟩
theorem A7N (pb : Nat × Nat) (s : Ps) (hr : s.real = false) (v v2 : Value) (w u : LN) (MP A : Mem) (hP : Prm pb s MP) (hn : s.ts.length + 1 < 1048576) (hv : By A v w) (hu : By A v2 u) (hG : Glb A) : FnX Tryz.prog 111 [.pointer (some ⟨pb.1, 0, none⟩), v, v2] MP A fun q M J => Prm pb (B2C s w u) M ∧ By J q (B2D s w u) := by
  obtain ⟨bt, bm, h⟩ := hP.t
  exact (A3s pb bt bm s hr v v2 w u MP A h hn hv hu hG).mono fun q M J ⟨h1, h2⟩ => ⟨h1.p, h2⟩
theorem A3t (pb : Nat × Nat) (bt : TBk pb) (k : Int) (sv : Value) (A : Mem) (hpb : (pb.1, blk [.int .u8 1, sv, .int .i64 k, (vP bt)] 118) ∈ A) : FnV Tryz.prog 70 [.pointer (some ⟨pb.1, 0, none⟩)] A (vP bt) := by
 refine FnX.enter (N := 16) Tryz.func70 rfl rfl rfl fun w => ?_
 refine A8 (C8 0) (A1 (as_ (A0 (C8 0) (A7 (A1 (mv_ ?_))))))
 refine A2 (C9 (e := 118) rfl rfl kR) rfl ?_
 refine mv_ ?_
 refine B0 rfl rfl (OpQ.opL qm_ rfl ?_)
 refine B0 rfl rfl (OpQ.opL (D5 rfl) rfl ?_)
 refine B0 rfl rfl (OpQ.opL (qf_ 0 0) rfl ?_)
 refine B0 rfl rfl (OpQ.opL (G7 rfl kR (mA hpb) qR) rfl ?_)
 refine B0 rfl rfl (OpQ.opL (F6 false rfl rfl (eqF qD)) rfl ?_)
 refine A2 (C7 rfl rfl) rfl ?_
 refine A0 (D0 0 11) ?_
 refine B8 rfl ?_
 refine A5 (nx (C8 0) (A1 (mv_ ?_)))
 refine A2 (D5 rfl) rfl ?_
 refine A2 (qf_ 3 3) rfl ?_
 refine A2 (G7 rfl kR (mA hpb) qR) rfl ?_
 refine as_ (A0 (C8 2) (A6 ?_))
 exact ⟨_, [], [], F4 rfl rfl, List.nil_sublist _, by simp, rfl, rfl, rfl⟩

def A3u (x : Int) (a b : LN) : Tm := ⟨6, [x], mark a ++ mark b, 0⟩
def A7b (x : Int) (m : LN) : Tm := ⟨7, [x], m, 0⟩
def B2E (s : Ps) (w : LN) (f : Int → Tm) : Ps := { s with ts := add (rdT s.ts w) (f ((rdI s.ts w : Nat) : Int)) }
def B2F (s : Ps) (w : LN) (f : Int → Tm) : LN := bts ((at_ (rdT s.ts w) (f ((rdI s.ts w : Nat) : Int)) : Nat) : Int)
theorem B1F {x : Int} (h : i64 x) {a b : LN} (ha : ∀ y ∈ a, y < 256) (hb : ∀ y ∈ b, y < 256) (la : a.length ≤ 16777216) (lb : b.length ≤ 16777216) : Tmo (A3u x a b) := by
  haveI : B256 a := ⟨ha⟩
  haveI : B256 b := ⟨hb⟩
  have h1 := A0c a qO
  have h2 := A0c b qO
  exact ⟨show 6 < 256 by decide, show i64 (0 : Int) by unfold i64; omega, fun i hi => by rw [List.mem_singleton.1 hi]; exact h, show 1 ≤ 1048576 by decide, inferInstanceAs (B256 (mark a ++ mark b)), by show (mark a ++ mark b).length ≤ _; rw [List.length_append]; omega⟩
theorem B1G {x : Int} (h : i64 x) {m : LN} (hm : ∀ y ∈ m, y < 256) (lm : m.length ≤ 16777216) : Tmo (A7b x m) :=
  ⟨show 7 < 256 by decide, show i64 (0 : Int) by unfold i64; omega, fun i hi => by rw [List.mem_singleton.1 hi]; exact h, show 1 ≤ 1048576 by decide, ⟨hm⟩, show m.length ≤ 1099511627776 by omega⟩
theorem A6l (pb : Nat × Nat) (bt : TBk pb) (bm : Nat) (s : Ps) (hr : s.real = false) (v v2 v3 : Value) (w wa wb : LN) (MP A : Mem) (hP : PrmT pb bt bm s MP) (hn : s.ts.length < 1048576) (hv : By A v w) (hya : By A v2 wa) (hyb : By A v3 wb) (hG : Glb A) : FnX Tryz.prog 88 [.pointer (some ⟨pb.1, 0, none⟩), v, v2, v3] MP A fun q M J => PrmT pb bt bm (B2E s w fun x => A3u x wa wb) M ∧ By J q (B2F s w fun x => A3u x wa wb) := by
 obtain ⟨sv, B, MT, rfl, hby, hT⟩ := hP.ex
 obtain ⟨ge4, gf4, h4⟩ := hG.pow
 haveI := hv.cel
 haveI := hya.cel
 haveI := hyb.cel
 haveI := hby.cel
 have hvl := hv.len
 have hal := hya.len
 have hbl := hyb.len
 refine FnX.enterZ (N := 38) Tryz.func88 rfl rfl rfl fun w_ => ?_
 refine A8 (F8 0 1 2 3) (A1 (as_ (A0 (F8 0 1 2 3) (A7 (A1 (mv_ ?_))))))
 refine A2 (C9 (e := 118) rfl rfl kR) rfl ?_
 refine A0 (H9 0 1 2 3 10) ?_
 refine B8 rfl ?_
 refine A5 (nx (F8 0 1 2 3) (A7 (A1 (mv_ ?_))))
 refine A2 (D5 rfl) rfl ?_
 refine A2 (qf_ 0 0) rfl ?_
 refine A2 ql_ rfl ?_
 refine A2 (F6 false rfl rfl (eqF qD)) rfl ?_
 refine A0 (H9 0 1 2 3 15) ?_
 refine B8 rfl ?_
 refine A5 (nx (F8 0 1 2 3) ?_)
 refine E5 (MT) (_) true [0, 1, 2, 3, 4, 5, 6, 7, 8, 9, 10, 11, 12, 13, 16] [(0, 0), (1, 0), (2, 0), (3, 1), (4, 0), (5, 0), (8, 0), (10, 0), (6, 2), (7, 3), (9, 3), (11, 3), (12, 4), (13, 0), (14, 2), (15, 2), (16, 0)] kR kR qP fun hs K n0 hKm hKs hKn => ?_
 refine km_ hs ?_
 refine E4 hs rfl (D5 rfl) rfl ?_
 refine E4 hs rfl (qf_ 3 3) rfl ?_
 refine I2 hs rfl hKs ql_ ?_
 refine km_ hs ?_
 refine km_ hs ?_
 refine km_ hs ?_
 refine km_ hs ?_
 refine F7 _ _ rfl rfl (List.Perm.refl _) hKm fun w0 => (A9 (Mc := MT) (R := _) (aS rfl (aS rfl a0)) kR qP (S0 pb bt bm 1 _ sv s.ts v w MT _ hT At.mem qO (hv.mono qS) (qS _ h4)) rfl ?_)
 rintro v28 M28 J28 ⟨rfl, hT28⟩ hKx
 refine A5R [⟨7, 29, fun v B _ => ∃ b, v = .slice (some ⟨b, 0, none⟩) 1 1 ∧ B = [(b, blk [.int .i64 ((rdI s.ts w : Nat) : Int)] 3)]⟩, ⟨9, 31, fun v B _ => B = [] ∧ v = .string (txt (mark wa))⟩, ⟨11, 33, fun v B _ => B = [] ∧ v = .string (txt (mark wb))⟩, ⟨12, 34, fun v B _ => B = [] ∧ v = .string (txt (mark wa ++ mark wb))⟩]
  (A3 (fun _ _ _ _ _ h => h) (A3 (fun _ _ _ _ _ h => h) (A3 (fun _ _ _ _ _ h => h) (A3 (fun _ _ _ _ _ h => h) (I5))))) (show List.Nodup [29, 31, 33, 34] by decide) (show List.Nodup [7, 9, 11, 12] by decide) (A3 (D6 rfl) (A3 (D6 rfl) (A3 (D6 rfl) (A3 (D6 rfl) (I5)))))
  (A3 ⟨_, rfl, fun vs bs R w hb ha => ⟨.inl rfl, ?_⟩⟩ (A3 ⟨_, rfl, fun vs bs R w hb ha => ⟨.inl rfl, ?_⟩⟩ (A3 ⟨_, rfl, fun vs bs R w hb ha => ⟨.inl rfl, ?_⟩⟩ (A3 ⟨_, rfl, fun vs bs R w hb ha => ⟨.inl rfl, ?_⟩⟩ (I5))))) ?_
 ·
  exact C3 (e := 3) (sz := 1) (z := [.int .i64 0]) kR (eS rfl e0) (bdS 0 1 rfl qR bd0) rfl fun b => ⟨_, rfl, b, rfl, rfl⟩
 ·
  exact Y1 (aS rfl a0) kR (A03 v2 wa _ (hya.rd.mono fun x hx => hb _ (qS x hx)) (hb := hya.b256) (by have := hya.len; omega) (hb _ (qS _ h4))) rfl ⟨_, rfl, rfl, rfl⟩
 ·
  exact Y1 (aS rfl a0) kR (A03 v3 wb _ (hyb.rd.mono fun x hx => hb _ (qS x hx)) (hb := hyb.b256) (by have := hyb.len; omega) (hb _ (qS _ h4))) rfl ⟨_, rfl, rfl, rfl⟩
 ·
  have g9 := ha _ (List.mem_of_getElem? (i := 1) rfl) kR
  replace g9 : (fun v B _ => B = [] ∧ v = .string (txt (mark wa))) (vs 9) (bs 9) R := g9
  dsimp only at g9
  have g11 := ha _ (List.mem_of_getElem? (i := 2) rfl) kR
  replace g11 : (fun v B _ => B = [] ∧ v = .string (txt (mark wb))) (vs 11) (bs 11) R := g11
  dsimp only at g11
  obtain ⟨-, h9⟩ := g9
  obtain ⟨-, h11⟩ := g11
  exact OpQ.opL (X6 (ws := mark wa) (ws' := mark wb) (by rw [← h9]; rfl) (by rw [← h11]; rfl) rfl rfl (by have h1 := A0c wa qO; have h2 := A0c wb qO; omega)) rfl ⟨_, rfl, rfl, rfl⟩
 intro vs bs Jn0 hφ
 have g7 := ofH hφ
 dsimp only at g7
 replace hφ := ofT hφ
 have g9 := ofH hφ
 dsimp only at g9
 replace hφ := ofT hφ
 have g11 := ofH hφ
 dsimp only at g11
 replace hφ := ofT hφ
 have g12 := ofH hφ
 dsimp only at g12
 clear hφ
 dsimp only [A0q, T9, List.map, List.flatten, List.cons_append, List.nil_append]
 generalize bs 7 = B29 at *
 generalize bs 9 = B31 at *
 generalize bs 11 = B33 at *
 generalize bs 12 = B34 at *
 generalize vs 7 = u29 at *
 generalize vs 9 = u31 at *
 generalize vs 11 = u33 at *
 generalize vs 12 = u34 at *
 obtain ⟨b29, rfl, rfl⟩ := g7
 obtain ⟨rfl, rfl⟩ := g9
 obtain ⟨rfl, rfl⟩ := g11
 obtain ⟨rfl, rfl⟩ := g12
 dsimp only [List.append_eq, List.nil_append, List.cons_append]
 refine E4 hs rfl (D2 (place := fun x => #[(0, 1), (1, 1), (2, 1), (3, 1)][x]?) (z := [.int .u8 0, vS, .string ByteArray.empty, .int .i64 0]) (fun _ => by kernel_rfl) (eS rfl (eS rfl (eS rfl e0))) (bdS 0 1 rfl qR (bdS 1 1 rfl qR (bdS 2 1 rfl qR bd0)))) rfl ?_
 refine I6 rfl rfl rfl (A9 (Mc := M28) (R := _) (aS rfl (aS rfl a0)) kR qP (K8 bt bm (rdT s.ts w) _ (A3u ((rdI s.ts w : Nat) : Int) wa wb) M28 _ hT28 (by have := K9 (ts := s.ts) (ws := w); omega) (Rd.whole (n := 1) At.mem qR) (B1F (A09 hv.lt qO hT.tok.tmo qO) hya.lt hyb.lt hya.len hyb.len) (qS _ h4)) rfl ?_)
 rintro v36 M36 J36 ⟨rfl, rfl, hT36⟩
 refine I6 rfl rfl rfl (K1 (aS rfl a0) kR (N6 _ _) rfl ?_)
 rintro v37 M37 J37 ⟨rfl, h37⟩
 refine E4 hs rfl (G4 rfl) rfl ?_
 refine H7 (C8 8) (A6 ?_)
 exact ⟨_, (pb.1, blk [.int .u8 1, sv, .int .i64 (((s.n : Nat) : Int)), (vP bt)] 118) :: (B ++ M36), [], F4 rfl rfl, (Fit.none (Fit.pick (B := [_]) qP (Fit.pick qP (Fit.last qP)))), ⟨sv, B, M36, rfl, hby, hT36⟩, h37.mono qS⟩
theorem A6m (pb : Nat × Nat) (bt : TBk pb) (bm : Nat) (s : Ps) (hr : s.real = false) (v v2 : Value) (w wm : LN) (MP A : Mem) (hP : PrmT pb bt bm s MP) (hn : s.ts.length < 1048576) (hv : By A v w) (hm : By A v2 wm) (hG : Glb A) : FnX Tryz.prog 100 [.pointer (some ⟨pb.1, 0, none⟩), v, v2] MP A fun q M J => PrmT pb bt bm (B2E s w fun x => A7b x wm) M ∧ By J q (Z3 (B2F s w fun x => A7b x wm) 64) := by
 obtain ⟨sv, B, MT, rfl, hby, hT⟩ := hP.ex
 obtain ⟨ge4, gf4, h4⟩ := hG.pow
 haveI := hv.cel
 haveI := hm.cel
 haveI := hby.cel
 have hvl := hv.len
 have hml := hm.len
 refine FnX.enterZ (N := 32) Tryz.func100 rfl rfl rfl fun w_ => ?_
 refine A8 (E7 0 1 2) (A1 (as_ (A0 (E7 0 1 2) (A7 (A1 (mv_ ?_))))))
 refine A2 (C9 (e := 118) rfl rfl kR) rfl ?_
 refine A0 (F8 0 1 2 8) ?_
 refine B8 rfl ?_
 refine A5 (nx (E7 0 1 2) (A7 (A1 (mv_ ?_))))
 refine A2 (D5 rfl) rfl ?_
 refine A2 (qf_ 0 0) rfl ?_
 refine A2 ql_ rfl ?_
 refine A2 (F6 false rfl rfl (eqF qD)) rfl ?_
 refine A0 (F8 0 1 2 13) ?_
 refine B8 rfl ?_
 refine A5 (nx (E7 0 1 2) ?_)
 refine E5 (MT) (_) true [0, 1, 2, 3, 4, 5, 6, 7, 8, 9, 10, 14] [(0, 0), (1, 0), (2, 0), (3, 1), (4, 0), (5, 0), (8, 0), (9, 1), (6, 2), (7, 2), (10, 0), (11, 2), (12, 2), (13, 2), (14, 0)] kR kR qP fun hs K n0 hKm hKs hKn => ?_
 refine km_ hs ?_
 refine E4 hs rfl (D5 rfl) rfl ?_
 refine E4 hs rfl (qf_ 3 3) rfl ?_
 refine I2 hs rfl hKs ql_ ?_
 refine km_ hs ?_
 refine km_ hs ?_
 refine km_ hs ?_
 refine I2 hs rfl hKs (P8 rfl kR (hm.rd.mono qS)) ?_
 refine F7 _ _ rfl rfl (List.Perm.refl _) hKm fun w0 => (A9 (Mc := MT) (R := _) (aS rfl (aS rfl a0)) kR qP (S0 pb bt bm 1 _ sv s.ts v w MT _ hT At.mem qO (hv.mono qS) (qS _ h4)) rfl ?_)
 rintro v24 M24 J24 ⟨rfl, hT24⟩ hKx
 refine F7 [] _ rfl rfl (List.Perm.refl _) (fun _ h => by cases h) fun w0 => (C3 (e := 3) (sz := 1) (z := [.int .i64 0]) kR (eS rfl e0) (bdS 0 1 rfl qR bd0) rfl fun b25 => fun _ => ?_)
 refine Y2 (M' := (b25, blk [.int .i64 ((rdI s.ts w : Nat) : Int)] 3) :: (M24 ++ ((pb.1, blk [.int .u8 1, sv, .int .i64 (((s.n : Nat) : Int)), (vP bt)] 118) :: (B ++ [])))) qM ?_
 refine E4 hs rfl (D2 (place := fun x => #[(0, 1), (1, 1), (2, 1), (3, 1)][x]?) (z := [.int .u8 0, vS, .string ByteArray.empty, .int .i64 0]) (fun _ => by kernel_rfl) (eS rfl (eS rfl (eS rfl e0))) (bdS 0 1 rfl qR (bdS 1 1 rfl qR (bdS 2 1 rfl qR bd0)))) rfl ?_
 refine I6 rfl rfl rfl (A9 (Mc := M24) (R := _) (aS rfl (aS rfl a0)) kR qP (K8 bt bm (rdT s.ts w) _ (A7b ((rdI s.ts w : Nat) : Int) wm) M24 _ hT24 (by have := K9 (ts := s.ts) (ws := w); omega) (Rd.whole (n := 1) At.mem qR) (B1G (A09 hv.lt qO hT.tok.tmo qO) hm.lt hm.len) (qS _ h4)) rfl ?_)
 rintro v29 M29 J29 ⟨rfl, rfl, hT29⟩
 refine I6 rfl rfl rfl (K1 (aS rfl a0) kR (N6 _ _) rfl ?_)
 rintro v30 M30 J30 ⟨rfl, h30⟩
 haveI := h30.cel
 refine I6 rfl rfl rfl (K1 (aS rfl (aS rfl a0)) kR (A7L v30 _ 64 _ (h30.mono qS) qD) rfl ?_)
 rintro v31 M31 J31 ⟨rfl, h31⟩
 refine E4 hs rfl (G4 rfl) rfl ?_
 refine H7 (C8 6) (A6 ?_)
 exact ⟨_, (pb.1, blk [.int .u8 1, sv, .int .i64 (((s.n : Nat) : Int)), (vP bt)] 118) :: (B ++ M29), [], F4 rfl rfl, (Fit.none (Fit.pick (B := [_]) qP (Fit.pick qP (Fit.last qP)))), ⟨sv, B, M29, rfl, hby, hT29⟩, h31.mono qS⟩

end Go.Proofs.YtoameenjkiaefaaGreatDoor
namespace Go.Px
theorem A4i {P : Program} {R : Mem} {l : Env} {d : Option Nat} {ty : TypeId} {pos : String} {af : Array Edge} {g : Option (Nat × Bool)} {fn : Fn} {xs : List Operand} {vs : List Value} (hx : Evs l xs vs) :
    OpQ P R ⟨d, .makeFunc fn #[] xs.toArray, ty, pos, af, g⟩ l (.func fn #[] vs.toArray) := fun N a w ha hw => by
  have e : xs.toArray.map a.eval = vs.toArray := by simp [hx.map ha]
  simp only [execOp, e]
  simp [Instr.makeFunc]
section call
variable {C : Cx} {l : Env} {M J : Mem} {K : Env → Mem → Mem → Prop} {d : Nat} {ty : TypeId} {pos : String} {af : Array Edge} {g : Option (Nat × Bool)} {x : Operand} {f : FuncId} {xs : List Operand} {vs cs : List Value} {ts : Array TypeId}
theorem A9Q {Mc R : Mem} {post : Value → Mem → Mem → Prop} (h0 : ev l x = some (.func (.func f) #[] cs.toArray)) (hx : Evs l xs vs) (hc : G5 C.P f = true)
    (hM : M.Perm (Mc ++ R)) (hf : FnX C.P f (vs ++ cs) Mc (R ++ (J ++ C.A)) post) (hd : Nat.blt d C.N = true) (k : ∀ v M' J', post v M' J' → K ((d, v) :: l) (M' ++ R) (J' ++ J)) :
    OpL C ⟨some d, .call { callee := .value x, args := xs.toArray, argTypes := ts }, ty, pos, af, g⟩ l M J K := by
  intro Qp a w ha hw
  have hrun : (execOp a.eval ⟨some d, .call { callee := .value x, args := xs.toArray, argTypes := ts }, ty, pos, af, g⟩).run C.P w = .ok (.enter f (vs ++ cs).toArray) w := by
    have e : xs.toArray.map a.eval = vs.toArray := by simp [hx.map ha]
    simp only [execOp, resolve, e, Sem.run_bind, ha.ev h0]
    simp [Deferred.ofValue, invoke, A1Q hc]
  unfold Oper.wp
  rw [hrun]
  refine Calls.mono (hf w (hw.callee hM)) ?_
  rintro e w' ⟨v, M', J', rfl, hp, hs⟩
  exact ⟨_, _, _, ha.put (D6 hd) v, hw.back hM hs, k v M' J' hp⟩
theorem A0L {v : Value} (h0 : ev l x = some (.func (.func f) #[] cs.toArray)) (hx : Evs l xs vs) (hc : G5 C.P f = true) (hf : FnV C.P f (vs ++ cs) (M ++ (J ++ C.A)) v) (hd : Nat.blt d C.N = true) (k : K ((d, v) :: l) M J) :
    OpL C ⟨some d, .call { callee := .value x, args := xs.toArray, argTypes := ts }, ty, pos, af, g⟩ l M J K :=
  A9Q (Mc := []) (R := M) h0 hx hc (.refl _) hf hd fun r M' J' ⟨e, h1, h2⟩ => by subst e; subst h1; subst h2; exact k
end call
def A1H (p : Nat → Bool) (n : Nat) : Int := match (List.range n).find? p with
  | some i => (i : Int)
  | none => -1
theorem W1 {p : Nat → Bool} {n i : Nat} (hi : i < n) (h0 : ∀ j, j < i → p j = false) (h : p i = true) : A1H p n = (i : Int) := by
  unfold A1H
  have : (List.range n).find? p = some i := by
    rw [List.find?_range_eq_some]
    exact ⟨h, List.mem_range.2 hi, fun j hj => by rw [h0 j hj]; rfl⟩
  rw [this]
theorem W2 {p : Nat → Bool} {n : Nat} (h0 : ∀ j, j < n → p j = false) : A1H p n = -1 := by
  unfold A1H
  have : (List.range n).find? p = none := by
    rw [List.find?_eq_none]
    intro j hj
    rw [h0 j (List.mem_range.1 hj)]; decide
  rw [this]
theorem A0v (p : Nat → Bool) (n : Nat) : (A1H p n = -1 ∧ ∀ j, j < n → p j = false) ∨ ∃ i, i < n ∧ A1H p n = (i : Int) ∧ p i = true ∧ ∀ j, j < i → p j = false := by
  cases h : (List.range n).find? p with
  | none =>
    have h1 : ∀ j, j < n → p j = false := fun j hj => by
      have := List.find?_eq_none.1 h j (List.mem_range.2 hj)
      simpa using this
    exact .inl ⟨W2 h1, h1⟩
  | some i =>
    obtain ⟨h1, h2, h3⟩ := List.find?_range_eq_some.1 h
    have h4 : ∀ j, j < i → p j = false := fun j hj => by simpa using h3 j hj
    exact .inr ⟨i, List.mem_range.1 h2, W1 (List.mem_range.1 h2) h4 h1, h1, h4⟩
structure RowT {α : Type} (sz : Nat) (φ : Mem → α → List Value → Prop) : Prop where
  mono : ∀ R R' x r, (∀ q, q ∈ R → q ∈ R') → φ R x r → φ R' x r
  len : ∀ R x r, φ R x r → r.length = sz
  one : ∀ R x r, φ R x r → ∀ c ∈ r, c.oneCell' = true
structure RwL {α : Type} (φ : Mem → α → List Value → Prop) (R : Mem) (rows : List (List Value)) (xs : List α) : Prop where
  len : rows.length = xs.length
  get : ∀ (j : Nat) (x : α), xs[j]? = some x → ∃ r, rows[j]? = some r ∧ φ R x r
section rows
variable {α : Type} {sz : Nat} {φ : Mem → α → List Value → Prop} {R R' : Mem} {rows : List (List Value)} {xs : List α} {x : α} {r : List Value}
theorem RwL.mono (hφ : RowT sz φ) (h : RwL φ R rows xs) (hR : ∀ q, q ∈ R → q ∈ R') : RwL φ R' rows xs := ⟨h.len, fun j x hj => by
  obtain ⟨r, h1, h2⟩ := h.get j x hj
  exact ⟨r, h1, hφ.mono _ _ _ _ hR h2⟩⟩
theorem RwL.nil : RwL φ R [] [] := ⟨rfl, fun j x h => by simp at h⟩
theorem RwL.of (h : RwL φ R rows xs) {j : Nat} (hr : rows[j]? = some r) : ∃ x, xs[j]? = some x ∧ φ R x r := by
  have hj : j < xs.length := by rw [← h.len]; exact (List.getElem?_eq_some_iff.1 hr).1
  obtain ⟨r', h1, h2⟩ := h.get j xs[j] (List.getElem?_eq_getElem hj)
  rw [hr] at h1
  cases h1
  exact ⟨_, List.getElem?_eq_getElem hj, h2⟩
theorem RwL.lens (hφ : RowT sz φ) (h : RwL φ R rows xs) : ∀ r ∈ rows, r.length = sz := by
  intro r hr
  obtain ⟨j, hj⟩ := List.getElem?_of_mem hr
  obtain ⟨x, _, h2⟩ := h.of hj
  exact hφ.len _ _ _ h2
theorem RwL.ones (hφ : RowT sz φ) (h : RwL φ R rows xs) : ∀ c ∈ rows.flatten, c.oneCell' = true := by
  intro c hc
  obtain ⟨r, hr, hc⟩ := List.mem_flatten.1 hc
  obtain ⟨j, hj⟩ := List.getElem?_of_mem hr
  obtain ⟨x, _, h2⟩ := h.of hj
  exact hφ.one _ _ _ h2 c hc
theorem RwL.snoc (h : RwL φ R rows xs) (hx : φ R x r) : RwL φ R (rows ++ [r]) (xs ++ [x]) := ⟨by simp [h.len], fun j y hj => by
  by_cases hlt : j < xs.length
  · rw [List.getElem?_append_left hlt] at hj
    obtain ⟨r', h1, h2⟩ := h.get j y hj
    exact ⟨r', by rw [List.getElem?_append_left (List.getElem?_eq_some_iff.1 h1).1]; exact h1, h2⟩
  · rw [List.getElem?_append_right (by omega)] at hj
    have hj0 : j = xs.length := by
      have := (List.getElem?_eq_some_iff.1 hj).1
      simp at this; omega
    subst hj0
    simp at hj
    subst hj
    exact ⟨r, by rw [List.getElem?_append_right (by rw [h.len]; omega), h.len]; simp, hx⟩⟩
theorem RwL.app {rows' : List (List Value)} {xs' : List α} (h : RwL φ R rows xs) (h' : RwL φ R rows' xs') : RwL φ R (rows ++ rows') (xs ++ xs') := ⟨by simp [h.len, h'.len], fun j y hj => by
  by_cases hlt : j < xs.length
  · rw [List.getElem?_append_left hlt] at hj
    obtain ⟨r', h1, h2⟩ := h.get j y hj
    exact ⟨r', by rw [List.getElem?_append_left (List.getElem?_eq_some_iff.1 h1).1]; exact h1, h2⟩
  · rw [List.getElem?_append_right (by omega)] at hj
    obtain ⟨r', h1, h2⟩ := h'.get _ y hj
    exact ⟨r', by rw [List.getElem?_append_right (by rw [h.len]; omega), h.len]; exact h1, h2⟩⟩
theorem RwL.cons (hx : φ R x r) (h : RwL φ R rows xs) : RwL φ R (r :: rows) (x :: xs) := ⟨by simp [h.len], fun j y hj => by
  cases j with
  | zero => simp at hj; subst hj; exact ⟨r, rfl, hx⟩
  | succ j => exact h.get j y hj⟩
theorem RwL.take (h : RwL φ R rows xs) (k : Nat) : RwL φ R (rows.take k) (xs.take k) := ⟨by simp [h.len], fun j y hj => by
  have hk : j < k := by
    rcases Nat.lt_or_ge j k with h | h
    · exact h
    · rw [List.getElem?_eq_none (by simp; omega)] at hj; cases hj
  rw [List.getElem?_take_of_lt hk] at hj ⊢
  exact h.get j y hj⟩
theorem RwL.drop (h : RwL φ R rows xs) (k : Nat) : RwL φ R (rows.drop k) (xs.drop k) := ⟨by simp [h.len], fun j y hj => by
  rw [List.getElem?_drop] at hj ⊢
  exact h.get _ y hj⟩
end rows
def A19 {α : Type} (q : α → Bool) (xs : List α) : Int := A1H (fun j => (xs[j]?.map q).getD false) xs.length
end Go.Px

namespace Go.Px
structure Gv where
  i : Nat
  d : Nat
  m : Mem
  φ : Value → Mem → Mem → Prop
def A9R (G : List Gv) (vs : Nat → Value) : Env := G.map fun g => (g.d, vs g.i)
def toGM (G : List Gv) : List Gm := G.map fun g => ⟨g.i, g.d, fun _ _ => True⟩
def curM (X : List Nat) (bs : Nat → Mem) (G : List Gv) : Mem := (G.map fun g => if g.i ∈ X then bs g.i else g.m).flatten
def doneM (X : List Nat) (bs : Nat → Mem) (G : List Gv) : Mem := (G.map fun g => if g.i ∈ X then bs g.i else []).flatten
def allM (bs : Nat → Mem) (G : List Gv) : Mem := (G.map fun g => bs g.i).flatten
theorem St.widen {P : Program} {w w' : World} {F : List Nat} {A A' Mc M' J' : Mem} {n : Nat} (h : St ⟨P, w, F, A', n⟩ Mc [] w) (hs : St ⟨P, w, F, A, n⟩ M' J' w') : St ⟨P, w, F, A', n⟩ M' J' w' := by
  refine ⟨hs.os, hs.tape, hs.output, hs.size, hs.frame, fun b o hb => ?_, hs.nodup, hs.own, hs.sepJ, h.sepA, hs.old⟩
  simp only [List.mem_append] at hb
  rcases hb with hb | hb | hb
  · exact hs.mem b o (by simp [hb])
  · exact hs.mem b o (by simp [hb])
  · have h1 := h.sepA b o hb
    have h2 := hs.frame b h1.2 h1.1
    rw [h2]
    exact h.mem b o (by simp; exact .inr hb)
theorem St.less {P : Program} {w : World} {F : List Nat} {A A' Mc : Mem} {n : Nat} (h : St ⟨P, w, F, A', n⟩ Mc [] w) (hA : ∀ x ∈ A, x ∈ A') : St ⟨P, w, F, A, n⟩ Mc [] w :=
  ⟨h.os, h.tape, h.output, h.size, h.frame, fun b o hb => h.mem b o (by simp at hb ⊢; exact hb.imp id (hA _)), h.nodup, h.own, h.sepJ, fun b o hb => h.sepA b o (hA _ hb), h.old⟩
section group
variable {C : Cx} {Q : XQ} {l : Env} {M M0 J : Mem} {os : List Oper} {K : Nat → Prop} {n0 : Nat} {nd : List Nat} {plan : List (Nat × Nat)}
def OwesM (C : Cx) (os : List Oper) (l : Env) (M0 J : Mem) (G : List Gv) (g : Gv) : Prop :=
  ∃ o, nth os g.i = some o ∧ ∀ (vs : Nat → Value) (bs : Nat → Mem) (R Rj : Mem) (w : World), (∀ x ∈ M0 ++ (J ++ C.A), x ∈ R) → (∀ x ∈ J ++ C.A, x ∈ Rj) → (∀ x ∈ Rj, x ∈ R) → (∀ g' ∈ G, anc os.toArray os.toArray.size g.i g'.i = true → g'.φ (vs g'.i) (bs g'.i) Rj) →
    A5H os (A9R G vs ++ l) o ∧ OpL ⟨C.P, w, g.m.map Prod.fst, R, C.N⟩ o (A9R G vs ++ l) g.m [] (fun l' M' J' => ∃ v, l' = (g.d, v) :: (A9R G vs ++ l) ∧ g.φ v M' (J' ++ Rj))
end group
end Go.Px

namespace Go.Px
structure Gc where
  i : Nat
  d : Nat
  s : Option Nat
  m : Mem
  φ : Value → Mem → Mem → Prop
def Gc.inp (g : Gc) (bs : Nat → Mem) : Mem := match g.s with
  | none => g.m
  | some s => bs s
theorem Gc.inp_none {g : Gc} {bs : Nat → Mem} (h : g.s = none) : g.inp bs = g.m := by unfold Gc.inp; rw [h]
theorem Gc.inp_some {g : Gc} {bs : Nat → Mem} {s : Nat} (h : g.s = some s) : g.inp bs = bs s := by unfold Gc.inp; rw [h]
def L9 (G : List Gc) (vs : Nat → Value) : Env := G.map fun g => (g.d, vs g.i)
def A7O (G : List Gc) : List Gm := G.map fun g => ⟨g.i, g.d, fun _ _ => True⟩
theorem A6n (G : List Gc) : (A7O G).map (·.i) = G.map (·.i) := by simp [A7O]
theorem A6o (G : List Gc) : (A7O G).map (·.d) = G.map (·.d) := by simp [A7O]
theorem X0 (G : List Gc) (vs : Nat → Value) : A0U (A7O G) vs = L9 G vs := by simp [A0U, L9, A7O]
theorem T1 {G : List Gc} (h : (G.map (·.i)).Nodup) {g g' : Gc} (hg : g ∈ G) (hg' : g' ∈ G) (e : g.i = g'.i) : g = g' := by
  induction G with
  | nil => cases hg
  | cons x G ih =>
    simp only [List.map_cons, List.nodup_cons] at h
    rcases List.mem_cons.1 hg with h1 | h1 <;> rcases List.mem_cons.1 hg' with h2 | h2
    · rw [h1, h2]
    · exact absurd (by rw [← h1, e]; exact List.mem_map_of_mem (f := Gc.i) h2) h.1
    · exact absurd (by rw [← h2, ← e]; exact List.mem_map_of_mem (f := Gc.i) h1) h.1
    · exact ih h.2 h1 h2
def A0y (G : List Gc) (X : List Nat) (bs : Nat → Mem) (g : Gc) : Mem :=
  if g.i ∈ X then (if ∃ g' ∈ G, g'.s = some g.i ∧ g'.i ∈ X then [] else bs g.i) else (if g.s = none then g.m else [])
def A3v (X : List Nat) (bs : Nat → Mem) (G : List Gc) : Mem := (G.map (A0y G X bs)).flatten
def A6p (l : List (Nat × Option Nat)) (i : Nat) : Bool := l.any fun p => p.2 == some i
def A40 (G : List Gc) (bs : Nat → Mem) : List Mem := (G.filter fun g => !A6p (G.map fun g => (g.i, g.s)) g.i).map fun g => bs g.i
def S1 (l : List Mem) (M : Mem) : Mem := l.foldr (· ++ ·) M
def V3 (G : List Gc) : List Mem := (G.filter fun g => g.s.isNone).map (·.m)
def A3w (ops : Array Oper) (l : List (Nat × Option Nat)) : Bool :=
  l.all fun p => match p.2 with
    | none => true
    | some s => (l.map Prod.fst).contains s && anc ops ops.size p.1 s && l.all fun q => q.2 != some s || q.1 == p.1
structure ChainOk (ops : Array Oper) (G : List Gc) : Prop where
  anc : ∀ g ∈ G, ∀ s, g.s = some s → anc ops ops.size g.i s = true
  mem : ∀ g ∈ G, ∀ s, g.s = some s → s ∈ G.map (·.i)
  one : ∀ g ∈ G, ∀ g' ∈ G, ∀ s, g.s = some s → g'.s = some s → g'.i = g.i
theorem A4j {ops : Array Oper} {G : List Gc} (h : A3w ops (G.map fun g => (g.i, g.s)) = true) : ChainOk ops G := by
  have key : ∀ g ∈ G, ∀ s, g.s = some s → s ∈ G.map (·.i) ∧ Px.anc ops ops.size g.i s = true ∧ ∀ g' ∈ G, g'.s = some s → g'.i = g.i := by
    intro g hg s hs
    have h1 := List.all_eq_true.1 h (g.i, g.s) (List.mem_map_of_mem (f := fun g : Gc => (g.i, g.s)) hg)
    simp only [hs, Bool.and_eq_true, List.contains_iff_mem, List.map_map] at h1
    obtain ⟨⟨h2, h3⟩, h4⟩ := h1
    refine ⟨by simpa [Function.comp_def] using h2, h3, fun g' hg' hs' => ?_⟩
    have h5 := List.all_eq_true.1 h4 (g'.i, g'.s) (List.mem_map_of_mem (f := fun g : Gc => (g.i, g.s)) hg')
    simp [hs'] at h5
    exact h5
  exact ⟨fun g hg s hs => (key g hg s hs).2.1, fun g hg s hs => (key g hg s hs).1, fun g hg g' hg' s hs hs' => (key g hg s hs).2.2 g' hg' hs'⟩
theorem A3x {G : List Gc} (hi : (G.map (·.i)).Nodup) {g : Gc} (hg : g ∈ G) (f : Gc → Mem) :
    ∃ R, ∀ f' : Gc → Mem, (∀ x ∈ G, x.i ≠ g.i → f' x = f x) → (G.map f').flatten.Perm (f' g ++ R) := by
  obtain ⟨s, t, rfl⟩ := List.append_of_mem hg
  have hne : ∀ x ∈ s ++ t, x.i ≠ g.i := by
    intro x hx e
    simp only [List.map_append, List.map_cons, List.nodup_append, List.nodup_cons] at hi
    rcases List.mem_append.1 hx with h | h
    · exact hi.2.2 _ (List.mem_map_of_mem (f := Gc.i) h) _ List.mem_cons_self e
    · exact hi.2.1.1 (e ▸ List.mem_map_of_mem (f := Gc.i) h)
  refine ⟨(s.map f).flatten ++ (t.map f).flatten, fun f' h => ?_⟩
  have es : s.map f' = s.map f := List.map_congr_left fun x hx => h x (by simp [hx]) (hne x (List.mem_append_left _ hx))
  have et : t.map f' = t.map f := List.map_congr_left fun x hx => h x (by simp [hx]) (hne x (List.mem_append_right _ hx))
  simp only [List.map_append, List.map_cons, List.flatten_append, List.flatten_cons, es, et]
  exact List.perm_append_comm_assoc _ _ _
theorem A1a {ops : Array Oper} {X : List Nat} {bs : Nat → Mem} {G : List Gc} {g : Gc} (hi : (G.map (·.i)).Nodup) (hc : ChainOk ops G) (hg : g ∈ G) (hX : g.i ∉ X) (hcl : ∀ g' ∈ G, g'.i ∈ X → ∀ s, g'.s = some s → s ∈ X) (hsx : ∀ s, g.s = some s → s ∈ X) :
    ∃ R, (A3v X bs G).Perm (g.inp bs ++ R) ∧ ∀ M', (M' ++ R).Perm (A3v (X ++ [g.i]) (fun k => if k = g.i then M' else bs k) G) := by
  have hmem : ∀ x : Gc, x.i ≠ g.i → (x.i ∈ X ++ [g.i] ↔ x.i ∈ X) := fun x h => by simp [h]
  have hself : ∀ M' : Mem, A0y G (X ++ [g.i]) (fun k => if k = g.i then M' else bs k) g = M' := by
    intro M'
    have hno : ¬ ∃ g' ∈ G, g'.s = some g.i ∧ g'.i ∈ X ++ [g.i] := by
      rintro ⟨g', hg', hs', hx'⟩
      rcases List.mem_append.1 hx' with h | h
      · exact hX (hcl g' hg' h _ hs')
      · have h2 : g' = g := T1 hi hg' hg (by simpa using h)
        subst h2
        exact hX (hsx _ hs')
    unfold A0y
    rw [if_pos (by simp), if_neg hno]
    exact if_pos rfl
  cases hs : g.s with
  | none =>
    obtain ⟨R, hR⟩ := A3x hi hg (A0y G X bs)
    refine ⟨R, ?_, fun M' => ?_⟩
    · have h1 := hR (A0y G X bs) fun _ _ _ => rfl
      have h2 : A0y G X bs g = g.inp bs := by unfold A0y; rw [if_neg hX, if_pos hs, Gc.inp_none hs]
      rw [h2] at h1
      exact h1
    · have h1 := hR (A0y G (X ++ [g.i]) fun k => if k = g.i then M' else bs k) fun x hx hne => by
        unfold A0y
        by_cases hxX : x.i ∈ X
        · rw [if_pos ((hmem x hne).2 hxX), if_pos hxX]
          have hiff : (∃ g' ∈ G, g'.s = some x.i ∧ g'.i ∈ X ++ [g.i]) ↔ (∃ g' ∈ G, g'.s = some x.i ∧ g'.i ∈ X) := by
            constructor
            · rintro ⟨g', h1, h2, h3⟩
              rcases List.mem_append.1 h3 with h4 | h4
              · exact ⟨g', h1, h2, h4⟩
              · have h5 : g' = g := T1 hi h1 hg (by simpa using h4)
                subst h5; rw [hs] at h2; cases h2
            · rintro ⟨g', h1, h2, h3⟩; exact ⟨g', h1, h2, List.mem_append_left _ h3⟩
          simp only [hiff, if_neg hne]
        · rw [if_neg (fun h => hxX ((hmem x hne).1 h)), if_neg hxX]
      rw [hself M'] at h1
      exact h1.symm
  | some s =>
    have hsX := hsx s hs
    obtain ⟨gs, hgs, rfl⟩ := List.mem_map.1 (hc.mem g hg s hs)
    have hne0 : gs.i ≠ g.i := fun h => hX (h ▸ hsX)
    obtain ⟨R1, hR1⟩ := A3x hi hgs (A0y G X bs)
    have h1 := hR1 (A0y G X bs) fun _ _ _ => rfl
    have e1 : A0y G X bs gs = bs gs.i := by
      unfold A0y
      rw [if_pos hsX, if_neg]
      rintro ⟨g', hg', hs', hx'⟩
      exact hX (hc.one g hg g' hg' _ hs hs' ▸ hx')
    rw [e1] at h1
    have h2 := hR1 (fun x => if x.i = gs.i then [] else A0y G X bs x) fun x _ hne => if_neg hne
    simp only [if_true, List.nil_append] at h2
    obtain ⟨R2, hR2⟩ := A3x hi hg (fun x => if x.i = gs.i then [] else A0y G X bs x)
    have h3 := hR2 (fun x => if x.i = gs.i then [] else A0y G X bs x) fun _ _ _ => rfl
    have e3 : (if g.i = gs.i then [] else A0y G X bs g) = ([] : Mem) := by
      rw [if_neg (Ne.symm hne0)]
      unfold A0y
      rw [if_neg hX, if_neg (by rw [hs]; exact fun h => by cases h)]
    simp only [e3, List.nil_append] at h3
    refine ⟨R2, ?_, fun M' => ?_⟩
    · rw [Gc.inp_some hs]
      exact h1.trans (List.Perm.append_left _ (h2.symm.trans h3))
    · have h4 := hR2 (A0y G (X ++ [g.i]) fun k => if k = g.i then M' else bs k) fun x hx hne => by
        by_cases hxs : x.i = gs.i
        · rw [if_pos hxs]
          unfold A0y
          rw [if_pos ((hmem x hne).2 (hxs ▸ hsX)), if_pos ⟨g, hg, by rw [hs, hxs], by simp⟩]
        · rw [if_neg hxs]
          unfold A0y
          by_cases hxX : x.i ∈ X
          · rw [if_pos ((hmem x hne).2 hxX), if_pos hxX]
            have hiff : (∃ g' ∈ G, g'.s = some x.i ∧ g'.i ∈ X ++ [g.i]) ↔ (∃ g' ∈ G, g'.s = some x.i ∧ g'.i ∈ X) := by
              constructor
              · rintro ⟨g', h1, h2, h3⟩
                rcases List.mem_append.1 h3 with h4 | h4
                · exact ⟨g', h1, h2, h4⟩
                · have h5 : g' = g := T1 hi h1 hg (by simpa using h4)
                  subst h5; rw [hs] at h2; exact absurd (Option.some.inj h2).symm hxs
              · rintro ⟨g', h1, h2, h3⟩; exact ⟨g', h1, h2, List.mem_append_left _ h3⟩
            simp only [hiff, if_neg hne]
          · rw [if_neg (fun h => hxX ((hmem x hne).1 h)), if_neg hxX]
      rw [hself M'] at h4
      exact h4.symm
theorem A4k {bs : Nat → Mem} {G : List Gc} : A3v [] bs G = (V3 G).flatten := by
  have : ∀ G' : List Gc, (G'.map (A0y G [] bs)).flatten = (V3 G').flatten := by
    intro G'
    induction G' with
    | nil => rfl
    | cons g G' ih =>
      rw [List.map_cons, List.flatten_cons, ih]
      have e : A0y G [] bs g = if g.s = none then g.m else [] := by unfold A0y; rw [if_neg (by simp)]
      rw [e]
      cases hs : g.s with
      | none => simp [V3, hs]
      | some s => simp [V3, hs]
  exact this G
theorem A4l {X : List Nat} {bs : Nat → Mem} {G : List Gc} (h : ∀ g ∈ G, g.i ∈ X) : A3v X bs G = (A40 G bs).flatten := by
  have he : ∀ g ∈ G, A0y G X bs g = if A6p (G.map fun g => (g.i, g.s)) g.i = true then [] else bs g.i := by
    intro g hg
    unfold A0y
    rw [if_pos (h g hg)]
    have : (∃ g' ∈ G, g'.s = some g.i ∧ g'.i ∈ X) ↔ A6p (G.map fun g => (g.i, g.s)) g.i = true := by
      unfold A6p
      simp only [List.any_eq_true, List.mem_map]
      constructor
      · rintro ⟨g', h1, h2, _⟩; exact ⟨_, ⟨g', h1, rfl⟩, by simp [h2]⟩
      · rintro ⟨_, ⟨g', h1, rfl⟩, h2⟩; exact ⟨g', h1, by simpa using h2, h g' h1⟩
    simp only [this]
  unfold A3v A40
  rw [List.map_congr_left he]
  have : ∀ (G' : List Gc) (p : Gc → Bool), (G'.map fun g => if p g = true then ([] : Mem) else bs g.i).flatten = ((G'.filter fun g => !p g).map fun g => bs g.i).flatten := by
    intro G' p
    induction G' with
    | nil => rfl
    | cons g G' ih =>
      rw [List.map_cons, List.flatten_cons, ih]
      cases hp : p g <;> simp [hp]
  exact this G fun g => A6p (G.map fun g => (g.i, g.s)) g.i
theorem A0M (l : List Mem) (M : Mem) : S1 l M = l.flatten ++ M := by
  induction l with
  | nil => rfl
  | cons a l ih => show a ++ S1 l M = _; rw [ih, List.flatten_cons, List.append_assoc]
section group
variable {C : Cx} {Q : XQ} {l : Env} {M M0 J : Mem} {os : List Oper} {K : Nat → Prop} {n0 : Nat} {nd : List Nat} {plan : List (Nat × Nat)}
def A6q (C : Cx) (os : List Oper) (l : Env) (M0 J : Mem) (G : List Gc) (g : Gc) : Prop :=
  ∃ o, nth os g.i = some o ∧ ∀ (vs : Nat → Value) (bs : Nat → Mem) (R Rj : Mem) (w : World), (∀ x ∈ M0 ++ (J ++ C.A), x ∈ R) → (∀ x ∈ J ++ C.A, x ∈ Rj) → (∀ x ∈ Rj, x ∈ R) → (∀ g' ∈ G, anc os.toArray os.toArray.size g.i g'.i = true → g'.φ (vs g'.i) (bs g'.i) Rj) →
    A5H os (L9 G vs ++ l) o ∧ OpL ⟨C.P, w, (g.inp bs).map Prod.fst, R, C.N⟩ o (L9 G vs ++ l) (g.inp bs) [] (fun l' M' J' => ∃ v, l' = (g.d, v) :: (L9 G vs ++ l) ∧ g.φ v M' (J' ++ Rj))
theorem A6r {G : List Gc} (hmono : ∀ g ∈ G, A00 g.φ) (hd : (G.map (·.d)).Nodup) (hi : (G.map (·.i)).Nodup) (hc : ChainOk os.toArray G) (hKn : ∀ b, n0 ≤ b → K b) (hK : ∀ m ∈ V3 G, ∀ x ∈ m, K x.1) (hob : ∀ g ∈ G, A6q C os l M0 J G g) {A B : Array Bool} (hok : GOk os.toArray A (G.map (·.i)) B)
    (hfin : ∀ (vs : Nat → Value) (bs : Nat → Mem) Jn a w, (∀ g ∈ G, g.φ (vs g.i) (bs g.i) ((Jn ++ J) ++ C.A)) → (∀ g ∈ G, ∀ x ∈ bs g.i, K x.1) → Ag C.N (L9 G vs ++ l) a → St C ((A40 G bs).flatten ++ M0) (Jn ++ J) w → n0 ≤ w.heap.size → S6 C.P os.toArray (N1 (A3c C Q)) (Sk K) nd.contains plan.length B a w) :
    ∀ (n : Nat) (X : List Nat) (vs : Nat → Value) (bs : Nat → Mem) (Jn : Mem) (a : Act) (w : World), X.Nodup → (∀ i ∈ X, i ∈ G.map (·.i)) → n + X.length = G.length → K6 os.toArray (mark A X) → (∀ g ∈ G, g.i ∈ X → ∀ s, g.s = some s → s ∈ X) →
      (∀ g ∈ G, g.i ∈ X → g.φ (vs g.i) (bs g.i) ((Jn ++ J) ++ C.A)) → (∀ g ∈ G, g.i ∈ X → ∀ x ∈ bs g.i, K x.1) → Ag C.N (L9 G vs ++ l) a → St C (A3v X bs G ++ M0) (Jn ++ J) w → n0 ≤ w.heap.size →
      S6 C.P os.toArray (N1 (A3c C Q)) (Sk K) nd.contains (n + plan.length) (mark A X) a w := by
  intro n
  induction n with
  | zero =>
    intro X vs bs Jn a w hnd hX hlen hcl hXs hφ hN ha hw hn
    have hall : ∀ i, i ∈ X ↔ i ∈ G.map (·.i) := fun i => ⟨hX i, Z9 hnd hX (by simp; omega) i⟩
    have hin : ∀ g ∈ G, g.i ∈ X := fun g hg => (hall _).2 (List.mem_map_of_mem (f := Gc.i) hg)
    have hcur := A4l (bs := bs) hin
    rw [hcur] at hw
    rw [Nat.zero_add, A1W hall, ← hok.mark]
    exact hfin vs bs Jn a w (fun g hg => hφ g hg (hin g hg)) (fun g hg => hN g hg (hin g hg)) ha hw hn
  | succ n ih =>
    intro X vs bs Jn a w hnd hX hlen hcl hXs hφ hN ha hw hn
    have hmiss : ∃ k ∈ G.map (·.i), k ∉ X := by
      apply Classical.byContradiction
      intro hno
      have hs : ∀ k ∈ G.map (·.i), k ∈ X := fun k hk => Classical.byContradiction fun h => hno ⟨k, hk, h⟩
      have := Z8 hi hs
      simp at this; omega
    obtain ⟨k, hkG, hkX⟩ := hmiss
    have hun : ∀ i ∈ G.map (·.i), A.getD i true = false := by
      have : ∀ {is A B}, GOk os.toArray A is B → ∀ i ∈ is, A.getD i true = false := by
        intro is A B h
        induction h with
        | nil => intro i hi; cases hi
        | @cons A B i r hr ho h ih =>
          intro k hk
          rcases List.mem_cons.1 hk with rfl | hk
          · exact I0 hr
          · have h2 := ih k hk
            by_cases e : i = k
            · subst e; exact I0 hr
            · rwa [getD_set_ne true e] at h2
      exact this hok
    have hkun : (mark A X).getD k true = false := G2.2 ⟨hun k hkG, fun h => hkX h.1⟩
    rw [show n + 1 + plan.length = (n + plan.length) + 1 by omega]
    refine ⟨fun h0 => ?_, fun i hir => ?_⟩
    · obtain ⟨i, hir⟩ := hok.first (V4 A X) (fun j hj => V5 hj) hkG hkun
      rw [h0] at hir; cases hir
    · have hiG : i ∈ G.map (·.i) := by
        apply Classical.byContradiction
        intro hno
        have h1 := G2.1 (I0 hir)
        have h2 := hok.outer k hkG i (A0G hir) h1.1 hno
        exact N0 hkun (K7 hcl h2 hir)
      obtain ⟨g, hg, rfl⟩ := List.mem_map.1 hiG
      have hiX : g.i ∉ X := fun h => (G2.1 (I0 hir)).2 ⟨h, Q1 (hun _ hiG)⟩
      have hin : ∀ j ∈ G.map (·.i), anc os.toArray os.toArray.size g.i j = true → j ∈ X := fun j hj hanc => by
        have h3 := K7 hcl hanc hir
        rcases R8 h3 with h4 | h4
        · exact (N0 (hun _ hj) h4).elim
        · exact h4
      have hsx : ∀ s, g.s = some s → s ∈ X := fun s hs => hin s (hc.mem g hg s hs) (hc.anc g hg s hs)
      have hKi : ∀ x ∈ g.inp bs, K x.1 := by
        intro x hx
        cases hs : g.s with
        | none =>
          rw [Gc.inp_none hs] at hx
          exact hK g.m (List.mem_map.2 ⟨g, List.mem_filter.2 ⟨hg, by simp [hs]⟩, rfl⟩) x hx
        | some s =>
          rw [Gc.inp_some hs] at hx
          obtain ⟨gs, hgs, rfl⟩ := List.mem_map.1 (hc.mem g hg s hs)
          exact hN gs hgs (hsx _ hs) x hx
      obtain ⟨o, hget, howe⟩ := hob g hg
      have hi' : os.toArray[g.i]? = some o := by rw [P9] at hget; simpa using hget
      obtain ⟨hask, hop⟩ := howe vs bs (M0 ++ ((Jn ++ J) ++ C.A)) ((Jn ++ J) ++ C.A) w (fun x hx => by simp only [List.mem_append] at hx ⊢; rcases hx with h | h | h <;> simp [h]) (fun x hx => by simp only [List.mem_append] at hx ⊢; rcases hx with h | h <;> simp [h]) (fun x hx => List.mem_append_right _ hx) (fun g' hg' hanc => hφ g' hg' (hin _ (List.mem_map_of_mem (f := Gc.i) hg') hanc))
      unfold wpOp
      simp only [hi']
      rw [if_pos (hask.wanted ha)]
      obtain ⟨R0, hp0, hq0⟩ := A1a (bs := bs) hi hc hg hiX hXs hsx
      have hpc : (A3v X bs G ++ M0).Perm (g.inp bs ++ (R0 ++ M0)) := by
        rw [← List.append_assoc]; exact List.Perm.append_right _ hp0
      have hcal := hw.callee hpc
      have hcal2 := St.less (A := M0 ++ ((Jn ++ J) ++ C.A)) hcal fun x hx => by
        simp only [List.mem_append] at hx ⊢
        rcases hx with h | h
        · exact .inl (.inr h)
        · exact .inr h
      refine .inl (Oper.wp_mono ?_ (hop _ a w ha hcal2.cx))
      rintro a' w' ⟨l', M', J', ha', hs', v, rfl, hφv⟩
      have hsz : w.heap.size ≤ w'.heap.size := hs'.size
      have hs2 := St.widen hcal.cx hs'
      have hb := hw.back hpc hs2.cx
      let bs' : Nat → Mem := fun k => if k = g.i then M' else bs k
      have hperm : (M' ++ (R0 ++ M0)).Perm (A3v (X ++ [g.i]) bs' G ++ M0) := by
        rw [← List.append_assoc]
        exact List.Perm.append_right _ (hq0 M')
      have hfr2 : St C (A3v (X ++ [g.i]) bs' G ++ M0) ((J' ++ Jn) ++ J) w' := (hb.perm hperm).drop (List.Sublist.refl _) fun x hx => by
        simp only [List.mem_append] at hx ⊢
        rcases hx with (h | h) | h <;> simp [h]
      refine ⟨fun _ b hb' hnk => hs'.frame b hb' fun hm => ?_, ?_⟩
      · obtain ⟨x, hx, e⟩ := List.mem_map.1 hm
        exact hnk (e ▸ hKi x hx)
      rw [← L6]
      have henv := A0a (N := C.N) (G := A7O G) (l := l) (vs := vs) (g := ⟨g.i, g.d, fun _ _ => True⟩) (a := a') (v := v) (List.mem_map_of_mem (f := fun g : Gc => (⟨g.i, g.d, fun _ _ => True⟩ : Gm)) hg) (by rw [A6o]; exact hd) (by rw [A6n]; exact hi) (by rw [X0]; exact ha')
      rw [X0] at henv
      refine ih (X ++ [g.i]) (fun k => if k = g.i then v else vs k) bs' (J' ++ Jn) a' w' ?_ ?_ (by simp; omega) ?_ ?_ ?_ ?_ henv hfr2 (Nat.le_trans hn hsz)
      · rw [List.nodup_append]; exact ⟨hnd, by simp, fun x hx y hy e => hiX (by simp at hy; subst hy; exact e ▸ hx)⟩
      · intro j hj
        rcases List.mem_append.1 hj with hj | hj
        · exact hX j hj
        · simp at hj; subst hj; exact hiG
      · rw [L6]; exact G9 hcl hir
      · intro g' hg' hm s hs
        rcases List.mem_append.1 hm with h | h
        · exact List.mem_append_left _ (hXs g' hg' h s hs)
        · have h2 : g' = g := T1 hi hg' hg (by simpa using h)
          subst h2
          exact List.mem_append_left _ (hsx s hs)
      · intro g' hg' hm
        by_cases e : g'.i = g.i
        · have : g' = g := T1 hi hg' hg e
          subst this
          simp only [if_true, bs']
          exact hmono g' hg' _ _ _ _ (fun x hx => by simp only [List.mem_append] at hx ⊢; rcases hx with h | (h | h) | h <;> simp [h]) hφv
        · simp only [e, if_false, bs']
          have hm' : g'.i ∈ X := by simpa [e] using hm
          exact hmono g' hg' _ _ _ _ (fun x hx => by simp only [List.mem_append] at hx ⊢; rcases hx with (h | h) | h <;> simp [h]) (hφ g' hg' hm')
      · intro g' hg' hk x hx
        by_cases e : g'.i = g.i
        · have : g' = g := T1 hi hg' hg e
          subst this
          simp only [if_true, bs'] at hx
          rcases hs'.own x.1 x.2 (by simp [hx]) with h6 | h6
          · obtain ⟨y, hy, e6⟩ := List.mem_map.1 h6
            exact e6 ▸ hKi y hy
          · exact hKn _ (Nat.le_trans hn h6)
        · simp only [e, if_false, bs'] at hx
          have hk' : g'.i ∈ X := by simpa [e] using hk
          exact hN g' hg' hk' x hx
theorem S2 (G : List Gc) (M0 : Mem) (Lf : (Nat → Mem) → List Mem) (hKn : ∀ b, n0 ≤ b → K b) (hM : M.Perm (S1 (V3 G) M0)) (hK : ∀ m ∈ V3 G, ∀ x ∈ m, K x.1) (hck : A3w os.toArray (G.map fun g => (g.i, g.s)) = true) (hLf : ∀ bs, A40 G bs = Lf bs)
    (hmono : ∀ g ∈ G, A00 g.φ) (hd : (G.map (·.d)).Nodup) (hi : (G.map (·.i)).Nodup) (hdN : ∀ g ∈ G, g.d < C.N) (hob : ∀ g ∈ G, A6q C os l M0 J G g)
    (h : ∀ (vs : Nat → Value) (bs : Nat → Mem) Jn, (∀ g ∈ G, g.φ (vs g.i) (bs g.i) ((Jn ++ J) ++ C.A)) → (∀ g ∈ G, ∀ x ∈ bs g.i, K x.1) → XK C os Q K n0 nd plan (L9 G vs ++ l) (S1 (Lf bs) M0) (Jn ++ J)) : XK C os Q K n0 nd (enc (G.map (·.i)) ++ plan) l M J := by
  refine Y2 hM ?_
  rw [A0M]
  intro listed hcl hp a w ha hw hn
  obtain ⟨B, hok, hp2⟩ := A3U hp
  have hBcl : K6 os.toArray B := by
    have : ∀ {A is B}, GOk os.toArray A is B → K6 os.toArray A → K6 os.toArray B := by
      intro A is B h
      induction h with
      | nil => exact id
      | cons hr _ _ ih => exact fun hc => ih (G9 hc hr)
    exact this hok hcl
  have hlen : (enc (G.map (·.i)) ++ plan).length = G.length + plan.length := by
    have : ∀ is : List Nat, (enc is).length = is.length := by
      intro is
      induction is with
      | nil => rfl
      | cons i r ih => cases r with
        | nil => rfl
        | cons j r => simp only [enc, List.length_cons] at ih ⊢; rw [ih]
    simp [this]
  rw [hlen]
  let vs : Nat → Value := fun k => match G.find? (fun g => g.i == k) with
    | some g => (a.tmps[g.d]?).getD undef
    | none => undef
  have hag : Ag C.N (L9 G vs ++ l) a := by
    refine ⟨ha.defers, ha.size, ?_⟩
    intro k u hk
    have key : ∀ G' : List Gc, (∀ g ∈ G', g ∈ G) → lk (L9 G' vs ++ l) k = some u → a.tmps[k]? = some u := by
      intro G'
      induction G' with
      | nil => intro _ h; exact ha.slot k u h
      | cons g G' ih =>
        intro hs h
        simp only [L9, List.map_cons, List.cons_append, lk] at h
        by_cases e : g.d = k
        · subst e
          simp at h
          have hf : G.find? (fun x => x.i == g.i) = some g := by
            have hgG := hs g List.mem_cons_self
            cases hq : G.find? (fun x => x.i == g.i) with
            | none => have := List.find?_eq_none.1 hq g hgG; simp at this
            | some x =>
              have h1 := List.find?_some hq
              have h2 := List.mem_of_find?_eq_some hq
              rw [T1 hi h2 hgG (by simpa using h1)]
          have hlt : g.d < a.tmps.size := by rw [ha.size]; exact hdN g (hs g List.mem_cons_self)
          rw [← h]
          show a.tmps[g.d]? = some (vs g.i)
          simp only [vs, hf, Array.getElem?_eq_getElem hlt, Option.getD_some]
        · simp only [R4 e, cond_false] at h
          exact ih (fun x hx => hs x (List.mem_cons_of_mem _ hx)) h
    exact key G (fun _ h => h) hk
  refine A6r (n0 := n0) (K := K) hmono hd hi (A4j hck) hKn hK hob hok (fun vs bs Jn a w hφ hN ha hw hn => h vs bs Jn hφ hN B hBcl hp2 a w ha (by rw [A0M, ← hLf]; exact hw) hn) G.length [] vs (fun _ => []) [] a w .nil (fun _ h => by cases h) (by simp) hcl (fun _ _ h => by cases h) (fun _ _ h => by cases h) (fun _ _ h => by cases h) hag (by rw [A4k]; exact hw) hn
end group
end Go.Px

namespace Go.Proofs.YtoameenjkiaefaaGreatDoor
open Go.Px
def H5 (s : Ps) (w : LN) : Ps := if s.real then s else A8V s w
noncomputable def I9 (s : Ps) (w : LN) : LN := if s.real then A4a (Z3 w 32) else A9P s w
noncomputable def B2G (s : Ps) (w : LN) : LN := if s.real then pubB (Z3 w 32) else A9P s w
def L4 (s : Ps) (w u : LN) : Ps := if s.real then s else B2C s w u
noncomputable def A1q (s : Ps) (w u : LN) : LN := if s.real then x25 (Z3 w 32) (Z3 u 32) else B2D s w u
def A9S (s : Ps) (w m : LN) : Ps := if s.real then s else B2E s w fun x => A7b x m
noncomputable def B3t (s : Ps) (w m : LN) : LN := if s.real then B3q (Z3 w 32) m else Z3 (B2F s w fun x => A7b x m) 64
theorem A6s (pb : Nat × Nat) (s : Ps) (v : Value) (w : LN) (MP A : Mem) (hP : Prm pb s MP) (hn : s.ts.length < 1048576) (hv : By A v w) (hG : Glb A) : FnX Tryz.prog 92 [.pointer (some ⟨pb.1, 0, none⟩), v] MP A fun q M J => Prm pb (H5 s w) M ∧ By J q (B2G s w) := by
 obtain ⟨sv, bt, bm, B, MT, rfl, hby, hT⟩ := hP.ex
 haveI := hv.cel
 haveI := hby.cel
 have hvl := hv.len
 refine FnX.enterZ (N := 18) Tryz.func92 rfl rfl rfl fun w_ => ?_
 refine A8 (D0 0 1) (A1 (as_ (A0 (D0 0 1) (A7 (A1 (mv_ ?_))))))
 refine A2 (C9 (e := 118) rfl rfl kR) rfl ?_
 refine A0 (E7 0 1 6) ?_
 refine B8 rfl ?_
 refine A5 (nx (D0 0 1) (A7 (A1 (mv_ ?_))))
 refine A2 (D5 rfl) rfl ?_
 refine A2 (qf_ 0 0) rfl ?_
 refine A2 ql_ rfl ?_
 refine A2 (F6 false rfl rfl (eqF qD)) rfl ?_
 refine A0 (E7 0 1 11) ?_
 refine B8 rfl ?_
 refine A5 (nx (D0 0 1) (A1 (mv_ (mv_ ?_))))
 refine A4 rfl (A9 (Mc := (pb.1, blk [.int .u8 1, sv, .int .i64 (((s.n : Nat) : Int)), (vP bt)] 118) :: (B ++ MT)) (R := _) (aS rfl (aS rfl a0)) kR qP (A4h pb s rfl v w _ _ ⟨sv, bt, bm, B, MT, rfl, hby, hT⟩ hn (hv.mono qS) hG.up) rfl ?_)
 rintro v17 M17 J17 ⟨hP17, h17⟩
 haveI := h17.cel
 refine as_ (A0 (C8 4) (A6 ?_))
 exact ⟨_, M17, [], F4 rfl rfl, Fit.none (Fit.last qP), hP17, h17.mono qS⟩
theorem X1 (pb : Nat × Nat) (s : Ps) (v : Value) (w : LN) (MP A : Mem) (hP : Prm pb s MP) (hn : s.ts.length < 1048576) (hv : By A v w) (hG : Glb A) : FnX Tryz.prog 52 [.pointer (some ⟨pb.1, 0, none⟩), v] MP A fun q M J => Prm pb (H5 s w) M ∧ By J q (I9 s w) := A4h pb s rfl v w MP A hP hn hv hG
theorem A1b (pb : Nat × Nat) (s : Ps) (v v2 : Value) (w u : LN) (MP A : Mem) (hP : Prm pb s MP) (hn : s.ts.length + 1 < 1048576) (hv : By A v w) (hu : By A v2 u) (hG : Glb A) : FnX Tryz.prog 111 [.pointer (some ⟨pb.1, 0, none⟩), v, v2] MP A fun q M J => Prm pb (L4 s w u) M ∧ By J q (A1q s w u) := A7N pb s rfl v v2 w u MP A hP hn hv hu hG
theorem A9T (pb : Nat × Nat) (s : Ps) (v v2 : Value) (w m : LN) (MP A : Mem) (hP : Prm pb s MP) (hn : s.ts.length < 1048576) (hv : By A v w) (hm : By A v2 m) (hG : Glb A) : FnX Tryz.prog 100 [.pointer (some ⟨pb.1, 0, none⟩), v, v2] MP A fun q M J => Prm pb (A9S s w m) M ∧ By J q (B3t s w m) := by
  obtain ⟨bt, bm, h⟩ := hP.t
  exact (A6m pb bt bm s rfl v v2 w m MP A h hn hv hm hG).mono fun q M J ⟨h1, h2⟩ => ⟨h1.p, h2⟩

structure Ext (s s' : Ps) : Prop where
  p : Pext s s'
  seed : s'.seed = s.seed
  n : s.n ≤ s'.n
theorem Ext.refl (s : Ps) : Ext s s := ⟨Pext.refl s, rfl, Nat.le_refl _⟩
theorem Ext.trans {a b c : Ps} (h : Ext a b) (h' : Ext b c) : Ext a c := ⟨h.p.trans h'.p, h'.seed.trans h.seed, Nat.le_trans h.n h'.n⟩
theorem A6t (ts : List Tm) (t : Tm) : ∃ l, add ts t = ts ++ l := by
  unfold add
  split
  · exact ⟨[], by simp⟩
  · exact ⟨_, rfl⟩
theorem A1c (ts : List Tm) (w : LN) : ∃ l, rdT ts w = ts ++ l := by
  cases hp : plc w ts.length with
  | some j => exact ⟨[], by rw [(P3 hp).1]; simp⟩
  | none => rw [(Q7 hp).1]; exact A6t _ _
theorem A7P (ts : List Tm) (w : LN) (t : Tm) : ∃ l, add (rdT ts w) t = ts ++ l := by
  obtain ⟨l1, e1⟩ := A1c ts w
  obtain ⟨l2, e2⟩ := A6t (rdT ts w) t
  exact ⟨l1 ++ l2, by rw [e2, e1, List.append_assoc]⟩
theorem A8W (s : Ps) (w : LN) : Ext s (H5 s w) := by
  unfold H5
  split
  · exact Ext.refl s
  · exact ⟨⟨rfl, A7P _ _ _⟩, rfl, Nat.le_refl _⟩
theorem Tok.pre {a l : List Tm} (h : Tok (a ++ l)) : Tok a := ⟨fun t ht => h.tmo t (List.mem_append_left _ ht), (List.nodup_append.1 h.nd).1⟩
theorem Ext.tok {s s' : Ps} (h : Ext s s') (ht : Tok s'.ts) : Tok s.ts := by
  obtain ⟨l, e⟩ := h.p.ts
  rw [e] at ht
  exact ht.pre
theorem B3u {s : Ps} {i : Nat} (hi : i < s.ts.length) (hl : s.ts.length ≤ 1048576) : A8V s (bts ((i : Nat) : Int)) = { s with ts := add s.ts (A4g ((i : Nat) : Int)) } ∧ A9P s (bts ((i : Nat) : Int)) = bts ((at_ s.ts (A4g ((i : Nat) : Int)) : Nat) : Int) := by
  obtain ⟨h1, h2⟩ := A9O hi hl
  unfold A8V A9P
  rw [h1, h2]
  exact ⟨rfl, rfl⟩
theorem A9U {i : Nat} (h : i ≤ 1048576) : i64 ((i : Nat) : Int) := by unfold i64; omega
def B1H (s : Ps) (w p : LN) : Prop := ∃ i j : Nat, i < s.ts.length ∧ w = bts ((i : Nat) : Int) ∧ s.ts[j]? = some (A4g ((i : Nat) : Int)) ∧ p = bts ((j : Nat) : Int)
def A2a (s : Ps) (w p : LN) : Prop := if s.real then p = A4a (Z3 w 32) else B1H s w p
def B0Y (s : Ps) (w p : LN) : Prop := if s.real then p = pubB (Z3 w 32) else B1H s w p
def A2M (s : Ps) (w m g : LN) : Prop := if s.real then g = B3q (Z3 w 32) m else ∃ i j : Nat, i < s.ts.length ∧ w = bts ((i : Nat) : Int) ∧ s.ts[j]? = some (A7b ((i : Nat) : Int) m) ∧ g = Z3 (bts ((j : Nat) : Int)) 64
theorem B1H.ext {s s' : Ps} {w p : LN} (h : B1H s w p) (he : Pext s s') : B1H s' w p := by
  obtain ⟨l, e⟩ := he.ts
  obtain ⟨i, j, h1, h2, h3, h4⟩ := h
  exact ⟨i, j, by rw [e, List.length_append]; omega, h2, by rw [e]; exact A1G h3, h4⟩
theorem A2a.ext {s s' : Ps} {w p : LN} (h : A2a s w p) (he : Pext s s') : A2a s' w p := by
  unfold A2a at *
  rw [he.real]
  split
  · rename_i hr; rwa [if_pos hr] at h
  · rename_i hr; rw [if_neg hr] at h; exact h.ext he
theorem B0Y.ext {s s' : Ps} {w p : LN} (h : B0Y s w p) (he : Pext s s') : B0Y s' w p := by
  unfold B0Y at *
  rw [he.real]
  split
  · rename_i hr; rwa [if_pos hr] at h
  · rename_i hr; rw [if_neg hr] at h; exact h.ext he
theorem A2M.ext {s s' : Ps} {w m g : LN} (h : A2M s w m g) (he : Pext s s') : A2M s' w m g := by
  unfold A2M at *
  rw [he.real]
  split
  · rename_i hr; rwa [if_pos hr] at h
  · rename_i hr
    rw [if_neg hr] at h
    obtain ⟨l, e⟩ := he.ts
    obtain ⟨i, j, h1, h2, h3, h4⟩ := h
    exact ⟨i, j, by rw [e, List.length_append]; omega, h2, by rw [e]; exact A1G h3, h4⟩
theorem A9V {s : Ps} {w : LN} (h : A9N s.ts w) (ht : Tok s.ts) (hl : s.ts.length ≤ 1048576) : B1H (A8V s w) w (A9P s w) ∧ Tok (A8V s w).ts := by
  obtain ⟨i, hi, rfl⟩ := h
  obtain ⟨e1, e2⟩ := B3u hi hl
  obtain ⟨l, g1, g2, g3, g4⟩ := A6h (A6k (A9U (show i ≤ 1048576 by omega))) ht
  rw [e1, e2]
  exact ⟨⟨i, _, by show i < (add s.ts _).length; rw [g1, List.length_append]; omega, rfl, g3, rfl⟩, g4⟩
theorem A8X {s : Ps} {w : LN} (h : Kok s w) (ht : Tok s.ts) (hl : s.ts.length ≤ 1048576) : A2a (H5 s w) w (I9 s w) ∧ B0Y (H5 s w) w (B2G s w) ∧ Tok (H5 s w).ts := by
  unfold A2a B0Y H5 I9 B2G
  cases hr : s.real with
  | true => simp [hr, ht]
  | false =>
    obtain ⟨h1, h2⟩ := A9V (h hr) ht hl
    have h3 : (A8V s w).real = false := hr
    simp only [Bool.false_eq_true, if_false, h3]
    exact ⟨h1, h1, h2⟩
theorem A2M.t {s : Ps} (h : s.real = true) {w m g : LN} : A2M s w m g ↔ g = B3q (Z3 w 32) m := by unfold A2M; rw [if_pos h]
theorem A2M.f {s : Ps} (h : s.real = false) {w m g : LN} : A2M s w m g ↔ ∃ i j : Nat, i < s.ts.length ∧ w = bts ((i : Nat) : Int) ∧ s.ts[j]? = some (A7b ((i : Nat) : Int) m) ∧ g = Z3 (bts ((j : Nat) : Int)) 64 := by unfold A2M; rw [if_neg (by rw [h]; decide)]
def A7c (ts : List Tm) (p m g : LN) : Bool := decide (g.length = 64) && match plc g ts.length, plc p ts.length with
  | some i, some k => decide (p.length = 32) && match ts[i]?, ts[k]? with
    | some t, some u => decide (t.kind = 7) && decide (t.text = m) && decide (u.kind = 3) && decide (u.of.getD 0 0 = t.of.getD 0 0)
    | _, _ => false
  | _, _ => false
noncomputable def A8Y (s : Ps) (p m g : LN) : Bool := if s.real then B3r p m g else A7c s.ts p m g
def Ar (ts : List Tm) : Prop := ∀ t ∈ ts, (t.kind = 3 ∨ t.kind = 6 ∨ t.kind = 7) → 0 < t.of.length
theorem Ar.nil : Ar [] := fun t h => by cases h
theorem Ar.add {ts : List Tm} (h : Ar ts) {t : Tm} (ht : (t.kind = 3 ∨ t.kind = 6 ∨ t.kind = 7) → 0 < t.of.length) : Ar (add ts t) := by
  unfold Go.Proofs.YtoameenjkiaefaaGreatDoor.add
  split
  · exact h
  · intro u hu
    rcases List.mem_append.1 hu with h1 | h1
    · exact h u h1
    · rw [List.mem_singleton.1 h1]; exact ht
theorem Ar.rd {ts : List Tm} (h : Ar ts) (w : LN) : Ar (rdT ts w) := by
  cases hp : plc w ts.length with
  | some j => rw [(P3 hp).1]; exact h
  | none => rw [(Q7 hp).1]; exact h.add (by intro h; rcases h with h | h | h <;> cases h)
theorem Ar.pub {s : Ps} (h : Ar s.ts) (w : LN) : Ar (H5 s w).ts := by
  unfold H5
  split
  · exact h
  · exact (h.rd w).add fun _ => Nat.one_pos
structure Rok (ts : List Tm) (w : LN) : Prop where
  lt : ∀ x ∈ w, x < 256
  len : w.length ≤ 1000000000
  st : (∀ n, plc w n = none) ∨ A9N ts w
theorem Rok.ext {ts l : List Tm} {w : LN} (h : Rok ts w) : Rok (ts ++ l) w := ⟨h.lt, h.len, h.st.imp id A9N.ext⟩
theorem A9N.rok {ts : List Tm} {w : LN} (h : A9N ts w) : Rok ts w := by
  obtain ⟨i, hi, rfl⟩ := h
  exact ⟨B1p _, by rw [show (bts ((i : Nat) : Int)).length = 32 from A0s _ qD]; decide, .inr ⟨i, hi, rfl⟩⟩
theorem A8Z {ts : List Tm} {w : LN} (ht : Tok ts) (hw : ∀ x ∈ w, x < 256) (hl : w.length ≤ 1000000000) : Tok (rdT ts w) := by
  cases hp : plc w ts.length with
  | some j => rw [(P3 hp).1]; exact ht
  | none =>
    rw [(Q7 hp).1]
    obtain ⟨l, h1, h2, h3, h4⟩ := A6h (A0t hw qO) ht
    exact h4
theorem A7Q {ts l : List Tm} {w : LN} (h : Rok ts w) (ht : Tok ts) (ht' : Tok (rdT ts w ++ l)) (hl : (rdT ts w ++ l).length ≤ 1048576) : rdT (rdT ts w ++ l) w = rdT ts w ++ l ∧ rdI (rdT ts w ++ l) w = rdI ts w := by
  have hge := A4d (ts := ts) (w := w)
  rw [List.length_append] at hl
  cases hp : plc w ts.length with
  | some j =>
    obtain ⟨e1, e2⟩ := P3 hp
    obtain ⟨a1, a2⟩ := A38 hp
    rw [e1, e2]
    exact P3 (a2 _ (by rw [List.length_append]; omega))
  | none =>
    have hn : ∀ n, plc w n = none := by
      rcases h.st with h | ⟨i, hi, rfl⟩
      · exact h
      · rw [A16, show u64 ((i : Nat) : Int) = i by unfold u64; omega, if_pos hi] at hp; cases hp
    obtain ⟨e1, e2⟩ := Q7 hp
    obtain ⟨l0, g1, g2, g3, g4⟩ := A6h (A0t h.lt (by have := h.len; omega)) ht
    rw [e1] at ht' ⊢
    rw [e2]
    obtain ⟨b1, b2⟩ := Q7 (hn (add ts (A7C w) ++ l).length)
    rw [b1, b2]
    exact B1E ht' (A1G g3)
theorem A6u : ∀ (ws : List (LN)) (st : List Tm × List Int), ∃ l, (ws.foldl S5 st).1 = st.1 ++ l
  | [], st => ⟨[], by simp⟩
  | w :: ws, st => by
    obtain ⟨l1, e1⟩ := A6u ws (S5 st w)
    obtain ⟨l2, e2⟩ := A1c st.1 w
    exact ⟨l2 ++ l1, by rw [List.foldl_cons, e1, show (S5 st w).1 = rdT st.1 w from rfl, e2, List.append_assoc]⟩
theorem A6v : ∀ (ws : List (LN)) (st : List Tm × List Int), (∀ w ∈ ws, Rok st.1 w) → Tok st.1 → Tok (ws.foldl S5 st).1
  | [], st, _, ht => ht
  | w :: ws, st, h, ht => by
    obtain ⟨l2, e2⟩ := A1c st.1 w
    have hw := h w qM
    exact A6v ws (S5 st w) (fun v hv => by show Rok (rdT st.1 w) v; rw [e2]; exact (h v (by simp [hv])).ext) (A8Z ht hw.lt hw.len)
theorem A2N : ∀ (ws : List (LN)) (st : List Tm × List Int) (l : List Tm), (∀ w ∈ ws, Rok st.1 w) → Tok st.1 → Tok ((ws.foldl S5 st).1 ++ l) → ((ws.foldl S5 st).1 ++ l).length ≤ 1048576 → ws.foldl S5 ((ws.foldl S5 st).1 ++ l, st.2) = ((ws.foldl S5 st).1 ++ l, (ws.foldl S5 st).2)
  | [], st, l, _, _, _, _ => rfl
  | w :: ws, st, l, h, ht, ht', hl => by
    have hw := h w qM
    obtain ⟨l1, e1⟩ := A6u ws (S5 st w)
    have e2 : (S5 st w).1 = rdT st.1 w := rfl
    rw [List.foldl_cons] at ht' hl ⊢
    have hrest : ∀ v ∈ ws, Rok (S5 st w).1 v := fun v hv => by
      obtain ⟨l2, e3⟩ := A1c st.1 w
      rw [e2, e3]; exact (h v (by simp [hv])).ext
    have ih := A2N ws (S5 st w) l hrest (A8Z ht hw.lt hw.len) ht' hl
    have e4 : (ws.foldl S5 (S5 st w)).1 ++ l = rdT st.1 w ++ (l1 ++ l) := by rw [e1, e2, List.append_assoc]
    obtain ⟨a1, a2⟩ := A7Q hw ht (l := l1 ++ l) (by rw [← e4]; exact ht') (by rw [← e4]; exact hl)
    rw [List.foldl_cons]
    have e5 : S5 ((ws.foldl S5 (S5 st w)).1 ++ l, st.2) w = ((ws.foldl S5 (S5 st w)).1 ++ l, (S5 st w).2) := by
      show (rdT _ w, st.2 ++ [((rdI _ w : Nat) : Int)]) = (_, st.2 ++ [((rdI st.1 w : Nat) : Int)])
      rw [e4, a1, a2]
    rw [e5]; exact ih
theorem A80 : ∀ (ws : List (LN)) {n0 k : Nat} {st : List Tm × List Int}, RdOk n0 k st → (∀ w ∈ ws, Rok st.1 w) → RdOk n0 (k + ws.length) (ws.foldl S5 st)
  | [], _, _, _, h, _ => h
  | w :: ws, n0, k, st, h, hw => by
    have h1 := hw w qM
    have h2 := h.step h1.lt (by have := h1.len; omega)
    have h3 := A80 ws h2 (fun v hv => by
      obtain ⟨l2, e3⟩ := A1c st.1 w
      show Rok (rdT st.1 w) v
      rw [e3]; exact (hw v (by simp [hv])).ext)
    rw [List.length_cons, show k + (ws.length + 1) = k + 1 + ws.length by omega]
    exact h3
theorem A2O (ts : List Tm) (ofs : List Int) (lb : LN) : ∀ n, ∃ l, (L8 ts ofs lb n).1 = ts ++ l
  | 0 => ⟨[], by show ts = _; simp⟩
  | n + 1 => by
    obtain ⟨l1, e1⟩ := A2O ts ofs lb n
    obtain ⟨l2, e2⟩ := A2L ts ofs lb n
    exact ⟨l1 ++ l2, by rw [e2, e1, List.append_assoc]⟩
theorem A6w {ts : List Tm} {key lb : LN} {ws : List (LN)} (ht : Tok ts) (h : ∀ w ∈ key :: ws, Rok ts w) (hb : B256 lb) (hbl : lb.length ≤ 1000) (hl : ts.length + ws.length + 1 ≤ 1048576) :
    Tok (Q3 ts key ws).1 ∧ (∀ k, k < 100 → Tmo (drv (Q3 ts key ws).2 lb k)) := by
  have h0 : RdOk ts.length 0 (ts, []) := ⟨Nat.le_refl _, rfl, (fun x hx => by cases hx), ht.tmo⟩
  have h1 := A80 (key :: ws) h0 h
  have e : Q3 ts key ws = (key :: ws).foldl S5 (ts, []) := rfl
  rw [← e, List.length_cons] at h1
  refine ⟨A6v (key :: ws) (ts, []) h ht, fun k hk => A8U (fun x hx => ?_) (by rw [h1.ofl]; omega) hb qO qO⟩
  have h2 := h1.of x hx
  have h3 := h1.len
  unfold i64; omega
theorem A6x {s s' : Ps} {key lb : LN} {ws : List (LN)} {n : Nat} (ht : Tok s.ts) (h : s.real = false → ∀ w ∈ key :: ws, Rok s.ts w) (hb : B256 lb) (hbl : lb.length ≤ 1000) (hn : n ≤ 100) (hl0 : s.ts.length + ws.length + 1 ≤ 1048576) (he : Pext (A3p s key ws lb n) s') (ht' : Tok s'.ts) (hl : s'.ts.length ≤ 1048576) :
    A3p s' key ws lb n = s' ∧ A4b s' key ws lb n = A4b s key ws lb n := by
  have hrr : s'.real = s.real := by rw [he.real, (A08 s key ws lb n).1]
  cases hr : s.real with
  | true => exact ⟨B1D (hrr.trans hr), by rw [A6e hr, A6e (hrr.trans hr)]⟩
  | false =>
    have hr' : s'.real = false := hrr.trans hr
    have h := h hr
    obtain ⟨l, e⟩ := he.ts
    rw [A6d hr] at e
    change s'.ts = (L8 (Q3 s.ts key ws).1 (Q3 s.ts key ws).2 lb n).1 ++ l at e
    obtain ⟨l2, e2⟩ := A2O (Q3 s.ts key ws).1 (Q3 s.ts key ws).2 lb n
    have e3 : s'.ts = (Q3 s.ts key ws).1 ++ (l2 ++ l) := by rw [e, e2, List.append_assoc]
    obtain ⟨t1, hd⟩ := A6w ht h hb hbl hl0
    have a := A2N (key :: ws) (s.ts, []) (l2 ++ l) h ht (by show Tok ((Q3 s.ts key ws).1 ++ (l2 ++ l)); rw [← e3]; exact ht') (by show ((Q3 s.ts key ws).1 ++ (l2 ++ l)).length ≤ _; rw [← e3]; exact hl)
    change Q3 ((Q3 s.ts key ws).1 ++ (l2 ++ l)) key ws = ((Q3 s.ts key ws).1 ++ (l2 ++ l), (Q3 s.ts key ws).2) at a
    rw [← e3] at a
    have b := A3q t1 hd hn (l := l) e ht'
    have c : A4Y s'.ts key ws lb n = (s'.ts, (A4Y s.ts key ws lb n).2) := by unfold A4Y; rw [a]; exact b
    rw [A6d hr', A4c hr', A4c hr, c]
    exact ⟨rfl, rfl⟩
theorem A9W (s : Ps) (key : LN) (ws : List (LN)) (lb : LN) (n : Nat) : (A4b s key ws lb n).length = n := by
  cases hr : s.real with
  | true => rw [A6e hr]; exact A4e _ _
  | false => rw [A4c hr]; exact (A0d _ _ _ _).1
theorem Kok.rok {s : Ps} {w : LN} (h : Kok s w) : s.real = false → Rok s.ts w := fun hr => (h hr).rok
end Go.Proofs.YtoameenjkiaefaaGreatDoor
