/- The walks of prim's Public, Agree, Table of terms. -/
import Derived.Test.YthmnlkpikgglbaaGreatDoorPrm3
set_option linter.unusedVariables false
set_option linter.unusedSimpArgs false
namespace Go.Proofs.YthmnlkpikgglbaaGreatDoor
open Go.Px
/-- A Prim of which the table is named. -/
structure PrmT (pb bt bm : Nat) (s : Ps) (M : Mem) : Prop where
  ex : ∃ (sv : Value) (B MT : Mem), M = (pb, blk [.int .u8 (md s.real), sv, .int .i64 ((s.n : Nat) : Int), .pointer (some ⟨bt, 0, none⟩)] 77) :: (B ++ MT) ∧ By B sv s.seed ∧ Tab bt bm s.ts MT
theorem PrmT.p {pb bt bm : Nat} {s : Ps} {M : Mem} (h : PrmT pb bt bm s M) : Prm pb s M := by
  obtain ⟨sv, B, MT, h1, h2, h3⟩ := h.ex
  exact ⟨sv, bt, bm, B, MT, h1, h2, h3⟩
theorem Prm.t {pb : Nat} {s : Ps} {M : Mem} (h : Prm pb s M) : ∃ bt bm, PrmT pb bt bm s M := by
  obtain ⟨sv, bt, bm, B, MT, h1, h2, h3⟩ := h.ex
  exact ⟨bt, bm, sv, B, MT, h1, h2, h3⟩
def pubT (x : Int) : Tm := ⟨3, [x], [], 0⟩
def pubS (s : Ps) (w : List Nat) : Ps := { s with ts := add (rdT s.ts w) (pubT ((rdI s.ts w : Nat) : Int)) }
def pubK (s : Ps) (w : List Nat) : List Nat := bts ((at_ (rdT s.ts w) (pubT ((rdI s.ts w : Nat) : Int)) : Nat) : Int)
def agrS (s : Ps) (w u : List Nat) : Ps := { s with ts := add (rdT (rdT s.ts w) u) (agT (rdT (rdT s.ts w) u) ((rdI s.ts w : Nat) : Int) ((rdI (rdT s.ts w) u : Nat) : Int)) }
def agrK (s : Ps) (w u : List Nat) : List Nat := bts ((at_ (rdT (rdT s.ts w) u) (agT (rdT (rdT s.ts w) u) ((rdI s.ts w : Nat) : Int) ((rdI (rdT s.ts w) u : Nat) : Int)) : Nat) : Int)
theorem pub_ok {x : Int} (h : i64 x) : Tmo (pubT x) := ⟨show 3 < 256 by decide, show i64 (0 : Int) by unfold i64; omega, fun i hi => by rw [List.mem_singleton.1 hi]; exact h, show 1 ≤ 1048576 by decide, ⟨fun x hx => (List.not_mem_nil hx).elim⟩, show 0 ≤ 1099511627776 by decide⟩
theorem rdI_i64 {ts : List Tm} {w : List Nat} (hw : ∀ x ∈ w, x < 256) (hl : w.length ≤ 1099511627776) (hts : ∀ t ∈ ts, Tmo t) (hn : ts.length ≤ 1048576) : i64 ((rdI ts w : Nat) : Int) := by
  have h1 := rdI_lt hw hl hts
  have h2 : (rdT ts w).length ≤ ts.length + 1 := rdT_len
  unfold i64; omega

set_option maxRecDepth 100000 in
theorem pread2_spec (pb bt bm : Nat) (m k : Int) (sv : Value) [hsv : Cel sv [sv]] (ts : List Tm) (v : Value) (w : List Nat) (MT A : Mem) (hT : Tab bt bm ts MT) (hpb : (pb, blk [.int .u8 m, sv, .int .i64 k, .pointer (some ⟨bt, 0, none⟩)] 77) ∈ A) (hn : ts.length ≤ 1048576) (hv : By A v w) {e4 : TypeId} {f4 : Nat × Nat} (h4 : (4, Obj.cells (nums .u64 pow10T).toArray e4 f4) ∈ A) : FnX Tryz.prog 48 [.pointer (some ⟨pb, 0, none⟩), v] MT A fun q M J => q = .int .i64 ((rdI ts w : Nat) : Int) ∧ Tab bt bm (rdT ts w) M := by
  haveI := hv.cel
  have hvl := hv.len
  refine FnX.enterZ (N := 11) Tryz.func48 rfl rfl rfl fun w_ => ?_
  refine XC.keep (kp 0 rfl (kp 1 rfl kn)) ?_
  refine XC.reg ?_
  refine XL.q (q_assign rfl) rfl ?_
  refine XL.fin (kp 0 rfl (kp 1 rfl kn)) ?_
  refine XC.reg ?_
  refine XL.q (q_move rfl) rfl ?_
  refine XL.q (q_nil rfl) rfl ?_
  refine XL.q (q_fieldAddrN 3 (off := 3) rfl (by kernel_rfl) rfl) rfl ?_
  refine XL.q (q_load rfl (by kernel_rfl) (by first | exact At.mem | exact mA (by assumption)) (by rfl)) rfl ?_
  refine XL.q (q_move rfl) rfl ?_
  refine XL.lo rfl (l_call (Mc := MT) (R := _) (aS rfl (aS rfl a0)) (by kernel_rfl) PickC.perm (read_spec bt bm ts v w MT _ hT hn (hv.rd.mono SubC.sub) hv.lt (by have := hv.len; omega) (SubC.sub _ h4)) rfl ?_)
  rintro v10 M10 J10 ⟨rfl, rfl, hT10⟩
  refine XL.q (q_assign rfl) rfl ?_
  refine XL.fin (kp 4 rfl kn) ?_
  refine XC.ret ?_
  exact ⟨_, M10, [], res1 rfl rfl, Fit.none (Fit.last PickC.perm), rfl, hT10⟩

set_option maxRecDepth 100000 in
theorem public_spec (pb bt bm : Nat) (s : Ps) (hr : s.real = false) (v : Value) (w : List Nat) (MP A : Mem) (hP : PrmT pb bt bm s MP) (hn : s.ts.length < 1048576) (hv : By A v w) (hG : Glb A) : FnX Tryz.prog 28 [.pointer (some ⟨pb, 0, none⟩), v] MP A fun q M J => PrmT pb bt bm (pubS s w) M ∧ By J q (pubK s w) := by
  obtain ⟨sv, B, MT, rfl, hby, hT⟩ := hP.ex
  have hmd : md s.real = 1 := by rw [hr]; rfl
  rw [hmd] at *
  obtain ⟨⟨ge0, gf0, h0⟩, ⟨ge1, gf1, h1⟩, ⟨ge4, gf4, h4⟩⟩ := hG
  haveI := hv.cel
  haveI := hby.cel
  have hvl := hv.len
  refine FnX.enterZ (N := 26) Tryz.func28 rfl rfl rfl fun w_ => ?_
  refine XC.keep (kp 0 rfl (kp 1 rfl kn)) ?_
  refine XC.reg ?_
  refine XL.q (q_assign rfl) rfl ?_
  refine XL.fin (kp 0 rfl (kp 1 rfl kn)) ?_
  refine XC.seq ?_
  refine XC.reg ?_
  refine XL.q (q_move rfl) rfl ?_
  refine XL.q (q_ptrEqNil (e := 77) rfl rfl (by kernel_rfl)) rfl ?_
  refine XL.fin (kp 0 rfl (kp 1 rfl (kp 6 rfl kn))) ?_
  refine XC.condF rfl ?_
  refine XC.skip ?_
  refine nx (kp 0 rfl (kp 1 rfl kn)) ?_
  refine XC.seq ?_
  refine XC.reg ?_
  refine XL.q (q_move rfl) rfl ?_
  refine XL.q (q_nil rfl) rfl ?_
  refine XL.q (q_fieldAddrN 0 (off := 0) rfl (by kernel_rfl) rfl) rfl ?_
  refine XL.q (q_load rfl (by kernel_rfl) (by first | exact At.mem | exact mA (by assumption)) (by rfl)) rfl ?_
  refine XL.q (q_cmp false rfl rfl (eqF (by decide))) rfl ?_
  refine XL.fin (kp 0 rfl (kp 1 rfl (kp 11 rfl kn))) ?_
  refine XC.condF rfl ?_
  refine XC.skip ?_
  refine nx (kp 0 rfl (kp 1 rfl kn)) ?_
  refine XC.drawK (MT) (_) true [0, 1, 2, 3, 4, 5, 6, 7, 8, 11] [(0, 0), (1, 0), (2, 0), (3, 1), (4, 0), (5, 0), (6, 2), (7, 2), (8, 0), (9, 2), (10, 2), (11, 0)] (by kernel_rfl) (by kernel_rfl) PickC.perm fun hs K n0 hKm hKs hKn => ?_
  refine XK.q hs rfl (q_move rfl) rfl ?_
  refine XK.q hs rfl (q_nil rfl) rfl ?_
  refine XK.q hs rfl (q_fieldAddrN 3 (off := 3) rfl (by kernel_rfl) rfl) rfl ?_
  refine XK.r hs rfl (fun x hx => by rw [List.append_assoc]; exact List.mem_append_right _ hx) hKs (q_load rfl (by kernel_rfl) (by first | exact At.mem | exact mA (by assumption)) (by rfl)) rfl ?_
  refine XK.q hs rfl (q_move rfl) rfl ?_
  refine XK.q hs rfl (q_move rfl) rfl ?_
  refine XK.lo _ _ rfl rfl (List.Perm.refl _) hKm fun w0 => (l_call (Mc := MT) (R := _) (aS rfl (aS rfl a0)) (by kernel_rfl) PickC.perm (pread2_spec pb bt bm 1 _ sv s.ts v w MT _ hT At.mem (by omega) (hv.mono SubC.sub) (SubC.sub _ h4)) rfl ?_)
  rintro v21 M21 J21 ⟨rfl, hT21⟩ hKx
  refine XK.lo [] _ rfl rfl (List.Perm.refl _) (fun _ h => by cases h) fun w0 => (l_buildSlice (e := 3) (sz := 1) (z := [.int .i64 0]) (by kernel_rfl) (eS rfl e0) (bdS 0 1 rfl (by rfl) bd0) rfl fun b22 => fun _ => ?_)
  refine XK.perm (M' := (b22, blk [.int .i64 ((rdI s.ts w : Nat) : Int)] 3) :: (M21 ++ ((pb, blk [.int .u8 1, sv, .int .i64 (((s.n : Nat) : Int)), .pointer (some ⟨bt, 0, none⟩)] 77) :: (B ++ [])))) (by simp) ?_
  refine XK.q hs rfl (q_build (place := fun x => #[(0, 1), (1, 1), (2, 1), (3, 1)][x]?) (z := [.int .u8 0, .slice none 0 0, .string ByteArray.empty, .int .i64 0]) (fun _ => by kernel_rfl) (eS rfl (eS rfl e0)) (bdS 0 1 rfl (by rfl) (bdS 1 1 rfl (by rfl) bd0))) rfl ?_
  refine XK.tl rfl rfl rfl (l_call (Mc := M21) (R := _) (aS rfl (aS rfl a0)) (by kernel_rfl) PickC.perm (putT_spec bt bm (rdT s.ts w) _ (pubT ((rdI s.ts w : Nat) : Int)) M21 _ hT21 (by have := rdT_len (ts := s.ts) (ws := w); omega) (Rd.whole (n := 1) At.mem (by rfl)) (pub_ok (rdI_i64 hv.lt (by omega) hT.tok.tmo (by omega))) (SubC.sub _ h4)) rfl ?_)
  rintro v24 M24 J24 ⟨rfl, rfl, hT24⟩
  refine XK.tl rfl rfl rfl (l_call0 (aS rfl a0) (by kernel_rfl) (bytesJ_spec _ _) rfl ?_)
  rintro v25 M25 J25 ⟨rfl, h25⟩
  refine XK.q hs rfl (q_assign rfl) rfl ?_
  refine XK.fin (kp 4 rfl kn) ?_
  refine XC.ret ?_
  exact ⟨_, (pb, blk [.int .u8 1, sv, .int .i64 (((s.n : Nat) : Int)), .pointer (some ⟨bt, 0, none⟩)] 77) :: (B ++ M24), [], res1 rfl rfl, (Fit.none (Fit.pick (B := [_]) PickC.perm (Fit.pick PickC.perm (Fit.last PickC.perm)))), ⟨sv, B, M24, by rw [show md (pubS s w).real = 1 by show md s.real = 1; rw [hr]; rfl]; rfl, hby, hT24⟩, h25.mono SubC.sub⟩

set_option maxRecDepth 100000 in
theorem pagree_spec (pb bt bm : Nat) (s : Ps) (hr : s.real = false) (v v2 : Value) (w u : List Nat) (MP A : Mem) (hP : PrmT pb bt bm s MP) (hn : s.ts.length + 1 < 1048576) (hv : By A v w) (hu : By A v2 u) (hG : Glb A) : FnX Tryz.prog 27 [.pointer (some ⟨pb, 0, none⟩), v, v2] MP A fun q M J => PrmT pb bt bm (agrS s w u) M ∧ By J q (agrK s w u) := by
  obtain ⟨sv, B, MT, rfl, hby, hT⟩ := hP.ex
  have hmd : md s.real = 1 := by rw [hr]; rfl
  rw [hmd] at *
  obtain ⟨⟨ge0, gf0, h0⟩, ⟨ge1, gf1, h1⟩, ⟨ge4, gf4, h4⟩⟩ := hG
  haveI := hv.cel
  haveI := hu.cel
  haveI := hby.cel
  have hvl := hv.len
  have hul := hu.len
  refine FnX.enterZ (N := 31) Tryz.func27 rfl rfl rfl fun w_ => ?_
  refine XC.keep (kp 0 rfl (kp 1 rfl (kp 2 rfl kn))) ?_
  refine XC.reg ?_
  refine XL.q (q_assign rfl) rfl ?_
  refine XL.fin (kp 0 rfl (kp 1 rfl (kp 2 rfl kn))) ?_
  refine XC.seq ?_
  refine XC.reg ?_
  refine XL.q (q_move rfl) rfl ?_
  refine XL.q (q_ptrEqNil (e := 77) rfl rfl (by kernel_rfl)) rfl ?_
  refine XL.fin (kp 0 rfl (kp 1 rfl (kp 2 rfl (kp 8 rfl kn)))) ?_
  refine XC.condF rfl ?_
  refine XC.skip ?_
  refine nx (kp 0 rfl (kp 1 rfl (kp 2 rfl kn))) ?_
  refine XC.seq ?_
  refine XC.reg ?_
  refine XL.q (q_move rfl) rfl ?_
  refine XL.q (q_nil rfl) rfl ?_
  refine XL.q (q_fieldAddrN 0 (off := 0) rfl (by kernel_rfl) rfl) rfl ?_
  refine XL.q (q_load rfl (by kernel_rfl) (by first | exact At.mem | exact mA (by assumption)) (by rfl)) rfl ?_
  refine XL.q (q_cmp false rfl rfl (eqF (by decide))) rfl ?_
  refine XL.fin (kp 0 rfl (kp 1 rfl (kp 2 rfl (kp 13 rfl kn)))) ?_
  refine XC.condF rfl ?_
  refine XC.skip ?_
  refine nx (kp 0 rfl (kp 1 rfl (kp 2 rfl kn))) ?_
  refine XC.drawK (MT) (_) true [0, 1, 2, 3, 4, 5, 6, 7, 8, 9, 12] [(0, 0), (1, 0), (2, 0), (3, 1), (4, 0), (5, 0), (7, 0), (8, 0), (6, 2), (9, 2), (10, 2), (11, 2), (12, 0)] (by kernel_rfl) (by kernel_rfl) PickC.perm fun hs K n0 hKm hKs hKn => ?_
  refine XK.q hs rfl (q_move rfl) rfl ?_
  refine XK.q hs rfl (q_nil rfl) rfl ?_
  refine XK.q hs rfl (q_fieldAddrN 3 (off := 3) rfl (by kernel_rfl) rfl) rfl ?_
  refine XK.r hs rfl (fun x hx => by rw [List.append_assoc]; exact List.mem_append_right _ hx) hKs (q_load rfl (by kernel_rfl) (by first | exact At.mem | exact mA (by assumption)) (by rfl)) rfl ?_
  refine XK.q hs rfl (q_move rfl) rfl ?_
  refine XK.q hs rfl (q_move rfl) rfl ?_
  refine XK.q hs rfl (q_move rfl) rfl ?_
  refine XK.q hs rfl (q_move rfl) rfl ?_
  refine XK.lo _ _ rfl rfl (List.Perm.refl _) hKm fun w0 => (l_call (Mc := MT) (R := _) (aS rfl (aS rfl a0)) (by kernel_rfl) PickC.perm (pread2_spec pb bt bm 1 _ sv s.ts v w MT _ hT At.mem (by omega) (hv.mono SubC.sub) (SubC.sub _ h4)) rfl ?_)
  rintro v25 M25 J25 ⟨rfl, hT25⟩ hKx
  refine XK.lo (M25 ++ []) _ rfl rfl PickC.perm (hKx (hKn rfl)) fun w0 => (l_call (Mc := M25) (R := _) (aS rfl (aS rfl a0)) (by kernel_rfl) PickC.perm (pread2_spec pb bt bm 1 _ sv (rdT s.ts w) v2 u M25 _ hT25 At.mem (by have := rdT_len (ts := s.ts) (ws := w); omega) (hu.mono SubC.sub) (SubC.sub _ h4)) rfl ?_)
  rintro v28 M28 J28 ⟨rfl, hT28⟩ hKy
  refine XK.tl rfl rfl rfl (l_call (Mc := M28) (R := _) (aS rfl (aS rfl (aS rfl a0))) (by kernel_rfl) PickC.perm (agree_spec bt bm (rdT (rdT s.ts w) u) _ _ M28 _ hT28 (by have := rdT_len (ts := s.ts) (ws := w); have := rdT_len (ts := rdT s.ts w) (ws := u); omega) (rdI_i64 hv.lt (by omega) hT.tok.tmo (by omega)) (rdI_i64 hu.lt (by omega) hT25.tok.tmo (by have := rdT_len (ts := s.ts) (ws := w); omega)) (SubC.sub _ h4)) rfl ?_)
  rintro v29 M29 J29 ⟨rfl, rfl, hT29⟩
  refine XK.tl rfl rfl rfl (l_call0 (aS rfl a0) (by kernel_rfl) (bytesJ_spec _ _) rfl ?_)
  rintro v30 M30 J30 ⟨rfl, h30⟩
  refine XK.q hs rfl (q_assign rfl) rfl ?_
  refine XK.fin (kp 6 rfl kn) ?_
  refine XC.ret ?_
  exact ⟨_, (pb, blk [.int .u8 1, sv, .int .i64 (((s.n : Nat) : Int)), .pointer (some ⟨bt, 0, none⟩)] 77) :: (B ++ M29), [], res1 rfl rfl, (Fit.none (Fit.pick (B := [_]) PickC.perm (Fit.pick PickC.perm (Fit.last PickC.perm)))), ⟨sv, B, M29, by rw [show md (agrS s w u).real = 1 by show md s.real = 1; rw [hr]; rfl]; rfl, hby, hT29⟩, h30.mono SubC.sub⟩

theorem public_p (pb : Nat) (s : Ps) (hr : s.real = false) (v : Value) (w : List Nat) (MP A : Mem) (hP : Prm pb s MP) (hn : s.ts.length < 1048576) (hv : By A v w) (hG : Glb A) : FnX Tryz.prog 28 [.pointer (some ⟨pb, 0, none⟩), v] MP A fun q M J => Prm pb (pubS s w) M ∧ By J q (pubK s w) := by
  obtain ⟨bt, bm, h⟩ := hP.t
  exact (public_spec pb bt bm s hr v w MP A h hn hv hG).mono fun q M J ⟨h1, h2⟩ => ⟨h1.p, h2⟩
theorem pagree_p (pb : Nat) (s : Ps) (hr : s.real = false) (v v2 : Value) (w u : List Nat) (MP A : Mem) (hP : Prm pb s MP) (hn : s.ts.length + 1 < 1048576) (hv : By A v w) (hu : By A v2 u) (hG : Glb A) : FnX Tryz.prog 27 [.pointer (some ⟨pb, 0, none⟩), v, v2] MP A fun q M J => Prm pb (agrS s w u) M ∧ By J q (agrK s w u) := by
  obtain ⟨bt, bm, h⟩ := hP.t
  exact (pagree_spec pb bt bm s hr v v2 w u MP A h hn hv hu hG).mono fun q M J ⟨h1, h2⟩ => ⟨h1.p, h2⟩

set_option maxRecDepth 100000 in
theorem ptable_spec (pb bt : Nat) (k : Int) (sv : Value) (A : Mem) (hpb : (pb, blk [.int .u8 1, sv, .int .i64 k, .pointer (some ⟨bt, 0, none⟩)] 77) ∈ A) : FnV Tryz.prog 10 [.pointer (some ⟨pb, 0, none⟩)] A (.pointer (some ⟨bt, 0, none⟩)) := by
  refine FnX.enter (N := 16) Tryz.func10 rfl rfl rfl fun w => ?_
  refine XC.keep (kp 0 rfl kn) ?_
  refine XC.reg ?_
  refine XL.q (q_assign rfl) rfl ?_
  refine XL.fin (kp 0 rfl kn) ?_
  refine XC.seq ?_
  refine XC.reg ?_
  refine XL.q (q_move rfl) rfl ?_
  refine XL.q (q_ptrEqNil (e := 77) rfl rfl (by kernel_rfl)) rfl ?_
  refine XL.q (q_move rfl) rfl ?_
  refine XL.gy rfl rfl (OpQ.opL (q_move rfl) rfl ?_)
  refine XL.gy rfl rfl (OpQ.opL (q_nil rfl) rfl ?_)
  refine XL.gy rfl rfl (OpQ.opL (q_fieldAddrN 0 (off := 0) rfl (by kernel_rfl) rfl) rfl ?_)
  refine XL.gy rfl rfl (OpQ.opL (q_load rfl (by kernel_rfl) (mA hpb) (by rfl)) rfl ?_)
  refine XL.gy rfl rfl (OpQ.opL (q_cmp false rfl rfl (eqF (by decide))) rfl ?_)
  refine XL.q (q_pickF rfl rfl) rfl ?_
  refine XL.fin (kp 0 rfl (kp 11 rfl kn)) ?_
  refine XC.condF rfl ?_
  refine XC.skip ?_
  refine nx (kp 0 rfl kn) ?_
  refine XC.reg ?_
  refine XL.q (q_move rfl) rfl ?_
  refine XL.q (q_nil rfl) rfl ?_
  refine XL.q (q_fieldAddrN 3 (off := 3) rfl (by kernel_rfl) rfl) rfl ?_
  refine XL.q (q_load rfl (by kernel_rfl) (mA hpb) (by rfl)) rfl ?_
  refine XL.q (q_assign rfl) rfl ?_
  refine XL.fin (kp 2 rfl kn) ?_
  refine XC.ret ?_
  exact ⟨_, [], [], res1 rfl rfl, List.nil_sublist _, by simp, rfl, rfl, rfl⟩
