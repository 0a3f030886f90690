/- Part 16 of the texts of this claim, one behind the other. -/
import Derived.Test.YtphcaiplgpmnnaaGreatDoorB15
set_option linter.unusedVariables false
set_option linter.unusedSimpArgs false
set_option maxRecDepth 100000
namespace Go.Proofs.YtphcaiplgpmnnaaGreatDoor
open Go.Px
/-- Keys that are owned: the block, and its three rows. -/
structure Kys (R : Mem) (kb : Nat) (k : Ks) (M : Mem) : Prop where
  ex : ∃ (va vg vs vo vm : Value) (rs ro rm : List (List Value)) (Bs Bo Bm : Mem), M = (kb, blk [.int .i64 k.user, .int .i64 k.dev, va, vg, vs, vo, .int .u32 ((k.next : Nat) : Int), vm] 96) :: (Bs ++ (Bo ++ Bm)) ∧
    By R va k.agree ∧ By R vg k.sign ∧ Sl 3 vs k.signed.length rs.flatten Bs ∧ RwL prR R rs k.signed ∧ Sl 3 vo k.once.length ro.flatten Bo ∧ RwL prR R ro k.once ∧ Sl 2 vm k.met.length rm.flatten Bm ∧ RwL nmR R rm k.met ∧ k.next < 4294967296 ∧ k.signed.length ≤ 2 ∧ k.once.length ≤ 100 ∧ k.met.length ≤ 100000
theorem Kys.mono {R R' : Mem} {kb : Nat} {k : Ks} {M : Mem} (h : Kys R kb k M) (hR : ∀ x, x ∈ R → x ∈ R') : Kys R' kb k M := by
  obtain ⟨va, vg, vs, vo, vm, rs, ro, rm, Bs, Bo, Bm, h1, h2, h3, h4, h5, h6, h7, h8, h9, h10⟩ := h.ex
  exact ⟨va, vg, vs, vo, vm, rs, ro, rm, Bs, Bo, Bm, h1, h2.mono hR, h3.mono hR, h4, h5.mono prT hR, h6, h7.mono prT hR, h8, h9.mono nmT hR, h10⟩
theorem Kys.r {R : Mem} {kb : Nat} {k : Ks} {M : Mem} (h : Kys R kb k M) : ∃ va vg vs vo vm rs ro rm, ∀ R', (∀ x, x ∈ R → x ∈ R') → (∀ x, x ∈ M → x ∈ R') → KyR R' kb k va vg vs vo vm rs ro rm := by
  obtain ⟨va, vg, vs, vo, vm, rs, ro, rm, Bs, Bo, Bm, rfl, h2, h3, h4, h5, h6, h7, h8, h9, h10, h11, h12, h13⟩ := h.ex
  refine ⟨va, vg, vs, vo, vm, rs, ro, rm, fun R' hR hM => ⟨hM _ List.mem_cons_self, h2.mono hR, h3.mono hR, h4.rd fun x hx => hM x (by simp [hx]), h5.mono prT hR, h6.rd fun x hx => hM x (by simp [hx]), h7.mono prT hR, h8.rd fun x hx => hM x (by simp [hx]), h9.mono nmT hR, by omega, by omega, by omega, by omega⟩⟩
/-- One prekey more. -/
noncomputable def fillI (k : Ks) (s : Ps) : Nat → Ks × Ps
  | 0 => (k, s)
  | i + 1 => ({ (fillI k s i).1 with once := (fillI k s i).1.once ++ [⟨(fillI k s i).1.next, freshK (fillI k s i).2, []⟩], next := (fillI k s i).1.next + 1 }, freshS (fillI k s i).2)
theorem fillI_once (k : Ks) (s : Ps) : ∀ i, (fillI k s i).1.once.length = k.once.length + i
  | 0 => rfl
  | i + 1 => by simp [fillI, fillI_once k s i]; omega
theorem fillI_next (k : Ks) (s : Ps) : ∀ i, (fillI k s i).1.next = k.next + i
  | 0 => rfl
  | i + 1 => by simp [fillI, fillI_next k s i]; omega
theorem fillI_eq (k : Ks) (s : Ps) : ∀ i, (fillI k s i).1 = { k with once := (fillI k s i).1.once, next := k.next + i }
  | 0 => rfl
  | i + 1 => by
    have h := fillI_eq k s i
    have hn := fillI_next k s i
    simp only [fillI, hn]
    rw [h]
    simp [Nat.add_assoc]
theorem freshS_len (s : Ps) : (freshS s).ts.length ≤ s.ts.length + 1 ∧ (freshS s).n = s.n + 1 := by
  unfold freshS
  split
  · exact ⟨by simp, rfl⟩
  · refine ⟨?_, rfl⟩
    show (add s.ts _).length ≤ _
    unfold add
    split <;> simp
theorem fillI_ps (k : Ks) (s : Ps) : ∀ i, (fillI k s i).2.ts.length ≤ s.ts.length + i ∧ (fillI k s i).2.n = s.n + i
  | 0 => ⟨Nat.le_refl _, rfl⟩
  | i + 1 => by
    have h := fillI_ps k s i
    have h2 := freshS_len (fillI k s i).2
    simp only [fillI]
    omega
noncomputable def fillK (k : Ks) (s : Ps) : Ks × Ps := fillI k s (4 - k.once.length)

theorem fill_f (kb pb : Nat) (k : Ks) (s : Ps) (MK MP A : Mem) (hK : Kys A kb k MK) (hP : Prm pb s MP) (hn : s.ts.length + 100 ≤ 1048576) (hk : s.n < 1000000000) (hnx : k.next + 100 < 4000000000) (hG : Glb A) : FnX Tryz.prog 19 [.pointer (some ⟨kb, 0, none⟩), .pointer (some ⟨pb, 0, none⟩)] (MK ++ MP) A fun q M J => q = .int .i64 ((4 - k.once.length : Nat) : Int) ∧ ∃ MK2 MP2, M = MK2 ++ MP2 ∧ Kys (J ++ A) kb (fillK k s).1 MK2 ∧ Prm pb (fillK k s).2 MP2 := by
 obtain ⟨va, vg, vs, vo, vm, rs, ro, rm, Bs, Bo, Bm, rfl, hva, hvg, hss, hrs, hso, hro, hsm, hrm, hn1, hn2, hn3, hn4⟩ := hK.ex
 haveI := hva.cel
 haveI := hvg.cel
 haveI := hss.cel
 haveI := hso.cel
 haveI := hsm.cel
 refine FnX.enterZ (N := 42) Tryz.func19 rfl rfl rfl fun w_ => ?_
 refine XC.keep (kq 0 (kq 1 kn)) ?_
 refine XC.reg ?_
 refine as_ ?_
 refine XL.fin (kq 0 (kq 1 kn)) ?_
 refine XC.reg ?_
 refine as_ ?_
 refine XL.fin (kq 0 (kq 1 (kq 5 kn))) ?_
 refine XC.seq ?_
 refine XC.block ?_
 refine XC.loop (α := Nat × (Value × List (List Value) × Mem) × Mem × Mem) (fun y => [(0, .pointer (some ⟨kb, 0, none⟩)), (1, .pointer (some ⟨pb, 0, none⟩)), (5, .int .i64 ((y.1 : Nat) : Int))]) (fun y => (kb, blk [.int .i64 k.user, .int .i64 k.dev, va, vg, vs, y.2.1.1, .int .u32 ((k.next + y.1 : Nat) : Int), vm] 96) :: (Bs ++ (y.2.1.2.2 ++ (Bm ++ y.2.2.1)))) (fun y => y.2.2.2) (fun y => y.1 + k.once.length ≤ max 4 k.once.length ∧ Sl 3 y.2.1.1 (k.once.length + y.1) y.2.1.2.1.flatten y.2.1.2.2 ∧ RwL prR (y.2.2.2 ++ A) y.2.1.2.1 (fillI k s y.1).1.once ∧ Prm pb (fillI k s y.1).2 y.2.2.1) (fun y => 4 - (k.once.length + y.1)) (0, (vo, ro, Bo), MP, []) ⟨by dsimp only; omega, hso, hro, hP⟩ (kq 0 (kq 1 (kq 5 kn))) (Fit.pick (B := [_]) PickC.perm (Fit.pick PickC.perm (Fit.pick PickC.perm (Fit.pick PickC.perm (Fit.last PickC.perm))))) (fun _ h => h) ?_
 rintro ⟨i, ⟨voi, roi, Boi⟩, MPi, Ji⟩ ⟨hi, hsi, hri, hPi⟩
 dsimp only at hi hsi hri hPi ⊢
 haveI := hsi.cel
 have hps := fillI_ps k s i
 have hnx := fillI_next k s i
 have hol := fillI_once k s i
 refine XC.seq ?_
 refine XC.reg ?_
 refine mv_ ?_
 refine XL.q (q_ptrNeNil (e := 96) rfl rfl (by kernel_rfl)) rfl ?_
 refine mv_ ?_
 refine XL.gy rfl rfl (OpQ.opL qm_ rfl ?_)
 refine XL.gy rfl rfl (OpQ.opL (q_nil rfl) rfl ?_)
 refine XL.gy rfl rfl (OpQ.opL (qf_ 5 5) rfl ?_)
 refine XL.gy rfl rfl (OpQ.opL ql_ rfl ?_)
 refine XL.gy rfl rfl (OpQ.opL (q_lenV2 (sz := 3) rfl (by kernel_rfl) (hsi.rd (R := Boi) fun _ h => h)) rfl ?_)
 refine XL.gy rfl rfl (OpQ.opL (q_bin rfl rfl rfl) rfl ?_)
 refine XL.q (q_pickT rfl rfl) rfl ?_
 refine XL.fin (kq 0 (kq 1 (kq 5 (kq 15 kn)))) ?_
 refine XC.cond rfl (fun hc => ?_) (fun hc => ?_)
 ·
  have hlt : k.once.length + i < 4 := by simp at hc; omega
  refine XC.skip ?_
  refine nx (kq 0 (kq 1 (kq 5 kn))) ?_
  refine XC.seq ?_
  refine XC.block ?_
  refine XC.drawK (MPi) (_) true [0, 1, 2, 3, 4, 5, 6, 7, 8, 9, 10, 11, 12, 14, 15] [(0, 0), (1, 0), (2, 0), (3, 0), (4, 1), (5, 0), (6, 0), (7, 0), (8, 1), (9, 0), (10, 2), (11, 0), (12, 2), (13, 2), (14, 0), (15, 0), (16, 2)] (by kernel_rfl) (by kernel_rfl) PickC.perm fun hs K n0 hKm hKs hKn => ?_
  refine XK.q hs rfl qm_ rfl ?_
  refine XK.q hs rfl qm_ rfl ?_
  refine XK.q hs rfl (q_nil rfl) rfl ?_
  refine XK.q hs rfl (qf_ 5 5) rfl ?_
  refine XK.r hs rfl kr_ hKs ql_ rfl ?_
  refine XK.q hs rfl qm_ rfl ?_
  refine XK.q hs rfl (q_nil rfl) rfl ?_
  refine XK.q hs rfl (qf_ 6 6) rfl ?_
  refine XK.r hs rfl kr_ hKs ql_ rfl ?_
  refine XK.q hs rfl qm_ rfl ?_
  refine XK.lo _ _ rfl rfl (List.Perm.refl _) hKm fun w0 => (l_call (Mc := MPi) (R := _) (aS rfl a0) (by kernel_rfl) PickC.perm (fresh_spec pb (fillI k s i).2 MPi _ hPi (by omega) (by omega) hG.up) rfl ?_)
  rintro v28 M28 J28 ⟨hP28, h28⟩ hKx
  haveI := h28.cel
  refine XK.q hs rfl (q_build (place := fun x => #[(0, 1), (1, 1), (2, 1)][x]?) (z := [.int .u32 0, .slice none 0 0, .slice none 0 0]) (fun _ => by kernel_rfl) (eS rfl (eS rfl e0)) (bdS 0 1 rfl (by rfl) (bdS 1 1 rfl (by rfl) bd0))) rfl ?_
  refine XK.lo [] _ rfl rfl (List.Perm.refl _) (fun _ h => by cases h) fun w0 => (l_buildSlice (e := 98) (sz := 3) (z := [.int .u32 0, .slice none 0 0, .slice none 0 0]) (by kernel_rfl) (eS rfl e0) (bdS 0 3 rfl (by rfl) bd0) rfl fun b30 => fun _ => ?_)
  refine XK.perm (M' := (b30, blk [.int .u32 ((k.next + i : Nat) : Int), v28, .slice none 0 0] 98) :: (M28 ++ ((kb, blk [.int .i64 k.user, .int .i64 k.dev, va, vg, vs, voi, .int .u32 ((k.next + i : Nat) : Int), vm] 96) :: (Bs ++ (Boi ++ (Bm ++ [])))))) (by simp) ?_
  refine XK.tl rfl rfl rfl (l_append2 (e := 98) (sz := 3) (by_ := 56) rfl rfl (by kernel_rfl) rfl hsi (Rd.whole (n := 1) At.mem (by rfl)) (by intro c hc; simp only [List.mem_cons, List.not_mem_nil, or_false] at hc; rcases hc with rfl | rfl | rfl; rfl; exact h28.one; rfl) PickC.perm (by unfold maxLen; omega) (by omega) rfl fun v31 B31 hs31 => ?_)
  haveI := hs31.cel
  refine XK.q hs rfl (q_nil rfl) rfl ?_
  refine XK.q hs rfl (qf_ 5 5) rfl ?_
  refine XK.tl rfl rfl rfl (l_store rfl rfl hs31.one (by kernel_rfl) SetC.set UpC.upd ?_)
  refine XK.fin (kq 0 (kq 1 (kq 5 kn))) ?_
  refine XC.reg1 ?_
  refine mv_ ?_
  refine XL.q (q_nil rfl) rfl ?_
  refine XL.q (qf_ 6 6) rfl ?_
  refine XL.q ql_ rfl ?_
  refine XL.q (q_addS 4294967296 (a := k.next + i) (b := 1) rfl rfl rfl rfl rfl rfl (by omega)) rfl ?_
  refine XL.q (q_nil rfl) rfl ?_
  refine XL.q (qf_ 6 6) rfl ?_
  refine XL.lo rfl (l_store rfl rfl rfl (by kernel_rfl) SetC.set UpC.upd ?_)
  refine XL.nil ?_
  refine nb ?_
  refine nx (kq 0 (kq 1 (kq 5 kn))) ?_
  refine XC.reg1 ?_
  refine mv_ ?_
  refine XL.q (q_num ((i + 1 : Nat) : Int) rfl rfl (add64 (by omega) (by omega) (by omega))) rfl ?_
  refine as_ ?_
  refine XL.nil ?_
  exact rn (i + 1, (v31, roi ++ [[.int .u32 ((k.next + i : Nat) : Int), v28, .slice none 0 0]], B31), _, _) ⟨by dsimp only; omega, by simpa [Nat.add_assoc] using hs31, (hri.mono prT SubC.sub).snoc ⟨v28, .slice none 0 0, by rw [hnx], h28.mono SubC.sub, By.nil, by dsimp only; omega⟩, hP28⟩ (by dsimp only; omega) (kq 0 (kq 1 (kq 5 kn))) (Fit.pick (B := [_]) PickC.perm (Fit.pick PickC.perm (Fit.pick PickC.perm (Fit.pick PickC.perm (Fit.last PickC.perm))))) (fun _ h => h)
 ·
  have hge : 4 ≤ k.once.length + i := by simp at hc; omega
  obtain rfl : i = 4 - k.once.length := by omega
  refine XC.exit ?_
  refine te ?_
  refine re ?_
  refine be rfl ?_
  refine nx (kq 5 kn) ?_
  refine XC.reg ?_
  refine mv_ (as_ ?_)
  refine XL.fin (kq 4 kn) ?_
  refine XC.ret ?_
  have hfe := fillI_eq k s (4 - k.once.length)
  refine ⟨_, (kb, blk [.int .i64 k.user, .int .i64 k.dev, va, vg, vs, voi, .int .u32 ((k.next + (4 - k.once.length) : Nat) : Int), vm] 96) :: (Bs ++ (Boi ++ (Bm ++ MPi))), [], res1 rfl rfl, Fit.none (Fit.eq (by simp)), rfl, (kb, blk [.int .i64 k.user, .int .i64 k.dev, va, vg, vs, voi, .int .u32 ((k.next + (4 - k.once.length) : Nat) : Int), vm] 96) :: (Bs ++ (Boi ++ Bm)), MPi, by simp, ⟨⟨va, vg, vs, voi, vm, rs, roi, rm, Bs, Boi, Bm, ?_⟩⟩, hPi⟩
  unfold fillK
  rw [hfe]
  exact ⟨rfl, hva.mono SubC.sub, hvg.mono SubC.sub, hss, hrs.mono prT SubC.sub, by show Sl 3 voi (fillI k s (4 - k.once.length)).1.once.length _ _; rw [hol]; exact hsi, hri, hsm, hrm.mono nmT SubC.sub, by dsimp only; omega, hn2, by show (fillI k s (4 - k.once.length)).1.once.length ≤ 100; rw [hol]; omega, hn4⟩

end Go.Proofs.YtphcaiplgpmnnaaGreatDoor
/-
  A row stored into an owned slice of structs; the clear of an end of one; what is kept when some are deleted.
-/
namespace Go.Px
theorem flat_set {rows : List (List Value)} {sz : Nat} {r : List Value} (hl : ∀ r ∈ rows, r.length = sz) (hr : r.length = sz) {j : Nat} (hj : j < rows.length) :
    rows.flatten.take (j * sz) ++ r ++ rows.flatten.drop (j * sz + sz) = (rows.set j r).flatten := by
  rw [show j * sz + sz = (j + 1) * sz from by rw [Nat.add_mul, Nat.one_mul], flat_take hl, flat_drop hl, List.set_eq_take_append_cons_drop, if_pos hj]
  simp
section
variable {C : Cx} {l : Env} {M J : Mem} {K : Env → Mem → Mem → Prop} {ty t : TypeId} {pos : String} {af : Array Edge} {g : Option (Nat × Bool)} {x y : Operand} {v : Value} {xs : List Value} {n j sz : Nat} {B M0 : Mem}
theorem l_stRowV {r : List Value} (hx : ev l x = some (vAt sz j v)) (hy : ev l y = some (.agg r.toArray)) (h : Sl sz v n xs B) (hr : r.length = sz) (h1 : ∀ u ∈ r, u.oneCell' = true)
    (ht : sizeT C.P t = some sz) (hj : j < n) (hM : M.Perm (B ++ M0)) (h2 : ∀ B', Sl sz v n (xs.take (j * sz) ++ r ++ xs.drop (j * sz + sz)) B' → K l (B' ++ M0) J) :
    OpL C ⟨none, .store t x y, ty, pos, af, g⟩ l M J K := by
  suffices hh : OpL C ⟨none, .store t x y, ty, pos, af, g⟩ l (B ++ M0) J K from fun Qp a w ha hw => hh Qp a w ha (hw.fit (Fit.perm hM) fun _ h => h)
  clear hM
  subst hr
  have hjm : j * r.length + r.length ≤ n * r.length := by rw [← Nat.succ_mul]; exact Nat.mul_le_mul_right _ hj
  rcases h with ⟨p, rfl, rfl, hx2, rfl⟩ | ⟨b, o, cap, cs, e, rfl, rfl, h3, h4, h5, h6, h7⟩
  · omega
  · simp only [vAt, Addr.add_mid] at hx
    have hcm : n * r.length ≤ cap * r.length := Nat.mul_le_mul_right _ h3
    refine l_storeR hx hy rfl ht (by omega) h1 rfl .hd (h2 [_] (.inr ⟨b, o, cap, _, e, rfl, rfl, h3, h4, ?_, ?_, ?_⟩))
    · rw [splice_len (by omega)]; exact h5
    · rw [splice_len (by omega)]; exact h6
    · intro q u hq
      have hlt := (List.getElem?_eq_some_iff.1 hq).1
      rw [splice_len (by omega)] at hlt
      by_cases hq1 : q < j * r.length
      · rw [splice_lt (by omega) hq1] at hq
        rw [splice_lt (by omega) (by omega)]
        exact h7 q u hq
      · by_cases hq2 : q < j * r.length + r.length
        · rw [splice_mid (by omega) (by omega) hq2] at hq
          rw [splice_mid (by omega) (by omega) (by omega), ← hq]
          congr 1; omega
        · rw [splice_ge (by omega) (by omega)] at hq
          rw [splice_ge (by omega) (by omega)]
          exact h7 q u hq
/-- The end of an owned slice is cleared: what is ahead of it stays. -/
theorem l_clearV {e : TypeId} {by_ : Nat} {zs : List Value} (hx : ev l x = some (vLo j sz v)) (ht : elemT C.P t = some (e, sz, by_)) (hz : zn C.P t (n - j) = some zs) (h : Sl sz v n xs B)
    (h1 : ∀ c ∈ zs, c.oneCell' = true) (hj : j < n) (hM : M.Perm (B ++ M0)) (h2 : ∀ B', Sl sz v n (xs.take (j * sz) ++ zs) B' → K l (B' ++ M0) J) :
    OpL C ⟨none, .call { callee := .builtin .clear, args := #[x], argTypes := #[t] }, ty, pos, af, g⟩ l M J K := by
  suffices hh : OpL C ⟨none, .call { callee := .builtin .clear, args := #[x], argTypes := #[t] }, ty, pos, af, g⟩ l (B ++ M0) J K from fun Qp a w ha hw => hh Qp a w ha (hw.fit (Fit.perm hM) fun _ h => h)
  clear hM
  have hzl := zn_len hz ht
  have hjm : j * sz ≤ n * sz := Nat.mul_le_mul_right _ (by omega)
  rw [Nat.sub_mul] at hzl
  rcases h with ⟨p, rfl, rfl, hx2, rfl⟩ | ⟨b, o, cap, cs, e', rfl, rfl, h3, h4, h5, h6, h7⟩
  · omega
  · have hcm : n * sz ≤ cap * sz := Nat.mul_le_mul_right _ h3
    simp only [vLo, if_neg (show ¬ cap = j by omega), Option.map_some, Addr.add_mid] at hx
    have hnj : (n - j) * sz = zs.length := by rw [hzl, Nat.sub_mul]
    refine l_clear hx ht hz h1 (by rw [hnj]; omega) rfl .hd (h2 [_] (.inr ⟨b, o, cap, _, e', rfl, rfl, h3, h4, ?_, ?_, ?_⟩))
    · rw [hnj, splice_len (by omega)]; exact h5
    · simp; omega
    · intro q u hq
      have hlt := (List.getElem?_eq_some_iff.1 hq).1
      simp at hlt
      rw [hnj]
      by_cases hq1 : q < j * sz
      · rw [splice_lt (by omega) (by omega)]
        rw [List.getElem?_append_left (by simp; omega), List.getElem?_take_of_lt hq1] at hq
        exact h7 q u hq
      · rw [splice_mid (by omega) (by omega) (by omega)]
        rw [List.getElem?_append_right (by simp; omega)] at hq
        rw [← hq]
        congr 1
        simp; omega
end
/-- What of the first rows is kept. -/
def kpt {β : Type} (p : Nat → Bool) (rows : List β) : Nat → List β
  | 0 => []
  | j + 1 => kpt p rows j ++ (if p j then [] else rows[j]?.toList)
theorem kpt_all {β : Type} {p : Nat → Bool} {rows : List β} : ∀ j, (∀ i, i < j → p i = false) → kpt p rows j = rows.take j
  | 0, _ => by simp [kpt]
  | j + 1, h => by
    rw [kpt, kpt_all j fun i hi => h i (by omega), if_neg (by rw [h j (by omega)]; decide), List.take_add_one]
theorem kpt_filter {α : Type} (q : α → Bool) (xs : List α) : ∀ j, kpt (fun i => (xs[i]?.map q).getD false) xs j = (xs.take j).filter fun x => !q x
  | 0 => by simp [kpt]
  | j + 1 => by
    rw [kpt, kpt_filter q xs j, List.take_add_one, List.filter_append]
    congr 1
    cases h : xs[j]? with
    | none => simp
    | some x => cases hq : q x <;> simp [hq]
theorem RwL.kpt {α : Type} {φ : Mem → α → List Value → Prop} {R : Mem} {rows : List (List Value)} {xs : List α} (h : RwL φ R rows xs) (p : Nat → Bool) : ∀ j, RwL φ R (Px.kpt p rows j) (Px.kpt p xs j)
  | 0 => RwL.nil
  | j + 1 => by
    rw [Px.kpt, Px.kpt]
    refine (RwL.kpt h p j).app ?_
    split
    · exact RwL.nil
    · cases hx : xs[j]? with
      | none =>
        have : rows[j]? = none := by rw [List.getElem?_eq_none_iff] at hx ⊢; rw [h.len]; exact hx
        rw [this]; exact RwL.nil
      | some x =>
        obtain ⟨r, h1, h2⟩ := h.get j x hx
        rw [h1]
        exact RwL.cons h2 RwL.nil
theorem set_take {α : Type} {cur : List α} {i : Nat} {r : α} (h : i < cur.length) : (cur.set i r).take (i + 1) = cur.take i ++ [r] := by
  rw [List.take_add_one, List.getElem?_set_self h, List.take_set_of_le (Nat.le_refl _)]
  rfl
theorem Sl.hi_app {sz n i : Nat} {v : Value} {xs zs : List Value} {B : Mem} (h : Sl sz v n (xs.take (i * sz) ++ zs) B) (hx : xs.length = n * sz) (hi : i ≤ n) : Sl sz (vHi i v) i (xs.take (i * sz)) B := by
  have h2 := h.hiV i hi
  have h3 : i * sz ≤ n * sz := Nat.mul_le_mul_right _ hi
  rwa [List.take_left' (by rw [List.length_take]; omega)] at h2
/-- How far a deletion is: at row j of the rows, i of them kept ahead in what the array holds now. -/
structure Dfs (sz : Nat) (p : Nat → Bool) (rows cur : List (List Value)) (j i : Nat) : Prop where
  jn : j ≤ rows.length
  ki : i = (kpt p rows j).length
  ij : i < j
  cl : cur.length = rows.length
  ct : cur.take i = kpt p rows j
  cd : cur.drop j = rows.drop j
  cs : ∀ r ∈ cur, r.length = sz
  cr : ∀ r ∈ cur, r ∈ rows
section
variable {sz : Nat} {p : Nat → Bool} {rows cur : List (List Value)} {j i i0 : Nat} {r : List Value}
theorem Dfs.init (hl : ∀ r ∈ rows, r.length = sz) (hi : i0 < rows.length) (hp : p i0 = true) (hq : ∀ j, j < i0 → p j = false) : Dfs sz p rows rows (i0 + 1) i0 := by
  have hk0 : kpt p rows (i0 + 1) = rows.take i0 := by rw [kpt, hp, kpt_all i0 hq]; simp
  exact ⟨hi, by rw [hk0, List.length_take]; omega, by omega, rfl, hk0.symm, rfl, hl, fun _ h => h⟩
theorem Dfs.at_ (h : Dfs sz p rows cur j i) (hr : rows[j]? = some r) : cur[j]? = some r := by
  have h2 := congrArg (fun l => l[0]?) h.cd
  simpa [List.getElem?_drop, hr] using h2
theorem Dfs.keep (h : Dfs sz p rows cur j i) (hr : rows[j]? = some r) (hp : p j = false) : Dfs sz p rows (cur.set i r) (j + 1) (i + 1) := by
  obtain ⟨h1, h2, h3, h4, h5, h6, h7, h8⟩ := h
  have hjl := (List.getElem?_eq_some_iff.1 hr).1
  have hk : kpt p rows (j + 1) = kpt p rows j ++ [r] := by rw [kpt, hp, hr]; rfl
  have hcj : cur.drop (j + 1) = rows.drop (j + 1) := by rw [← List.drop_drop, ← List.drop_drop, h6]
  refine ⟨hjl, by rw [hk]; simp [← h2], by omega, by simp [h4], ?_, ?_, ?_, ?_⟩
  · rw [set_take (by omega), h5, hk]
  · rw [List.drop_set_of_lt (by omega), hcj]
  · intro x hx
    rcases List.mem_or_eq_of_mem_set hx with hx | hx
    · exact h7 x hx
    · subst hx; exact h7 x (List.mem_of_getElem? (Dfs.at_ ⟨h1, h2, h3, h4, h5, h6, h7, h8⟩ hr))
  · intro x hx
    rcases List.mem_or_eq_of_mem_set hx with hx | hx
    · exact h8 x hx
    · subst hx; exact List.mem_of_getElem? hr
theorem Dfs.skip (h : Dfs sz p rows cur j i) (hjl : j < rows.length) (hp : p j = true) : Dfs sz p rows cur (j + 1) i := by
  obtain ⟨h1, h2, h3, h4, h5, h6, h7, h8⟩ := h
  have hk : kpt p rows (j + 1) = kpt p rows j := by rw [kpt, hp]; simp
  exact ⟨hjl, by rw [hk]; exact h2, by omega, h4, by rw [hk]; exact h5, by rw [← List.drop_drop, ← List.drop_drop, h6], h7, h8⟩
end
end Go.Px

/- slices.DeleteFunc of prekeys and of names. -/
namespace Go.Proofs.YtphcaiplgpmnnaaGreatDoor
open Go.Px
theorem cmp_eqm1 {k : IntKind} (c : Int) : arith .eql k c (-1) = some (.bool (decide (c = -1))) := by
  by_cases h : c = -1
  · rw [decide_eq_true h]; exact eqT h
  · rw [decide_eq_false h]; exact eqF h

theorem delfn_Pair (v : Value) (rows : List (List Value)) (f : FuncId) (cs : List Value) (p : Nat → Bool) (B A : Mem) (hs : Sl 3 v rows.length rows.flatten B) (hl : ∀ r ∈ rows, r.length = 3) (h1 : ∀ c ∈ rows.flatten, c.oneCell' = true) (hn : rows.length ≤ 1099511627776) (hc_ : callable Tryz.prog f = true) (hf : ∀ (j : Nat) (r : List Value), rows[j]? = some r → FnV Tryz.prog f (.agg r.toArray :: cs) A (.bool (p j))) : FnX Tryz.prog 61 [v, .func (.func f) #[] cs.toArray] B A fun q M J => Sl 3 q (kpt p rows rows.length).length (kpt p rows rows.length).flatten M := by
 haveI := hs.cel
 refine FnX.enterZ (N := 42) Tryz.func61 rfl rfl rfl fun w_ => ?_
 refine XC.keep (kq 0 (kq 1 kn)) ?_
 refine XC.reg ?_
 refine as_ ?_
 refine XL.fin (kq 0 (kq 1 kn)) ?_
 refine XC.reg ?_
 refine mv_ (mv_ ?_)
 refine XL.callV (aS rfl (aS rfl a0)) (by kernel_rfl) (index_Pair v rows f cs p _ (hs.rd fun x hx => by simp [hx]) hl hn hc_ (fun j r hr => fnv_up (hf j r hr) SubC.sub)) rfl ?_
 refine as_ ?_
 refine XL.fin (kq 0 (kq 1 (kq 5 kn))) ?_
 refine XC.seq ?_
 refine XC.reg ?_
 refine mv_ ?_
 refine XL.q (q_cmp (decide (fidx p rows.length = -1)) rfl rfl (cmp_eqm1 _)) rfl ?_
 refine XL.fin (kq 0 (kq 1 (kq 5 (kq 12 kn)))) ?_
 refine XC.cond rfl (fun hc => ?_) (fun hc => ?_)
 ·
  have hm1 : fidx p rows.length = -1 := of_decide_eq_true hc
  have hall : ∀ i, i < rows.length → p i = false := by rcases fidx_cases p rows.length with ⟨_, h⟩ | ⟨i, _, h, _, _⟩; exact h; omega
  refine XC.reg ?_
  refine mv_ (as_ ?_)
  refine XL.fin (kq 4 kn) ?_
  refine XC.ret ?_
  refine tr ?_
  refine ⟨_, B, [], res1 rfl rfl, Fit.none (Fit.last PickC.perm), ?_⟩
  rw [kpt_all _ hall, List.take_length]
  exact hs
 ·
  have hne : ¬ fidx p rows.length = -1 := of_decide_eq_false hc
  obtain ⟨i0, hi0, he0, hp0, hq0⟩ : ∃ i, i < rows.length ∧ fidx p rows.length = (i : Int) ∧ p i = true ∧ ∀ j, j < i → p j = false := (fidx_cases p rows.length).resolve_left fun h => hne h.1
  rw [he0]
  refine XC.skip ?_
  refine nx (kq 0 (kq 1 (kq 5 kn))) ?_
  refine XC.seq ?_
  refine XC.reg ?_
  refine mv_ ?_
  refine XL.q (q_num ((i0 + 1 : Nat) : Int) rfl rfl (add64 (by omega) (by omega) (by omega))) rfl ?_
  refine as_ ?_
  refine XL.fin (kq 0 (kq 1 (kq 5 (kq 6 kn)))) ?_
  refine XC.block ?_
  refine XC.loop (α := Nat × Nat × List (List Value) × Mem) (fun y => [(0, v), (1, .func (.func f) #[] cs.toArray), (5, .int .i64 ((y.2.1 : Nat) : Int)), (6, .int .i64 ((y.1 : Nat) : Int))]) (fun y => y.2.2.2) (fun _ => []) (fun y => Dfs 3 p rows y.2.2.1 y.1 y.2.1 ∧ Sl 3 v rows.length y.2.2.1.flatten y.2.2.2) (fun y => rows.length - y.1) (i0 + 1, i0, rows, B) ⟨Dfs.init hl hi0 hp0 hq0, hs⟩ (kq 0 (kq 1 (kq 5 (kq 6 kn)))) Fit.rfl (fun _ h => h) ?_
  rintro ⟨j, i, cur, Bc⟩ ⟨hD, hsc⟩
  dsimp only at hD hsc ⊢
  have hjn := hD.jn
  have hij := hD.ij
  have hcs := hD.cs
  refine XC.seq ?_
  refine XC.reg ?_
  refine mv_ (mv_ ?_)
  refine XL.q (q_lenV2 (sz := 3) rfl (by kernel_rfl) (hsc.rd (R := Bc) fun _ h => h)) rfl ?_
  refine XL.q (q_bin rfl rfl rfl) rfl ?_
  refine XL.fin (kq 0 (kq 1 (kq 5 (kq 6 (kq 19 kn))))) ?_
  refine XC.cond rfl (fun hc => ?_) (fun hc => ?_)
  ·
   have hlt : j < rows.length := by simp at hc; omega
   obtain ⟨r, hr⟩ : ∃ r, rows[j]? = some r := ⟨_, List.getElem?_eq_getElem hlt⟩
   have hrc : cur[j]? = some r := hD.at_ hr
   have hrl : r.length = 3 := hcs r (List.mem_of_getElem? hrc)
   have hr1 : ∀ c ∈ r, c.oneCell' = true := fun c hc => h1 c (List.mem_flatten.2 ⟨r, List.mem_of_getElem? hr, hc⟩)
   obtain ⟨c0_, c1_, c2_, rfl⟩ : ∃ c0_ c1_ c2_, r = [c0_, c1_, c2_] := by match r, hrl with | [c0_, c1_, c2_], _ => exact ⟨c0_, c1_, c2_, rfl⟩
   refine XC.skip ?_
   refine nx (kq 0 (kq 1 (kq 5 (kq 6 kn)))) ?_
   refine XC.seq ?_
   refine XC.block ?_
   refine XC.reg ?_
   refine mv_ (mv_ ?_)
   refine XL.q (q_atV2 (sz := 3) (a := j) rfl rfl (by kernel_rfl) rfl (hsc.rd (R := Bc) fun _ h => h) hlt) rfl ?_
   refine XL.q (q_ldVR rfl (by kernel_rfl) (hsc.rd fun x hx => by simp [hx]) hcs (by decide) hrc) rfl ?_
   refine XL.lo rfl (l_alloc (cs := [.int .u32 0, .slice none 0 0, .slice none 0 0]) (by kernel_rfl) rfl fun b7 => ?_)
   refine XL.lo rfl (l_storeW rfl rfl rfl (by kernel_rfl) (by rfl) hr1 UpC.upd ?_)
   refine XL.fin (kq 0 (kq 1 (kq 5 (kq 6 (kq 7 kn))))) ?_
   refine XC.reg ?_
   refine mv_ ?_
   refine XL.q (qw_ 3) rfl ?_
   refine XL.lo rfl (l_callFV rfl (aS rfl a0) hc_ (fnv_up (hf j _ hr) SubC.sub) rfl ?_)
   refine XL.q (q_not rfl) rfl ?_
   refine XL.fin (kq 0 (kq 1 (kq 5 (kq 6 (kq 7 (kq 29 kn)))))) ?_
   refine XC.cond rfl (fun hc => ?_) (fun hc => ?_)
   ·
    refine XC.reg ?_
    refine mv_ (mv_ ?_)
    refine XL.q (qw_ 3) rfl ?_
    refine XL.q (q_atV2 (sz := 3) (a := i) rfl rfl (by kernel_rfl) rfl (hsc.rd (R := Bc) fun _ h => h) (by omega)) rfl ?_
    refine XL.lo rfl (l_stRowV (sz := 3) (j := i) rfl rfl hsc hrl hr1 (by kernel_rfl) (by omega) PickC.perm fun B33 hs33 => ?_)
    refine XL.fin (kq 0 (kq 1 (kq 5 (kq 6 kn)))) ?_
    refine XC.reg1 ?_
    refine mv_ ?_
    refine XL.q (q_num ((i + 1 : Nat) : Int) rfl rfl (add64 (by omega) (by omega) (by omega))) rfl ?_
    refine as_ ?_
    refine XL.nil ?_
    refine nb ?_
    refine nx (kq 0 (kq 1 (kq 5 (kq 6 kn)))) ?_
    refine XC.reg1 ?_
    refine mv_ ?_
    refine XL.q (q_num ((j + 1 : Nat) : Int) rfl rfl (add64 (by omega) (by omega) (by omega))) rfl ?_
    refine as_ ?_
    refine XL.nil ?_
    exact rn (j + 1, i + 1, cur.set i [c0_, c1_, c2_], B33) ⟨hD.keep hr (by simpa using hc), by rw [← flat_set hcs rfl (by have := hD.cl; omega)]; exact hs33⟩ (by dsimp only; omega) (kq 0 (kq 1 (kq 5 (kq 6 kn)))) (Fit.last PickC.perm) (fun _ h => h)
   ·
    refine XC.skip ?_
    refine nb ?_
    refine nx (kq 0 (kq 1 (kq 5 (kq 6 kn)))) ?_
    refine XC.reg1 ?_
    refine mv_ ?_
    refine XL.q (q_num ((j + 1 : Nat) : Int) rfl rfl (add64 (by omega) (by omega) (by omega))) rfl ?_
    refine as_ ?_
    refine XL.nil ?_
    exact rn (j + 1, i, cur, Bc) ⟨hD.skip hlt (by simpa using hc), hsc⟩ (by dsimp only; omega) (kq 0 (kq 1 (kq 5 (kq 6 kn)))) (Fit.last PickC.perm) (fun _ h => h)
  ·
   have hge : j = rows.length := by simp at hc; omega
   subst hge
   refine XC.exit ?_
   refine te ?_
   refine re ?_
   refine be rfl ?_
   refine nx (kq 0 (kq 5 kn)) ?_
   refine XC.reg ?_
   refine mv_ (mv_ ?_)
   refine XL.q (q_loV2 (sz := 3) rfl rfl (by kernel_rfl) rfl (by first | assumption | exact Sl.rd (by assumption) (fun _ h => h) | exact By.rd (by assumption)) (by omega)) rfl ?_
   refine XL.lo rfl (l_clearV (e := 98) (by_ := 56) (zs := (Builtin.zeroCells #[.int .u32 0, .slice none 0 0, .slice none 0 0] (rows.length - i)).toList) rfl (by kernel_rfl) (by kernel_rfl) hsc (zeroCells_one (by simp [Value.oneCell']) (by simp) _) (by omega) PickC.perm fun B38 hs38 => ?_)
   refine XL.fin (kq 0 (kq 5 kn)) ?_
   refine XC.reg ?_
   refine mv_ (mv_ ?_)
   refine XL.q (q_hiV2 (sz := 3) (a := i) rfl rfl (by kernel_rfl) rfl (hs38.rd (R := B38) fun _ h => h) (by omega)) rfl ?_
   refine as_ ?_
   refine XL.fin (kq 4 kn) ?_
   refine XC.ret ?_
   refine ⟨_, B38, [], res1 rfl rfl, Fit.none (Fit.last PickC.perm), ?_⟩
   have h2 := hs38.hi_app (by rw [flat_len hcs, hD.cl]) (by omega)
   rw [flat_take hcs, hD.ct] at h2
   rw [← hD.ki]
   exact h2

theorem delfn_Name (v : Value) (rows : List (List Value)) (f : FuncId) (cs : List Value) (p : Nat → Bool) (B A : Mem) (hs : Sl 2 v rows.length rows.flatten B) (hl : ∀ r ∈ rows, r.length = 2) (h1 : ∀ c ∈ rows.flatten, c.oneCell' = true) (hn : rows.length ≤ 1099511627776) (hc_ : callable Tryz.prog f = true) (hf : ∀ (j : Nat) (r : List Value), rows[j]? = some r → FnV Tryz.prog f (.agg r.toArray :: cs) A (.bool (p j))) : FnX Tryz.prog 57 [v, .func (.func f) #[] cs.toArray] B A fun q M J => Sl 2 q (kpt p rows rows.length).length (kpt p rows rows.length).flatten M := by
 haveI := hs.cel
 refine FnX.enterZ (N := 42) Tryz.func57 rfl rfl rfl fun w_ => ?_
 refine XC.keep (kq 0 (kq 1 kn)) ?_
 refine XC.reg ?_
 refine as_ ?_
 refine XL.fin (kq 0 (kq 1 kn)) ?_
 refine XC.reg ?_
 refine mv_ (mv_ ?_)
 refine XL.callV (aS rfl (aS rfl a0)) (by kernel_rfl) (index_Name v rows f cs p _ (hs.rd fun x hx => by simp [hx]) hl hn hc_ (fun j r hr => fnv_up (hf j r hr) SubC.sub)) rfl ?_
 refine as_ ?_
 refine XL.fin (kq 0 (kq 1 (kq 5 kn))) ?_
 refine XC.seq ?_
 refine XC.reg ?_
 refine mv_ ?_
 refine XL.q (q_cmp (decide (fidx p rows.length = -1)) rfl rfl (cmp_eqm1 _)) rfl ?_
 refine XL.fin (kq 0 (kq 1 (kq 5 (kq 12 kn)))) ?_
 refine XC.cond rfl (fun hc => ?_) (fun hc => ?_)
 ·
  have hm1 : fidx p rows.length = -1 := of_decide_eq_true hc
  have hall : ∀ i, i < rows.length → p i = false := by rcases fidx_cases p rows.length with ⟨_, h⟩ | ⟨i, _, h, _, _⟩; exact h; omega
  refine XC.reg ?_
  refine mv_ (as_ ?_)
  refine XL.fin (kq 4 kn) ?_
  refine XC.ret ?_
  refine tr ?_
  refine ⟨_, B, [], res1 rfl rfl, Fit.none (Fit.last PickC.perm), ?_⟩
  rw [kpt_all _ hall, List.take_length]
  exact hs
 ·
  have hne : ¬ fidx p rows.length = -1 := of_decide_eq_false hc
  obtain ⟨i0, hi0, he0, hp0, hq0⟩ : ∃ i, i < rows.length ∧ fidx p rows.length = (i : Int) ∧ p i = true ∧ ∀ j, j < i → p j = false := (fidx_cases p rows.length).resolve_left fun h => hne h.1
  rw [he0]
  refine XC.skip ?_
  refine nx (kq 0 (kq 1 (kq 5 kn))) ?_
  refine XC.seq ?_
  refine XC.reg ?_
  refine mv_ ?_
  refine XL.q (q_num ((i0 + 1 : Nat) : Int) rfl rfl (add64 (by omega) (by omega) (by omega))) rfl ?_
  refine as_ ?_
  refine XL.fin (kq 0 (kq 1 (kq 5 (kq 6 kn)))) ?_
  refine XC.block ?_
  refine XC.loop (α := Nat × Nat × List (List Value) × Mem) (fun y => [(0, v), (1, .func (.func f) #[] cs.toArray), (5, .int .i64 ((y.2.1 : Nat) : Int)), (6, .int .i64 ((y.1 : Nat) : Int))]) (fun y => y.2.2.2) (fun _ => []) (fun y => Dfs 2 p rows y.2.2.1 y.1 y.2.1 ∧ Sl 2 v rows.length y.2.2.1.flatten y.2.2.2) (fun y => rows.length - y.1) (i0 + 1, i0, rows, B) ⟨Dfs.init hl hi0 hp0 hq0, hs⟩ (kq 0 (kq 1 (kq 5 (kq 6 kn)))) Fit.rfl (fun _ h => h) ?_
  rintro ⟨j, i, cur, Bc⟩ ⟨hD, hsc⟩
  dsimp only at hD hsc ⊢
  have hjn := hD.jn
  have hij := hD.ij
  have hcs := hD.cs
  refine XC.seq ?_
  refine XC.reg ?_
  refine mv_ (mv_ ?_)
  refine XL.q (q_lenV2 (sz := 2) rfl (by kernel_rfl) (hsc.rd (R := Bc) fun _ h => h)) rfl ?_
  refine XL.q (q_bin rfl rfl rfl) rfl ?_
  refine XL.fin (kq 0 (kq 1 (kq 5 (kq 6 (kq 19 kn))))) ?_
  refine XC.cond rfl (fun hc => ?_) (fun hc => ?_)
  ·
   have hlt : j < rows.length := by simp at hc; omega
   obtain ⟨r, hr⟩ : ∃ r, rows[j]? = some r := ⟨_, List.getElem?_eq_getElem hlt⟩
   have hrc : cur[j]? = some r := hD.at_ hr
   have hrl : r.length = 2 := hcs r (List.mem_of_getElem? hrc)
   have hr1 : ∀ c ∈ r, c.oneCell' = true := fun c hc => h1 c (List.mem_flatten.2 ⟨r, List.mem_of_getElem? hr, hc⟩)
   obtain ⟨c0_, c1_, rfl⟩ : ∃ c0_ c1_, r = [c0_, c1_] := by match r, hrl with | [c0_, c1_], _ => exact ⟨c0_, c1_, rfl⟩
   refine XC.skip ?_
   refine nx (kq 0 (kq 1 (kq 5 (kq 6 kn)))) ?_
   refine XC.seq ?_
   refine XC.block ?_
   refine XC.reg ?_
   refine mv_ (mv_ ?_)
   refine XL.q (q_atV2 (sz := 2) (a := j) rfl rfl (by kernel_rfl) rfl (hsc.rd (R := Bc) fun _ h => h) hlt) rfl ?_
   refine XL.q (q_ldVR rfl (by kernel_rfl) (hsc.rd fun x hx => by simp [hx]) hcs (by decide) hrc) rfl ?_
   refine XL.lo rfl (l_alloc (cs := [.int .u32 0, .slice none 0 0]) (by kernel_rfl) rfl fun b7 => ?_)
   refine XL.lo rfl (l_storeW rfl rfl rfl (by kernel_rfl) (by rfl) hr1 UpC.upd ?_)
   refine XL.fin (kq 0 (kq 1 (kq 5 (kq 6 (kq 7 kn))))) ?_
   refine XC.reg ?_
   refine mv_ ?_
   refine XL.q (qw_ 2) rfl ?_
   refine XL.lo rfl (l_callFV rfl (aS rfl a0) hc_ (fnv_up (hf j _ hr) SubC.sub) rfl ?_)
   refine XL.q (q_not rfl) rfl ?_
   refine XL.fin (kq 0 (kq 1 (kq 5 (kq 6 (kq 7 (kq 29 kn)))))) ?_
   refine XC.cond rfl (fun hc => ?_) (fun hc => ?_)
   ·
    refine XC.reg ?_
    refine mv_ (mv_ ?_)
    refine XL.q (qw_ 2) rfl ?_
    refine XL.q (q_atV2 (sz := 2) (a := i) rfl rfl (by kernel_rfl) rfl (hsc.rd (R := Bc) fun _ h => h) (by omega)) rfl ?_
    refine XL.lo rfl (l_stRowV (sz := 2) (j := i) rfl rfl hsc hrl hr1 (by kernel_rfl) (by omega) PickC.perm fun B33 hs33 => ?_)
    refine XL.fin (kq 0 (kq 1 (kq 5 (kq 6 kn)))) ?_
    refine XC.reg1 ?_
    refine mv_ ?_
    refine XL.q (q_num ((i + 1 : Nat) : Int) rfl rfl (add64 (by omega) (by omega) (by omega))) rfl ?_
    refine as_ ?_
    refine XL.nil ?_
    refine nb ?_
    refine nx (kq 0 (kq 1 (kq 5 (kq 6 kn)))) ?_
    refine XC.reg1 ?_
    refine mv_ ?_
    refine XL.q (q_num ((j + 1 : Nat) : Int) rfl rfl (add64 (by omega) (by omega) (by omega))) rfl ?_
    refine as_ ?_
    refine XL.nil ?_
    exact rn (j + 1, i + 1, cur.set i [c0_, c1_], B33) ⟨hD.keep hr (by simpa using hc), by rw [← flat_set hcs rfl (by have := hD.cl; omega)]; exact hs33⟩ (by dsimp only; omega) (kq 0 (kq 1 (kq 5 (kq 6 kn)))) (Fit.last PickC.perm) (fun _ h => h)
   ·
    refine XC.skip ?_
    refine nb ?_
    refine nx (kq 0 (kq 1 (kq 5 (kq 6 kn)))) ?_
    refine XC.reg1 ?_
    refine mv_ ?_
    refine XL.q (q_num ((j + 1 : Nat) : Int) rfl rfl (add64 (by omega) (by omega) (by omega))) rfl ?_
    refine as_ ?_
    refine XL.nil ?_
    exact rn (j + 1, i, cur, Bc) ⟨hD.skip hlt (by simpa using hc), hsc⟩ (by dsimp only; omega) (kq 0 (kq 1 (kq 5 (kq 6 kn)))) (Fit.last PickC.perm) (fun _ h => h)
  ·
   have hge : j = rows.length := by simp at hc; omega
   subst hge
   refine XC.exit ?_
   refine te ?_
   refine re ?_
   refine be rfl ?_
   refine nx (kq 0 (kq 5 kn)) ?_
   refine XC.reg ?_
   refine mv_ (mv_ ?_)
   refine XL.q (q_loV2 (sz := 2) rfl rfl (by kernel_rfl) rfl (by first | assumption | exact Sl.rd (by assumption) (fun _ h => h) | exact By.rd (by assumption)) (by omega)) rfl ?_
   refine XL.lo rfl (l_clearV (e := 101) (by_ := 32) (zs := (Builtin.zeroCells #[.int .u32 0, .slice none 0 0] (rows.length - i)).toList) rfl (by kernel_rfl) (by kernel_rfl) hsc (zeroCells_one (by simp [Value.oneCell']) (by simp) _) (by omega) PickC.perm fun B38 hs38 => ?_)
   refine XL.fin (kq 0 (kq 5 kn)) ?_
   refine XC.reg ?_
   refine mv_ (mv_ ?_)
   refine XL.q (q_hiV2 (sz := 2) (a := i) rfl rfl (by kernel_rfl) rfl (hs38.rd (R := B38) fun _ h => h) (by omega)) rfl ?_
   refine as_ ?_
   refine XL.fin (kq 4 kn) ?_
   refine XC.ret ?_
   refine ⟨_, B38, [], res1 rfl rfl, Fit.none (Fit.last PickC.perm), ?_⟩
   have h2 := hs38.hi_app (by rw [flat_len hcs, hD.cl]) (by omega)
   rw [flat_take hcs, hD.ct] at h2
   rw [← hD.ki]
   exact h2

end Go.Proofs.YtphcaiplgpmnnaaGreatDoor
/-
  Groups of operations of a drawn region that come up in any order; each works on blocks of its own (m), which it may change, and makes new ones.
-/
namespace Go.Px
structure Gv where
  i : Nat
  d : Nat
  m : Mem
  φ : Value → Mem → Mem → Prop
def gEnvM (G : List Gv) (vs : Nat → Value) : Env := G.map fun g => (g.d, vs g.i)
def toGM (G : List Gv) : List Gm := G.map fun g => ⟨g.i, g.d, fun _ _ => True⟩
theorem toGM_i (G : List Gv) : (toGM G).map (·.i) = G.map (·.i) := by simp [toGM]
theorem toGM_d (G : List Gv) : (toGM G).map (·.d) = G.map (·.d) := by simp [toGM]
theorem toGM_env (G : List Gv) (vs : Nat → Value) : gEnv (toGM G) vs = gEnvM G vs := by simp [gEnv, gEnvM, toGM]
theorem gv_inj {G : List Gv} (h : (G.map (·.i)).Nodup) {g g' : Gv} (hg : g ∈ G) (hg' : g' ∈ G) (e : g.i = g'.i) : g = g' := by
  induction G with
  | nil => cases hg
  | cons x G ih =>
    simp only [List.map_cons, List.nodup_cons] at h
    rcases List.mem_cons.1 hg with h1 | h1 <;> rcases List.mem_cons.1 hg' with h2 | h2
    · rw [h1, h2]
    · exact absurd (by rw [← h1, e]; exact List.mem_map_of_mem (f := Gv.i) h2) h.1
    · exact absurd (by rw [← h2, ← e]; exact List.mem_map_of_mem (f := Gv.i) h1) h.1
    · exact ih h.2 h1 h2
/-- The blocks of a group, of which X have come up. -/
def curM (X : List Nat) (bs : Nat → Mem) (G : List Gv) : Mem := (G.map fun g => if g.i ∈ X then bs g.i else g.m).flatten
def doneM (X : List Nat) (bs : Nat → Mem) (G : List Gv) : Mem := (G.map fun g => if g.i ∈ X then bs g.i else []).flatten
def allM (bs : Nat → Mem) (G : List Gv) : Mem := (G.map fun g => bs g.i).flatten
theorem doneM_sub {X : List Nat} {bs : Nat → Mem} {G : List Gv} : ∀ x ∈ doneM X bs G, x ∈ curM X bs G := by
  intro x hx
  unfold doneM at hx
  unfold curM
  obtain ⟨l, hl, hx⟩ := List.mem_flatten.1 hx
  obtain ⟨g, hg, rfl⟩ := List.mem_map.1 hl
  refine List.mem_flatten.2 ⟨_, List.mem_map_of_mem hg, ?_⟩
  split at hx
  · rename_i h; rw [if_pos h]; exact hx
  · cases hx
theorem curM_step {X : List Nat} {bs : Nat → Mem} {G : List Gv} {g : Gv} (hi : (G.map (·.i)).Nodup) (hg : g ∈ G) (hX : g.i ∉ X) (M' : Mem) :
    ∃ R, (curM X bs G).Perm (g.m ++ R) ∧ (∀ x ∈ doneM X bs G, x ∈ R) ∧ (M' ++ R).Perm (curM (X ++ [g.i]) (fun k => if k = g.i then M' else bs k) G) ∧ (∀ x ∈ M' ++ doneM X bs G, x ∈ doneM (X ++ [g.i]) (fun k => if k = g.i then M' else bs k) G) := by
  obtain ⟨s, t, rfl⟩ := List.append_of_mem hg
  have hne : ∀ x ∈ s ++ t, x.i ≠ g.i := by
    intro x hx e
    simp only [List.map_append, List.map_cons, List.nodup_append, List.nodup_cons] at hi
    rcases List.mem_append.1 hx with h | h
    · exact hi.2.2 _ (List.mem_map_of_mem (f := Gv.i) h) _ List.mem_cons_self e
    · exact hi.2.1.1 (e ▸ List.mem_map_of_mem (f := Gv.i) h)
  have e1 : ∀ (f f' : Gv → Mem) (l : List Gv), (∀ x ∈ l, f x = f' x) → l.map f = l.map f' := fun f f' l h => List.map_congr_left h
  have es : (s.map fun x => if x.i ∈ X ++ [g.i] then (if x.i = g.i then M' else bs x.i) else x.m) = s.map fun x => if x.i ∈ X then bs x.i else x.m := e1 _ _ _ fun x hx => by
    have h := hne x (List.mem_append_left _ hx)
    simp [h]
  have et : (t.map fun x => if x.i ∈ X ++ [g.i] then (if x.i = g.i then M' else bs x.i) else x.m) = t.map fun x => if x.i ∈ X then bs x.i else x.m := e1 _ _ _ fun x hx => by
    have h := hne x (List.mem_append_right _ hx)
    simp [h]
  have fs : (s.map fun x => if x.i ∈ X ++ [g.i] then (if x.i = g.i then M' else bs x.i) else ([] : Mem)) = s.map fun x => if x.i ∈ X then bs x.i else [] := e1 _ _ _ fun x hx => by
    have h := hne x (List.mem_append_left _ hx)
    simp [h]
  have ft : (t.map fun x => if x.i ∈ X ++ [g.i] then (if x.i = g.i then M' else bs x.i) else ([] : Mem)) = t.map fun x => if x.i ∈ X then bs x.i else [] := e1 _ _ _ fun x hx => by
    have h := hne x (List.mem_append_right _ hx)
    simp [h]
  refine ⟨(s.map fun x => if x.i ∈ X then bs x.i else x.m).flatten ++ (t.map fun x => if x.i ∈ X then bs x.i else x.m).flatten, ?_, ?_, ?_, ?_⟩
  · simp only [curM, List.map_append, List.map_cons, if_neg hX, List.flatten_append, List.flatten_cons]
    exact List.perm_append_comm_assoc _ _ _
  · intro x hx
    simp only [doneM, List.map_append, List.map_cons, if_neg hX, List.flatten_append, List.flatten_cons, List.nil_append, List.mem_append] at hx
    refine List.mem_append.2 (hx.imp (fun h => ?_) fun h => ?_)
    · exact doneM_sub (G := s) x h
    · exact doneM_sub (G := t) x h
  · simp only [curM, List.map_append, List.map_cons, List.flatten_append, List.flatten_cons, es, et]
    simp only [List.mem_append, List.mem_singleton, or_true, if_true]
    exact (List.perm_append_comm_assoc _ _ _).symm
  · intro x hx
    simp only [doneM, List.map_append, List.map_cons, List.flatten_append, List.flatten_cons, fs, ft]
    simp only [List.mem_append, List.mem_singleton, or_true, if_true]
    simp only [doneM, List.map_append, List.map_cons, if_neg hX, List.flatten_append, List.flatten_cons, List.nil_append, List.mem_append] at hx
    rcases hx with h | h | h
    · exact .inr (.inl h)
    · exact .inl h
    · exact .inr (.inr h)
theorem curM_nil {bs : Nat → Mem} {G : List Gv} : curM [] bs G = (G.map (·.m)).flatten := by simp [curM]
theorem curM_all {X : List Nat} {bs : Nat → Mem} {G : List Gv} (h : ∀ g ∈ G, g.i ∈ X) : curM X bs G = allM bs G := by
  unfold curM allM
  rw [List.map_congr_left (g := fun g => bs g.i) fun g hg => if_pos (h g hg)]
/-- Facts of more blocks may be added to what a call came to. -/
theorem St.widen {P : Program} {w w' : World} {F : List Nat} {A A' Mc M' J' : Mem} {n : Nat} (h : St ⟨P, w, F, A', n⟩ Mc [] w) (hs : St ⟨P, w, F, A, n⟩ M' J' w') : St ⟨P, w, F, A', n⟩ M' J' w' := by
  refine ⟨hs.os, hs.tape, hs.output, hs.size, hs.frame, fun b o hb => ?_, hs.nodup, hs.own, hs.sepJ, h.sepA, hs.old⟩
  simp only [List.mem_append] at hb
  rcases hb with hb | hb | hb
  · exact hs.mem b o (by simp [hb])
  · exact hs.mem b o (by simp [hb])
  · have h1 := h.sepA b o hb
    have h2 := hs.frame b h1.2 h1.1
    rw [h2]
    exact h.mem b o (by simp; exact .inr hb)
theorem St.less {P : Program} {w : World} {F : List Nat} {A A' Mc : Mem} {n : Nat} (h : St ⟨P, w, F, A', n⟩ Mc [] w) (hA : ∀ x ∈ A, x ∈ A') : St ⟨P, w, F, A, n⟩ Mc [] w :=
  ⟨h.os, h.tape, h.output, h.size, h.frame, fun b o hb => h.mem b o (by simp at hb ⊢; exact hb.imp id (hA _)), h.nodup, h.own, h.sepJ, fun b o hb => h.sepA b o (hA _ hb), h.old⟩
section group
variable {C : Cx} {Q : XQ} {l : Env} {M M0 J : Mem} {os : List Oper} {K : Nat → Prop} {n0 : Nat} {nd : List Nat} {plan : List (Nat × Nat)}
def OwesM (C : Cx) (os : List Oper) (l : Env) (M0 J : Mem) (G : List Gv) (g : Gv) : Prop :=
  ∃ o, nth os g.i = some o ∧ ∀ (vs : Nat → Value) (bs : Nat → Mem) (R Rj : Mem) (w : World), (∀ x ∈ M0 ++ (J ++ C.A), x ∈ R) → (∀ x ∈ J ++ C.A, x ∈ Rj) → (∀ x ∈ Rj, x ∈ R) → (∀ g' ∈ G, anc os.toArray os.toArray.size g.i g'.i = true → g'.φ (vs g'.i) (bs g'.i) Rj) →
    Asked os (gEnvM G vs ++ l) o ∧ OpL ⟨C.P, w, g.m.map Prod.fst, R, C.N⟩ o (gEnvM G vs ++ l) g.m [] (fun l' M' J' => ∃ v, l' = (g.d, v) :: (gEnvM G vs ++ l) ∧ g.φ v M' (J' ++ Rj))
theorem groupM_go {G : List Gv} (hmono : ∀ g ∈ G, GrowsO g.φ) (hd : (G.map (·.d)).Nodup) (hi : (G.map (·.i)).Nodup) (hK : ∀ g ∈ G, ∀ x ∈ g.m, K x.1) (hob : ∀ g ∈ G, OwesM C os l M0 J G g) {A B : Array Bool} (hok : GOk os.toArray A (G.map (·.i)) B)
    (hfin : ∀ (vs : Nat → Value) (bs : Nat → Mem) Jn a w, (∀ g ∈ G, g.φ (vs g.i) (bs g.i) ((Jn ++ J) ++ C.A)) → (∀ g ∈ G, ∀ x ∈ bs g.i, x.1 ∈ g.m.map Prod.fst ∨ n0 ≤ x.1) → Ag C.N (gEnvM G vs ++ l) a → St C (allM bs G ++ M0) (Jn ++ J) w → n0 ≤ w.heap.size → wpAnyS C.P os.toArray (noPanicX (lift C Q)) (Sk K) nd.contains plan.length B a w) :
    ∀ (n : Nat) (X : List Nat) (vs : Nat → Value) (bs : Nat → Mem) (Jn : Mem) (a : Act) (w : World), X.Nodup → (∀ i ∈ X, i ∈ G.map (·.i)) → n + X.length = G.length → Closed os.toArray (mark A X) →
      (∀ g ∈ G, g.i ∈ X → g.φ (vs g.i) (bs g.i) ((Jn ++ J) ++ C.A)) → (∀ g ∈ G, g.i ∈ X → ∀ x ∈ bs g.i, x.1 ∈ g.m.map Prod.fst ∨ n0 ≤ x.1) → Ag C.N (gEnvM G vs ++ l) a → St C (curM X bs G ++ M0) (Jn ++ J) w → n0 ≤ w.heap.size →
      wpAnyS C.P os.toArray (noPanicX (lift C Q)) (Sk K) nd.contains (n + plan.length) (mark A X) a w := by
  intro n
  induction n with
  | zero =>
    intro X vs bs Jn a w hnd hX hlen hcl hφ hN ha hw hn
    have hall : ∀ i, i ∈ X ↔ i ∈ G.map (·.i) := fun i => ⟨hX i, nodup_all hnd hX (by simp; omega) i⟩
    have hin : ∀ g ∈ G, g.i ∈ X := fun g hg => (hall _).2 (List.mem_map_of_mem (f := Gv.i) hg)
    have hcur := curM_all (bs := bs) hin
    rw [hcur] at hw
    rw [Nat.zero_add, mark_eq hall, ← hok.mark]
    exact hfin vs bs Jn a w (fun g hg => hφ g hg (hin g hg)) (fun g hg => hN g hg (hin g hg)) ha hw hn
  | succ n ih =>
    intro X vs bs Jn a w hnd hX hlen hcl hφ hN ha hw hn
    have hmiss : ∃ k ∈ G.map (·.i), k ∉ X := by
      apply Classical.byContradiction
      intro hno
      have hs : ∀ k ∈ G.map (·.i), k ∈ X := fun k hk => Classical.byContradiction fun h => hno ⟨k, hk, h⟩
      have := nodup_le hi hs
      simp at this; omega
    obtain ⟨k, hkG, hkX⟩ := hmiss
    have hun : ∀ i ∈ G.map (·.i), A.getD i true = false := by
      have : ∀ {is A B}, GOk os.toArray A is B → ∀ i ∈ is, A.getD i true = false := by
        intro is A B h
        induction h with
        | nil => intro i hi; cases hi
        | @cons A B i r hr ho h ih =>
          intro k hk
          rcases List.mem_cons.1 hk with rfl | hk
          · exact ready_un hr
          · have h2 := ih k hk
            by_cases e : i = k
            · subst e; exact ready_un hr
            · rwa [getD_set_ne true e] at h2
      exact this hok
    have hkun : (mark A X).getD k true = false := mark_getD_f.2 ⟨hun k hkG, fun h => hkX h.1⟩
    rw [show n + 1 + plan.length = (n + plan.length) + 1 by omega]
    refine ⟨fun h0 => ?_, fun i hir => ?_⟩
    · obtain ⟨i, hir⟩ := hok.first (mark_size A X) (fun j hj => mark_mono hj) hkG hkun
      rw [h0] at hir; cases hir
    · have hiG : i ∈ G.map (·.i) := by
        apply Classical.byContradiction
        intro hno
        have h1 := mark_getD_f.1 (ready_un hir)
        have h2 := hok.outer k hkG i (ready_lt hir) h1.1 hno
        exact not_both hkun (anc_ready hcl h2 hir)
      obtain ⟨g, hg, rfl⟩ := List.mem_map.1 hiG
      have hiX : g.i ∉ X := fun h => (mark_getD_f.1 (ready_un hir)).2 ⟨h, getD_f_lt (hun _ hiG)⟩
      obtain ⟨o, hget, howe⟩ := hob g hg
      have hi' : os.toArray[g.i]? = some o := by rw [nth_eq] at hget; simpa using hget
      obtain ⟨hask, hop⟩ := howe vs bs ((doneM X bs G ++ M0) ++ ((Jn ++ J) ++ C.A)) ((Jn ++ J) ++ C.A) w (fun x hx => by simp only [List.mem_append] at hx ⊢; rcases hx with h | h | h <;> simp [h]) (fun x hx => by simp only [List.mem_append] at hx ⊢; rcases hx with h | h <;> simp [h]) (fun x hx => List.mem_append_right _ hx) (fun g' hg' hanc => hφ g' hg' (by
        have h3 := anc_ready hcl hanc hir
        rcases mark_getD_t h3 with h4 | h4
        · exact (not_both (hun _ (List.mem_map_of_mem (f := Gv.i) hg')) h4).elim
        · exact h4))
      unfold wpOp
      simp only [hi']
      rw [if_pos (hask.wanted ha)]
      obtain ⟨R0, hp0, hd0, _, _⟩ := curM_step (bs := bs) hi hg hiX []
      have hpc : (curM X bs G ++ M0).Perm (g.m ++ (R0 ++ M0)) := by
        rw [← List.append_assoc]; exact List.Perm.append_right _ hp0
      have hcal := hw.callee hpc
      have hcal2 := St.less (A := (doneM X bs G ++ M0) ++ ((Jn ++ J) ++ C.A)) hcal fun x hx => by
        simp only [List.mem_append] at hx ⊢
        rcases hx with (h | h) | h
        · exact .inl (.inl (hd0 x h))
        · exact .inl (.inr h)
        · exact .inr h
      refine .inl (Oper.wp_mono ?_ (hop _ a w ha hcal2.cx))
      rintro a' w' ⟨l', M', J', ha', hs', v, rfl, hφv⟩
      have hsz : w.heap.size ≤ w'.heap.size := hs'.size
      have hs2 := St.widen hcal.cx hs'
      have hb := hw.back hpc hs2.cx
      obtain ⟨R1, hp1, hd1, hq1, hq2⟩ := curM_step (bs := bs) hi hg hiX M'
      let bs' : Nat → Mem := fun k => if k = g.i then M' else bs k
      have hRR : R0.Perm R1 := (List.perm_append_left_iff _).1 (hp0.symm.trans hp1)
      have hperm : (M' ++ (R0 ++ M0)).Perm (curM (X ++ [g.i]) bs' G ++ M0) := by
        rw [← List.append_assoc]
        exact List.Perm.append_right _ ((List.Perm.append_left _ hRR).trans hq1)
      have hfr2 : St C (curM (X ++ [g.i]) bs' G ++ M0) ((J' ++ Jn) ++ J) w' := (hb.perm hperm).drop (List.Sublist.refl _) fun x hx => by
        simp only [List.mem_append] at hx ⊢
        rcases hx with (h | h) | h <;> simp [h]
      refine ⟨fun _ b hb' hnk => hs'.frame b hb' fun hm => ?_, ?_⟩
      · obtain ⟨x, hx, e⟩ := List.mem_map.1 hm
        exact hnk (e ▸ hK g hg x hx)
      rw [← mark_snoc]
      have henv := gEnv_set (N := C.N) (G := toGM G) (l := l) (vs := vs) (g := ⟨g.i, g.d, fun _ _ => True⟩) (a := a') (v := v) (List.mem_map_of_mem (f := fun g : Gv => (⟨g.i, g.d, fun _ _ => True⟩ : Gm)) hg) (by rw [toGM_d]; exact hd) (by rw [toGM_i]; exact hi) (by rw [toGM_env]; exact ha')
      rw [toGM_env] at henv
      refine ih (X ++ [g.i]) (fun k => if k = g.i then v else vs k) bs' (J' ++ Jn) a' w' ?_ ?_ (by simp; omega) ?_ ?_ ?_ henv hfr2 (Nat.le_trans hn hsz)
      · rw [List.nodup_append]; exact ⟨hnd, by simp, fun x hx y hy e => hiX (by simp at hy; subst hy; exact e ▸ hx)⟩
      · intro j hj
        rcases List.mem_append.1 hj with hj | hj
        · exact hX j hj
        · simp at hj; subst hj; exact hiG
      · rw [mark_snoc]; exact closed_set hcl hir
      · intro g' hg' hm
        by_cases e : g'.i = g.i
        · have : g' = g := gv_inj hi hg' hg e
          subst this
          simp only [if_true, bs']
          exact hmono g' hg' _ _ _ _ (fun x hx => by simp only [List.mem_append] at hx ⊢; rcases hx with h | (h | h) | h <;> simp [h]) hφv
        · simp only [e, if_false, bs']
          have hm' : g'.i ∈ X := by simpa [e] using hm
          exact hmono g' hg' _ _ _ _ (fun x hx => by simp only [List.mem_append] at hx ⊢; rcases hx with (h | h) | h <;> simp [h]) (hφ g' hg' hm')
      · intro g' hg' hk x hx
        by_cases e : g'.i = g.i
        · have : g' = g := gv_inj hi hg' hg e
          subst this
          simp only [if_true, bs'] at hx
          rcases hs'.own x.1 x.2 (by simp [hx]) with h6 | h6
          · exact .inl h6
          · exact .inr (Nat.le_trans hn h6)
        · simp only [e, if_false, bs'] at hx
          have hk' : g'.i ∈ X := by simpa [e] using hk
          exact hN g' hg' hk' x hx
theorem XK.groupM (G : List Gv) (M0 : Mem) (hM : M.Perm ((G.map (·.m)).flatten ++ M0)) (hK : ∀ g ∈ G, ∀ x ∈ g.m, K x.1) (hmono : ∀ g ∈ G, GrowsO g.φ) (hd : (G.map (·.d)).Nodup) (hi : (G.map (·.i)).Nodup) (hdN : ∀ g ∈ G, g.d < C.N) (hob : ∀ g ∈ G, OwesM C os l M0 J G g)
    (h : ∀ (vs : Nat → Value) (bs : Nat → Mem) Jn, (∀ g ∈ G, g.φ (vs g.i) (bs g.i) ((Jn ++ J) ++ C.A)) → (∀ g ∈ G, (∀ b, n0 ≤ b → K b) → ∀ x ∈ bs g.i, K x.1) → XK C os Q K n0 nd plan (gEnvM G vs ++ l) (allM bs G ++ M0) (Jn ++ J)) : XK C os Q K n0 nd (enc (G.map (·.i)) ++ plan) l M J := by
  refine XK.perm hM ?_
  intro listed hcl hp a w ha hw hn
  obtain ⟨B, hok, hp2⟩ := enc_ok hp
  have hBcl : Closed os.toArray B := by
    have : ∀ {A is B}, GOk os.toArray A is B → Closed os.toArray A → Closed os.toArray B := by
      intro A is B h
      induction h with
      | nil => exact id
      | cons hr _ _ ih => exact fun hc => ih (closed_set hc hr)
    exact this hok hcl
  have hlen : (enc (G.map (·.i)) ++ plan).length = G.length + plan.length := by
    have : ∀ is : List Nat, (enc is).length = is.length := by
      intro is
      induction is with
      | nil => rfl
      | cons i r ih => cases r with
        | nil => rfl
        | cons j r => simp only [enc, List.length_cons] at ih ⊢; rw [ih]
    simp [this]
  rw [hlen]
  let vs : Nat → Value := fun k => match G.find? (fun g => g.i == k) with
    | some g => (a.tmps[g.d]?).getD undef
    | none => undef
  have hag : Ag C.N (gEnvM G vs ++ l) a := by
    refine ⟨ha.defers, ha.size, ?_⟩
    intro k u hk
    have key : ∀ G' : List Gv, (∀ g ∈ G', g ∈ G) → lk (gEnvM G' vs ++ l) k = some u → a.tmps[k]? = some u := by
      intro G'
      induction G' with
      | nil => intro _ h; exact ha.slot k u h
      | cons g G' ih =>
        intro hs h
        simp only [gEnvM, List.map_cons, List.cons_append, lk] at h
        by_cases e : g.d = k
        · subst e
          simp at h
          have hf : G.find? (fun x => x.i == g.i) = some g := by
            have hgG := hs g List.mem_cons_self
            cases hq : G.find? (fun x => x.i == g.i) with
            | none => have := List.find?_eq_none.1 hq g hgG; simp at this
            | some x =>
              have h1 := List.find?_some hq
              have h2 := List.mem_of_find?_eq_some hq
              rw [gv_inj hi h2 hgG (by simpa using h1)]
          have hlt : g.d < a.tmps.size := by rw [ha.size]; exact hdN g (hs g List.mem_cons_self)
          rw [← h]
          show a.tmps[g.d]? = some (vs g.i)
          simp only [vs, hf, Array.getElem?_eq_getElem hlt, Option.getD_some]
        · simp only [beq_ne e, cond_false] at h
          exact ih (fun x hx => hs x (List.mem_cons_of_mem _ hx)) h
    exact key G (fun _ h => h) hk
  refine groupM_go (n0 := n0) (K := K) hmono hd hi hK hob hok (fun vs bs Jn a w hφ hN ha hw hn => h vs bs Jn hφ (fun g hg hu x hx => ?_) B hBcl hp2 a w ha hw hn) G.length [] vs (fun _ => []) [] a w .nil (fun _ h => by cases h) (by simp) hcl (fun _ _ h => by cases h) (fun _ _ h => by cases h) hag (by rw [curM_nil]; exact hw) hn
  rcases hN g hg x hx with h1 | h1
  · obtain ⟨y, hy, e⟩ := List.mem_map.1 h1
    exact e ▸ hK g hg y hy
  · exact hu _ h1
end group
end Go.Px

/- The walk of Turn. -/
namespace Go.Proofs.YtphcaiplgpmnnaaGreatDoor
open Go.Px
theorem pubS2_len (s : Ps) (w : List Nat) : (pubS2 s w).ts.length ≤ s.ts.length + 2 := by
  unfold pubS2
  split
  · omega
  · have h1 := rdT_len (ts := s.ts) (ws := w)
    have h2 := add_len (ts := rdT s.ts w) (t := pubT ((rdI s.ts w : Nat) : Int))
    show (add (rdT s.ts w) _).length ≤ _
    omega
theorem pubS2_n (s : Ps) (w : List Nat) : (pubS2 s w).n = s.n := by unfold pubS2; split <;> rfl
theorem sgS2_len (s : Ps) (w m : List Nat) : (sgS2 s w m).ts.length ≤ s.ts.length + 2 := by
  unfold sgS2
  split
  · omega
  · have h1 := rdT_len (ts := s.ts) (ws := w)
    have h2 := add_len (ts := rdT s.ts w) (t := sigT ((rdI s.ts w : Nat) : Int) m)
    show (add (rdT s.ts w) (sigT ((rdI s.ts w : Nat) : Int) m)).length ≤ _
    omega
theorem sgS2_n (s : Ps) (w m : List Nat) : (sgS2 s w m).n = s.n := by unfold sgS2; split <;> rfl
theorem pubK2_len (s : Ps) (w : List Nat) : (pubK2 s w).length = 32 := by
  unfold pubK2
  split
  · exact x25_len _ _
  · exact btk_len _ (by decide)
noncomputable def turnS (k : Ks) (s : Ps) : Ps := sgS2 (pubS2 (freshS s) (freshK s)) k.sign (msgN k.next (pubK2 (freshS s) (freshK s)))
noncomputable def turnP (k : Ks) (s : Ps) : Pr := ⟨k.next, freshK s, sgK2 (pubS2 (freshS s) (freshK s)) k.sign (msgN k.next (pubK2 (freshS s) (freshK s)))⟩
def goneN (signed : List Pr) (x : Nm) : Bool := !decide (0 ≤ fidxL (tstP x.n) signed)
noncomputable def turnK (k : Ks) (s : Ps) : Ks × Ps :=
  ({ k with signed := (turnP k s :: k.signed).take 2, next := k.next + 1, met := k.met.filter fun x => !goneN ((turnP k s :: k.signed).take 2) x }, turnS k s)

theorem turn_cloP {l : List Pr} {rows : List (List Value)} {n b : Nat} {vi : Value} {A : Mem} (hR : RwL prR A rows l) (hvi : Cel vi [vi]) (hb : (b, blk [.int .u32 ((n : Nat) : Int), vi] 101) ∈ A) :
    ∀ (j : Nat) (r : List Value), rows[j]? = some r → FnV Tryz.prog 60 (.agg r.toArray :: [.pointer (some ⟨b, 0, none⟩)]) A (.bool ((fun j => (l[j]?.map (tstP n)).getD false) j)) := fun j r hr => by
  obtain ⟨x, hx, vs, vg, rfl, hs, hg, _⟩ := hR.of hr
  dsimp only
  rw [hx]
  exact turnc1_spec vs vg vi x n b _ hs hg hvi hb

theorem turnc_f (kb b n : Nat) (c0 c1 c2 c3 vq c5 c6 c7 vi : Value) (sg : List Pr) (rs : List (List Value)) (A : Mem) (hb : (b, blk [.pointer (some ⟨kb, 0, none⟩)] 31) ∈ A) (hkb : (kb, blk [c0, c1, c2, c3, vq, c5, c6, c7] 96) ∈ A) (hvi : Cel vi [vi]) (hv : Rd A 3 vq sg.length rs.flatten) (hR : RwL prR A rs sg) (hl : sg.length ≤ 1000000) : FnV Tryz.prog 58 [.agg #[.int .u32 ((n : Nat) : Int), vi], .pointer (some ⟨b, 0, none⟩)] A (.bool (!decide (0 ≤ fidxL (tstP n) sg))) := by
 haveI := hv.cel
 refine FnX.enter (N := 11) Tryz.func58 rfl rfl rfl fun w => ?_
 refine XC.keep (kq 0 (kq 1 kn)) ?_
 refine XC.reg ?_
 refine XL.lo rfl (bx_ fun b2 => ?_)
 refine as_ ?_
 refine XL.fin (kq 1 (kq 2 kn)) ?_
 refine XC.reg ?_
 refine XL.q (q_load rfl (by kernel_rfl) (mA hb) (by rfl)) rfl ?_
 refine XL.q (q_nil rfl) rfl ?_
 refine XL.q (qf_ 4 4) rfl ?_
 refine XL.q (q_load rfl (by kernel_rfl) (mA hkb) (by rfl)) rfl ?_
 refine XL.q (q_mkFunc (aS rfl a0)) rfl ?_
 refine XL.callV (aS rfl (aS rfl a0)) (by kernel_rfl) (contains_Pair vq rs 60 [.pointer (some ⟨b2, 0, none⟩)] (fun j => (sg[j]?.map (tstP n)).getD false) _ (by rw [hR.len]; exact hv.mono SubC.sub) (hR.lens prT) (by rw [hR.len]; omega) (by kernel_rfl) (turn_cloP (hR.mono prT SubC.sub) hvi At.mem)) rfl ?_
 rw [hR.len]
 refine XL.q (q_not rfl) rfl ?_
 refine as_ ?_
 refine XL.fin (kq 3 kn) ?_
 refine XC.ret ?_
 exact ⟨_, [], [], res1 rfl rfl, List.nil_sublist _, by simp, rfl, rfl, rfl⟩

theorem turn_cloN {l : List Nm} {rows : List (List Value)} {kb b : Nat} {c0 c1 c2 c3 vq c5 c6 c7 : Value} {sg : List Pr} {rs : List (List Value)} {A : Mem} (hL : RwL nmR A rows l) (hb : (b, blk [.pointer (some ⟨kb, 0, none⟩)] 31) ∈ A) (hkb : (kb, blk [c0, c1, c2, c3, vq, c5, c6, c7] 96) ∈ A) (hv : Rd A 3 vq sg.length rs.flatten) (hR : RwL prR A rs sg) (hl : sg.length ≤ 1000000) :
    ∀ (j : Nat) (r : List Value), rows[j]? = some r → FnV Tryz.prog 58 (.agg r.toArray :: [.pointer (some ⟨b, 0, none⟩)]) A (.bool ((fun j => (l[j]?.map (goneN sg)).getD false) j)) := fun j r hr => by
  obtain ⟨x, hx, vi, rfl, hi, _⟩ := hL.of hr
  dsimp only
  rw [hx]
  exact turnc_f kb b x.n c0 c1 c2 c3 vq c5 c6 c7 vi sg rs A hb hkb hi.cel hv hR hl

theorem turn_f (kb pb : Nat) (k : Ks) (s : Ps) (MK MP A : Mem) (hK : Kys A kb k MK) (hP : Prm pb s MP) (hn : s.ts.length + 100 ≤ 1048576) (hk : s.n < 1000000000) (hnx : k.next + 100 < 4000000000) (hG : Glb A) : FnX Tryz.prog 18 [.pointer (some ⟨kb, 0, none⟩), .pointer (some ⟨pb, 0, none⟩)] (MK ++ MP) A fun q M J => ∃ MK2 MP2, M = MK2 ++ MP2 ∧ Kys (J ++ A) kb (turnK k s).1 MK2 ∧ Prm pb (turnK k s).2 MP2 := by
 obtain ⟨va, vg, vq, vo, vm, rs, ro, rm, Bs, Bo, Bm, rfl, hva, hvg, hss, hrs, hso, hro, hsm, hrm, hn1, hn2, hn3, hn4⟩ := hK.ex
 haveI := hva.cel
 haveI := hvg.cel
 have fl := freshS_len s
 have pl := pubS2_len (freshS s) (freshK s)
 have pkl := pubK2_len (freshS s) (freshK s)
 haveI := hss.cel
 haveI := hso.cel
 haveI := hsm.cel
 refine FnX.enterZ (N := 68) Tryz.func18 rfl rfl rfl fun w_ => ?_
 refine XC.keep (kq 0 (kq 1 kn)) ?_
 refine XC.reg ?_
 refine XL.lo rfl (bx_ fun b2 => ?_)
 refine XL.fin (kq 1 (kq 2 kn)) ?_
 refine XC.seq ?_
 refine XC.reg ?_
 refine XL.q ql_ rfl ?_
 refine XL.q (q_ptrEqNil (e := 96) rfl rfl (by kernel_rfl)) rfl ?_
 refine XL.fin (kq 1 (kq 2 (kq 6 kn))) ?_
 refine XC.condF rfl ?_
 refine XC.skip ?_
 refine nx (kq 1 (kq 2 kn)) ?_
 refine XC.drawK (MP) (_) true [0, 1, 2, 3, 4, 5, 6, 7] [(0, 1), (1, 0), (2, 0), (3, 1), (4, 0), (5, 3), (6, 3), (7, 4), (8, 2)] (by kernel_rfl) (by kernel_rfl) PickC.perm fun hs K n0 hKm hKs hKn => ?_
 refine XK.r hs rfl kr_ hKs ql_ rfl ?_
 refine XK.q hs rfl (q_nil rfl) rfl ?_
 refine XK.q hs rfl (qf_ 6 6) rfl ?_
 refine XK.r hs rfl kr_ hKs ql_ rfl ?_
 refine XK.q hs rfl qm_ rfl ?_
 refine XK.groupM [⟨5, 12, MP, fun v B R => Prm pb (freshS (s)) B ∧ By R v (freshK (s))⟩, ⟨6, 13, [], fun v B R => B = [] ∧ ∃ u, v = .agg [.int .u32 ((k.next : Nat) : Int), u, .slice none 0 0].toArray ∧ By R u (freshK s)⟩, ⟨7, 4, [], fun v B _ => ∃ b, v = .pointer (some ⟨b, 0, none⟩) ∧ B = [(b, blk [.int .u32 0, .slice none 0 0, .slice none 0 0] 98)]⟩] ((b2, blk [.pointer (some ⟨kb, 0, none⟩)] 31) :: ((kb, blk [.int .i64 k.user, .int .i64 k.dev, va, vg, vq, vo, .int .u32 ((k.next : Nat) : Int), vm] 96) :: (Bs ++ (Bo ++ Bm)))) (by simp) (allS (hKm) (allS (fun _ h => by cases h) (allS (fun _ h => by cases h) (all0))))
  (allS (fun _ _ _ _ h hp => ⟨hp.1, hp.2.mono h⟩) (allS (fun _ _ _ _ h ⟨p1, u, p2, p3⟩ => ⟨p1, u, p2, p3.mono h⟩) (allS (fun _ _ _ _ h hp => hp) (all0)))) (show List.Nodup [12, 13, 4] by decide) (show List.Nodup [5, 6, 7] by decide) (allS (blt_lt rfl) (allS (blt_lt rfl) (allS (blt_lt rfl) (all0))))
  (allS ⟨_, rfl, fun vs bs R Rj wG hb hj hjr ha => ⟨.inl rfl, ?_⟩⟩ (allS ⟨_, rfl, fun vs bs R Rj wG hb hj hjr ha => ⟨.inl rfl, ?_⟩⟩ (allS ⟨_, rfl, fun vs bs R Rj wG hb hj hjr ha => ⟨.inl rfl, ?_⟩⟩ (all0)))) ?_
 ·
  refine l_call (Mc := MP) (R := []) (aS rfl a0) (by kernel_rfl) (by simp) (fresh_spec pb (s) MP _ hP (by omega) (by omega) (hG.sub fun x hx => by have := hb x (by simp [hx]); simp [this])) rfl ?_
  rintro v12 M12 J12 ⟨hP12, h12⟩
  exact ⟨_, rfl, by simpa using hP12, h12.mono fun x hx => by simp [hx]⟩
 ·
  have g5 := ha _ (List.mem_of_getElem? (i := 0) rfl) (by kernel_rfl)
  replace g5 : (fun v B R => Prm pb (freshS (s)) B ∧ By R v (freshK (s))) (vs 5) (bs 5) Rj := g5
  dsimp only at g5
  obtain ⟨hP12, h12⟩ := g5
  haveI := h12.cel
  exact OpQ.opL (q_build (place := fun x => #[(0, 1), (1, 1), (2, 1)][x]?) (z := [.int .u32 0, .slice none 0 0, .slice none 0 0]) (fun _ => by kernel_rfl) (eS rfl (eS rfl e0)) (bdS 0 1 rfl (by rfl) (bdS 1 1 rfl (by rfl) bd0))) rfl ⟨_, rfl, rfl, _, rfl, h12⟩
 ·
  exact l_alloc (cs := [.int .u32 0, .slice none 0 0, .slice none 0 0]) (by kernel_rfl) rfl fun b => ⟨_, rfl, b, rfl, rfl⟩
 intro vs bs Jn0 hφ hKK
 have kk5 := hKK _ (List.mem_of_getElem? (i := 0) rfl) (hKn rfl)
 dsimp only at kk5
 have kk6 := hKK _ (List.mem_of_getElem? (i := 1) rfl) (hKn rfl)
 dsimp only at kk6
 have kk7 := hKK _ (List.mem_of_getElem? (i := 2) rfl) (hKn rfl)
 dsimp only at kk7
 clear hKK
 have g5 := ofH hφ
 dsimp only at g5
 replace hφ := ofT hφ
 have g6 := ofH hφ
 dsimp only at g6
 replace hφ := ofT hφ
 have g7 := ofH hφ
 dsimp only at g7
 clear hφ
 dsimp only [gEnvM, allM, List.map, List.flatten, List.cons_append, List.nil_append]
 generalize bs 5 = B12 at *
 generalize bs 6 = B13 at *
 generalize bs 7 = B4 at *
 generalize vs 5 = u12 at *
 generalize vs 6 = u13 at *
 generalize vs 7 = u4 at *
 obtain ⟨hP12, h12⟩ := g5
 obtain ⟨b4, rfl, rfl⟩ := g7
 obtain ⟨rfl, u, rfl, h12⟩ := g6
 haveI := h12.cel
 refine XK.perm (M' := B12 ++ ((b4, blk [.int .u32 0, .slice none 0 0, .slice none 0 0] 98) :: (b2, blk [.pointer (some ⟨kb, 0, none⟩)] 31) :: ((kb, blk [.int .i64 k.user, .int .i64 k.dev, va, vg, vq, vo, .int .u32 ((k.next : Nat) : Int), vm] 96) :: (Bs ++ (Bo ++ Bm))))) (by simp) ?_
 refine XK.tl rfl rfl rfl (l_storeW (vs := [.int .u32 ((k.next : Nat) : Int), u, .slice none 0 0]) rfl rfl rfl (by kernel_rfl) (by rfl) (by intro c hc; simp only [List.mem_cons, List.not_mem_nil, or_false] at hc; rcases hc with rfl | rfl | rfl; rfl; exact h12.one; rfl) UpC.upd ?_)
 refine XK.fin (kq 1 (kq 2 (kq 4 kn))) ?_
 refine XC.drawK (B12) (_) true [0, 1, 2, 3, 4, 5, 6, 7, 8, 9, 10, 11, 12, 13] [(0, 0), (1, 1), (2, 0), (3, 0), (4, 1), (5, 0), (6, 1), (7, 0), (8, 0), (9, 1), (10, 2), (11, 2), (12, 2), (13, 0), (14, 2)] (by kernel_rfl) (by kernel_rfl) PickC.perm fun hs K n0 hKm hKs hKn => ?_
 refine XK.q hs rfl qm_ rfl ?_
 refine XK.r hs rfl kr_ hKs ql_ rfl ?_
 refine XK.q hs rfl (q_nil rfl) rfl ?_
 refine XK.q hs rfl (qf_ 3 3) rfl ?_
 refine XK.r hs rfl kr_ hKs ql_ rfl ?_
 refine XK.q hs rfl (qf_ 0 0) rfl ?_
 refine XK.r hs rfl kr_ hKs ql_ rfl ?_
 refine XK.q hs rfl qm_ rfl ?_
 refine XK.q hs rfl (qf_ 1 1) rfl ?_
 refine XK.r hs rfl kr_ hKs ql_ rfl ?_
 refine XK.lo _ _ rfl rfl (List.Perm.refl _) hKm fun w0 => (l_call (Mc := B12) (R := _) (aS rfl (aS rfl a0)) (by kernel_rfl) PickC.perm (public_b pb (freshS s) u (freshK s) B12 _ hP12 (by omega) (h12.mono SubC.sub) hG.up) rfl ?_)
 rintro v24 M24 J24 ⟨hP24, h24⟩ hKx
 haveI := h24.cel
 refine XK.perm (M' := M24 ++ ((b4, blk [.int .u32 ((k.next : Nat) : Int), u, .slice none 0 0] 98) :: (b2, blk [.pointer (some ⟨kb, 0, none⟩)] 31) :: ((kb, blk [.int .i64 k.user, .int .i64 k.dev, va, vg, vq, vo, .int .u32 ((k.next : Nat) : Int), vm] 96) :: (Bs ++ (Bo ++ Bm))))) (by simp) ?_
 generalize hpk : pubK2 (freshS s) (freshK s) = pk at *
 generalize hps : pubS2 (freshS s) (freshK s) = s2 at *
 refine XK.lo [] _ rfl rfl (List.Perm.refl _) (fun _ h => by cases h) fun w0 => (l_call0 (aS rfl (aS rfl a0)) (by kernel_rfl) (message_f k.next v24 pk _ (by omega) (h24.mono SubC.sub) (by omega)) rfl ?_)
 rintro v25 M25 J25 ⟨rfl, h25⟩ _
 haveI := h25.cel
 generalize hms : msgN k.next pk = wm at *
 dsimp only [List.nil_append, List.append_eq]
 refine XK.lo M24 _ rfl rfl PickC.perm (fun x hx => hKx (hKn rfl) x (by simpa using hx)) fun w0 => (l_call (Mc := M24) (R := _) (aS rfl (aS rfl (aS rfl a0))) (by kernel_rfl) PickC.perm (psign_b pb s2 vg v25 k.sign wm M24 _ hP24 (by omega) (hvg.mono SubC.sub) (h25.mono SubC.sub) hG.up) rfl ?_)
 rintro v26 M26 J26 ⟨hP26, h26⟩ hKx
 haveI := h26.cel
 refine XK.q hs rfl (qf_ 2 2) rfl ?_
 refine XK.tl rfl rfl rfl (l_store rfl rfl h26.one (by kernel_rfl) SetC.set UpC.upd ?_)
 refine XK.fin (kq 2 (kq 4 kn)) ?_
 refine XC.reg ?_
 refine XL.q ql_ rfl ?_
 refine XL.q (q_nil rfl) rfl ?_
 refine XL.q (qf_ 6 6) rfl ?_
 refine XL.q ql_ rfl ?_
 refine XL.q (q_addS 4294967296 (a := k.next) (b := 1) rfl rfl rfl rfl rfl rfl (by omega)) rfl ?_
 refine XL.q (q_nil rfl) rfl ?_
 refine XL.q (qf_ 6 6) rfl ?_
 refine XL.lo rfl (l_store rfl rfl rfl (by kernel_rfl) SetC.set UpC.upd ?_)
 refine XL.fin (kq 2 (kq 4 kn)) ?_
 refine XC.drawK ([]) (_) true [0, 1, 2, 3, 4, 5, 6, 7, 8, 9] [(0, 1), (1, 1), (3, 1), (4, 0), (5, 0), (6, 1), (2, 2), (7, 2), (8, 0), (9, 0), (10, 2)] (by kernel_rfl) (by kernel_rfl) PickC.perm fun hs K n0 hKm hKs hKn => ?_
 refine XK.r hs rfl kr_ hKs ql_ rfl ?_
 refine XK.r hs rfl kr_ hKs (qw_ 3) rfl ?_
 refine XK.r hs rfl kr_ hKs ql_ rfl ?_
 refine XK.q hs rfl (q_nil rfl) rfl ?_
 refine XK.q hs rfl (qf_ 4 4) rfl ?_
 refine XK.r hs rfl kr_ hKs ql_ rfl ?_
 refine XK.lo [] _ rfl rfl (List.Perm.refl _) (fun _ h => by cases h) fun w0 => (l_buildSlice (e := 98) (sz := 3) (z := [.int .u32 0, .slice none 0 0, .slice none 0 0]) (by kernel_rfl) (eS rfl e0) (bdS 0 3 rfl (by rfl) bd0) rfl fun b37 => fun hk37 => ?_)
 dsimp only [List.cons_append, List.nil_append, List.append_eq]
 refine XK.lo [(b37, blk [.int .u32 ((k.next : Nat) : Int), u, v26] 98)] _ rfl rfl PickC.perm (fun x hx => hk37 (hKn rfl) x (by simpa using hx)) fun w0 => (l_append2 (e := 98) (sz := 3) (by_ := 56) rfl rfl (by kernel_rfl) rfl (Sl.fresh (n := 1) (cs := [.int .u32 ((k.next : Nat) : Int), u, v26]) (e := 98) rfl (by decide)) (hss.rd fun x hx => by simp [hx]) (hrs.ones prT) PickC.perm (by unfold maxLen; omega) (by omega) rfl fun v42 B42 hs42 => fun _ => ?_)
 haveI := hs42.cel
 refine XK.q hs rfl (q_nil rfl) rfl ?_
 refine XK.q hs rfl (qf_ 4 4) rfl ?_
 refine XK.tl rfl rfl rfl (l_store rfl rfl hs42.one (by kernel_rfl) SetC.set UpC.upd ?_)
 refine XK.fin (kq 2 kn) ?_
 refine XC.drawF [0, 1, 2, 3, 4, 5, 6, 7, 8, 9, 10, 11, 12, 13] [(0, 1), (1, 1), (2, 0), (3, 0), (4, 1), (5, 1), (6, 0), (7, 0), (8, 1), (9, 0), (10, 0), (11, 0), (12, 0), (13, 0), (14, 2)] (by kernel_rfl) (by kernel_rfl) fun hs => ?_
 refine XF.r hs rfl ql_ rfl ?_
 refine XF.r hs rfl ql_ rfl ?_
 refine XF.q hs rfl (q_nil rfl) rfl ?_
 refine XF.q hs rfl (qf_ 4 4) rfl ?_
 refine XF.r hs rfl ql_ rfl ?_
 refine XF.r hs rfl ql_ rfl ?_
 refine XF.q hs rfl (q_nil rfl) rfl ?_
 refine XF.q hs rfl (qf_ 4 4) rfl ?_
 refine XF.r hs rfl ql_ rfl ?_
 refine XF.q hs rfl (q_lenV2 (sz := 3) rfl (by kernel_rfl) (hs42.rd (R := B42) fun _ h => h)) rfl ?_
 refine XF.q hs rfl (q_min rfl rfl) rfl ?_
 refine XF.q hs rfl (q_hiV2 (sz := 3) (a := min 2 (1 + k.signed.length)) rfl rfl (by kernel_rfl) (by omega) (hs42.rd (R := B42) fun _ h => h) (by omega)) rfl ?_
 have hs6 := hs42.hiV (min 2 (1 + k.signed.length)) (by omega)
 generalize vHi (min 2 (1 + k.signed.length)) v42 = vq6 at *
 haveI := hs6.cel
 obtain ⟨tp, htp⟩ : ∃ tp, turnP k s = tp := ⟨_, rfl⟩
 have htq : tp = ⟨k.next, freshK s, sgK2 s2 k.sign wm⟩ := by rw [← htp]; unfold turnP; rw [hpk, hps, hms]
 have hrow : prR (J26 ++ (J25 ++ (J24 ++ (Jn0 ++ A)))) tp [.int .u32 ((k.next : Nat) : Int), u, v26] := ⟨u, v26, by rw [htq], by rw [htq]; exact h12.mono SubC.sub, by rw [htq]; exact h26.mono SubC.sub, by rw [htq]; dsimp only; omega⟩
 have hRs : RwL prR (J26 ++ (J25 ++ (J24 ++ (Jn0 ++ A)))) (([.int .u32 ((k.next : Nat) : Int), u, v26] :: rs).take 2) ((tp :: k.signed).take 2) := (RwL.cons hrow (hrs.mono prT SubC.sub)).take 2
 have hl6 : ((tp :: k.signed).take 2).length = min 2 (1 + k.signed.length) := by rw [List.length_take, List.length_cons]; omega
 have hSg : Sl 3 vq6 ((tp :: k.signed).take 2).length (([.int .u32 ((k.next : Nat) : Int), u, v26] :: rs).take 2).flatten B42 := by
  have e1 : [.int .u32 ((k.next : Nat) : Int), u, v26] ++ rs.flatten = ([.int .u32 ((k.next : Nat) : Int), u, v26] :: rs).flatten := rfl
  have e2 : min 2 (1 + k.signed.length) = min 2 ([.int .u32 ((k.next : Nat) : Int), u, v26] :: rs).length := by rw [List.length_cons, hrs.len]; omega
  rw [e1, flat_take ((RwL.cons hrow (hrs.mono prT SubC.sub)).lens prT), e2, ← List.take_eq_take_min, ← e2, ← hl6] at hs6
  exact hs6
 refine XF.q hs rfl (q_nil rfl) rfl ?_
 refine XF.q hs rfl (qf_ 4 4) rfl ?_
 refine XF.tl rfl rfl rfl (l_store rfl rfl hs6.one (by kernel_rfl) SetC.set UpC.upd ?_)
 refine XF.fin (kq 2 kn) ?_
 refine XC.drawK1 (Bm) (_) true [0, 1, 2, 3, 4, 5, 6, 7, 8] [(0, 1), (1, 1), (2, 0), (3, 0), (4, 1), (5, 0), (6, 2), (7, 0), (8, 0), (9, 2)] (by kernel_rfl) (by kernel_rfl) PickC.perm fun hs K n0 hKm hKs hKn => ?_
 refine XK.r hs rfl kr_ hKs ql_ rfl ?_
 refine XK.r hs rfl kr_ hKs ql_ rfl ?_
 refine XK.q hs rfl (q_nil rfl) rfl ?_
 refine XK.q hs rfl (qf_ 7 7) rfl ?_
 refine XK.r hs rfl kr_ hKs ql_ rfl ?_
 refine XK.q hs rfl (q_mkFunc (aS rfl a0)) rfl ?_
 refine XK.lo _ _ rfl rfl (List.Perm.refl _) hKm fun w0 => (l_call (Mc := Bm) (R := _) (aS rfl (aS rfl a0)) (by kernel_rfl) PickC.perm (by rw [← hrm.len] at hsm; exact delfn_Name vm rm 58 [.pointer (some ⟨b2, 0, none⟩)] (fun j => (k.met[j]?.map (goneN ((tp :: k.signed).take 2))).getD false) Bm _ hsm (hrm.lens nmT) (hrm.ones nmT) (by rw [hrm.len]; omega) (by kernel_rfl) (turn_cloN (hrm.mono nmT SubC.sub) At.mem At.mem (hSg.rd fun x hx => by simp [hx]) (hRs.mono prT SubC.sub) (by rw [hl6]; omega))) rfl ?_)
 rintro v65 M65 J65 h65 _
 haveI := h65.cel
 refine XK.q hs rfl (q_nil rfl) rfl ?_
 refine XK.q hs rfl (qf_ 7 7) rfl ?_
 refine XK.tl rfl rfl rfl (l_store rfl rfl h65.one (by kernel_rfl) SetC.set UpC.upd ?_)
 refine XK.nil ?_
 have hkm := hrm.kpt (fun j => (k.met[j]?.map (goneN ((tp :: k.signed).take 2))).getD false) rm.length
 rw [kpt_filter, hrm.len, List.take_length] at hkm
 rw [hrm.len] at h65
 have htK : turnK k s = ({ k with signed := (tp :: k.signed).take 2, next := k.next + 1, met := k.met.filter fun x => !goneN ((tp :: k.signed).take 2) x }, sgS2 s2 k.sign wm) := by unfold turnK turnS; rw [htp, hpk, hps, hms]
 rw [htK]
 have hkl : (k.met.filter fun x => !goneN ((tp :: k.signed).take 2) x).length ≤ 100000 := Nat.le_trans (List.length_filter_le _ _) hn4
 refine ⟨_, (kb, blk [.int .i64 k.user, .int .i64 k.dev, va, vg, vq6, vo, .int .u32 ((k.next + 1 : Nat) : Int), v65] 96) :: (B42 ++ (Bo ++ (M65 ++ M26))), [], res0 rfl, Fit.none (Fit.pick (B := [_]) PickC.perm (Fit.pick PickC.perm (Fit.pick PickC.perm (Fit.pick PickC.perm (Fit.last PickC.perm))))), (kb, blk [.int .i64 k.user, .int .i64 k.dev, va, vg, vq6, vo, .int .u32 ((k.next + 1 : Nat) : Int), v65] 96) :: (B42 ++ (Bo ++ M65)), M26, by simp, ⟨⟨va, vg, vq6, vo, v65, _, ro, _, B42, Bo, M65, rfl, hva.mono SubC.sub, hvg.mono SubC.sub, hSg, hRs.mono prT SubC.sub, hso, hro.mono prT SubC.sub, ?_, hkm.mono nmT SubC.sub, by dsimp only; omega, by dsimp only; rw [hl6]; omega, hn3, hkl⟩⟩, hP26⟩
 rw [hkm.len] at h65
 exact h65

end Go.Proofs.YtphcaiplgpmnnaaGreatDoor
