/- Part 16 of the texts of this claim, one behind the other. -/
import Derived.Test.YtoigcbkclcbmpaaGreatDoorB15
set_option linter.unusedVariables false
set_option linter.unusedSimpArgs false
set_option maxRecDepth 100000
namespace Go.Proofs.YtoigcbkclcbmpaaGreatDoor
open Go.Px
def B4U (a b : Nat) : Int := if a < b then -1 else if b < a then 1 else 0
theorem A73 {a b : Nat} (h : a < b) : B4U a b = -1 := if_pos h
theorem A74 {a b : Nat} (h : b < a) : B4U a b = 1 := by unfold B4U; rw [if_neg qO, if_pos h]
theorem A75 {a b : Nat} (h : a = b) : B4U a b = 0 := by unfold B4U; rw [if_neg qO, if_neg qO]
theorem B4V (a b : Nat) : K4 .lss .i64 (B4U a b) 0 = some (.bool (decide (a < b))) := by
  rcases Nat.lt_trichotomy a b with h | h | h
  · rw [A73 h, decide_eq_true h]; rfl
  · rw [A75 h, decide_eq_false qO]; rfl
  · rw [A74 h, decide_eq_false qO]; rfl
theorem B4W (a b : Nat) : K4 .eql .i64 (B4U a b) 0 = some (.bool (decide (a = b))) := by
  rcases Nat.lt_trichotomy a b with h | h | h
  · rw [A73 h, decide_eq_false qO]; rfl
  · rw [A75 h, decide_eq_true h]; rfl
  · rw [A74 h, decide_eq_false qO]; rfl
theorem lt32 (a b : Nat) : K4 .lss .u32 ((a : Nat) : Int) ((b : Nat) : Int) = some (.bool (decide (a < b))) := by
  by_cases h : a < b
  · rw [decide_eq_true h]; exact ltT qO
  · rw [decide_eq_false h]; exact ltF qO
theorem gt32 (a b : Nat) : K4 .gtr .u32 ((a : Nat) : Int) ((b : Nat) : Int) = some (.bool (decide (b < a))) := by
  by_cases h : b < a
  · rw [decide_eq_true h]; exact gtT qO
  · rw [decide_eq_false h]; exact gtF qO
def B6q (l : List Pr) : Prop := ∀ (i j : Nat) (x y : Pr), i < j → l[i]? = some x → l[j]? = some y → x.n < y.n
theorem B4X {l : List Pr} {n i : Nat} {x : Pr} (hx : l[i]? = some x) (hn : x.n = n) (h : ∀ (j : Nat) (y : Pr), j < i → l[j]? = some y → y.n < n) : A1H (A2k n) l = (i : Int) := by
  have hil := (List.getElem?_eq_some_iff.1 hx).1
  refine A2e hil (fun j hj => ?_) (by rw [hx]; simp [A2k, hn])
  have hjl : j < l.length := by omega
  rw [List.getElem?_eq_getElem hjl]
  have := h j _ hj (List.getElem?_eq_getElem hjl)
  simp [A2k]; omega
theorem A92 {l : List Pr} {n : Nat} (h : ∀ (j : Nat) (y : Pr), l[j]? = some y → y.n ≠ n) : A1H (A2k n) l = -1 := by
  refine A2f fun j hj => ?_
  rw [List.getElem?_eq_getElem hj]
  have := h j _ (List.getElem?_eq_getElem hj)
  simp [A2k, this]
structure BsR (l : List Pr) (n i : Nat) (b : Bool) : Prop where
  le : i ≤ l.length
  lt : ∀ (j : Nat) (y : Pr), j < i → l[j]? = some y → y.n < n
  ge : ∀ (j : Nat) (y : Pr), i ≤ j → l[j]? = some y → n ≤ y.n
  at_ : b = true ↔ ∃ x, l[i]? = some x ∧ x.n = n
theorem BsR.yes {l : List Pr} {n i : Nat} (h : BsR l n i true) : ∃ x, l[i]? = some x ∧ A1H (A2k n) l = (i : Int) := by
  obtain ⟨x, hx, hn⟩ := h.at_.1 rfl
  exact ⟨x, hx, B4X hx hn h.lt⟩
theorem BsR.no {l : List Pr} {n i : Nat} (hr : B6q l) (h : BsR l n i false) : A1H (A2k n) l = -1 := by
  refine A92 fun j y hy hn => ?_
  rcases Nat.lt_trichotomy j i with hj | hj | hj
  · have := h.lt j y hj hy; omega
  · subst hj
    have := h.at_.2 ⟨y, hy, hn⟩
    cases this
  · have hjl := (List.getElem?_eq_some_iff.1 hy).1
    have hil : i < l.length := by omega
    have h1 := h.ge i _ (Nat.le_refl _) (List.getElem?_eq_getElem hil)
    have h2 := hr i j _ y hj (List.getElem?_eq_getElem hil) hy
    omega
theorem A69 (x : Int) (A : Mem) : FnV Tryz.prog 81 [.int .u32 x] A (.bool false) := by
 refine FnX.enter (N := 6) Tryz.func81 rfl rfl rfl fun w => ?_
 refine C4 (D8 0) (A3 (as_ (A0 (D8 0) (A3 (mv_ (mv_ ?_))))))
 refine A4 (F4 false rfl rfl (neF rfl)) rfl ?_
 refine as_ (A0 (D8 2) (C3 ?_))
 exact ⟨_, [], [], K2 rfl rfl, List.nil_sublist _, by simp, rfl, rfl, rfl⟩
theorem A76 (a b : Nat) (A : Mem) : FnV Tryz.prog 52 [(vU a), (vU b)] A (.int .i64 (B4U a b)) := by
 refine FnX.enter (N := 20) Tryz.func52 rfl rfl rfl fun w => ?_
 refine C4 (D5 0 1) (A3 (as_ (A0 (D5 0 1) (A3 (mv_ ?_)))))
 refine F6 (aS rfl a0) kR (A69 _ _) rfl ?_
 refine as_ (A0 (E2 0 1 5) (A3 (mv_ ?_)))
 refine F6 (aS rfl a0) kR (A69 _ _) rfl ?_
 refine as_ (A0 (E7 0 1 5 6) (A5 (A3 (mv_ (A0 (E7 0 1 6 11) ?_)))))
 refine D3 rfl ?_
 refine A9 (nx (E2 0 1 6) (A5 (A3 (mv_ (A0 (E2 0 1 13) ?_)))))
 refine D3 rfl ?_
 refine A9 (nx (D5 0 1) (A5 (A3 (mv_ (mv_ ?_)))))
 refine A4 (F4 (decide (a < b)) rfl rfl (lt32 _ _)) rfl ?_
 refine A0 (E2 0 1 16) ?_
 refine C7 rfl ?_ ?_ <;> intro hc
 ·
  have hab : a < b := of_decide_eq_true hc
  refine A3 (as_ (A0 (D8 4) (C3 (tr ?_))))
  exact ⟨_, [], [], K2 rfl rfl, List.nil_sublist _, by simp, by rw [A73 hab], rfl, rfl⟩
 ·
  have hab : ¬ a < b := of_decide_eq_false hc
  refine A9 (nx (D5 0 1) (A5 (A3 (mv_ (mv_ ?_)))))
  refine A4 (F4 (decide (b < a)) rfl rfl (gt32 _ _)) rfl ?_
  refine A0 (D8 19) ?_
  refine C7 rfl ?_ ?_ <;> intro hc
  ·
   have hba : b < a := of_decide_eq_true hc
   refine A3 (as_ (A0 (D8 4) (C3 (tr ?_))))
   exact ⟨_, [], [], K2 rfl rfl, List.nil_sublist _, by simp, by rw [A74 hba], rfl, rfl⟩
  ·
   have hba : ¬ b < a := of_decide_eq_false hc
   refine A9 (nx kn (A3 (as_ (A0 (D8 4) (C3 ?_)))))
   exact ⟨_, [], [], K2 rfl rfl, List.nil_sublist _, by simp, by rw [A75 qO], rfl, rfl⟩
theorem A4N (vs vg : Value) (x : Pr) (n : Nat) (A : Mem) (hs : By A vs x.sec) (hg : By A vg x.sig) : FnV Tryz.prog 51 [.agg #[(vU x.n), vs, vg], (vU n)] A (.int .i64 (B4U x.n n)) := by
 haveI := hs.cel
 haveI := hg.cel
 refine FnX.enter (N := 9) Tryz.func51 rfl rfl rfl fun w => ?_
 refine C4 (D5 0 1) (A3 ?_)
 refine A6 rfl (bx_ fun b2 => ?_)
 refine as_ (A0 (D5 1 2) (A3 ?_))
 refine A4 (qf_ 0 0) rfl ?_
 refine A4 ql_ rfl ?_
 refine mv_ ?_
 refine F6 (aS rfl (aS rfl a0)) kR (A76 x.n n _) rfl ?_
 refine as_ (A0 (D8 4) (C3 ?_))
 exact ⟨_, [], [], K2 rfl rfl, List.nil_sublist _, by simp, rfl, rfl, rfl⟩
theorem B2r (v : Value) (rows : List (List Value)) (l : List Pr) (n : Nat) (A : Mem) (hv : Rd A 3 v l.length rows.flatten) (hR : RwL prR A rows l) (hrise : B6q l) (hl : l.length ≤ 1000000) : FnX Tryz.prog 50 [v, (vU n), .func (.func 51) #[] #[]] [] A fun r M J => M = [] ∧ J = [] ∧ ∃ i b, r = .tuple #[(vI i), .bool b] ∧ BsR l n i b := by
  haveI := hv.cel
  refine FnX.enter (N := 49) Tryz.func50 rfl rfl rfl fun w => ?_
  refine C4 (E2 0 1 2) (A3 (as_ (as_ (A0 (E2 0 1 2) (A3 (mv_ ?_))))))
  refine A4 (K1 (sz := 3) rfl kR hv) rfl ?_
  refine as_ (A0 (E7 0 1 2 8) (A3 (mv_ (as_ (as_ (A0 (I1 0 1 2 8 9 10) (A5 (C0 ?_))))))))
  refine F2 (α := Nat × Nat) (fun y => [(0, v), (1, (vU n)), (2, .func (.func 51) #[] #[]), (8, (vI l.length)), (9, (vI y.1)), (10, (vI y.2))]) (fun _ => []) (fun _ => []) (fun y => y.1 ≤ y.2 ∧ y.2 ≤ l.length ∧ (∀ (j : Nat) (z : Pr), j < y.1 → l[j]? = some z → z.n < n) ∧ (∀ (j : Nat) (z : Pr), y.2 ≤ j → l[j]? = some z → n ≤ z.n)) (fun y => y.2 - y.1) (0, l.length) ⟨Nat.zero_le _, Nat.le_refl _, fun j z h => by omega, fun j z h1 h2 => by have := (List.getElem?_eq_some_iff.1 h2).1; omega⟩ (I1 0 1 2 8 9 10) .rfl qI ?_
  rintro ⟨lo, hi⟩ ⟨h1, h2, h3, h4⟩
  dsimp only at h1 h2 h3 h4 ⊢
  refine A5 (A3 (mv_ (mv_ ?_)))
  refine A4 (F1 rfl rfl rfl) rfl ?_
  refine A0 (Y0 0 1 2 8 9 10 17) ?_
  refine C7 rfl ?_ ?_ <;> intro hc
  ·
    have hlt : lo < hi := by simp at hc; omega
    obtain ⟨h, hh⟩ : ∃ h, (lo + hi) / 2 ^ 1 = h := ⟨_, rfl⟩
    have hh1 : lo ≤ h ∧ h < hi := by omega
    obtain ⟨x, hx⟩ : ∃ x, l[h]? = some x := ⟨_, List.getElem?_eq_getElem qO⟩
    obtain ⟨r, hr, vs, vg, rfl, hs_, hg_, hxn⟩ := hR.get h x hx
    haveI := hs_.cel
    haveI := hg_.cel
    refine A9 (nx (I1 0 1 2 8 9 10) (C0 (A3 (mv_ (mv_ ?_)))))
    refine A4 (E3 ((lo + hi : Nat) : Int) rfl rfl (G3 qO qO qO)) rfl ?_
    refine A4 (Q3 (k' := .u64) (lo + hi) rfl kR (A4Z qO qO)) rfl ?_
    refine A4 (hh ▸ A2K (a := lo + hi) (b := 1) rfl rfl rfl rfl qD) rfl ?_
    refine A4 (Q3 (k' := .i64) h rfl kR (A2r qO)) rfl ?_
    refine as_ (A0 (Y0 0 1 2 8 9 10 11) (A3 (mv_ (mv_ (mv_ ?_)))))
    refine A4 (K0 (sz := 3) rfl rfl kR rfl hv (show h < l.length by omega)) rfl ?_
    refine A4 (A0Q rfl kR (hv.mono qS) (hR.lens prT) qD hr) rfl ?_
    refine mv_ ?_
    refine A6 rfl (A2d rfl (aS rfl (aS rfl a0)) kR (A4N vs vg x n _ (hs_.mono qS) (hg_.mono qS)) rfl ?_)
    refine A4 (F4 (decide (x.n < n)) rfl rfl (B4V _ _)) rfl ?_
    refine A0 (A2o 0 1 2 8 9 10 11 31) ?_
    refine C7 rfl ?_ ?_ <;> intro hc
    ·
      have hxl : x.n < n := of_decide_eq_true hc
      refine C2 (mv_ ?_)
      refine A4 (E3 ((h + 1 : Nat) : Int) rfl rfl (G3 qO qO qO)) rfl ?_
      refine as_ (D0 (nb ?_))
      exact rn (h + 1, hi) ⟨by dsimp only; omega, h2, fun j z hj hz => by
        dsimp only at hj
        rcases Nat.lt_or_ge j h with hjh | hjh
        · have := hrise j h z x hjh hz hx; omega
        · obtain rfl : j = h := by omega
          rw [hx] at hz; cases hz; exact hxl, h4⟩ (by dsimp only; omega) (I1 0 1 2 8 9 10) .rfl qI
    ·
      have hxl : ¬ x.n < n := of_decide_eq_false hc
      refine C2 (mv_ (as_ (D0 (nb ?_))))
      exact rn (lo, h) ⟨by dsimp only; omega, by dsimp only; omega, h3, fun j z hj hz => by
        dsimp only at hj
        rcases Nat.lt_or_ge h j with hjh | hjh
        · have := hrise h j x z hjh hx hz; omega
        · obtain rfl : j = h := by omega
          rw [hx] at hz; cases hz; omega⟩ (by dsimp only; omega) (I1 0 1 2 8 9 10) .rfl qI
  ·
    have hlt : lo = hi := by simp at hc; omega
    subst hlt
    refine E6 (te (re (be rfl (nx (F5 0 1 2 8 9) (A3 (mv_ (mv_ (mv_ ?_))))))))
    refine A4 (F1 rfl rfl rfl) rfl ?_
    refine mv_ ?_
    refine A0d (t := 39) rfl (fun hb => ?_) (fun hb => ?_)
    ·
      have hlo : lo < l.length := by simp at hb; omega
      obtain ⟨x, hx⟩ : ∃ x, l[lo]? = some x := ⟨_, List.getElem?_eq_getElem hlo⟩
      obtain ⟨r, hr, vs, vg, rfl, hs_, hg_, hxn⟩ := hR.get lo x hx
      haveI := hs_.cel
      haveI := hg_.cel
      refine G2 rfl rfl (OpQ.opL qm_ rfl ?_)
      refine G2 rfl rfl (OpQ.opL qm_ rfl ?_)
      refine G2 rfl rfl (OpQ.opL qm_ rfl ?_)
      refine G2 rfl rfl (OpQ.opL (K0 (sz := 3) rfl rfl kR rfl hv hlo) rfl ?_)
      refine G2 rfl rfl (OpQ.opL (A0Q rfl kR (hv.mono qS) (hR.lens prT) qD hr) rfl ?_)
      refine G2 rfl rfl (OpQ.opL qm_ rfl ?_)
      refine G2 rfl rfl (A2d rfl (aS rfl (aS rfl a0)) kR (A4N vs vg x n _ (hs_.mono qS) (hg_.mono qS)) rfl ?_)
      refine G2 rfl rfl (OpQ.opL (F4 (decide (x.n = n)) rfl rfl (B4W _ _)) rfl ?_)
      refine A4 (I5 rfl rfl) rfl ?_
      refine as_ (as_ (A0 (D5 6 7) (C3 ?_)))
      exact ⟨_, [], [], A7m rfl rfl rfl, List.nil_sublist _, by simp, rfl, rfl, lo, _, rfl, h2, h3, h4, by rw [hx]; simp⟩
    ·
      have hlo : ¬ lo < l.length := by simp at hb; omega
      refine L9 rfl rfl rfl rfl ?_
      refine L9 rfl rfl rfl rfl ?_
      refine L9 rfl rfl rfl rfl ?_
      refine L9 rfl rfl rfl rfl ?_
      refine L9 rfl rfl rfl rfl ?_
      refine L9 rfl rfl rfl rfl ?_
      refine L9 rfl rfl rfl rfl ?_
      refine L9 rfl rfl rfl rfl ?_
      refine A4 (E9 rfl rfl) rfl ?_
      refine as_ (as_ (A0 (D5 6 7) (C3 ?_)))
      exact ⟨_, [], [], A7m rfl rfl rfl, List.nil_sublist _, by simp, rfl, rfl, lo, _, rfl, h2, h3, h4, by rw [List.getElem?_eq_none qO]; simp⟩
theorem C0t (kb : Nat) (k : Ks) (va vg vs vo vm : Value) (rs ro rm : List (List Value)) (n : Nat) (A : Mem) (hK : KyR A kb k va vg vs vo vm rs ro rm) (hrise : B6q k.once) : FnX Tryz.prog 29 [(vP kb), (vU n)] [] A fun r M J => M = [] ∧ ∃ q, r = .tuple #[q, .bool (A2W k.once n).isSome] ∧ By J q ((A2W k.once n).getD []) := by
 have hkb := hK.blk_
 haveI := hK.agree.cel
 haveI := hK.sign.cel
 haveI := hK.signed.cel
 haveI := hK.once.cel
 haveI := hK.met.cel
 refine FnX.enterZ (N := 30) Tryz.func29 rfl rfl rfl fun w_ => ?_
 refine C4 (D5 0 1) (A3 (as_ (as_ (A0 (D5 0 1) (A5 (A3 (mv_ ?_)))))))
 refine A4 (F0 (e := 59) rfl rfl kR) rfl ?_
 refine A0 (E2 0 1 9) ?_
 refine D3 rfl ?_
 refine A9 (nx (D5 0 1) (A3 (mv_ ?_)))
 refine A4 (F9 rfl) rfl ?_
 refine A4 (qf_ 5 5) rfl ?_
 refine A4 (I2 rfl kR (mA hkb) qR) rfl ?_
 refine mv_ ?_
 refine C9 (aS rfl (aS rfl (aS rfl a0))) kR (B2r vo ro k.once n _ (hK.once.mono qS) (hK.onceR.mono prT qS) hrise hK.l2) rfl ?_
 rintro r16 M16 J16 ⟨rfl, rfl, i, b, rfl, hb⟩
 refine mv_ ?_
 refine A4 (A4e rfl) rfl ?_
 refine A4 (A38 rfl) rfl ?_
 refine as_ (as_ (A0 (E2 0 6 7) (A5 ?_)))
 cases b
 ·
  have hf := hb.no hrise
  refine A3 (mv_ ?_)
  refine A4 (A0o rfl) rfl ?_
  refine A0 (E2 0 6 20) ?_
  refine E0 rfl ?_
  refine A3 (as_ (as_ (A0 (D5 4 5) (C3 (tr ?_)))))
  exact ⟨_, [], [], A7m rfl rfl rfl, qZ, rfl, _, by rw [A5V hf]; rfl, by rw [A5V hf]; exact By.nil⟩
 ·
  obtain ⟨x, hx, hf⟩ := hb.yes
  have hil := (List.getElem?_eq_some_iff.1 hx).1
  obtain ⟨r, hr, vs_, vg_, rfl, hs_, hg_, hxn⟩ := hK.onceR.get i x hx
  haveI := hs_.cel
  refine A3 (mv_ ?_)
  refine A4 (A0o rfl) rfl ?_
  refine A0 (E2 0 6 20) ?_
  refine D3 rfl ?_
  refine A9 (nx (D5 0 6) (A3 (mv_ ?_)))
  refine A4 (F9 rfl) rfl ?_
  refine A4 (qf_ 5 5) rfl ?_
  refine A4 (I2 rfl kR (mA hkb) qR) rfl ?_
  refine mv_ ?_
  refine A4 (K0 (sz := 3) rfl rfl kR rfl hK.once hil) rfl ?_
  refine A4 (B5I (off := 1) rfl hK.once hil kR) rfl ?_
  refine A4 (B5J (u := vs_) rfl (hK.once.mono qS) qO kR (by rw [A2Y (hK.onceR.lens prT) hr 1 qD]; rfl)) rfl ?_
  refine C9 (aS rfl a0) kR (A1L vs_ x.sec _ (hs_.mono qS)) rfl ?_
  rintro r29 M29 J29 ⟨rfl, h29⟩
  haveI := h29.cel
  refine as_ (as_ (A0 (D5 4 5) (C3 ?_)))
  exact ⟨_, [], [], A7m rfl rfl rfl, qZ, rfl, _, by rw [A1l hf hx]; rfl, by rw [A1l hf hx]; exact h29.mono qS⟩

structure Kys (R : Mem) (kb : Nat) (k : Ks) (M : Mem) : Prop where
  ex : ∃ (va vg vs vo vm : Value) (rs ro rm : List (List Value)) (Bs Bo Bm : Mem), M = (kb, blk [.int .i64 k.user, .int .i64 k.dev, va, vg, vs, vo, (vU k.next), vm] 59) :: (Bs ++ (Bo ++ Bm)) ∧
    By R va k.agree ∧ By R vg k.sign ∧ Sl 3 vs k.signed.length rs.flatten Bs ∧ RwL prR R rs k.signed ∧ Sl 3 vo k.once.length ro.flatten Bo ∧ RwL prR R ro k.once ∧ Sl 2 vm k.met.length rm.flatten Bm ∧ RwL nmR R rm k.met ∧ k.next < 4294967296 ∧ k.signed.length ≤ 2 ∧ k.once.length ≤ 100 ∧ k.met.length ≤ 100000
theorem Kys.mono {R R' : Mem} {kb : Nat} {k : Ks} {M : Mem} (h : Kys R kb k M) (hR : ∀ x, x ∈ R → x ∈ R') : Kys R' kb k M := by
  obtain ⟨va, vg, vs, vo, vm, rs, ro, rm, Bs, Bo, Bm, h1, h2, h3, h4, h5, h6, h7, h8, h9, h10⟩ := h.ex
  exact ⟨va, vg, vs, vo, vm, rs, ro, rm, Bs, Bo, Bm, h1, h2.mono hR, h3.mono hR, h4, h5.mono prT hR, h6, h7.mono prT hR, h8, h9.mono nmT hR, h10⟩
theorem Kys.r {R : Mem} {kb : Nat} {k : Ks} {M : Mem} (h : Kys R kb k M) : ∃ va vg vs vo vm rs ro rm, ∀ R', (∀ x, x ∈ R → x ∈ R') → (∀ x, x ∈ M → x ∈ R') → KyR R' kb k va vg vs vo vm rs ro rm := by
  obtain ⟨va, vg, vs, vo, vm, rs, ro, rm, Bs, Bo, Bm, rfl, h2, h3, h4, h5, h6, h7, h8, h9, h10, h11, h12, h13⟩ := h.ex
  refine ⟨va, vg, vs, vo, vm, rs, ro, rm, fun R' hR hM => ⟨hM _ qK, h2.mono hR, h3.mono hR, h4.rd fun x hx => hM x (by simp [hx]), h5.mono prT hR, h6.rd fun x hx => hM x (by simp [hx]), h7.mono prT hR, h8.rd fun x hx => hM x (by simp [hx]), h9.mono nmT hR, by omega, by omega, by omega, by omega⟩⟩
noncomputable def fillI (k : Ks) (s : Ps) : Nat → Ks × Ps
  | 0 => (k, s)
  | i + 1 => ({ (fillI k s i).1 with once := (fillI k s i).1.once ++ [⟨(fillI k s i).1.next, D9 (fillI k s i).2, []⟩], next := (fillI k s i).1.next + 1 }, D4 (fillI k s i).2)
theorem A4O (k : Ks) (s : Ps) : ∀ i, (fillI k s i).1.once.length = k.once.length + i
  | 0 => rfl
  | i + 1 => by simp [fillI, A4O k s i]; omega
theorem A0w (k : Ks) (s : Ps) : ∀ i, (fillI k s i).1.next = k.next + i
  | 0 => rfl
  | i + 1 => by simp [fillI, A0w k s i]; omega
theorem A5W (k : Ks) (s : Ps) : ∀ i, (fillI k s i).1 = { k with once := (fillI k s i).1.once, next := k.next + i }
  | 0 => rfl
  | i + 1 => by
    have h := A5W k s i
    have hn := A0w k s i
    simp only [fillI, hn]
    rw [h]
    simp [Nat.add_assoc]
theorem L2 (s : Ps) : (D4 s).ts.length ≤ s.ts.length + 1 ∧ (D4 s).n = s.n + 1 := by
  unfold D4
  split
  · exact ⟨by simp, rfl⟩
  · refine ⟨?_, rfl⟩
    show (add s.ts _).length ≤ _
    unfold add
    split <;> simp
theorem A3h (k : Ks) (s : Ps) : ∀ i, (fillI k s i).2.ts.length ≤ s.ts.length + i ∧ (fillI k s i).2.n = s.n + i
  | 0 => ⟨Nat.le_refl _, rfl⟩
  | i + 1 => by
    have h := A3h k s i
    have h2 := L2 (fillI k s i).2
    simp only [fillI]
    omega
noncomputable def A1M (k : Ks) (s : Ps) : Ks × Ps := fillI k s (4 - k.once.length)
theorem C0u (kb pb : Nat) (k : Ks) (s : Ps) (MK MP A : Mem) (hK : Kys A kb k MK) (hP : Prm pb s MP) (hn : s.ts.length + 100 ≤ 1048576) (hk : s.n < 1000000000) (hnx : k.next + 100 < 4000000000) (hG : Glb A) : FnX Tryz.prog 32 [(vP kb), (vP pb)] (MK ++ MP) A fun q M J => q = .int .i64 ((4 - k.once.length : Nat) : Int) ∧ ∃ MK2 MP2, M = MK2 ++ MP2 ∧ Kys (J ++ A) kb (A1M k s).1 MK2 ∧ Prm pb (A1M k s).2 MP2 := by
 obtain ⟨va, vg, vs, vo, vm, rs, ro, rm, Bs, Bo, Bm, rfl, hva, hvg, hss, hrs, hso, hro, hsm, hrm, hn1, hn2, hn3, hn4⟩ := hK.ex
 haveI := hva.cel
 haveI := hvg.cel
 haveI := hss.cel
 haveI := hso.cel
 haveI := hsm.cel
 refine FnX.enterZ (N := 42) Tryz.func32 rfl rfl rfl fun w_ => ?_
 refine C4 (D5 0 1) (A3 (as_ (A0 (D5 0 1) (A3 (as_ (A0 (E2 0 1 5) (A5 ?_)))))))
 refine C0 ?_
 refine F2 (α := Nat × (Value × List (List Value) × Mem) × Mem × Mem) (fun y => [(0, (vP kb)), (1, (vP pb)), (5, (vI y.1))]) (fun y => (kb, blk [.int .i64 k.user, .int .i64 k.dev, va, vg, vs, y.2.1.1, .int .u32 ((k.next + y.1 : Nat) : Int), vm] 59) :: (Bs ++ (y.2.1.2.2 ++ (Bm ++ y.2.2.1)))) (fun y => y.2.2.2) (fun y => y.1 + k.once.length ≤ max 4 k.once.length ∧ Sl 3 y.2.1.1 (k.once.length + y.1) y.2.1.2.1.flatten y.2.1.2.2 ∧ RwL prR (y.2.2.2 ++ A) y.2.1.2.1 (fillI k s y.1).1.once ∧ Prm pb (fillI k s y.1).2 y.2.2.1) (fun y => 4 - (k.once.length + y.1)) (0, (vo, ro, Bo), MP, []) ⟨by dsimp only; omega, hso, hro, hP⟩ (E2 0 1 5) (Fit.pick (B := [_]) qP (Fit.pick qP (Fit.pick qP (Fit.pick qP (Fit.last qP))))) qI ?_
 rintro ⟨i, ⟨voi, roi, Boi⟩, MPi, Ji⟩ ⟨hi, hsi, hri, hPi⟩
 dsimp only at hi hsi hri hPi ⊢
 haveI := hsi.cel
 have hps := A3h k s i
 have hnx := A0w k s i
 have hol := A4O k s i
 refine A5 (A3 (mv_ ?_))
 refine A4 (A9p (e := 59) rfl rfl kR) rfl ?_
 refine mv_ ?_
 refine G2 rfl rfl (OpQ.opL qm_ rfl ?_)
 refine G2 rfl rfl (OpQ.opL (F9 rfl) rfl ?_)
 refine G2 rfl rfl (OpQ.opL (qf_ 5 5) rfl ?_)
 refine G2 rfl rfl (OpQ.opL ql_ rfl ?_)
 refine G2 rfl rfl (OpQ.opL (K1 (sz := 3) rfl kR (hsi.rd (R := Boi) fun _ h => h)) rfl ?_)
 refine G2 rfl rfl (OpQ.opL (F1 rfl rfl rfl) rfl ?_)
 refine A4 (I5 rfl rfl) rfl ?_
 refine A0 (E7 0 1 5 15) ?_
 refine C7 rfl ?_ ?_ <;> intro hc
 ·
  have hlt : k.once.length + i < 4 := by simp at hc; omega
  refine A9 (nx (E2 0 1 5) (A5 (C0 ?_)))
  refine I0 (MPi) (_) true [0, 1, 2, 3, 4, 5, 6, 7, 8, 9, 10, 11, 12, 14, 15] (zp 0 [0, 0, 0, 0, 1, 0, 0, 0, 1, 0, 2, 0, 2, 2, 0, 0, 2]) kR kR qP fun hs K n0 hKm hKs hKn => ?_
  refine km_ hs ?_
  refine km_ hs ?_
  refine I8 hs rfl (F9 rfl) rfl ?_
  refine I8 hs rfl (qf_ 5 5) rfl ?_
  refine Q0 hs rfl hKs ql_ ?_
  refine km_ hs ?_
  refine I8 hs rfl (F9 rfl) rfl ?_
  refine I8 hs rfl (qf_ 6 6) rfl ?_
  refine Q0 hs rfl hKs ql_ ?_
  refine km_ hs ?_
  refine K6 _ _ rfl rfl (List.Perm.refl _) hKm fun w0 => (E1 (Mc := MPi) (R := _) (aS rfl a0) kR qP (X6 pb (fillI k s i).2 MPi _ hPi qO qO hG.up) rfl ?_)
  rintro v28 M28 J28 ⟨hP28, h28⟩ hKx
  haveI := h28.cel
  refine I8 hs rfl (F3 (place := fun x => #[(0, 1), (1, 1), (2, 1)][x]?) (z := [.int .u32 0, vS, vS]) (fun _ => by kernel_rfl) (eS rfl (eS rfl e0)) (bdS 0 1 rfl qR (bdS 1 1 rfl qR bd0))) rfl ?_
  refine K6 [] _ rfl rfl (List.Perm.refl _) (fun _ h => by cases h) fun w0 => (C6 (e := 55) (sz := 3) (z := [.int .u32 0, vS, vS]) kR (eS rfl e0) (bdS 0 3 rfl qR bd0) rfl fun b30 => fun _ => ?_)
  refine A1z (M' := (b30, blk [.int .u32 ((k.next + i : Nat) : Int), v28, vS] 55) :: (M28 ++ ((kb, blk [.int .i64 k.user, .int .i64 k.dev, va, vg, vs, voi, .int .u32 ((k.next + i : Nat) : Int), vm] 59) :: (Bs ++ (Boi ++ (Bm ++ [])))))) qM ?_
  refine P0 rfl rfl rfl (I3 (e := 55) (sz := 3) (by_ := 56) rfl rfl kR rfl hsi (Rd.whole (n := 1) At.mem qR) (by intro c hc; simp only [List.mem_cons, List.not_mem_nil, or_false] at hc; rcases hc with rfl | rfl | rfl; rfl; exact h28.one; rfl) qP (by unfold maxLen; omega) qO rfl fun v31 B31 hs31 => ?_)
  haveI := hs31.cel
  refine I8 hs rfl (F9 rfl) rfl ?_
  refine I8 hs rfl (qf_ 5 5) rfl ?_
  refine P0 rfl rfl rfl (D6 rfl rfl hs31.one kR SetC.set UpC.upd ?_)
  refine P4 (E2 0 1 5) (C2 (mv_ ?_))
  refine A4 (F9 rfl) rfl ?_
  refine A4 (qf_ 6 6) rfl ?_
  refine A4 ql_ rfl ?_
  refine A4 (A6k 4294967296 (a := k.next + i) (b := 1) rfl rfl rfl rfl rfl rfl qO) rfl ?_
  refine A4 (F9 rfl) rfl ?_
  refine A4 (qf_ 6 6) rfl ?_
  refine A6 rfl (D6 rfl rfl rfl kR SetC.set UpC.upd ?_)
  refine D0 (nb (nx (E2 0 1 5) (C2 (mv_ ?_))))
  refine A4 (E3 ((i + 1 : Nat) : Int) rfl rfl (G3 qO qO qO)) rfl ?_
  refine as_ (D0 ?_)
  exact rn (i + 1, (v31, roi ++ [[.int .u32 ((k.next + i : Nat) : Int), v28, vS]], B31), _, _) ⟨by dsimp only; omega, by simpa [Nat.add_assoc] using hs31, (hri.mono prT qS).snoc ⟨v28, vS, by rw [hnx], h28.mono qS, By.nil, by dsimp only; omega⟩, hP28⟩ (by dsimp only; omega) (E2 0 1 5) (Fit.pick (B := [_]) qP (Fit.pick qP (Fit.pick qP (Fit.pick qP (Fit.last qP))))) qI
 ·
  have hge : 4 ≤ k.once.length + i := by simp at hc; omega
  obtain rfl : i = 4 - k.once.length := by omega
  refine E6 (te (re (be rfl (nx (D8 5) (A3 (mv_ (as_ (A0 (D8 4) ?_))))))))
  refine C3 ?_
  have hfe := A5W k s (4 - k.once.length)
  refine ⟨_, (kb, blk [.int .i64 k.user, .int .i64 k.dev, va, vg, vs, voi, .int .u32 ((k.next + (4 - k.once.length) : Nat) : Int), vm] 59) :: (Bs ++ (Boi ++ (Bm ++ MPi))), [], K2 rfl rfl, Fit.none (Fit.eq qM), rfl, (kb, blk [.int .i64 k.user, .int .i64 k.dev, va, vg, vs, voi, .int .u32 ((k.next + (4 - k.once.length) : Nat) : Int), vm] 59) :: (Bs ++ (Boi ++ Bm)), MPi, by simp, ⟨⟨va, vg, vs, voi, vm, rs, roi, rm, Bs, Boi, Bm, ?_⟩⟩, hPi⟩
  unfold A1M
  rw [hfe]
  exact ⟨rfl, hva.mono qS, hvg.mono qS, hss, hrs.mono prT qS, by show Sl 3 voi (fillI k s (4 - k.once.length)).1.once.length _ _; rw [hol]; exact hsi, hri, hsm, hrm.mono nmT qS, by dsimp only; omega, hn2, by show (fillI k s (4 - k.once.length)).1.once.length ≤ 100; rw [hol]; omega, hn4⟩

end Go.Proofs.YtoigcbkclcbmpaaGreatDoor
namespace Go.Px
theorem B4Y {rows : List (List Value)} {sz : Nat} {r : List Value} (hl : ∀ r ∈ rows, r.length = sz) (hr : r.length = sz) {j : Nat} (hj : j < rows.length) :
    rows.flatten.take (j * sz) ++ r ++ rows.flatten.drop (j * sz + sz) = (rows.set j r).flatten := by
  rw [show j * sz + sz = (j + 1) * sz from by rw [Nat.add_mul, Nat.one_mul], A3m hl, A6d hl, List.set_eq_take_append_cons_drop, if_pos hj]
  simp
section
variable {C : Cx} {l : Env} {M J : Mem} {K : Env → Mem → Mem → Prop} {ty t : TypeId} {pos : String} {af : Array Edge} {g : Option (Nat × Bool)} {x y : Operand} {v : Value} {xs : List Value} {n j sz : Nat} {B M0 : Mem}
theorem B4Z {r : List Value} (hx : ev l x = some (vAt sz j v)) (hy : ev l y = some (.agg r.toArray)) (h : Sl sz v n xs B) (hr : r.length = sz) (h1 : ∀ u ∈ r, u.oneCell' = true)
    (ht : P7 C.P t = some sz) (hj : j < n) (hM : M.Perm (B ++ M0)) (h2 : ∀ B', Sl sz v n (xs.take (j * sz) ++ r ++ xs.drop (j * sz + sz)) B' → K l (B' ++ M0) J) :
    OpL C ⟨none, .store t x y, ty, pos, af, g⟩ l M J K := by
  suffices hh : OpL C ⟨none, .store t x y, ty, pos, af, g⟩ l (B ++ M0) J K from fun Qp a w ha hw => hh Qp a w ha (hw.fit (Fit.perm hM) fun _ h => h)
  clear hM
  subst hr
  have hjm : j * r.length + r.length ≤ n * r.length := by rw [← Nat.succ_mul]; exact Nat.mul_le_mul_right _ hj
  rcases h with ⟨p, rfl, rfl, hx2, rfl⟩ | ⟨b, o, cap, cs, e, rfl, rfl, h3, h4, h5, h6, h7⟩
  · omega
  · simp only [vAt, Addr.add_mid] at hx
    have hcm : n * r.length ≤ cap * r.length := Nat.mul_le_mul_right _ h3
    refine A4V hx hy rfl ht (by omega) h1 rfl .hd (h2 [_] (.inr ⟨b, o, cap, _, e, rfl, rfl, h3, h4, ?_, ?_, ?_⟩))
    · rw [A1d (by omega)]; exact h5
    · rw [A1d (by omega)]; exact h6
    · intro q u hq
      have hlt := (List.getElem?_eq_some_iff.1 hq).1
      rw [A1d (by omega)] at hlt
      by_cases hq1 : q < j * r.length
      · rw [A3l (by omega) hq1] at hq
        rw [A3l (by omega) (by omega)]
        exact h7 q u hq
      · by_cases hq2 : q < j * r.length + r.length
        · rw [A2q (by omega) (by omega) hq2] at hq
          rw [A2q (by omega) (by omega) (by omega), ← hq]
          congr 1; omega
        · rw [A6b (by omega) (by omega)] at hq
          rw [A6b (by omega) (by omega)]
          exact h7 q u hq
theorem B41 {e : TypeId} {by_ : Nat} {zs : List Value} (hx : ev l x = some (vLo j sz v)) (ht : A3j C.P t = some (e, sz, by_)) (hz : zn C.P t (n - j) = some zs) (h : Sl sz v n xs B)
    (h1 : ∀ c ∈ zs, c.oneCell' = true) (hj : j < n) (hM : M.Perm (B ++ M0)) (h2 : ∀ B', Sl sz v n (xs.take (j * sz) ++ zs) B' → K l (B' ++ M0) J) :
    OpL C ⟨none, .call { callee := .builtin .clear, args := #[x], argTypes := #[t] }, ty, pos, af, g⟩ l M J K := by
  suffices hh : OpL C ⟨none, .call { callee := .builtin .clear, args := #[x], argTypes := #[t] }, ty, pos, af, g⟩ l (B ++ M0) J K from fun Qp a w ha hw => hh Qp a w ha (hw.fit (Fit.perm hM) fun _ h => h)
  clear hM
  have hzl := B5x hz ht
  have hjm : j * sz ≤ n * sz := Nat.mul_le_mul_right _ (by omega)
  rw [Nat.sub_mul] at hzl
  rcases h with ⟨p, rfl, rfl, hx2, rfl⟩ | ⟨b, o, cap, cs, e', rfl, rfl, h3, h4, h5, h6, h7⟩
  · omega
  · have hcm : n * sz ≤ cap * sz := Nat.mul_le_mul_right _ h3
    simp only [vLo, if_neg (show ¬ cap = j by omega), Option.map_some, Addr.add_mid] at hx
    have hnj : (n - j) * sz = zs.length := by rw [hzl, Nat.sub_mul]
    refine B6L hx ht hz h1 (by rw [hnj]; omega) rfl .hd (h2 [_] (.inr ⟨b, o, cap, _, e', rfl, rfl, h3, h4, ?_, ?_, ?_⟩))
    · rw [hnj, A1d (by omega)]; exact h5
    · simp; omega
    · intro q u hq
      have hlt := (List.getElem?_eq_some_iff.1 hq).1
      simp at hlt
      rw [hnj]
      by_cases hq1 : q < j * sz
      · rw [A3l (by omega) (by omega)]
        rw [List.getElem?_append_left (by simp; omega), List.getElem?_take_of_lt hq1] at hq
        exact h7 q u hq
      · rw [A2q (by omega) (by omega) (by omega)]
        rw [List.getElem?_append_right (by simp; omega)] at hq
        rw [← hq]
        congr 1
        simp; omega
end
def kpt {β : Type} (p : Nat → Bool) (rows : List β) : Nat → List β
  | 0 => []
  | j + 1 => kpt p rows j ++ (if p j then [] else rows[j]?.toList)
theorem A77 {β : Type} {p : Nat → Bool} {rows : List β} : ∀ j, (∀ i, i < j → p i = false) → kpt p rows j = rows.take j
  | 0, _ => by simp [kpt]
  | j + 1, h => by
    rw [kpt, A77 j fun i hi => h i (by omega), if_neg (by rw [h j (by omega)]; decide), List.take_add_one]
theorem A4P {α : Type} (q : α → Bool) (xs : List α) : ∀ j, kpt (fun i => (xs[i]?.map q).getD false) xs j = (xs.take j).filter fun x => !q x
  | 0 => by simp [kpt]
  | j + 1 => by
    rw [kpt, A4P q xs j, List.take_add_one, List.filter_append]
    congr 1
    cases h : xs[j]? with
    | none => simp
    | some x => cases hq : q x <;> simp [hq]
theorem RwL.kpt {α : Type} {φ : Mem → α → List Value → Prop} {R : Mem} {rows : List (List Value)} {xs : List α} (h : RwL φ R rows xs) (p : Nat → Bool) : ∀ j, RwL φ R (Px.kpt p rows j) (Px.kpt p xs j)
  | 0 => RwL.nil
  | j + 1 => by
    rw [Px.kpt, Px.kpt]
    refine (RwL.kpt h p j).app ?_
    split
    · exact RwL.nil
    · cases hx : xs[j]? with
      | none =>
        have : rows[j]? = none := by rw [List.getElem?_eq_none_iff] at hx ⊢; rw [h.len]; exact hx
        rw [this]; exact RwL.nil
      | some x =>
        obtain ⟨r, h1, h2⟩ := h.get j x hx
        rw [h1]
        exact RwL.cons h2 RwL.nil
theorem B47 {α : Type} {cur : List α} {i : Nat} {r : α} (h : i < cur.length) : (cur.set i r).take (i + 1) = cur.take i ++ [r] := by
  rw [List.take_add_one, List.getElem?_set_self h, List.take_set_of_le (Nat.le_refl _)]
  rfl
theorem Sl.hi_app {sz n i : Nat} {v : Value} {xs zs : List Value} {B : Mem} (h : Sl sz v n (xs.take (i * sz) ++ zs) B) (hx : xs.length = n * sz) (hi : i ≤ n) : Sl sz (vHi i v) i (xs.take (i * sz)) B := by
  have h2 := h.hiV i hi
  have h3 : i * sz ≤ n * sz := Nat.mul_le_mul_right _ hi
  rwa [List.take_left' (by rw [List.length_take]; omega)] at h2
structure Dfs (sz : Nat) (p : Nat → Bool) (rows cur : List (List Value)) (j i : Nat) : Prop where
  jn : j ≤ rows.length
  ki : i = (kpt p rows j).length
  ij : i < j
  cl : cur.length = rows.length
  ct : cur.take i = kpt p rows j
  cd : cur.drop j = rows.drop j
  cs : ∀ r ∈ cur, r.length = sz
  cr : ∀ r ∈ cur, r ∈ rows
section
variable {sz : Nat} {p : Nat → Bool} {rows cur : List (List Value)} {j i i0 : Nat} {r : List Value}
theorem Dfs.init (hl : ∀ r ∈ rows, r.length = sz) (hi : i0 < rows.length) (hp : p i0 = true) (hq : ∀ j, j < i0 → p j = false) : Dfs sz p rows rows (i0 + 1) i0 := by
  have hk0 : kpt p rows (i0 + 1) = rows.take i0 := by rw [kpt, hp, A77 i0 hq]; simp
  exact ⟨hi, by rw [hk0, List.length_take]; omega, by omega, rfl, hk0.symm, rfl, hl, fun _ h => h⟩
theorem Dfs.at_ (h : Dfs sz p rows cur j i) (hr : rows[j]? = some r) : cur[j]? = some r := by
  have h2 := congrArg (fun l => l[0]?) h.cd
  simpa [List.getElem?_drop, hr] using h2
theorem Dfs.keep (h : Dfs sz p rows cur j i) (hr : rows[j]? = some r) (hp : p j = false) : Dfs sz p rows (cur.set i r) (j + 1) (i + 1) := by
  obtain ⟨h1, h2, h3, h4, h5, h6, h7, h8⟩ := h
  have hjl := (List.getElem?_eq_some_iff.1 hr).1
  have hk : kpt p rows (j + 1) = kpt p rows j ++ [r] := by rw [kpt, hp, hr]; rfl
  have hcj : cur.drop (j + 1) = rows.drop (j + 1) := by rw [← List.drop_drop, ← List.drop_drop, h6]
  refine ⟨hjl, by rw [hk]; simp [← h2], by omega, by simp [h4], ?_, ?_, ?_, ?_⟩
  · rw [B47 (by omega), h5, hk]
  · rw [List.drop_set_of_lt (by omega), hcj]
  · intro x hx
    rcases List.mem_or_eq_of_mem_set hx with hx | hx
    · exact h7 x hx
    · subst hx; exact h7 x (List.mem_of_getElem? (Dfs.at_ ⟨h1, h2, h3, h4, h5, h6, h7, h8⟩ hr))
  · intro x hx
    rcases List.mem_or_eq_of_mem_set hx with hx | hx
    · exact h8 x hx
    · subst hx; exact List.mem_of_getElem? hr
theorem Dfs.skip (h : Dfs sz p rows cur j i) (hjl : j < rows.length) (hp : p j = true) : Dfs sz p rows cur (j + 1) i := by
  obtain ⟨h1, h2, h3, h4, h5, h6, h7, h8⟩ := h
  have hk : kpt p rows (j + 1) = kpt p rows j := by rw [kpt, hp]; simp
  exact ⟨hjl, by rw [hk]; exact h2, by omega, h4, by rw [hk]; exact h5, by rw [← List.drop_drop, ← List.drop_drop, h6], h7, h8⟩
end
end Go.Px

namespace Go.Proofs.YtoigcbkclcbmpaaGreatDoor
open Go.Px
theorem B5a {k : IntKind} (c : Int) : K4 .eql k c (-1) = some (.bool (decide (c = -1))) := by
  by_cases h : c = -1
  · rw [decide_eq_true h]; exact eqT h
  · rw [decide_eq_false h]; exact eqF h
theorem A93 (v : Value) (rows : List (List Value)) (f : FuncId) (cs : List Value) (p : Nat → Bool) (B A : Mem) (hs : Sl 2 v rows.length rows.flatten B) (hl : ∀ r ∈ rows, r.length = 2) (h1 : ∀ c ∈ rows.flatten, c.oneCell' = true) (hn : rows.length ≤ 1099511627776) (hc_ : K5 Tryz.prog f = true) (hf : ∀ (j : Nat) (r : List Value), rows[j]? = some r → FnV Tryz.prog f (.agg r.toArray :: cs) A (.bool (p j))) : FnX Tryz.prog 54 [v, .func (.func f) #[] cs.toArray] B A fun q M J => Sl 2 q (kpt p rows rows.length).length (kpt p rows rows.length).flatten M := by
 haveI := hs.cel
 refine FnX.enterZ (N := 42) Tryz.func54 rfl rfl rfl fun w_ => ?_
 refine C4 (D5 0 1) (A3 (as_ (A0 (D5 0 1) (A3 (mv_ (mv_ ?_))))))
 refine F6 (aS rfl (aS rfl a0)) kR (A90 v rows f cs p _ (hs.rd fun x hx => by simp [hx]) hl hn hc_ (fun j r hr => B2p (hf j r hr) qS)) rfl ?_
 refine as_ (A0 (E2 0 1 5) (A5 (A3 (mv_ ?_))))
 refine A4 (F4 (decide (A7j p rows.length = -1)) rfl rfl (B5a _)) rfl ?_
 refine A0 (E7 0 1 5 12) ?_
 refine C7 rfl ?_ ?_ <;> intro hc
 ·
  have hm1 : A7j p rows.length = -1 := of_decide_eq_true hc
  have hall : ∀ i, i < rows.length → p i = false := by rcases A2z p rows.length with ⟨_, h⟩ | ⟨i, _, h, _, _⟩; exact h; omega
  refine A3 (mv_ (as_ (A0 (D8 4) (C3 (tr ?_)))))
  refine ⟨_, B, [], K2 rfl rfl, Fit.none (Fit.last qP), ?_⟩
  rw [A77 _ hall, List.take_length]
  exact hs
 ·
  have hne : ¬ A7j p rows.length = -1 := of_decide_eq_false hc
  obtain ⟨i0, hi0, he0, hp0, hq0⟩ : ∃ i, i < rows.length ∧ A7j p rows.length = (i : Int) ∧ p i = true ∧ ∀ j, j < i → p j = false := (A2z p rows.length).resolve_left fun h => hne h.1
  rw [he0]
  refine A9 (nx (E2 0 1 5) (A5 (A3 (mv_ ?_))))
  refine A4 (E3 ((i0 + 1 : Nat) : Int) rfl rfl (G3 qO qO qO)) rfl ?_
  refine as_ (A0 (E7 0 1 5 6) (C0 ?_))
  refine F2 (α := Nat × Nat × List (List Value) × Mem) (fun y => [(0, v), (1, .func (.func f) #[] cs.toArray), (5, (vI y.2.1)), (6, (vI y.1))]) (fun y => y.2.2.2) (fun _ => []) (fun y => Dfs 2 p rows y.2.2.1 y.1 y.2.1 ∧ Sl 2 v rows.length y.2.2.1.flatten y.2.2.2) (fun y => rows.length - y.1) (i0 + 1, i0, rows, B) ⟨Dfs.init hl hi0 hp0 hq0, hs⟩ (E7 0 1 5 6) Fit.rfl qI ?_
  rintro ⟨j, i, cur, Bc⟩ ⟨hD, hsc⟩
  dsimp only at hD hsc ⊢
  have hjn := hD.jn
  have hij := hD.ij
  have hcs := hD.cs
  refine A5 (A3 (mv_ (mv_ ?_)))
  refine A4 (K1 (sz := 2) rfl kR (hsc.rd (R := Bc) fun _ h => h)) rfl ?_
  refine A4 (F1 rfl rfl rfl) rfl ?_
  refine A0 (F5 0 1 5 6 19) ?_
  refine C7 rfl ?_ ?_ <;> intro hc
  ·
   have hlt : j < rows.length := by simp at hc; omega
   obtain ⟨r, hr⟩ : ∃ r, rows[j]? = some r := ⟨_, List.getElem?_eq_getElem hlt⟩
   have hrc : cur[j]? = some r := hD.at_ hr
   have hrl : r.length = 2 := hcs r (List.mem_of_getElem? hrc)
   have hr1 : ∀ c ∈ r, c.oneCell' = true := fun c hc => h1 c (List.mem_flatten.2 ⟨r, List.mem_of_getElem? hr, hc⟩)
   obtain ⟨c0_, c1_, rfl⟩ : ∃ c0_ c1_, r = [c0_, c1_] := by match r, hrl with | [c0_, c1_], _ => exact ⟨c0_, c1_, rfl⟩
   refine A9 (nx (E7 0 1 5 6) (A5 (C0 (A3 (mv_ (mv_ ?_))))))
   refine A4 (K0 (sz := 2) (a := j) rfl rfl kR rfl (hsc.rd (R := Bc) fun _ h => h) hlt) rfl ?_
   refine A4 (A0Q rfl kR (hsc.rd fun x hx => by simp [hx]) hcs qD hrc) rfl ?_
   refine A6 rfl (C5 (cs := [.int .u32 0, vS]) kR rfl fun b7 => ?_)
   refine A6 rfl (A8 rfl rfl rfl kR qR hr1 UpC.upd ?_)
   refine A0 (F5 0 1 5 6 7) (A3 (mv_ ?_))
   refine A4 (qw_ 2) rfl ?_
   refine A6 rfl (A2d rfl (aS rfl a0) hc_ (B2p (hf j _ hr) qS) rfl ?_)
   refine A4 (A0o rfl) rfl ?_
   refine A0 (I1 0 1 5 6 7 29) ?_
   refine C7 rfl ?_ ?_ <;> intro hc
   ·
    refine A3 (mv_ (mv_ ?_))
    refine A4 (qw_ 2) rfl ?_
    refine A4 (K0 (sz := 2) (a := i) rfl rfl kR rfl (hsc.rd (R := Bc) fun _ h => h) qO) rfl ?_
    refine A6 rfl (B4Z (sz := 2) (j := i) rfl rfl hsc hrl hr1 kR qO qP fun B33 hs33 => ?_)
    refine A0 (E7 0 1 5 6) (C2 (mv_ ?_))
    refine A4 (E3 ((i + 1 : Nat) : Int) rfl rfl (G3 qO qO qO)) rfl ?_
    refine as_ (D0 (nb (nx (E7 0 1 5 6) (C2 (mv_ ?_)))))
    refine A4 (E3 ((j + 1 : Nat) : Int) rfl rfl (G3 qO qO qO)) rfl ?_
    refine as_ (D0 ?_)
    exact rn (j + 1, i + 1, cur.set i [c0_, c1_], B33) ⟨hD.keep hr (by simpa using hc), by rw [← B4Y hcs rfl (by have := hD.cl; omega)]; exact hs33⟩ (by dsimp only; omega) (E7 0 1 5 6) (Fit.last qP) qI
   ·
    refine A9 (nb (nx (E7 0 1 5 6) (C2 (mv_ ?_))))
    refine A4 (E3 ((j + 1 : Nat) : Int) rfl rfl (G3 qO qO qO)) rfl ?_
    refine as_ (D0 ?_)
    exact rn (j + 1, i, cur, Bc) ⟨hD.skip hlt (by simpa using hc), hsc⟩ (by dsimp only; omega) (E7 0 1 5 6) (Fit.last qP) qI
  ·
   have hge : j = rows.length := by simp at hc; omega
   subst hge
   refine E6 (te (re (be rfl (nx (D5 0 5) (A3 (mv_ (mv_ ?_)))))))
   refine A4 (A8s (sz := 2) rfl rfl kR rfl (by first | assumption | exact Sl.rd (by assumption) qI | exact By.rd (by assumption)) qO) rfl ?_
   refine A6 rfl (B41 (e := 106) (by_ := 32) (zs := (Builtin.zeroCells #[.int .u32 0, vS] (rows.length - i)).toList) rfl kR kR hsc (A4Y (by simp [Value.oneCell']) qM _) qO qP fun B38 hs38 => ?_)
   refine A0 (D5 0 5) (A3 (mv_ (mv_ ?_)))
   refine A4 (A6m (sz := 2) (a := i) rfl rfl kR rfl (hs38.rd (R := B38) fun _ h => h) qO) rfl ?_
   refine as_ (A0 (D8 4) (C3 ?_))
   refine ⟨_, B38, [], K2 rfl rfl, Fit.none (Fit.last qP), ?_⟩
   have h2 := hs38.hi_app (by rw [A8k hcs, hD.cl]) qO
   rw [A3m hcs, hD.ct] at h2
   rw [← hD.ki]
   exact h2

theorem N7 (s : Ps) (w : LN) : (I7 s w).ts.length ≤ s.ts.length + 2 := by
  unfold I7
  split
  · omega
  · have h1 := U5 (ts := s.ts) (ws := w)
    have h2 := A1E (ts := rdT s.ts w) (t := B0c ((rdI s.ts w : Nat) : Int))
    show (add (rdT s.ts w) _).length ≤ _
    omega
theorem Z5 (s : Ps) (w : LN) : (I7 s w).n = s.n := by unfold I7; split <;> rfl
theorem B5c (s : Ps) (w m : LN) : (A5R s w m).ts.length ≤ s.ts.length + 2 := by
  unfold A5R
  split
  · omega
  · have h1 := U5 (ts := s.ts) (ws := w)
    have h2 := A1E (ts := rdT s.ts w) (t := A39 ((rdI s.ts w : Nat) : Int) m)
    show (add (rdT s.ts w) (A39 ((rdI s.ts w : Nat) : Int) m)).length ≤ _
    omega
theorem C0v (s : Ps) (w m : LN) : (A5R s w m).n = s.n := by unfold A5R; split <;> rfl
theorem A2l (s : Ps) (w : LN) : (K9 s w).length = 32 := by
  unfold K9
  split
  · exact A5P _ _
  · exact A0C _ qD
noncomputable def B2s (k : Ks) (s : Ps) : Ps := A5R (I7 (D4 s) (D9 s)) k.sign (A0U k.next (K9 (D4 s) (D9 s)))
noncomputable def turnP (k : Ks) (s : Ps) : Pr := ⟨k.next, D9 s, B2a (I7 (D4 s) (D9 s)) k.sign (A0U k.next (K9 (D4 s) (D9 s)))⟩
def A94 (signed : List Pr) (x : Nm) : Bool := !decide (0 ≤ A1H (A2k x.n) signed)
noncomputable def Z6 (k : Ks) (s : Ps) : Ks × Ps :=
  ({ k with signed := (turnP k s :: k.signed).take 2, next := k.next + 1, met := k.met.filter fun x => !A94 ((turnP k s :: k.signed).take 2) x }, B2s k s)
theorem B2t {l : List Pr} {rows : List (List Value)} {n b : Nat} {vi : Value} {A : Mem} (hR : RwL prR A rows l) (hvi : Cel vi [vi]) (hb : (b, blk [(vU n), vi] 106) ∈ A) :
    ∀ (j : Nat) (r : List Value), rows[j]? = some r → FnV Tryz.prog 57 (.agg r.toArray :: [(vP b)]) A (.bool ((fun j => (l[j]?.map (A2k n)).getD false) j)) := fun j r hr => by
  obtain ⟨x, hx, vs, vg, rfl, hs, hg, _⟩ := hR.of hr
  dsimp only
  rw [hx]
  exact A72 vs vg vi x n b _ hs hg hvi hb
theorem B8p (kb b n : Nat) (c0 c1 c2 c3 vq c5 c6 c7 vi : Value) (sg : List Pr) (rs : List (List Value)) (A : Mem) (hb : (b, blk [(vP kb)] 35) ∈ A) (hkb : (kb, blk [c0, c1, c2, c3, vq, c5, c6, c7] 59) ∈ A) (hvi : Cel vi [vi]) (hv : Rd A 3 vq sg.length rs.flatten) (hR : RwL prR A rs sg) (hl : sg.length ≤ 1000000) : FnV Tryz.prog 55 [.agg #[(vU n), vi], (vP b)] A (.bool (!decide (0 ≤ A1H (A2k n) sg))) := by
 haveI := hv.cel
 refine FnX.enter (N := 11) Tryz.func55 rfl rfl rfl fun w => ?_
 refine C4 (D5 0 1) (A3 ?_)
 refine A6 rfl (bx_ fun b2 => ?_)
 refine as_ (A0 (D5 1 2) (A3 ?_))
 refine A4 (I2 rfl kR (mA hb) qR) rfl ?_
 refine A4 (F9 rfl) rfl ?_
 refine A4 (qf_ 4 4) rfl ?_
 refine A4 (I2 rfl kR (mA hkb) qR) rfl ?_
 refine A4 (A5z (aS rfl a0)) rfl ?_
 refine F6 (aS rfl (aS rfl a0)) kR (A5U vq rs 57 [(vP b2)] (fun j => (sg[j]?.map (A2k n)).getD false) _ (by rw [hR.len]; exact hv.mono qS) (hR.lens prT) (by rw [hR.len]; omega) kR (B2t (hR.mono prT qS) hvi At.mem)) rfl ?_
 rw [hR.len]
 refine A4 (A0o rfl) rfl ?_
 refine as_ (A0 (D8 3) (C3 ?_))
 exact ⟨_, [], [], K2 rfl rfl, List.nil_sublist _, by simp, rfl, rfl, rfl⟩
theorem B2u {l : List Nm} {rows : List (List Value)} {kb b : Nat} {c0 c1 c2 c3 vq c5 c6 c7 : Value} {sg : List Pr} {rs : List (List Value)} {A : Mem} (hL : RwL nmR A rows l) (hb : (b, blk [(vP kb)] 35) ∈ A) (hkb : (kb, blk [c0, c1, c2, c3, vq, c5, c6, c7] 59) ∈ A) (hv : Rd A 3 vq sg.length rs.flatten) (hR : RwL prR A rs sg) (hl : sg.length ≤ 1000000) :
    ∀ (j : Nat) (r : List Value), rows[j]? = some r → FnV Tryz.prog 55 (.agg r.toArray :: [(vP b)]) A (.bool ((fun j => (l[j]?.map (A94 sg)).getD false) j)) := fun j r hr => by
  obtain ⟨x, hx, vi, rfl, hi, _⟩ := hL.of hr
  dsimp only
  rw [hx]
  exact B8p kb b x.n c0 c1 c2 c3 vq c5 c6 c7 vi sg rs A hb hkb hi.cel hv hR hl
theorem C0w (kb pb : Nat) (k : Ks) (s : Ps) (MK MP A : Mem) (hK : Kys A kb k MK) (hP : Prm pb s MP) (hn : s.ts.length + 100 ≤ 1048576) (hk : s.n < 1000000000) (hnx : k.next + 100 < 4000000000) (hG : Glb A) : FnX Tryz.prog 31 [(vP kb), (vP pb)] (MK ++ MP) A fun q M J => ∃ MK2 MP2, M = MK2 ++ MP2 ∧ Kys (J ++ A) kb (Z6 k s).1 MK2 ∧ Prm pb (Z6 k s).2 MP2 := by
 obtain ⟨va, vg, vq, vo, vm, rs, ro, rm, Bs, Bo, Bm, rfl, hva, hvg, hss, hrs, hso, hro, hsm, hrm, hn1, hn2, hn3, hn4⟩ := hK.ex
 haveI := hva.cel
 haveI := hvg.cel
 have fl := L2 s
 have pl := N7 (D4 s) (D9 s)
 have pkl := A2l (D4 s) (D9 s)
 haveI := hss.cel
 haveI := hso.cel
 haveI := hsm.cel
 refine FnX.enterZ (N := 68) Tryz.func31 rfl rfl rfl fun w_ => ?_
 refine C4 (D5 0 1) (A3 ?_)
 refine A6 rfl (bx_ fun b2 => ?_)
 refine A0 (D5 1 2) (A5 (A3 ?_))
 refine A4 ql_ rfl ?_
 refine A4 (F0 (e := 59) rfl rfl kR) rfl ?_
 refine A0 (E2 1 2 6) ?_
 refine D3 rfl ?_
 refine A9 (nx (D5 1 2) ?_)
 refine I0 (MP) (_) true (.range 8) (zp 0 [1, 0, 0, 1, 0, 3, 3, 4, 2]) kR kR qP fun hs K n0 hKm hKs hKn => ?_
 refine Q0 hs rfl hKs ql_ ?_
 refine I8 hs rfl (F9 rfl) rfl ?_
 refine I8 hs rfl (qf_ 6 6) rfl ?_
 refine Q0 hs rfl hKs ql_ ?_
 refine km_ hs ?_
 refine A07 [⟨5, 12, none, MP, fun v B R => Prm pb (D4 (s)) B ∧ By R v (D9 (s))⟩, ⟨6, 13, none, [], fun v B R => B = [] ∧ ∃ u, v = .agg [(vU k.next), u, vS].toArray ∧ By R u (D9 s)⟩, ⟨7, 4, none, [], fun v B _ => ∃ b, v = (vP b) ∧ B = [(b, blk [.int .u32 0, vS, vS] 55)]⟩] ((b2, blk [(vP kb)] 35) :: ((kb, blk [.int .i64 k.user, .int .i64 k.dev, va, vg, vq, vo, (vU k.next), vm] 59) :: (Bs ++ (Bo ++ Bm)))) (fun bs => [bs 5, bs 6, bs 7]) (hKn rfl) (by simp [A0H, A2b]) (show ∀ m ∈ ([MP, [], []] : List Mem), ∀ x ∈ m, K x.1 from C1 (hKm) (C1 (fun _ h => by cases h) (C1 (fun _ h => by cases h) (K7)))) kR (fun _ => by first | rfl | kernel_rfl)
  (C1 (fun _ _ _ _ h hp => ⟨hp.1, hp.2.mono h⟩) (C1 (fun _ _ _ _ h ⟨p1, u, p2, p3⟩ => ⟨p1, u, p2, p3.mono h⟩) (C1 (fun _ _ _ _ h hp => hp) (K7)))) (show List.Nodup [12, 13, 4] by decide) (show List.Nodup [5, 6, 7] by decide) (C1 (C8 rfl) (C1 (C8 rfl) (C1 (C8 rfl) (K7))))
  (C1 ⟨_, rfl, fun vs bs R Rj wG hb hj hjr ha => ⟨.inl rfl, ?_⟩⟩ (C1 ⟨_, rfl, fun vs bs R Rj wG hb hj hjr ha => ⟨.inl rfl, ?_⟩⟩ (C1 ⟨_, rfl, fun vs bs R Rj wG hb hj hjr ha => ⟨.inl rfl, ?_⟩⟩ (K7)))) ?_
 ·
  dsimp only [Gc.inp]
  refine E1 (Mc := MP) (R := []) (aS rfl a0) kR qM (X6 pb (s) MP _ hP qO qO (hG.sub fun x hx => by have := hb x (by simp [hx]); simp [this])) rfl ?_
  rintro v12 M12 J12 ⟨hP12, h12⟩
  exact ⟨_, rfl, by simpa using hP12, h12.mono fun x hx => by simp [hx]⟩
 ·
  dsimp only [Gc.inp]
  have g5 := ha _ (List.mem_of_getElem? (i := 0) rfl) kR
  replace g5 : (fun v B R => Prm pb (D4 (s)) B ∧ By R v (D9 (s))) (vs 5) (bs 5) Rj := g5
  dsimp only at g5
  obtain ⟨hP12, h12⟩ := g5
  haveI := h12.cel
  exact OpQ.opL (F3 (place := fun x => #[(0, 1), (1, 1), (2, 1)][x]?) (z := [.int .u32 0, vS, vS]) (fun _ => by kernel_rfl) (eS rfl (eS rfl e0)) (bdS 0 1 rfl qR (bdS 1 1 rfl qR bd0))) rfl ⟨_, rfl, rfl, _, rfl, h12⟩
 ·
  dsimp only [Gc.inp]
  exact C5 (cs := [.int .u32 0, vS, vS]) kR rfl fun b => ⟨_, rfl, b, rfl, rfl⟩
 intro vs bs Jn0 hφ hKK
 have kk5 := hKK _ (List.mem_of_getElem? (i := 0) rfl)
 dsimp only at kk5
 have kk6 := hKK _ (List.mem_of_getElem? (i := 1) rfl)
 dsimp only at kk6
 have kk7 := hKK _ (List.mem_of_getElem? (i := 2) rfl)
 dsimp only at kk7
 clear hKK
 have g5 := ofH hφ
 dsimp only at g5
 replace hφ := ofT hφ
 have g6 := ofH hφ
 dsimp only at g6
 replace hφ := ofT hφ
 have g7 := ofH hφ
 dsimp only at g7
 clear hφ
 dsimp only [U0, A0H, List.foldr, List.map, List.cons_append, List.nil_append]
 generalize bs 5 = B12 at *
 generalize bs 6 = B13 at *
 generalize bs 7 = B4 at *
 generalize vs 5 = u12 at *
 generalize vs 6 = u13 at *
 generalize vs 7 = u4 at *
 obtain ⟨hP12, h12⟩ := g5
 obtain ⟨b4, rfl, rfl⟩ := g7
 obtain ⟨rfl, u, rfl, h12⟩ := g6
 haveI := h12.cel
 refine A1z (M' := B12 ++ ((b4, blk [.int .u32 0, vS, vS] 55) :: (b2, blk [(vP kb)] 35) :: ((kb, blk [.int .i64 k.user, .int .i64 k.dev, va, vg, vq, vo, (vU k.next), vm] 59) :: (Bs ++ (Bo ++ Bm))))) qM ?_
 refine P0 rfl rfl rfl (A8 (vs := [(vU k.next), u, vS]) rfl rfl rfl kR qR (by intro c hc; simp only [List.mem_cons, List.not_mem_nil, or_false] at hc; rcases hc with rfl | rfl | rfl; rfl; exact h12.one; rfl) UpC.upd ?_)
 refine P4 (E2 1 2 4) ?_
 refine I0 (B12) (_) true (.range 14) (zp 0 [0, 1, 0, 0, 1, 0, 1, 0, 0, 1, 2, 2, 2, 0, 2]) kR kR qP fun hs K n0 hKm hKs hKn => ?_
 refine km_ hs ?_
 refine Q0 hs rfl hKs ql_ ?_
 refine I8 hs rfl (F9 rfl) rfl ?_
 refine I8 hs rfl (qf_ 3 3) rfl ?_
 refine Q0 hs rfl hKs ql_ ?_
 refine I8 hs rfl (qf_ 0 0) rfl ?_
 refine Q0 hs rfl hKs ql_ ?_
 refine km_ hs ?_
 refine I8 hs rfl (qf_ 1 1) rfl ?_
 refine Q0 hs rfl hKs ql_ ?_
 refine K6 _ _ rfl rfl (List.Perm.refl _) hKm fun w0 => (E1 (Mc := B12) (R := _) (aS rfl (aS rfl a0)) kR qP (A0m pb (D4 s) u (D9 s) B12 _ hP12 qO (h12.mono qS) hG.up) rfl ?_)
 rintro v24 M24 J24 ⟨hP24, h24⟩ hKx
 haveI := h24.cel
 refine A1z (M' := M24 ++ ((b4, blk [(vU k.next), u, vS] 55) :: (b2, blk [(vP kb)] 35) :: ((kb, blk [.int .i64 k.user, .int .i64 k.dev, va, vg, vq, vo, (vU k.next), vm] 59) :: (Bs ++ (Bo ++ Bm))))) qM ?_
 generalize hpk : K9 (D4 s) (D9 s) = pk at *
 generalize hps : I7 (D4 s) (D9 s) = s2 at *
 refine K6 [] _ rfl rfl (List.Perm.refl _) (fun _ h => by cases h) fun w0 => (D7 (aS rfl (aS rfl a0)) kR (A68 k.next v24 pk _ qO (h24.mono qS) qO) rfl ?_)
 rintro v25 M25 J25 ⟨rfl, h25⟩ _
 haveI := h25.cel
 generalize hms : A0U k.next pk = wm at *
 dsimp only [List.nil_append, List.append_eq]
 refine K6 M24 _ rfl rfl qP (fun x hx => hKx (hKn rfl) x (by simpa using hx)) fun w0 => (E1 (Mc := M24) (R := _) (aS rfl (aS rfl (aS rfl a0))) kR qP (B78 pb s2 vg v25 k.sign wm M24 _ hP24 qO (hvg.mono qS) (h25.mono qS) hG.up) rfl ?_)
 rintro v26 M26 J26 ⟨hP26, h26⟩ hKx
 haveI := h26.cel
 refine I8 hs rfl (qf_ 2 2) rfl ?_
 refine P0 rfl rfl rfl (D6 rfl rfl h26.one kR SetC.set UpC.upd ?_)
 refine P4 (D5 2 4) (A3 ?_)
 refine A4 ql_ rfl ?_
 refine A4 (F9 rfl) rfl ?_
 refine A4 (qf_ 6 6) rfl ?_
 refine A4 ql_ rfl ?_
 refine A4 (A6k 4294967296 (a := k.next) (b := 1) rfl rfl rfl rfl rfl rfl qO) rfl ?_
 refine A4 (F9 rfl) rfl ?_
 refine A4 (qf_ 6 6) rfl ?_
 refine A6 rfl (D6 rfl rfl rfl kR SetC.set UpC.upd ?_)
 refine A0 (D5 2 4) ?_
 refine I0 ([]) (_) true (.range 10) [(0, 1), (1, 1), (3, 1), (4, 0), (5, 0), (6, 1), (2, 2), (7, 2), (8, 0), (9, 0), (10, 2)] kR kR qP fun hs K n0 hKm hKs hKn => ?_
 refine Q0 hs rfl hKs ql_ ?_
 refine Q0 hs rfl hKs (qw_ 3) ?_
 refine Q0 hs rfl hKs ql_ ?_
 refine I8 hs rfl (F9 rfl) rfl ?_
 refine I8 hs rfl (qf_ 4 4) rfl ?_
 refine Q0 hs rfl hKs ql_ ?_
 refine K6 [] _ rfl rfl (List.Perm.refl _) (fun _ h => by cases h) fun w0 => (C6 (e := 55) (sz := 3) (z := [.int .u32 0, vS, vS]) kR (eS rfl e0) (bdS 0 3 rfl qR bd0) rfl fun b37 => fun hk37 => ?_)
 dsimp only [List.cons_append, List.nil_append, List.append_eq]
 refine K6 [(b37, blk [(vU k.next), u, v26] 55)] _ rfl rfl qP (fun x hx => hk37 (hKn rfl) x (by simpa using hx)) fun w0 => (I3 (e := 55) (sz := 3) (by_ := 56) rfl rfl kR rfl (Sl.fresh (n := 1) (cs := [(vU k.next), u, v26]) (e := 55) rfl qD) (hss.rd fun x hx => by simp [hx]) (hrs.ones prT) qP (by unfold maxLen; omega) qO rfl fun v42 B42 hs42 => fun _ => ?_)
 haveI := hs42.cel
 refine I8 hs rfl (F9 rfl) rfl ?_
 refine I8 hs rfl (qf_ 4 4) rfl ?_
 refine P0 rfl rfl rfl (D6 rfl rfl hs42.one kR SetC.set UpC.upd ?_)
 refine P4 (D8 2) ?_
 refine D2 (.range 14) (zp 0 [1, 1, 0, 0, 1, 1, 0, 0, 1, 0, 0, 0, 0, 0, 2]) kR kR fun hs => ?_
 refine F7 hs rfl ql_ rfl ?_
 refine F7 hs rfl ql_ rfl ?_
 refine D1 hs rfl (F9 rfl) rfl ?_
 refine D1 hs rfl (qf_ 4 4) rfl ?_
 refine F7 hs rfl ql_ rfl ?_
 refine F7 hs rfl ql_ rfl ?_
 refine D1 hs rfl (F9 rfl) rfl ?_
 refine D1 hs rfl (qf_ 4 4) rfl ?_
 refine F7 hs rfl ql_ rfl ?_
 refine D1 hs rfl (K1 (sz := 3) rfl kR (hs42.rd (R := B42) fun _ h => h)) rfl ?_
 refine D1 hs rfl (B8X rfl rfl) rfl ?_
 refine D1 hs rfl (A6m (sz := 3) (a := min 2 (1 + k.signed.length)) rfl rfl kR qO (hs42.rd (R := B42) fun _ h => h) qO) rfl ?_
 have hs6 := hs42.hiV (min 2 (1 + k.signed.length)) qO
 generalize vHi (min 2 (1 + k.signed.length)) v42 = vq6 at *
 haveI := hs6.cel
 obtain ⟨tp, htp⟩ : ∃ tp, turnP k s = tp := ⟨_, rfl⟩
 have htq : tp = ⟨k.next, D9 s, B2a s2 k.sign wm⟩ := by rw [← htp]; unfold turnP; rw [hpk, hps, hms]
 have hrow : prR (J26 ++ (J25 ++ (J24 ++ (Jn0 ++ A)))) tp [(vU k.next), u, v26] := ⟨u, v26, by rw [htq], by rw [htq]; exact h12.mono qS, by rw [htq]; exact h26.mono qS, by rw [htq]; dsimp only; omega⟩
 have hRs : RwL prR (J26 ++ (J25 ++ (J24 ++ (Jn0 ++ A)))) (([(vU k.next), u, v26] :: rs).take 2) ((tp :: k.signed).take 2) := (RwL.cons hrow (hrs.mono prT qS)).take 2
 have hl6 : ((tp :: k.signed).take 2).length = min 2 (1 + k.signed.length) := by rw [List.length_take, List.length_cons]; omega
 have hSg : Sl 3 vq6 ((tp :: k.signed).take 2).length (([(vU k.next), u, v26] :: rs).take 2).flatten B42 := by
  have e1 : [(vU k.next), u, v26] ++ rs.flatten = ([(vU k.next), u, v26] :: rs).flatten := rfl
  have e2 : min 2 (1 + k.signed.length) = min 2 ([(vU k.next), u, v26] :: rs).length := by rw [List.length_cons, hrs.len]; omega
  rw [e1, A3m ((RwL.cons hrow (hrs.mono prT qS)).lens prT), e2, ← List.take_eq_take_min, ← e2, ← hl6] at hs6
  exact hs6
 refine D1 hs rfl (F9 rfl) rfl ?_
 refine D1 hs rfl (qf_ 4 4) rfl ?_
 refine G5 rfl rfl rfl (D6 rfl rfl hs6.one kR SetC.set UpC.upd ?_)
 refine E4 (D8 2) ?_
 refine Y5 (Bm) (_) true (.range 9) (zp 0 [1, 1, 0, 0, 1, 0, 2, 0, 0, 2]) kR kR qP fun hs K n0 hKm hKs hKn => ?_
 refine Q0 hs rfl hKs ql_ ?_
 refine Q0 hs rfl hKs ql_ ?_
 refine I8 hs rfl (F9 rfl) rfl ?_
 refine I8 hs rfl (qf_ 7 7) rfl ?_
 refine Q0 hs rfl hKs ql_ ?_
 refine I8 hs rfl (A5z (aS rfl a0)) rfl ?_
 refine K6 _ _ rfl rfl (List.Perm.refl _) hKm fun w0 => (E1 (Mc := Bm) (R := _) (aS rfl (aS rfl a0)) kR qP (by rw [← hrm.len] at hsm; exact A93 vm rm 55 [(vP b2)] (fun j => (k.met[j]?.map (A94 ((tp :: k.signed).take 2))).getD false) Bm _ hsm (hrm.lens nmT) (hrm.ones nmT) (by rw [hrm.len]; omega) kR (B2u (hrm.mono nmT qS) At.mem At.mem (hSg.rd fun x hx => by simp [hx]) (hRs.mono prT qS) (by rw [hl6]; omega))) rfl ?_)
 rintro v65 M65 J65 h65 _
 haveI := h65.cel
 refine I8 hs rfl (F9 rfl) rfl ?_
 refine I8 hs rfl (qf_ 7 7) rfl ?_
 refine P0 rfl rfl rfl (D6 rfl rfl h65.one kR SetC.set UpC.upd ?_)
 refine A3x ?_
 have hkm := hrm.kpt (fun j => (k.met[j]?.map (A94 ((tp :: k.signed).take 2))).getD false) rm.length
 rw [A4P, hrm.len, List.take_length] at hkm
 rw [hrm.len] at h65
 have htK : Z6 k s = ({ k with signed := (tp :: k.signed).take 2, next := k.next + 1, met := k.met.filter fun x => !A94 ((tp :: k.signed).take 2) x }, A5R s2 k.sign wm) := by unfold Z6 B2s; rw [htp, hpk, hps, hms]
 rw [htK]
 have hkl : (k.met.filter fun x => !A94 ((tp :: k.signed).take 2) x).length ≤ 100000 := Nat.le_trans (List.length_filter_le _ _) hn4
 refine ⟨_, (kb, blk [.int .i64 k.user, .int .i64 k.dev, va, vg, vq6, vo, .int .u32 ((k.next + 1 : Nat) : Int), v65] 59) :: (B42 ++ (Bo ++ (M65 ++ M26))), [], B8O rfl, Fit.none (Fit.pick (B := [_]) qP (Fit.pick qP (Fit.pick qP (Fit.pick qP (Fit.last qP))))), (kb, blk [.int .i64 k.user, .int .i64 k.dev, va, vg, vq6, vo, .int .u32 ((k.next + 1 : Nat) : Int), v65] 59) :: (B42 ++ (Bo ++ M65)), M26, by simp, ⟨⟨va, vg, vq6, vo, v65, _, ro, _, B42, Bo, M65, rfl, hva.mono qS, hvg.mono qS, hSg, hRs.mono prT qS, hso, hro.mono prT qS, ?_, hkm.mono nmT qS, by dsimp only; omega, by dsimp only; rw [hl6]; omega, hn3, hkl⟩⟩, hP26⟩
 rw [hkm.len] at h65
 exact h65

noncomputable def idS (k : Ks) (s : Ps) : Ps := I7 (I7 s k.agree) k.sign
noncomputable def idA (k : Ks) (s : Ps) : LN := K9 s k.agree
noncomputable def idG (k : Ks) (s : Ps) : LN := B75 (I7 s k.agree) k.sign
theorem A09 (k : Ks) (s : Ps) : (idS k s).ts.length ≤ s.ts.length + 4 := by
  have h1 := N7 s k.agree
  have h2 := N7 (I7 s k.agree) k.sign
  unfold idS; omega
theorem A5X (k : Ks) (s : Ps) : (Z6 k s).2.ts.length ≤ s.ts.length + 5 ∧ (Z6 k s).2.n = s.n + 1 := by
  have h1 := L2 s
  have h2 := N7 (D4 s) (D9 s)
  have h3 := B5c (I7 (D4 s) (D9 s)) k.sign (A0U k.next (K9 (D4 s) (D9 s)))
  have h4 := C0v (I7 (D4 s) (D9 s)) k.sign (A0U k.next (K9 (D4 s) (D9 s)))
  have h5 := Z5 (D4 s) (D9 s)
  show (B2s k s).ts.length ≤ _ ∧ (B2s k s).n = _
  unfold B2s
  omega
theorem A95 (k : Ks) (s : Ps) : (Z6 k s).1.next = k.next + 1 := rfl
theorem B5d (k : Ks) (s : Ps) : (A1M k s).2.ts.length ≤ s.ts.length + 4 ∧ (A1M k s).2.n ≤ s.n + 4 ∧ (A1M k s).1.next ≤ k.next + 4 := by
  have h1 := A3h k s (4 - k.once.length)
  have h2 := A0w k s (4 - k.once.length)
  unfold A1M
  omega
def k0N (u d : Int) (s : Ps) : Ks := ⟨u, d, D9 s, D9 (D4 s), [], [], 1, []⟩
noncomputable def A4Q (u d : Int) (s : Ps) : Ks × Ps := A1M (Z6 (k0N u d s) (D4 (D4 s))).1 (Z6 (k0N u d s) (D4 (D4 s))).2
theorem A78 (u d : Int) (s : Ps) : (A4Q u d s).2.ts.length ≤ s.ts.length + 11 ∧ (A4Q u d s).2.n ≤ s.n + 7 ∧ (A4Q u d s).1.next ≤ 6 := by
  have h1 := L2 s
  have h2 := L2 (D4 s)
  have h3 := A5X (k0N u d s) (D4 (D4 s))
  have h4 := B5d (Z6 (k0N u d s) (D4 (D4 s))).1 (Z6 (k0N u d s) (D4 (D4 s))).2
  have h5 : (Z6 (k0N u d s) (D4 (D4 s))).1.next = 2 := rfl
  unfold A4Q
  omega
structure Bn where
  user : Int
  dev : Int
  ia : LN
  ig : LN
  signed : Nat
  key : LN
  sig : LN
  has : Bool
  once : Nat
  oncek : LN
def bnR (R : Mem) (x : Bn) (r : List Value) : Prop := ∃ va vg vk vs vo, r = [.int .i64 x.user, .int .i64 x.dev, va, vg, (vU x.signed), vk, vs, .bool x.has, (vU x.once), vo] ∧ By R va x.ia ∧ By R vg x.ig ∧ By R vk x.key ∧ By R vs x.sig ∧ By R vo x.oncek ∧ x.signed < 4294967296 ∧ x.once < 4294967296
theorem bnT : RowT 10 bnR := ⟨fun R R' x r hR ⟨va, vg, vk, vs, vo, h1, h2, h3, h4, h5, h6, h7⟩ => ⟨va, vg, vk, vs, vo, h1, h2.mono hR, h3.mono hR, h4.mono hR, h5.mono hR, h6.mono hR, h7⟩, fun R x r ⟨va, vg, vk, vs, vo, h1, _⟩ => by rw [h1]; rfl, fun R x r ⟨va, vg, vk, vs, vo, h1, h2, h3, h4, h5, h6, _⟩ => by
  rw [h1]
  exact C1 rfl (C1 rfl (C1 h2.one (C1 h3.one (C1 rfl (C1 h4.one (C1 h5.one (C1 rfl (C1 rfl (C1 h6.one K7)))))))))⟩
noncomputable def A96 (k : Ks) (x : Pr) (s : Ps) : Bn := ⟨k.user, k.dev, idA k s, idG k s, x.n, K9 (idS k s) x.sec, x.sig, false, 0, []⟩
noncomputable def A0J (b : Bn) (l : List Pr) (s : Ps) : Nat → List Bn × Ps
  | 0 => ([b], s)
  | i + 1 => match l[i]? with
    | none => A0J b l s i
    | some o => ((A0J b l s i).1 ++ [{ b with has := true, once := o.n, oncek := K9 (A0J b l s i).2 o.sec }], I7 (A0J b l s i).2 o.sec)
theorem Z7 {b : Bn} {l : List Pr} {s : Ps} {i : Nat} {o : Pr} (h : l[i]? = some o) : A0J b l s (i + 1) = ((A0J b l s i).1 ++ [{ b with has := true, once := o.n, oncek := K9 (A0J b l s i).2 o.sec }], I7 (A0J b l s i).2 o.sec) := by
  simp only [A0J, h]
theorem A0K {b : Bn} {l : List Pr} {s : Ps} : ∀ {i : Nat}, i ≤ l.length → (A0J b l s i).1.length = i + 1 ∧ (A0J b l s i).2.ts.length ≤ s.ts.length + 2 * i
  | 0, _ => ⟨rfl, Nat.le_refl _⟩
  | i + 1, h => by
    have ih := A0K (b := b) (s := s) (i := i) (l := l) qO
    rw [Z7 (List.getElem?_eq_getElem qO)]
    have h2 := N7 (A0J b l s i).2 (l[i]'qO).sec
    refine ⟨by simp [ih.1], ?_⟩
    show (I7 _ _).ts.length ≤ _
    omega
noncomputable def L5 (k : Ks) (s : Ps) : List Bn × Ps := match k.signed with
  | [] => ([], s)
  | x :: _ => A0J (A96 k x s) k.once (I7 (idS k s) x.sec) k.once.length
theorem A5Y (pb : Nat) (s : Ps) (kb : Nat) (k : Ks) (va vg vq vo vm : Value) (rs ro rm : List (List Value)) (MP A : Mem) (hK : KyR A kb k va vg vq vo vm rs ro rm) (hP : Prm pb s MP) (hn : s.ts.length + 100 ≤ 1048576) (hG : Glb A) : FnX Tryz.prog 9 [(vP kb), (vP pb)] MP A fun q M J => Prm pb (idS k s) M ∧ ∃ p r, q = .agg #[p, r] ∧ By J p (idA k s) ∧ By J r (idG k s) := by
 have hkb := hK.blk_
 haveI := hK.agree.cel
 haveI := hK.sign.cel
 haveI := hK.signed.cel
 haveI := hK.once.cel
 haveI := hK.met.cel
 have pl := N7 s k.agree
 refine FnX.enterZ (N := 21) Tryz.func9 rfl rfl rfl fun w_ => ?_
 refine C4 (D5 0 1) (A3 ?_)
 refine A6 rfl (C5 (cs := [vS, vS]) kR rfl fun b4 => ?_)
 refine A0 (E2 0 1 4) (A5 (A3 (mv_ ?_)))
 refine A4 (F0 (e := 59) rfl rfl kR) rfl ?_
 refine A0 (E7 0 1 4 6) ?_
 refine D3 rfl ?_
 refine A9 (nx (E2 0 1 4) ?_)
 refine I0 (MP) (_) true (.range 13) [(0, 0), (1, 0), (2, 0), (3, 0), (4, 1), (6, 0), (7, 0), (8, 0), (9, 0), (10, 1), (5, 2), (11, 2), (12, 0), (13, 2)] kR kR qP fun hs K n0 hKm hKs hKn => ?_
 refine km_ hs ?_
 refine km_ hs ?_
 refine I8 hs rfl (F9 rfl) rfl ?_
 refine I8 hs rfl (qf_ 2 2) rfl ?_
 refine Q0 hs rfl hKs (I2 rfl kR (mA hkb) qR) ?_
 refine km_ hs ?_
 refine km_ hs ?_
 refine I8 hs rfl (F9 rfl) rfl ?_
 refine I8 hs rfl (qf_ 3 3) rfl ?_
 refine Q0 hs rfl hKs (I2 rfl kR (mA hkb) qR) ?_
 refine K6 _ _ rfl rfl (List.Perm.refl _) hKm fun w0 => (E1 (Mc := MP) (R := _) (aS rfl (aS rfl (a0))) kR qP (A0m pb s va k.agree MP _ hP qO (hK.agree.mono qS) hG.up) rfl ?_)
 rintro v13 M13 J13 ⟨hP13, h13⟩ hKx13
 haveI := h13.cel
 refine K6 M13 _ rfl rfl qP (fun x hx => hKx13 (hKn rfl) x (by simpa using hx)) fun w0 => (E1 (Mc := M13) (R := _) (aS rfl (aS rfl (a0))) kR qP (B2d pb (I7 s k.agree) vg k.sign M13 _ hP13 qO (hK.sign.mono qS) hG.up) rfl ?_)
 rintro v19 M19 J19 ⟨hP19, h19⟩ hKx19
 haveI := h19.cel
 refine I8 hs rfl (F3 (place := fun x => #[(0, 1), (1, 1)][x]?) (z := [vS, vS]) (fun _ => by kernel_rfl) (eS rfl (eS rfl e0)) (bdS 0 1 rfl qR (bdS 1 1 rfl qR bd0))) rfl ?_
 refine P0 rfl rfl rfl (A8 (vs := [v13, v19]) rfl rfl rfl kR qR (C1 h13.one (C1 h19.one K7)) UpC.upd ?_)
 refine P4 (D8 4) (C3 ?_)
 exact ⟨_, M19, [], A1x rfl rfl kR At.mem qR, Fit.none (Fit.last qP), hP19, _, _, rfl, h13.mono qS, h19.mono qS⟩
theorem C0x (u d : Int) (pb : Nat) (s : Ps) (MP A : Mem) (hP : Prm pb s MP) (hn : s.ts.length + 200 ≤ 1048576) (hk : s.n + 100 < 1000000000) (hG : Glb A) : FnX Tryz.prog 14 [(vP pb), .agg #[.int .i64 u, .int .i64 d]] MP A fun q M J => ∃ kb MK MP2, q = (vP kb) ∧ M = MK ++ MP2 ∧ Kys (J ++ A) kb (A4Q u d s).1 MK ∧ Prm pb (A4Q u d s).2 MP2 := by
 have f1 := L2 s
 have f2 := L2 (D4 s)
 have f3 := A5X (k0N u d s) (D4 (D4 s))
 refine FnX.enterZ (N := 20) Tryz.func14 rfl rfl rfl fun w_ => ?_
 refine C4 (D5 0 1) (A3 ?_)
 refine A6 rfl (bx_ fun b3 => ?_)
 refine as_ (A0 (D5 0 3) ?_)
 refine I0 (MP) (_) true (.range 8) [(0, 1), (1, 0), (3, 0), (2, 2), (4, 2), (5, 0), (6, 2), (7, 0)] kR kR qP fun hs K n0 hKm hKs hKn => ?_
 refine Q0 hs rfl hKs (qw_ 2) ?_
 refine km_ hs ?_
 refine km_ hs ?_
 refine K6 _ _ rfl rfl (List.Perm.refl _) hKm fun w0 => (E1 (Mc := MP) (R := _) (aS rfl (a0)) kR qP (X6 pb s MP _ hP qO qO hG.up) rfl ?_)
 rintro v8 M8 J8 ⟨hP8, h8⟩ hKx8
 haveI := h8.cel
 refine K6 M8 _ rfl rfl qP (fun x hx => hKx8 (hKn rfl) x (by simpa using hx)) fun w0 => (E1 (Mc := M8) (R := _) (aS rfl (a0)) kR qP (X6 pb (D4 s) M8 _ hP8 qO qO hG.up) rfl ?_)
 rintro v10 M10 J10 ⟨hP10, h10⟩ hKx10
 haveI := h10.cel
 refine I8 hs rfl (F3 (place := fun x => #[(0, 2), (2, 1), (3, 1), (4, 1), (5, 1), (6, 1), (7, 1)][x]?) (z := [A2Z, A2Z, vS, vS, vS, vS, G4, vS]) (fun _ => by kernel_rfl) (eS rfl (eS rfl (eS rfl (eS rfl e0)))) (bdS 0 2 rfl qR (bdS 2 1 rfl qR (bdS 3 1 rfl qR (bdS 6 1 rfl qR bd0))))) rfl ?_
 refine K6 [] _ rfl rfl (List.Perm.refl _) (fun _ h => by cases h) fun w0 => (B6K rfl (by first | exact Cel.cel | rfl) rfl fun b12 => fun hk12 => ?_)
 dsimp only [List.cons_append, List.nil_append, List.append_eq]
 refine I8 hs rfl (I4 rfl) rfl ?_
 refine P4 (D5 0 5) (A3 (mv_ (mv_ ?_)))
 refine A6 rfl (E1 (Mc := (b12, blk [.int .i64 u, .int .i64 d, v8, v10, vS, vS, (vU 1), vS] 59) :: M10) (R := _) (aS rfl (aS rfl a0)) kR qP (C0w b12 pb (k0N u d s) (D4 (D4 s)) [(b12, blk [.int .i64 u, .int .i64 d, v8, v10, vS, vS, (vU 1), vS] 59)] M10 _ ⟨⟨v8, v10, _, _, _, [], [], [], [], [], [], rfl, h8.mono qS, h10.mono qS, Sl.nil, RwL.nil, Sl.nil, RwL.nil, Sl.nil, RwL.nil, show 1 < 4294967296 by decide, Nat.zero_le _, Nat.zero_le _, Nat.zero_le _⟩⟩ hP10 qO qO (show 1 + 100 < 4000000000 by decide) hG.up) rfl ?_)
 rintro v15 M15 J15 ⟨MK15, MP15, rfl, hK15, hP15⟩
 refine A0 (D5 0 5) (A3 (mv_ (mv_ ?_)))
 refine A6 rfl (E1 (Mc := MK15 ++ MP15) (R := _) (aS rfl (aS rfl a0)) kR qP (C0u b12 pb _ _ MK15 MP15 _ (hK15.mono qS) hP15 qO qO (by rw [A95]; show 1 + 1 + 100 < 4000000000; decide) hG.up) rfl ?_)
 rintro v18 M18 J18 ⟨rfl, MK18, MP18, rfl, hK18, hP18⟩
 refine A0 (D8 5) (A3 (mv_ (as_ (A0 (D8 4) (C3 ?_)))))
 exact ⟨_, MK18 ++ MP18, [(b3, blk [.int .i64 u, .int .i64 d] 26)], K2 rfl rfl, Fit.pick (B := [_]) qP (Fit.last qP), _, MK18, MP18, rfl, rfl, hK18.mono qS, hP18⟩
theorem B2v (pb : Nat) (s : Ps) (kb : Nat) (k : Ks) (va vg vq vo vm : Value) (rs ro rm : List (List Value)) (x : Pr) (sl : List Pr) (MP A : Mem) (hK : KyR A kb k va vg vq vo vm rs ro rm) (hsg : k.signed = x :: sl) (hP : Prm pb s MP) (hn : s.ts.length + 100 ≤ 1048576) (hol : k.once.length ≤ 10) (hG : Glb A) : FnX Tryz.prog 6 [(vP kb), (vP pb)] MP A fun q M J => Prm pb (L5 k s).2 M ∧ ∃ rows, Rd J 10 q (L5 k s).1.length rows.flatten ∧ RwL bnR (J ++ A) rows (L5 k s).1 := by
 have hkb := hK.blk_
 haveI := hK.agree.cel
 haveI := hK.sign.cel
 haveI := hK.signed.cel
 haveI := hK.once.cel
 haveI := hK.met.cel
 have il := A09 k s
 obtain ⟨r0, hr0, vs_, vg_, rfl, hs_, hg_, hxn⟩ := hK.signedR.get 0 x (by rw [hsg]; rfl)
 haveI := hs_.cel
 haveI := hg_.cel
 refine FnX.enterZ (N := 62) Tryz.func6 rfl rfl rfl fun w_ => ?_
 refine C4 (D5 0 1) (A3 (as_ (A0 (D5 0 1) (A5 (A3 (mv_ ?_))))))
 refine A4 (F0 (e := 59) rfl rfl kR) rfl ?_
 refine A0 (E2 0 1 12) ?_
 refine D3 rfl ?_
 refine A9 (nx (D5 0 1) (A3 (mv_ ?_)))
 refine A4 (F9 rfl) rfl ?_
 refine A4 (qf_ 4 4) rfl ?_
 refine A4 (I2 rfl kR (mA hkb) qR) rfl ?_
 refine A4 (K0 (sz := 3) (a := 0) rfl rfl kR rfl hK.signed (by rw [hsg]; simp)) rfl ?_
 refine A4 (A0Q rfl kR (hK.signed.mono qS) (hK.signedR.lens prT) qD hr0) rfl ?_
 refine A6 rfl (C5 (cs := [.int .u32 0, vS, vS]) kR rfl fun b5 => ?_)
 refine A6 rfl (A8 (vs := [(vU x.n), vs_, vg_]) rfl rfl rfl kR qR (C1 rfl (C1 hs_.one (C1 hg_.one K7))) UpC.upd ?_)
 refine A0 (E2 0 1 5) ?_
 refine I0 (MP) (_) true (.range 17) [(0, 0), (1, 0), (2, 0), (3, 1), (4, 0), (5, 0), (7, 0), (8, 1), (9, 0), (10, 0), (11, 1), (13, 0), (14, 1), (6, 3), (12, 3), (15, 3), (16, 4), (17, 2)] kR kR qP fun hs K n0 hKm hKs hKn => ?_
 refine km_ hs ?_
 refine I8 hs rfl (F9 rfl) rfl ?_
 refine I8 hs rfl (qf_ 0 0) rfl ?_
 refine Q0 hs rfl hKs (H2 (n := 2) rfl kR (mA hkb) TakeC.take) ?_
 refine km_ hs ?_
 refine km_ hs ?_
 refine I8 hs rfl (qf_ 0 0) rfl ?_
 refine Q0 hs rfl hKs ql_ ?_
 refine km_ hs ?_
 refine I8 hs rfl (qf_ 1 1) rfl ?_
 refine Q0 hs rfl hKs ql_ ?_
 refine I8 hs rfl (qf_ 2 2) rfl ?_
 refine Q0 hs rfl hKs ql_ ?_
 refine A07 [⟨6, 25, none, MP, fun v B R => Prm pb (idS k s) B ∧ ∃ p q, v = .agg #[p, q] ∧ By R p (idA k s) ∧ By R q (idG k s)⟩, ⟨12, 31, some 6, [], fun v B R => Prm pb (I7 (idS k s) x.sec) B ∧ By R v (K9 (idS k s) x.sec)⟩, ⟨15, 34, none, [], fun v B R => B = [] ∧ ∃ p q u, v = .agg #[.int .i64 k.user, .int .i64 k.dev, p, q, (vU x.n), u, vg_, .bool false, (vU 0), vS] ∧ By R p (idA k s) ∧ By R q (idG k s) ∧ By R u (K9 (idS k s) x.sec)⟩, ⟨16, 6, none, [], fun v B _ => ∃ b, v = (vP b) ∧ B = [(b, blk [.int .i64 0, .int .i64 0, vS, vS, .int .u32 0, vS, vS, .bool false, .int .u32 0, vS] 32)]⟩] (_) (fun bs => [bs 12, bs 15, bs 16]) (hKn rfl) (List.Perm.refl _) (show ∀ m ∈ ([MP, [], []] : List Mem), ∀ x ∈ m, K x.1 from C1 (hKm) (C1 (fun _ h => by cases h) (C1 (fun _ h => by cases h) (K7)))) kR (fun _ => by first | rfl | kernel_rfl)
  (C1 (fun _ _ _ _ h ⟨p1, p, q, e, p2, p3⟩ => ⟨p1, p, q, e, p2.mono h, p3.mono h⟩) (C1 (fun _ _ _ _ h ⟨p1, p2⟩ => ⟨p1, p2.mono h⟩) (C1 (fun _ _ _ _ h ⟨p1, p, q, u, e, p2, p3, p4⟩ => ⟨p1, p, q, u, e, p2.mono h, p3.mono h, p4.mono h⟩) (C1 (fun _ _ _ _ h hp => hp) (K7))))) (show List.Nodup [25, 31, 34, 6] by decide) (show List.Nodup [6, 12, 15, 16] by decide) (C1 (C8 rfl) (C1 (C8 rfl) (C1 (C8 rfl) (C1 (C8 rfl) (K7)))))
  (C1 ⟨_, rfl, fun vs bs R Rj wG hb hj hjr ha => ⟨.inl rfl, ?_⟩⟩ (C1 ⟨_, rfl, fun vs bs R Rj wG hb hj hjr ha => ⟨.inl rfl, ?_⟩⟩ (C1 ⟨_, rfl, fun vs bs R Rj wG hb hj hjr ha => ⟨.inl rfl, ?_⟩⟩ (C1 ⟨_, rfl, fun vs bs R Rj wG hb hj hjr ha => ⟨.inl rfl, ?_⟩⟩ (K7))))) ?_
 ·
  dsimp only [Gc.inp]
  refine E1 (Mc := MP) (R := []) (aS rfl (aS rfl (a0))) kR qM (A5Y pb s kb k va vg vq vo vm rs ro rm MP _ (hK.mono (fun x hx => by have := hb x (by simp [hx]); simp [this])) hP qO (hG.sub (fun x hx => by have := hb x (by simp [hx]); simp [this]))) rfl ?_
  rintro v25 M25 J25 ⟨hP25, p, q, rfl, hp, hq⟩
  exact ⟨_, rfl, by simpa using hP25, p, q, rfl, hp.mono fun x hx => by simp [hx], hq.mono fun x hx => by simp [hx]⟩
 ·
  dsimp only [Gc.inp]
  have g6 := ha _ (List.mem_of_getElem? (i := 0) rfl) kR
  replace g6 : (fun v B R => Prm pb (idS k s) B ∧ ∃ p q, v = .agg #[p, q] ∧ By R p (idA k s) ∧ By R q (idG k s)) (vs 6) (bs 6) Rj := g6
  dsimp only at g6
  obtain ⟨hP25, -⟩ := g6
  refine E1 (Mc := bs 6) (R := []) (aS rfl (aS rfl (a0))) kR qM (A0m pb (idS k s) vs_ x.sec (bs 6) _ hP25 qO (hs_.mono (fun x hx => by have := hb x (by simp [hx]); simp [this])) (hG.sub (fun x hx => by have := hb x (by simp [hx]); simp [this]))) rfl ?_
  rintro v31 M31 J31 ⟨hP31, h31⟩
  exact ⟨_, rfl, by simpa using hP31, h31.mono fun x hx => by simp [hx]⟩
 ·
  dsimp only [Gc.inp]
  have g6 := ha _ (List.mem_of_getElem? (i := 0) rfl) kR
  replace g6 : (fun v B R => Prm pb (idS k s) B ∧ ∃ p q, v = .agg #[p, q] ∧ By R p (idA k s) ∧ By R q (idG k s)) (vs 6) (bs 6) Rj := g6
  dsimp only at g6
  have g12 := ha _ (List.mem_of_getElem? (i := 1) rfl) kR
  replace g12 : (fun v B R => Prm pb (I7 (idS k s) x.sec) B ∧ By R v (K9 (idS k s) x.sec)) (vs 12) (bs 12) Rj := g12
  dsimp only at g12
  obtain ⟨-, h31⟩ := g12
  obtain ⟨-, p, q, e25, hp, hq⟩ := g6
  haveI := h31.cel
  haveI := hp.cel
  haveI := hq.cel
  dsimp only [U0, List.map, List.cons_append, List.nil_append]
  rw [e25]
  exact OpQ.opL (F3 (place := fun x => #[(0, 2), (2, 2), (4, 1), (5, 1), (6, 1), (7, 1), (8, 1), (9, 1)][x]?) (z := [A2Z, A2Z, vS, vS, G4, vS, vS, .bool false, G4, vS]) (fun _ => by kernel_rfl) (eS rfl (eS rfl (eS rfl (eS rfl (eS rfl e0))))) (bdS 0 2 rfl qR (bdS 2 2 rfl qR (bdS 4 1 rfl qR (bdS 5 1 rfl qR (bdS 6 1 rfl qR bd0)))))) rfl ⟨_, rfl, rfl, p, q, _, rfl, hp, hq, h31⟩
 ·
  dsimp only [Gc.inp]
  exact C5 (cs := [A2Z, A2Z, vS, vS, G4, vS, vS, .bool false, G4, vS]) kR rfl fun b => ⟨_, rfl, b, rfl, rfl⟩
 intro vs bs Jn0 hφ hKK
 have kk6 := hKK _ (List.mem_of_getElem? (i := 0) rfl)
 dsimp only at kk6
 have kk12 := hKK _ (List.mem_of_getElem? (i := 1) rfl)
 dsimp only at kk12
 have kk15 := hKK _ (List.mem_of_getElem? (i := 2) rfl)
 dsimp only at kk15
 have kk16 := hKK _ (List.mem_of_getElem? (i := 3) rfl)
 dsimp only at kk16
 clear hKK
 have g6 := ofH hφ
 dsimp only at g6
 replace hφ := ofT hφ
 have g12 := ofH hφ
 dsimp only at g12
 replace hφ := ofT hφ
 have g15 := ofH hφ
 dsimp only at g15
 replace hφ := ofT hφ
 have g16 := ofH hφ
 dsimp only at g16
 clear hφ
 dsimp only [U0, A0H, List.foldr, List.map, List.cons_append, List.nil_append]
 generalize bs 6 = B25 at *
 generalize bs 12 = B31 at *
 generalize bs 15 = B34 at *
 generalize bs 16 = B6 at *
 generalize vs 6 = u25 at *
 generalize vs 12 = u31 at *
 generalize vs 15 = u34 at *
 generalize vs 16 = u6 at *
 obtain ⟨hP31, h31⟩ := g12
 clear g6
 obtain ⟨b6, rfl, rfl⟩ := g16
 obtain ⟨rfl, p, q, u, rfl, hp, hq, hu⟩ := g15
 haveI := hp.cel
 haveI := hq.cel
 haveI := hu.cel
 obtain ⟨bb, hbb⟩ : ∃ bb, A96 k x s = bb := ⟨_, rfl⟩
 obtain ⟨s2, hs2⟩ : ∃ s2, I7 (idS k s) x.sec = s2 := ⟨_, rfl⟩
 rw [hs2] at hP31
 have hs2l : s2.ts.length ≤ s.ts.length + 6 := by have := N7 (idS k s) x.sec; rw [hs2] at this; omega
 have hbun : L5 k s = A0J bb k.once s2 k.once.length := by unfold L5; rw [hsg, ← hbb, ← hs2]
 rw [hbun]
 have hbr : ∀ R, (∀ y, y ∈ Jn0 ++ [] ++ A → y ∈ R) → bnR R bb [.int .i64 k.user, .int .i64 k.dev, p, q, (vU x.n), u, vg_, .bool false, (vU 0), vS] := fun R hR => ⟨p, q, u, vg_, _, by rw [← hbb]; rfl, by rw [← hbb]; exact hp.mono hR, by rw [← hbb]; exact hq.mono hR, by rw [← hbb]; exact hu.mono hR, by rw [← hbb]; exact hg_.mono fun y hy => hR y (List.mem_append_right _ hy), by rw [← hbb]; exact By.nil, by rw [← hbb]; exact hxn, by rw [← hbb]; show 0 < 4294967296; decide⟩
 refine P0 rfl rfl rfl (A8 (vs := [.int .i64 k.user, .int .i64 k.dev, p, q, (vU x.n), u, vg_, .bool false, (vU 0), vS]) rfl rfl rfl kR qR (C1 rfl (C1 rfl (C1 hp.one (C1 hq.one (C1 rfl (C1 hu.one (C1 hg_.one al3))))))) UpC.upd ?_)
 refine P4 (E2 0 1 6) ?_
 refine S9 (B := [(b6, blk [.int .i64 k.user, .int .i64 k.dev, p, q, (vU x.n), u, vg_, .bool false, (vU 0), vS] 32)]) qP ?_
 refine A3 ?_
 refine A4 (qw_ 10) rfl ?_
 refine A6 rfl (C6 (e := 32) (sz := 10) (z := [A2Z, A2Z, vS, vS, G4, vS, vS, .bool false, G4, vS]) kR (eS rfl e0) (bdS 0 10 rfl qR bd0) rfl fun b36 => ?_)
 refine as_ (A0 (E7 0 1 6 7) (A5 (A3 (mv_ ?_))))
 refine A4 (F9 rfl) rfl ?_
 refine A4 (qf_ 5 5) rfl ?_
 refine A4 (I2 rfl kR (mA hkb) qR) rfl ?_
 refine A4 (K1 (sz := 3) rfl kR hK.once) rfl ?_
 refine mv_ (A0 (I1 1 6 7 40 41 42) (C0 ?_))
 refine F2 (α := Nat × (Value × List (List Value) × Mem) × Mem × Mem) (fun y => [(1, (vP pb)), (6, (vP b6)), (7, y.2.1.1), (40, vo), (41, (vI k.once.length)), (42, (vI y.1))]) (fun y => y.2.1.2.2 ++ y.2.2.1) (fun y => y.2.2.2) (fun y => y.1 ≤ k.once.length ∧ Sl 10 y.2.1.1 (y.1 + 1) y.2.1.2.1.flatten y.2.1.2.2 ∧ RwL bnR (y.2.2.2 ++ A) y.2.1.2.1 (A0J bb k.once s2 y.1).1 ∧ Prm pb (A0J bb k.once s2 y.1).2 y.2.2.1 ∧ (b6, blk [.int .i64 k.user, .int .i64 k.dev, p, q, (vU x.n), u, vg_, .bool false, (vU 0), vS] 32) ∈ y.2.2.2 ∧ ∀ z, z ∈ Jn0 ++ [] ++ A → z ∈ y.2.2.2 ++ A) (fun y => k.once.length - y.1) (0, (.slice (some ⟨b36, 0, none⟩) 1 1, [[.int .i64 k.user, .int .i64 k.dev, p, q, (vU x.n), u, vg_, .bool false, (vU 0), vS]], [(b36, _)]), B31, _) ⟨Nat.zero_le _, Sl.fresh (n := 1) (cs := [.int .i64 k.user, .int .i64 k.dev, p, q, (vU x.n), u, vg_, .bool false, (vU 0), vS]) (e := 32) rfl qD, RwL.cons (hbr _ qS) RwL.nil, hP31, by simp, qS⟩ (I1 1 6 7 40 41 42) (Fit.pick (B := [_]) qP (Fit.last qP)) qI ?_
 rintro ⟨i, ⟨vi, ri, Bi⟩, MPi, Ji⟩ ⟨hi, hsi, hri, hPi, hJb, hJn⟩
 dsimp only at hi hsi hri hPi hJb hJn ⊢
 haveI := hsi.cel
 have hbl := A0K (b := bb) (s := s2) hi
 refine A3 ?_
 refine A4 (F1 rfl rfl rfl) rfl ?_
 refine A0 (Y0 1 6 7 40 41 42 43) (A5 ?_)
 refine C7 rfl ?_ ?_ <;> intro hc
 ·
  have hlt : i < k.once.length := by simp at hc; omega
  obtain ⟨o, ho⟩ : ∃ o, k.once[i]? = some o := ⟨_, List.getElem?_eq_getElem hlt⟩
  obtain ⟨r1, hr1, vo1, vo2, rfl, ho1, ho2, hon⟩ := hK.onceR.get i o ho
  haveI := ho1.cel
  haveI := ho2.cel
  have hbs := Z7 (b := bb) (s := s2) ho
  refine A9 (nx (I1 1 6 7 40 41 42) (A5 (C0 (A3 ?_))))
  refine A4 (K0 (sz := 3) rfl rfl kR rfl hK.once hlt) rfl ?_
  refine A4 (A0Q rfl kR (hK.once.mono qS) (hK.onceR.lens prT) qD hr1) rfl ?_
  refine A6 rfl (C5 (cs := [.int .u32 0, vS, vS]) kR rfl fun b9 => ?_)
  refine A6 rfl (A8 (vs := [(vU o.n), vo1, vo2]) rfl rfl rfl kR qR (C1 rfl (C1 ho1.one (C1 ho2.one K7))) UpC.upd ?_)
  refine A0 (Y0 1 6 7 9 40 41 42) (A3 ?_)
  refine A4 (H6 (n := 10) rfl kR (List.mem_append_right _ (List.mem_append_left _ hJb)) qR) rfl ?_
  refine A6 rfl (C5 (cs := [A2Z, A2Z, vS, vS, G4, vS, vS, .bool false, G4, vS]) kR rfl fun b10 => ?_)
  refine A6 rfl (A8 (vs := [.int .i64 k.user, .int .i64 k.dev, p, q, (vU x.n), u, vg_, .bool false, (vU 0), vS]) rfl rfl rfl kR qR (C1 rfl (C1 rfl (C1 hp.one (C1 hq.one (C1 rfl (C1 hu.one (C1 hg_.one al3))))))) UpC.upd ?_)
  refine A0 (A2o 1 6 7 9 10 40 41 42) ?_
  refine I0 (MPi ++ [(b10, blk [.int .i64 k.user, .int .i64 k.dev, p, q, (vU x.n), u, vg_, .bool false, (vU 0), vS] 32)]) (_) true [0, 1, 2, 3, 4, 5, 6, 7, 8, 10] [(0, 0), (1, 1), (2, 0), (3, 0), (4, 1), (6, 0), (5, 2), (7, 2), (8, 0), (9, 2), (10, 0), (11, 2)] kR kR qP fun hs K n0 hKm hKs hKn => ?_
  refine I8 hs rfl (qf_ 0 0) rfl ?_
  refine Q0 hs rfl hKs ql_ ?_
  refine km_ hs ?_
  refine I8 hs rfl (qf_ 1 1) rfl ?_
  refine Q0 hs rfl hKs ql_ ?_
  refine I8 hs rfl (qf_ 7 7) rfl ?_
  refine K6 MPi _ rfl rfl qP (fun y hy => hKm y (by simp [hy])) fun w0 => (E1 (Mc := MPi) (R := _) (aS rfl (aS rfl (a0))) kR qP (A0m pb _ vo1 o.sec MPi _ hPi qO (ho1.mono qS) hG.up) rfl ?_)
  rintro v52 M52 J52 ⟨hP52, h52⟩ hKx52
  haveI := h52.cel
  refine K6 [(b10, blk [.int .i64 k.user, .int .i64 k.dev, p, q, (vU x.n), u, vg_, .bool false, (vU 0), vS] 32)] _ rfl rfl qP (fun y hy => hKm y (by simp at hy; simp [hy])) fun w0 => (D6 rfl rfl rfl kR SetC.set UpC.upd ?_)
  intro hkS
  dsimp only [List.cons_append, List.nil_append, List.append_eq]
  refine I8 hs rfl (qf_ 8 8) rfl ?_
  refine P0 rfl rfl rfl (D6 rfl rfl rfl kR SetC.set UpC.upd ?_)
  refine I8 hs rfl (qf_ 9 9) rfl ?_
  refine P0 rfl rfl rfl (D6 rfl rfl h52.one kR SetC.set UpC.upd ?_)
  refine P4 (Y0 1 6 7 10 40 41 42) (C2 (mv_ ?_))
  refine A4 (qw_ 10) rfl ?_
  refine A6 rfl (C6 (e := 32) (sz := 10) (z := [A2Z, A2Z, vS, vS, G4, vS, vS, .bool false, G4, vS]) kR (eS rfl e0) (bdS 0 10 rfl qR bd0) rfl fun b58 => ?_)
  refine A6 rfl (I3 (e := 32) (sz := 10) (by_ := 152) rfl rfl kR rfl hsi (Rd.whole (n := 1) At.mem qR) (C1 rfl (C1 rfl (C1 hp.one (C1 hq.one (C1 rfl (C1 hu.one (C1 hg_.one (C1 rfl (C1 rfl (C1 h52.one K7)))))))))) qP (by unfold maxLen; omega) qO rfl fun v59 B59 hs59 => ?_)
  refine as_ (D0 (nb (nx (I1 1 6 7 40 41 42) (C2 ?_))))
  refine A4 (E3 ((i + 1 : Nat) : Int) rfl rfl (G3 qO qO qO)) rfl ?_
  refine mv_ (D0 ?_)
  exact rn (i + 1, (v59, ri ++ [[.int .i64 k.user, .int .i64 k.dev, p, q, (vU x.n), u, vg_, .bool true, (vU o.n), v52]], B59), M52, _) ⟨by dsimp only; omega, by simpa using hs59, by dsimp only; rw [hbs]; exact (hri.mono bnT qS).snoc ⟨p, q, u, vg_, v52, by rw [← hbb]; rfl, by rw [← hbb]; exact hp.mono fun z hz => qS z (hJn z hz), by rw [← hbb]; exact hq.mono fun z hz => qS z (hJn z hz), by rw [← hbb]; exact hu.mono fun z hz => qS z (hJn z hz), by rw [← hbb]; exact hg_.mono qS, h52.mono qS, by rw [← hbb]; exact hxn, hon⟩, by dsimp only; rw [hbs]; exact hP52, List.mem_append_right _ hJb, fun z hz => qS z (hJn z hz)⟩ (by dsimp only; omega) (I1 1 6 7 40 41 42) (Fit.pick qP (Fit.last qP)) qI
 ·
  have hge : i = k.once.length := by simp at hc; omega
  subst hge
  refine E6 (te (re (be rfl (nx (D8 7) (A3 (mv_ (as_ (A0 (D8 4) ?_))))))))
  refine C3 ?_
  exact ⟨_, MPi, Bi, K2 rfl rfl, Fit.pick qP (Fit.last qP), hPi, ri, by rw [hbl.1]; exact hsi.rd fun x hx => by simp [hx], hri.mono bnT qS⟩

end Go.Proofs.YtoigcbkclcbmpaaGreatDoor
namespace Go.Px
def appZ (P : Program) (t tn : TypeId) : Option (TypeId × List Value × Nat) :=
  match P.underlying tn with
  | some (.int _) => match P.underlying t with
    | some (.slice e) => match P.info? e with
      | some i => match i.zero with
        | some z => if i.size = z.cells.size ∧ 0 < i.size then some (e, z.cells.toList, i.bytes) else none
        | none => none
      | none => none
    | _ => none
  | _ => none
section z
variable {C : Cx} {l : Env} {M J : Mem} {K : Env → Mem → Mem → Prop} {d : Nat} {ty t tn e : TypeId} {pos : String} {af : Array Edge} {g : Option (Nat × Bool)} {x y : Operand}
end z
end Go.Px

namespace Go.Proofs.YtoigcbkclcbmpaaGreatDoor
open Go.Px
def useK (k : Ks) (n : Nat) : Ks := { k with once := k.once.filter fun x => !A2k n x }
def meetK (k : Ks) (n : Nat) (w : LN) : Ks := if (A2W k.signed n).isSome && !decide (0 ≤ A1H (tstN n w) k.met) then { k with met := k.met ++ [⟨n, w⟩] } else k
def B5e (k : Ks) : List (LN) := k.agree :: k.sign :: (k.signed ++ k.once).map (·.sec)

end Go.Proofs.YtoigcbkclcbmpaaGreatDoor
