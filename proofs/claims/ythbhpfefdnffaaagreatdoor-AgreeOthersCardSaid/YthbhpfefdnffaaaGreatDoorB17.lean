/- Part 17 of the texts of this claim, one behind the other. -/
import Derived.Test.YthbhpfefdnffaaaGreatDoorB16
set_option linter.unusedVariables false
set_option linter.unusedSimpArgs false
set_option maxRecDepth 100000
namespace Go.Proofs.YthbhpfefdnffaaaGreatDoor
open Go.Px
def B4e (a b : Nat) : Int := if a < b then -1 else if b < a then 1 else 0
theorem A7z {a b : Nat} (h : a < b) : B4e a b = -1 := if_pos h
theorem A7A {a b : Nat} (h : b < a) : B4e a b = 1 := by unfold B4e; rw [if_neg (by omega), if_pos h]
theorem A7B {a b : Nat} (h : a = b) : B4e a b = 0 := by unfold B4e; rw [if_neg (by omega), if_neg (by omega)]
theorem B4f (a b : Nat) : K1 .lss .i64 (B4e a b) 0 = some (.bool (decide (a < b))) := by
  rcases Nat.lt_trichotomy a b with h | h | h
  · rw [A7z h, decide_eq_true h]; rfl
  · rw [A7B h, decide_eq_false (by omega)]; rfl
  · rw [A7A h, decide_eq_false (by omega)]; rfl
theorem B4g (a b : Nat) : K1 .eql .i64 (B4e a b) 0 = some (.bool (decide (a = b))) := by
  rcases Nat.lt_trichotomy a b with h | h | h
  · rw [A7z h, decide_eq_false (by omega)]; rfl
  · rw [A7B h, decide_eq_true h]; rfl
  · rw [A7A h, decide_eq_false (by omega)]; rfl
theorem lt32 (a b : Nat) : K1 .lss .u32 ((a : Nat) : Int) ((b : Nat) : Int) = some (.bool (decide (a < b))) := by
  by_cases h : a < b
  · rw [decide_eq_true h]; exact ltT (by omega)
  · rw [decide_eq_false h]; exact ltF (by omega)
theorem gt32 (a b : Nat) : K1 .gtr .u32 ((a : Nat) : Int) ((b : Nat) : Int) = some (.bool (decide (b < a))) := by
  by_cases h : b < a
  · rw [decide_eq_true h]; exact gtT (by omega)
  · rw [decide_eq_false h]; exact gtF (by omega)
def B4h (l : List Pr) : Prop := ∀ (i j : Nat) (x y : Pr), i < j → l[i]? = some x → l[j]? = some y → x.n < y.n
theorem B4i {l : List Pr} {n i : Nat} {x : Pr} (hx : l[i]? = some x) (hn : x.n = n) (h : ∀ (j : Nat) (y : Pr), j < i → l[j]? = some y → y.n < n) : A1u (A13 n) l = (i : Int) := by
  have hil := (List.getElem?_eq_some_iff.1 hx).1
  refine A1Y hil (fun j hj => ?_) (by rw [hx]; simp [A13, hn])
  have hjl : j < l.length := by omega
  rw [List.getElem?_eq_getElem hjl]
  have := h j _ hj (List.getElem?_eq_getElem hjl)
  simp [A13]; omega
theorem A9w {l : List Pr} {n : Nat} (h : ∀ (j : Nat) (y : Pr), l[j]? = some y → y.n ≠ n) : A1u (A13 n) l = -1 := by
  refine A1Z fun j hj => ?_
  rw [List.getElem?_eq_getElem hj]
  have := h j _ (List.getElem?_eq_getElem hj)
  simp [A13, this]
structure BsR (l : List Pr) (n i : Nat) (b : Bool) : Prop where
  le : i ≤ l.length
  lt : ∀ (j : Nat) (y : Pr), j < i → l[j]? = some y → y.n < n
  ge : ∀ (j : Nat) (y : Pr), i ≤ j → l[j]? = some y → n ≤ y.n
  at_ : b = true ↔ ∃ x, l[i]? = some x ∧ x.n = n
theorem BsR.yes {l : List Pr} {n i : Nat} (h : BsR l n i true) : ∃ x, l[i]? = some x ∧ A1u (A13 n) l = (i : Int) := by
  obtain ⟨x, hx, hn⟩ := h.at_.1 rfl
  exact ⟨x, hx, B4i hx hn h.lt⟩
theorem BsR.no {l : List Pr} {n i : Nat} (hr : B4h l) (h : BsR l n i false) : A1u (A13 n) l = -1 := by
  refine A9w fun j y hy hn => ?_
  rcases Nat.lt_trichotomy j i with hj | hj | hj
  · have := h.lt j y hj hy; omega
  · subst hj
    have := h.at_.2 ⟨y, hy, hn⟩
    cases this
  · have hjl := (List.getElem?_eq_some_iff.1 hy).1
    have hil : i < l.length := by omega
    have h1 := h.ge i _ (Nat.le_refl _) (List.getElem?_eq_getElem hil)
    have h2 := hr i j _ y hj (List.getElem?_eq_getElem hil) hy
    omega
theorem A6F (x : Int) (A : Mem) : FnV Tryz.prog 152 [.int .u32 x] A (.bool false) := by
 refine FnX.enter (N := 6) Tryz.func152 rfl rfl rfl fun w => ?_
 refine C4 (D8 0) (A3 (as_ (A0 (D8 0) (A3 (mv_ (mv_ ?_))))))
 refine A4 (F9 false rfl rfl (neF rfl)) rfl ?_
 refine as_ (A0 (D8 2) (C2 ?_))
 exact ⟨_, [], [], I4 rfl rfl, List.nil_sublist _, by simp, rfl, rfl, rfl⟩
theorem A7C (a b : Nat) (A : Mem) : FnV Tryz.prog 113 [.int .u32 ((a : Nat) : Int), .int .u32 ((b : Nat) : Int)] A (.int .i64 (B4e a b)) := by
 refine FnX.enter (N := 20) Tryz.func113 rfl rfl rfl fun w => ?_
 refine C4 (D5 0 1) (A3 (as_ (A0 (D5 0 1) (A3 (mv_ ?_)))))
 refine F8 (aS rfl a0) kR (A6F _ _) rfl ?_
 refine as_ (A0 (E1 0 1 5) (A3 (mv_ ?_)))
 refine F8 (aS rfl a0) kR (A6F _ _) rfl ?_
 refine as_ (A0 (E7 0 1 5 6) (A5 (A3 (mv_ (A0 (E7 0 1 6 11) ?_)))))
 refine D4 rfl ?_
 refine A9 (nx (E1 0 1 6) (A5 (A3 (mv_ (A0 (E1 0 1 13) ?_)))))
 refine D4 rfl ?_
 refine A9 (nx (D5 0 1) (A5 (A3 (mv_ (mv_ ?_)))))
 refine A4 (F9 (decide (a < b)) rfl rfl (lt32 _ _)) rfl ?_
 refine A0 (E1 0 1 16) ?_
 refine C8 rfl (fun hc => ?_) (fun hc => ?_)
 ·
  have hab : a < b := of_decide_eq_true hc
  refine A3 (as_ (A0 (D8 4) (C2 (tr ?_))))
  exact ⟨_, [], [], I4 rfl rfl, List.nil_sublist _, by simp, by rw [A7z hab], rfl, rfl⟩
 ·
  have hab : ¬ a < b := of_decide_eq_false hc
  refine A9 (nx (D5 0 1) (A5 (A3 (mv_ (mv_ ?_)))))
  refine A4 (F9 (decide (b < a)) rfl rfl (gt32 _ _)) rfl ?_
  refine A0 (D8 19) ?_
  refine C8 rfl (fun hc => ?_) (fun hc => ?_)
  ·
   have hba : b < a := of_decide_eq_true hc
   refine A3 (as_ (A0 (D8 4) (C2 (tr ?_))))
   exact ⟨_, [], [], I4 rfl rfl, List.nil_sublist _, by simp, by rw [A7A hba], rfl, rfl⟩
  ·
   have hba : ¬ b < a := of_decide_eq_false hc
   refine A9 (nx kn (A3 (as_ (A0 (D8 4) (C2 ?_)))))
   exact ⟨_, [], [], I4 rfl rfl, List.nil_sublist _, by simp, by rw [A7B (by omega)], rfl, rfl⟩
theorem A4u (vs vg : Value) (x : Pr) (n : Nat) (A : Mem) (hs : By A vs x.sec) (hg : By A vg x.sig) : FnV Tryz.prog 112 [.agg #[.int .u32 ((x.n : Nat) : Int), vs, vg], .int .u32 ((n : Nat) : Int)] A (.int .i64 (B4e x.n n)) := by
 haveI := hs.cel
 haveI := hg.cel
 refine FnX.enter (N := 9) Tryz.func112 rfl rfl rfl fun w => ?_
 refine C4 (D5 0 1) (A3 ?_)
 refine A6 rfl (bx_ fun b2 => ?_)
 refine as_ (A0 (D5 1 2) (A3 ?_))
 refine A4 (qf_ 0 0) rfl ?_
 refine A4 ql_ rfl ?_
 refine mv_ ?_
 refine F8 (aS rfl (aS rfl a0)) kR (A7C x.n n _) rfl ?_
 refine as_ (A0 (D8 4) (C2 ?_))
 exact ⟨_, [], [], I4 rfl rfl, List.nil_sublist _, by simp, rfl, rfl, rfl⟩
theorem B1H (v : Value) (rows : List (List Value)) (l : List Pr) (n : Nat) (A : Mem) (hv : Rd A 3 v l.length rows.flatten) (hR : RwL prR A rows l) (hrise : B4h l) (hl : l.length ≤ 1000000) : FnX Tryz.prog 111 [v, .int .u32 ((n : Nat) : Int), .func (.func 112) #[] #[]] [] A fun r M J => M = [] ∧ J = [] ∧ ∃ i b, r = .tuple #[.int .i64 ((i : Nat) : Int), .bool b] ∧ BsR l n i b := by
  haveI := hv.cel
  refine FnX.enter (N := 49) Tryz.func111 rfl rfl rfl fun w => ?_
  refine C4 (E1 0 1 2) (A3 (as_ (as_ (A0 (E1 0 1 2) (A3 (mv_ ?_))))))
  refine A4 (I3 (sz := 3) rfl kR hv) rfl ?_
  refine as_ (A0 (E7 0 1 2 8) (A3 (mv_ (as_ (as_ (A0 (I5 0 1 2 8 9 10) (A5 (C0 ?_))))))))
  refine F2 (α := Nat × Nat) (fun y => [(0, v), (1, .int .u32 ((n : Nat) : Int)), (2, .func (.func 112) #[] #[]), (8, .int .i64 ((l.length : Nat) : Int)), (9, .int .i64 ((y.1 : Nat) : Int)), (10, .int .i64 ((y.2 : Nat) : Int))]) (fun _ => []) (fun _ => []) (fun y => y.1 ≤ y.2 ∧ y.2 ≤ l.length ∧ (∀ (j : Nat) (z : Pr), j < y.1 → l[j]? = some z → z.n < n) ∧ (∀ (j : Nat) (z : Pr), y.2 ≤ j → l[j]? = some z → n ≤ z.n)) (fun y => y.2 - y.1) (0, l.length) ⟨Nat.zero_le _, Nat.le_refl _, fun j z h => by omega, fun j z h1 h2 => by have := (List.getElem?_eq_some_iff.1 h2).1; omega⟩ (I5 0 1 2 8 9 10) .rfl (fun _ h => h) ?_
  rintro ⟨lo, hi⟩ ⟨h1, h2, h3, h4⟩
  dsimp only at h1 h2 h3 h4 ⊢
  refine A5 (A3 (mv_ (mv_ ?_)))
  refine A4 (F1 rfl rfl rfl) rfl ?_
  refine A0 (X3 0 1 2 8 9 10 17) ?_
  refine C8 rfl (fun hc => ?_) (fun hc => ?_)
  ·
    have hlt : lo < hi := by simp at hc; omega
    obtain ⟨h, hh⟩ : ∃ h, (lo + hi) / 2 ^ 1 = h := ⟨_, rfl⟩
    have hh1 : lo ≤ h ∧ h < hi := by omega
    obtain ⟨x, hx⟩ : ∃ x, l[h]? = some x := ⟨_, List.getElem?_eq_getElem (by omega)⟩
    obtain ⟨r, hr, vs, vg, rfl, hs_, hg_, hxn⟩ := hR.get h x hx
    haveI := hs_.cel
    haveI := hg_.cel
    refine A9 (nx (I5 0 1 2 8 9 10) (C0 (A3 (mv_ (mv_ ?_)))))
    refine A4 (E4 ((lo + hi : Nat) : Int) rfl rfl (G3 (by omega) (by omega) (by omega))) rfl ?_
    refine A4 (P3 (k' := .u64) (lo + hi) rfl kR (A4E (by omega) (by omega))) rfl ?_
    refine A4 (hh ▸ A2t (a := lo + hi) (b := 1) rfl rfl rfl rfl (by decide)) rfl ?_
    refine A4 (P3 (k' := .i64) h rfl kR (A19 (by omega))) rfl ?_
    refine as_ (A0 (X3 0 1 2 8 9 10 11) (A3 (mv_ (mv_ (mv_ ?_)))))
    refine A4 (I7 (sz := 3) rfl rfl kR rfl hv (show h < l.length by omega)) rfl ?_
    refine A4 (A0F rfl kR (hv.mono SubC.sub) (hR.lens prT) (by decide) hr) rfl ?_
    refine mv_ ?_
    refine A6 rfl (A1X rfl (aS rfl (aS rfl a0)) kR (A4u vs vg x n _ (hs_.mono SubC.sub) (hg_.mono SubC.sub)) rfl ?_)
    refine A4 (F9 (decide (x.n < n)) rfl rfl (B4f _ _)) rfl ?_
    refine A0 (A14 0 1 2 8 9 10 11 31) ?_
    refine C8 rfl (fun hc => ?_) (fun hc => ?_)
    ·
      have hxl : x.n < n := of_decide_eq_true hc
      refine C3 (mv_ ?_)
      refine A4 (E4 ((h + 1 : Nat) : Int) rfl rfl (G3 (by omega) (by omega) (by omega))) rfl ?_
      refine as_ (D0 (nb ?_))
      exact rn (h + 1, hi) ⟨by dsimp only; omega, h2, fun j z hj hz => by
        dsimp only at hj
        rcases Nat.lt_or_ge j h with hjh | hjh
        · have := hrise j h z x hjh hz hx; omega
        · obtain rfl : j = h := by omega
          rw [hx] at hz; cases hz; exact hxl, h4⟩ (by dsimp only; omega) (I5 0 1 2 8 9 10) .rfl (fun _ h => h)
    ·
      have hxl : ¬ x.n < n := of_decide_eq_false hc
      refine C3 (mv_ (as_ (D0 (nb ?_))))
      exact rn (lo, h) ⟨by dsimp only; omega, by dsimp only; omega, h3, fun j z hj hz => by
        dsimp only at hj
        rcases Nat.lt_or_ge h j with hjh | hjh
        · have := hrise h j x z hjh hx hz; omega
        · obtain rfl : j = h := by omega
          rw [hx] at hz; cases hz; omega⟩ (by dsimp only; omega) (I5 0 1 2 8 9 10) .rfl (fun _ h => h)
  ·
    have hlt : lo = hi := by simp at hc; omega
    subst hlt
    refine E6 (te (re (be rfl (nx (F7 0 1 2 8 9) (A3 (mv_ (mv_ (mv_ ?_))))))))
    refine A4 (F1 rfl rfl rfl) rfl ?_
    refine mv_ ?_
    refine Z3 (t := 39) rfl (fun hb => ?_) (fun hb => ?_)
    ·
      have hlo : lo < l.length := by simp at hb; omega
      obtain ⟨x, hx⟩ : ∃ x, l[lo]? = some x := ⟨_, List.getElem?_eq_getElem hlo⟩
      obtain ⟨r, hr, vs, vg, rfl, hs_, hg_, hxn⟩ := hR.get lo x hx
      haveI := hs_.cel
      haveI := hg_.cel
      refine F4 rfl rfl (OpQ.opL qm_ rfl ?_)
      refine F4 rfl rfl (OpQ.opL qm_ rfl ?_)
      refine F4 rfl rfl (OpQ.opL qm_ rfl ?_)
      refine F4 rfl rfl (OpQ.opL (I7 (sz := 3) rfl rfl kR rfl hv hlo) rfl ?_)
      refine F4 rfl rfl (OpQ.opL (A0F rfl kR (hv.mono SubC.sub) (hR.lens prT) (by decide) hr) rfl ?_)
      refine F4 rfl rfl (OpQ.opL qm_ rfl ?_)
      refine F4 rfl rfl (A1X rfl (aS rfl (aS rfl a0)) kR (A4u vs vg x n _ (hs_.mono SubC.sub) (hg_.mono SubC.sub)) rfl ?_)
      refine F4 rfl rfl (OpQ.opL (F9 (decide (x.n = n)) rfl rfl (B4g _ _)) rfl ?_)
      refine A4 (H4 rfl rfl) rfl ?_
      refine as_ (as_ (A0 (D5 6 7) (C2 ?_)))
      exact ⟨_, [], [], A6P rfl rfl rfl, List.nil_sublist _, by simp, rfl, rfl, lo, _, rfl, h2, h3, h4, by rw [hx]; simp⟩
    ·
      have hlo : ¬ lo < l.length := by simp at hb; omega
      refine L5 rfl rfl rfl rfl ?_
      refine L5 rfl rfl rfl rfl ?_
      refine L5 rfl rfl rfl rfl ?_
      refine L5 rfl rfl rfl rfl ?_
      refine L5 rfl rfl rfl rfl ?_
      refine L5 rfl rfl rfl rfl ?_
      refine L5 rfl rfl rfl rfl ?_
      refine L5 rfl rfl rfl rfl ?_
      refine A4 (E9 rfl rfl) rfl ?_
      refine as_ (as_ (A0 (D5 6 7) (C2 ?_)))
      exact ⟨_, [], [], A6P rfl rfl rfl, List.nil_sublist _, by simp, rfl, rfl, lo, _, rfl, h2, h3, h4, by rw [List.getElem?_eq_none (by omega)]; simp⟩
theorem B9o (kb : Nat) (k : Ks) (va vg vs vo vm : Value) (rs ro rm : List (List Value)) (n : Nat) (A : Mem) (hK : KyR A kb k va vg vs vo vm rs ro rm) (hrise : B4h k.once) : FnX Tryz.prog 67 [.pointer (some ⟨kb, 0, none⟩), .int .u32 ((n : Nat) : Int)] [] A fun r M J => M = [] ∧ ∃ q, r = .tuple #[q, .bool (A15 k.once n).isSome] ∧ By J q ((A15 k.once n).getD []) := by
 have hkb := hK.blk_
 haveI := hK.agree.cel
 haveI := hK.sign.cel
 haveI := hK.signed.cel
 haveI := hK.once.cel
 haveI := hK.met.cel
 refine FnX.enterZ (N := 30) Tryz.func67 rfl rfl rfl fun w_ => ?_
 refine C4 (D5 0 1) (A3 (as_ (as_ (A0 (D5 0 1) (A5 (A3 (mv_ ?_)))))))
 refine A4 (F0 (e := 114) rfl rfl kR) rfl ?_
 refine A0 (E1 0 1 9) ?_
 refine D4 rfl ?_
 refine A9 (nx (D5 0 1) (A3 (mv_ ?_)))
 refine A4 (F5 rfl) rfl ?_
 refine A4 (qf_ 5 5) rfl ?_
 refine A4 (I2 rfl kR (mA hkb) (by rfl)) rfl ?_
 refine mv_ ?_
 refine C9 (aS rfl (aS rfl (aS rfl a0))) kR (B1H vo ro k.once n _ (hK.once.mono SubC.sub) (hK.onceR.mono prT SubC.sub) hrise hK.l2) rfl ?_
 rintro r16 M16 J16 ⟨rfl, rfl, i, b, rfl, hb⟩
 refine mv_ ?_
 refine A4 (A2O rfl) rfl ?_
 refine A4 (A2z rfl) rfl ?_
 refine as_ (as_ (A0 (E1 0 6 7) (A5 ?_)))
 cases b
 ·
  have hf := hb.no hrise
  refine A3 (mv_ ?_)
  refine A4 (A0e rfl) rfl ?_
  refine A0 (E1 0 6 20) ?_
  refine E2 rfl ?_
  refine A3 (as_ (as_ (A0 (D5 4 5) (C2 (tr ?_)))))
  exact ⟨_, [], [], A6P rfl rfl rfl, Fit.sub (List.nil_sublist _), rfl, _, by rw [A5q hf]; rfl, by rw [A5q hf]; exact By.nil⟩
 ·
  obtain ⟨x, hx, hf⟩ := hb.yes
  have hil := (List.getElem?_eq_some_iff.1 hx).1
  obtain ⟨r, hr, vs_, vg_, rfl, hs_, hg_, hxn⟩ := hK.onceR.get i x hx
  haveI := hs_.cel
  refine A3 (mv_ ?_)
  refine A4 (A0e rfl) rfl ?_
  refine A0 (E1 0 6 20) ?_
  refine D4 rfl ?_
  refine A9 (nx (D5 0 6) (A3 (mv_ ?_)))
  refine A4 (F5 rfl) rfl ?_
  refine A4 (qf_ 5 5) rfl ?_
  refine A4 (I2 rfl kR (mA hkb) (by rfl)) rfl ?_
  refine mv_ ?_
  refine A4 (I7 (sz := 3) rfl rfl kR rfl hK.once hil) rfl ?_
  refine A4 (B4I (off := 1) rfl hK.once hil kR) rfl ?_
  refine A4 (B4J (u := vs_) rfl (hK.once.mono SubC.sub) (by omega) kR (by rw [A2D (hK.onceR.lens prT) hr 1 (by decide)]; rfl)) rfl ?_
  refine C9 (aS rfl a0) kR (A1y vs_ x.sec _ (hs_.mono SubC.sub)) rfl ?_
  rintro r29 M29 J29 ⟨rfl, h29⟩
  haveI := h29.cel
  refine as_ (as_ (A0 (D5 4 5) (C2 ?_)))
  exact ⟨_, [], [], A6P rfl rfl rfl, Fit.sub (List.nil_sublist _), rfl, _, by rw [A08 hf hx]; rfl, by rw [A08 hf hx]; exact h29.mono SubC.sub⟩

structure Kys (R : Mem) (kb : Nat) (k : Ks) (M : Mem) : Prop where
  ex : ∃ (va vg vs vo vm : Value) (rs ro rm : List (List Value)) (Bs Bo Bm : Mem), M = (kb, blk [.int .i64 k.user, .int .i64 k.dev, va, vg, vs, vo, .int .u32 ((k.next : Nat) : Int), vm] 114) :: (Bs ++ (Bo ++ Bm)) ∧
    By R va k.agree ∧ By R vg k.sign ∧ Sl 3 vs k.signed.length rs.flatten Bs ∧ RwL prR R rs k.signed ∧ Sl 3 vo k.once.length ro.flatten Bo ∧ RwL prR R ro k.once ∧ Sl 2 vm k.met.length rm.flatten Bm ∧ RwL nmR R rm k.met ∧ k.next < 4294967296 ∧ k.signed.length ≤ 2 ∧ k.once.length ≤ 100 ∧ k.met.length ≤ 100000
theorem Kys.mono {R R' : Mem} {kb : Nat} {k : Ks} {M : Mem} (h : Kys R kb k M) (hR : ∀ x, x ∈ R → x ∈ R') : Kys R' kb k M := by
  obtain ⟨va, vg, vs, vo, vm, rs, ro, rm, Bs, Bo, Bm, h1, h2, h3, h4, h5, h6, h7, h8, h9, h10⟩ := h.ex
  exact ⟨va, vg, vs, vo, vm, rs, ro, rm, Bs, Bo, Bm, h1, h2.mono hR, h3.mono hR, h4, h5.mono prT hR, h6, h7.mono prT hR, h8, h9.mono nmT hR, h10⟩
theorem Kys.r {R : Mem} {kb : Nat} {k : Ks} {M : Mem} (h : Kys R kb k M) : ∃ va vg vs vo vm rs ro rm, ∀ R', (∀ x, x ∈ R → x ∈ R') → (∀ x, x ∈ M → x ∈ R') → KyR R' kb k va vg vs vo vm rs ro rm := by
  obtain ⟨va, vg, vs, vo, vm, rs, ro, rm, Bs, Bo, Bm, rfl, h2, h3, h4, h5, h6, h7, h8, h9, h10, h11, h12, h13⟩ := h.ex
  refine ⟨va, vg, vs, vo, vm, rs, ro, rm, fun R' hR hM => ⟨hM _ List.mem_cons_self, h2.mono hR, h3.mono hR, h4.rd fun x hx => hM x (by simp [hx]), h5.mono prT hR, h6.rd fun x hx => hM x (by simp [hx]), h7.mono prT hR, h8.rd fun x hx => hM x (by simp [hx]), h9.mono nmT hR, by omega, by omega, by omega, by omega⟩⟩
noncomputable def fillI (k : Ks) (s : Ps) : Nat → Ks × Ps
  | 0 => (k, s)
  | i + 1 => ({ (fillI k s i).1 with once := (fillI k s i).1.once ++ [⟨(fillI k s i).1.next, D6 (fillI k s i).2, []⟩], next := (fillI k s i).1.next + 1 }, D3 (fillI k s i).2)
theorem A4v (k : Ks) (s : Ps) : ∀ i, (fillI k s i).1.once.length = k.once.length + i
  | 0 => rfl
  | i + 1 => by simp [fillI, A4v k s i]; omega
theorem A0n (k : Ks) (s : Ps) : ∀ i, (fillI k s i).1.next = k.next + i
  | 0 => rfl
  | i + 1 => by simp [fillI, A0n k s i]; omega
theorem A5r (k : Ks) (s : Ps) : ∀ i, (fillI k s i).1 = { k with once := (fillI k s i).1.once, next := k.next + i }
  | 0 => rfl
  | i + 1 => by
    have h := A5r k s i
    have hn := A0n k s i
    simp only [fillI, hn]
    rw [h]
    simp [Nat.add_assoc]
theorem K8 (s : Ps) : (D3 s).ts.length ≤ s.ts.length + 1 ∧ (D3 s).n = s.n + 1 := by
  unfold D3
  split
  · exact ⟨by simp, rfl⟩
  · refine ⟨?_, rfl⟩
    show (add s.ts _).length ≤ _
    unfold add
    split <;> simp
theorem A2X (k : Ks) (s : Ps) : ∀ i, (fillI k s i).2.ts.length ≤ s.ts.length + i ∧ (fillI k s i).2.n = s.n + i
  | 0 => ⟨Nat.le_refl _, rfl⟩
  | i + 1 => by
    have h := A2X k s i
    have h2 := K8 (fillI k s i).2
    simp only [fillI]
    omega
noncomputable def A1z (k : Ks) (s : Ps) : Ks × Ps := fillI k s (4 - k.once.length)
theorem B9p (kb pb : Nat) (k : Ks) (s : Ps) (MK MP A : Mem) (hK : Kys A kb k MK) (hP : Prm pb s MP) (hn : s.ts.length + 100 ≤ 1048576) (hk : s.n < 1000000000) (hnx : k.next + 100 < 4000000000) (hG : Glb A) : FnX Tryz.prog 65 [.pointer (some ⟨kb, 0, none⟩), .pointer (some ⟨pb, 0, none⟩)] (MK ++ MP) A fun q M J => q = .int .i64 ((4 - k.once.length : Nat) : Int) ∧ ∃ MK2 MP2, M = MK2 ++ MP2 ∧ Kys (J ++ A) kb (A1z k s).1 MK2 ∧ Prm pb (A1z k s).2 MP2 := by
 obtain ⟨va, vg, vs, vo, vm, rs, ro, rm, Bs, Bo, Bm, rfl, hva, hvg, hss, hrs, hso, hro, hsm, hrm, hn1, hn2, hn3, hn4⟩ := hK.ex
 haveI := hva.cel
 haveI := hvg.cel
 haveI := hss.cel
 haveI := hso.cel
 haveI := hsm.cel
 refine FnX.enterZ (N := 42) Tryz.func65 rfl rfl rfl fun w_ => ?_
 refine C4 (D5 0 1) (A3 (as_ (A0 (D5 0 1) (A3 (as_ (A0 (E1 0 1 5) (A5 ?_)))))))
 refine C0 ?_
 refine F2 (α := Nat × (Value × List (List Value) × Mem) × Mem × Mem) (fun y => [(0, .pointer (some ⟨kb, 0, none⟩)), (1, .pointer (some ⟨pb, 0, none⟩)), (5, .int .i64 ((y.1 : Nat) : Int))]) (fun y => (kb, blk [.int .i64 k.user, .int .i64 k.dev, va, vg, vs, y.2.1.1, .int .u32 ((k.next + y.1 : Nat) : Int), vm] 114) :: (Bs ++ (y.2.1.2.2 ++ (Bm ++ y.2.2.1)))) (fun y => y.2.2.2) (fun y => y.1 + k.once.length ≤ max 4 k.once.length ∧ Sl 3 y.2.1.1 (k.once.length + y.1) y.2.1.2.1.flatten y.2.1.2.2 ∧ RwL prR (y.2.2.2 ++ A) y.2.1.2.1 (fillI k s y.1).1.once ∧ Prm pb (fillI k s y.1).2 y.2.2.1) (fun y => 4 - (k.once.length + y.1)) (0, (vo, ro, Bo), MP, []) ⟨by dsimp only; omega, hso, hro, hP⟩ (E1 0 1 5) (Fit.pick (B := [_]) PickC.perm (Fit.pick PickC.perm (Fit.pick PickC.perm (Fit.pick PickC.perm (Fit.last PickC.perm))))) (fun _ h => h) ?_
 rintro ⟨i, ⟨voi, roi, Boi⟩, MPi, Ji⟩ ⟨hi, hsi, hri, hPi⟩
 dsimp only at hi hsi hri hPi ⊢
 haveI := hsi.cel
 have hps := A2X k s i
 have hnx := A0n k s i
 have hol := A4v k s i
 refine A5 (A3 (mv_ ?_))
 refine A4 (A8T (e := 114) rfl rfl kR) rfl ?_
 refine mv_ ?_
 refine F4 rfl rfl (OpQ.opL qm_ rfl ?_)
 refine F4 rfl rfl (OpQ.opL (F5 rfl) rfl ?_)
 refine F4 rfl rfl (OpQ.opL (qf_ 5 5) rfl ?_)
 refine F4 rfl rfl (OpQ.opL ql_ rfl ?_)
 refine F4 rfl rfl (OpQ.opL (I3 (sz := 3) rfl kR (hsi.rd (R := Boi) fun _ h => h)) rfl ?_)
 refine F4 rfl rfl (OpQ.opL (F1 rfl rfl rfl) rfl ?_)
 refine A4 (H4 rfl rfl) rfl ?_
 refine A0 (E7 0 1 5 15) ?_
 refine C8 rfl (fun hc => ?_) (fun hc => ?_)
 ·
  have hlt : k.once.length + i < 4 := by simp at hc; omega
  refine A9 (nx (E1 0 1 5) (A5 (C0 ?_)))
  refine H5 (MPi) (_) true [0, 1, 2, 3, 4, 5, 6, 7, 8, 9, 10, 11, 12, 14, 15] (zp 0 [0, 0, 0, 0, 1, 0, 0, 0, 1, 0, 2, 0, 2, 2, 0, 0, 2]) kR kR PickC.perm fun hs K n0 hKm hKs hKn => ?_
  refine km_ hs ?_
  refine km_ hs ?_
  refine I0 hs rfl (F5 rfl) rfl ?_
  refine I0 hs rfl (qf_ 5 5) rfl ?_
  refine P0 hs rfl hKs ql_ ?_
  refine km_ hs ?_
  refine I0 hs rfl (F5 rfl) rfl ?_
  refine I0 hs rfl (qf_ 6 6) rfl ?_
  refine P0 hs rfl hKs ql_ ?_
  refine km_ hs ?_
  refine K0 _ _ rfl rfl (List.Perm.refl _) hKm fun w0 => (E0 (Mc := MPi) (R := _) (aS rfl a0) kR PickC.perm (U4 pb (fillI k s i).2 MPi _ hPi (by omega) (by omega) hG.up) rfl ?_)
  rintro v28 M28 J28 ⟨hP28, h28⟩ hKx
  haveI := h28.cel
  refine I0 hs rfl (F3 (place := fun x => #[(0, 1), (1, 1), (2, 1)][x]?) (z := [.int .u32 0, .slice none 0 0, .slice none 0 0]) (fun _ => by kernel_rfl) (eS rfl (eS rfl e0)) (bdS 0 1 rfl (by rfl) (bdS 1 1 rfl (by rfl) bd0))) rfl ?_
  refine K0 [] _ rfl rfl (List.Perm.refl _) (fun _ h => by cases h) fun w0 => (C6 (e := 110) (sz := 3) (z := [.int .u32 0, .slice none 0 0, .slice none 0 0]) kR (eS rfl e0) (bdS 0 3 rfl (by rfl) bd0) rfl fun b30 => fun _ => ?_)
  refine A1m (M' := (b30, blk [.int .u32 ((k.next + i : Nat) : Int), v28, .slice none 0 0] 110) :: (M28 ++ ((kb, blk [.int .i64 k.user, .int .i64 k.dev, va, vg, vs, voi, .int .u32 ((k.next + i : Nat) : Int), vm] 114) :: (Bs ++ (Boi ++ (Bm ++ [])))))) (by simp) ?_
  refine N5 rfl rfl rfl (I8 (e := 110) (sz := 3) (by_ := 56) rfl rfl kR rfl hsi (Rd.whole (n := 1) At.mem (by rfl)) (by intro c hc; simp only [List.mem_cons, List.not_mem_nil, or_false] at hc; rcases hc with rfl | rfl | rfl; rfl; exact h28.one; rfl) PickC.perm (by unfold maxLen; omega) (by omega) rfl fun v31 B31 hs31 => ?_)
  haveI := hs31.cel
  refine I0 hs rfl (F5 rfl) rfl ?_
  refine I0 hs rfl (qf_ 5 5) rfl ?_
  refine N5 rfl rfl rfl (D9 rfl rfl hs31.one kR SetC.set UpC.upd ?_)
  refine N6 (E1 0 1 5) (C3 (mv_ ?_))
  refine A4 (F5 rfl) rfl ?_
  refine A4 (qf_ 6 6) rfl ?_
  refine A4 ql_ rfl ?_
  refine A4 (A7X 4294967296 (a := k.next + i) (b := 1) rfl rfl rfl rfl rfl rfl (by omega)) rfl ?_
  refine A4 (F5 rfl) rfl ?_
  refine A4 (qf_ 6 6) rfl ?_
  refine A6 rfl (D9 rfl rfl rfl kR SetC.set UpC.upd ?_)
  refine D0 (nb (nx (E1 0 1 5) (C3 (mv_ ?_))))
  refine A4 (E4 ((i + 1 : Nat) : Int) rfl rfl (G3 (by omega) (by omega) (by omega))) rfl ?_
  refine as_ (D0 ?_)
  exact rn (i + 1, (v31, roi ++ [[.int .u32 ((k.next + i : Nat) : Int), v28, .slice none 0 0]], B31), _, _) ⟨by dsimp only; omega, by simpa [Nat.add_assoc] using hs31, (hri.mono prT SubC.sub).snoc ⟨v28, .slice none 0 0, by rw [hnx], h28.mono SubC.sub, By.nil, by dsimp only; omega⟩, hP28⟩ (by dsimp only; omega) (E1 0 1 5) (Fit.pick (B := [_]) PickC.perm (Fit.pick PickC.perm (Fit.pick PickC.perm (Fit.pick PickC.perm (Fit.last PickC.perm))))) (fun _ h => h)
 ·
  have hge : 4 ≤ k.once.length + i := by simp at hc; omega
  obtain rfl : i = 4 - k.once.length := by omega
  refine E6 (te (re (be rfl (nx (D8 5) (A3 (mv_ (as_ (A0 (D8 4) ?_))))))))
  refine C2 ?_
  have hfe := A5r k s (4 - k.once.length)
  refine ⟨_, (kb, blk [.int .i64 k.user, .int .i64 k.dev, va, vg, vs, voi, .int .u32 ((k.next + (4 - k.once.length) : Nat) : Int), vm] 114) :: (Bs ++ (Boi ++ (Bm ++ MPi))), [], I4 rfl rfl, Fit.none (Fit.eq (by simp)), rfl, (kb, blk [.int .i64 k.user, .int .i64 k.dev, va, vg, vs, voi, .int .u32 ((k.next + (4 - k.once.length) : Nat) : Int), vm] 114) :: (Bs ++ (Boi ++ Bm)), MPi, by simp, ⟨⟨va, vg, vs, voi, vm, rs, roi, rm, Bs, Boi, Bm, ?_⟩⟩, hPi⟩
  unfold A1z
  rw [hfe]
  exact ⟨rfl, hva.mono SubC.sub, hvg.mono SubC.sub, hss, hrs.mono prT SubC.sub, by show Sl 3 voi (fillI k s (4 - k.once.length)).1.once.length _ _; rw [hol]; exact hsi, hri, hsm, hrm.mono nmT SubC.sub, by dsimp only; omega, hn2, by show (fillI k s (4 - k.once.length)).1.once.length ≤ 100; rw [hol]; omega, hn4⟩

end Go.Proofs.YthbhpfefdnffaaaGreatDoor
namespace Go.Px
theorem B4j {rows : List (List Value)} {sz : Nat} {r : List Value} (hl : ∀ r ∈ rows, r.length = sz) (hr : r.length = sz) {j : Nat} (hj : j < rows.length) :
    rows.flatten.take (j * sz) ++ r ++ rows.flatten.drop (j * sz + sz) = (rows.set j r).flatten := by
  rw [show j * sz + sz = (j + 1) * sz from by rw [Nat.add_mul, Nat.one_mul], A23 hl, A5M hl, List.set_eq_take_append_cons_drop, if_pos hj]
  simp
section
variable {C : Cx} {l : Env} {M J : Mem} {K : Env → Mem → Mem → Prop} {ty t : TypeId} {pos : String} {af : Array Edge} {g : Option (Nat × Bool)} {x y : Operand} {v : Value} {xs : List Value} {n j sz : Nat} {B M0 : Mem}
theorem B4k {r : List Value} (hx : ev l x = some (vAt sz j v)) (hy : ev l y = some (.agg r.toArray)) (h : Sl sz v n xs B) (hr : r.length = sz) (h1 : ∀ u ∈ r, u.oneCell' = true)
    (ht : N8 C.P t = some sz) (hj : j < n) (hM : M.Perm (B ++ M0)) (h2 : ∀ B', Sl sz v n (xs.take (j * sz) ++ r ++ xs.drop (j * sz + sz)) B' → K l (B' ++ M0) J) :
    OpL C ⟨none, .store t x y, ty, pos, af, g⟩ l M J K := by
  suffices hh : OpL C ⟨none, .store t x y, ty, pos, af, g⟩ l (B ++ M0) J K from fun Qp a w ha hw => hh Qp a w ha (hw.fit (Fit.perm hM) fun _ h => h)
  clear hM
  subst hr
  have hjm : j * r.length + r.length ≤ n * r.length := by rw [← Nat.succ_mul]; exact Nat.mul_le_mul_right _ hj
  rcases h with ⟨p, rfl, rfl, hx2, rfl⟩ | ⟨b, o, cap, cs, e, rfl, rfl, h3, h4, h5, h6, h7⟩
  · omega
  · simp only [vAt, Addr.add_mid] at hx
    have hcm : n * r.length ≤ cap * r.length := Nat.mul_le_mul_right _ h3
    refine A4A hx hy rfl ht (by omega) h1 rfl .hd (h2 [_] (.inr ⟨b, o, cap, _, e, rfl, rfl, h3, h4, ?_, ?_, ?_⟩))
    · rw [A0Y (by omega)]; exact h5
    · rw [A0Y (by omega)]; exact h6
    · intro q u hq
      have hlt := (List.getElem?_eq_some_iff.1 hq).1
      rw [A0Y (by omega)] at hlt
      by_cases hq1 : q < j * r.length
      · rw [A22 (by omega) hq1] at hq
        rw [A22 (by omega) (by omega)]
        exact h7 q u hq
      · by_cases hq2 : q < j * r.length + r.length
        · rw [A18 (by omega) (by omega) hq2] at hq
          rw [A18 (by omega) (by omega) (by omega), ← hq]
          congr 1; omega
        · rw [A5K (by omega) (by omega)] at hq
          rw [A5K (by omega) (by omega)]
          exact h7 q u hq
theorem B4l {e : TypeId} {by_ : Nat} {zs : List Value} (hx : ev l x = some (vLo j sz v)) (ht : A20 C.P t = some (e, sz, by_)) (hz : zn C.P t (n - j) = some zs) (h : Sl sz v n xs B)
    (h1 : ∀ c ∈ zs, c.oneCell' = true) (hj : j < n) (hM : M.Perm (B ++ M0)) (h2 : ∀ B', Sl sz v n (xs.take (j * sz) ++ zs) B' → K l (B' ++ M0) J) :
    OpL C ⟨none, .call { callee := .builtin .clear, args := #[x], argTypes := #[t] }, ty, pos, af, g⟩ l M J K := by
  suffices hh : OpL C ⟨none, .call { callee := .builtin .clear, args := #[x], argTypes := #[t] }, ty, pos, af, g⟩ l (B ++ M0) J K from fun Qp a w ha hw => hh Qp a w ha (hw.fit (Fit.perm hM) fun _ h => h)
  clear hM
  have hzl := B4w hz ht
  have hjm : j * sz ≤ n * sz := Nat.mul_le_mul_right _ (by omega)
  rw [Nat.sub_mul] at hzl
  rcases h with ⟨p, rfl, rfl, hx2, rfl⟩ | ⟨b, o, cap, cs, e', rfl, rfl, h3, h4, h5, h6, h7⟩
  · omega
  · have hcm : n * sz ≤ cap * sz := Nat.mul_le_mul_right _ h3
    simp only [vLo, if_neg (show ¬ cap = j by omega), Option.map_some, Addr.add_mid] at hx
    have hnj : (n - j) * sz = zs.length := by rw [hzl, Nat.sub_mul]
    refine B5I hx ht hz h1 (by rw [hnj]; omega) rfl .hd (h2 [_] (.inr ⟨b, o, cap, _, e', rfl, rfl, h3, h4, ?_, ?_, ?_⟩))
    · rw [hnj, A0Y (by omega)]; exact h5
    · simp; omega
    · intro q u hq
      have hlt := (List.getElem?_eq_some_iff.1 hq).1
      simp at hlt
      rw [hnj]
      by_cases hq1 : q < j * sz
      · rw [A22 (by omega) (by omega)]
        rw [List.getElem?_append_left (by simp; omega), List.getElem?_take_of_lt hq1] at hq
        exact h7 q u hq
      · rw [A18 (by omega) (by omega) (by omega)]
        rw [List.getElem?_append_right (by simp; omega)] at hq
        rw [← hq]
        congr 1
        simp; omega
end
def kpt {β : Type} (p : Nat → Bool) (rows : List β) : Nat → List β
  | 0 => []
  | j + 1 => kpt p rows j ++ (if p j then [] else rows[j]?.toList)
theorem A7D {β : Type} {p : Nat → Bool} {rows : List β} : ∀ j, (∀ i, i < j → p i = false) → kpt p rows j = rows.take j
  | 0, _ => by simp [kpt]
  | j + 1, h => by
    rw [kpt, A7D j fun i hi => h i (by omega), if_neg (by rw [h j (by omega)]; decide), List.take_add_one]
theorem A4w {α : Type} (q : α → Bool) (xs : List α) : ∀ j, kpt (fun i => (xs[i]?.map q).getD false) xs j = (xs.take j).filter fun x => !q x
  | 0 => by simp [kpt]
  | j + 1 => by
    rw [kpt, A4w q xs j, List.take_add_one, List.filter_append]
    congr 1
    cases h : xs[j]? with
    | none => simp
    | some x => cases hq : q x <;> simp [hq]
theorem RwL.kpt {α : Type} {φ : Mem → α → List Value → Prop} {R : Mem} {rows : List (List Value)} {xs : List α} (h : RwL φ R rows xs) (p : Nat → Bool) : ∀ j, RwL φ R (Px.kpt p rows j) (Px.kpt p xs j)
  | 0 => RwL.nil
  | j + 1 => by
    rw [Px.kpt, Px.kpt]
    refine (RwL.kpt h p j).app ?_
    split
    · exact RwL.nil
    · cases hx : xs[j]? with
      | none =>
        have : rows[j]? = none := by rw [List.getElem?_eq_none_iff] at hx ⊢; rw [h.len]; exact hx
        rw [this]; exact RwL.nil
      | some x =>
        obtain ⟨r, h1, h2⟩ := h.get j x hx
        rw [h1]
        exact RwL.cons h2 RwL.nil
theorem B4m {α : Type} {cur : List α} {i : Nat} {r : α} (h : i < cur.length) : (cur.set i r).take (i + 1) = cur.take i ++ [r] := by
  rw [List.take_add_one, List.getElem?_set_self h, List.take_set_of_le (Nat.le_refl _)]
  rfl
theorem Sl.hi_app {sz n i : Nat} {v : Value} {xs zs : List Value} {B : Mem} (h : Sl sz v n (xs.take (i * sz) ++ zs) B) (hx : xs.length = n * sz) (hi : i ≤ n) : Sl sz (vHi i v) i (xs.take (i * sz)) B := by
  have h2 := h.hiV i hi
  have h3 : i * sz ≤ n * sz := Nat.mul_le_mul_right _ hi
  rwa [List.take_left' (by rw [List.length_take]; omega)] at h2
structure Dfs (sz : Nat) (p : Nat → Bool) (rows cur : List (List Value)) (j i : Nat) : Prop where
  jn : j ≤ rows.length
  ki : i = (kpt p rows j).length
  ij : i < j
  cl : cur.length = rows.length
  ct : cur.take i = kpt p rows j
  cd : cur.drop j = rows.drop j
  cs : ∀ r ∈ cur, r.length = sz
  cr : ∀ r ∈ cur, r ∈ rows
section
variable {sz : Nat} {p : Nat → Bool} {rows cur : List (List Value)} {j i i0 : Nat} {r : List Value}
theorem Dfs.init (hl : ∀ r ∈ rows, r.length = sz) (hi : i0 < rows.length) (hp : p i0 = true) (hq : ∀ j, j < i0 → p j = false) : Dfs sz p rows rows (i0 + 1) i0 := by
  have hk0 : kpt p rows (i0 + 1) = rows.take i0 := by rw [kpt, hp, A7D i0 hq]; simp
  exact ⟨hi, by rw [hk0, List.length_take]; omega, by omega, rfl, hk0.symm, rfl, hl, fun _ h => h⟩
theorem Dfs.at_ (h : Dfs sz p rows cur j i) (hr : rows[j]? = some r) : cur[j]? = some r := by
  have h2 := congrArg (fun l => l[0]?) h.cd
  simpa [List.getElem?_drop, hr] using h2
theorem Dfs.keep (h : Dfs sz p rows cur j i) (hr : rows[j]? = some r) (hp : p j = false) : Dfs sz p rows (cur.set i r) (j + 1) (i + 1) := by
  obtain ⟨h1, h2, h3, h4, h5, h6, h7, h8⟩ := h
  have hjl := (List.getElem?_eq_some_iff.1 hr).1
  have hk : kpt p rows (j + 1) = kpt p rows j ++ [r] := by rw [kpt, hp, hr]; rfl
  have hcj : cur.drop (j + 1) = rows.drop (j + 1) := by rw [← List.drop_drop, ← List.drop_drop, h6]
  refine ⟨hjl, by rw [hk]; simp [← h2], by omega, by simp [h4], ?_, ?_, ?_, ?_⟩
  · rw [B4m (by omega), h5, hk]
  · rw [List.drop_set_of_lt (by omega), hcj]
  · intro x hx
    rcases List.mem_or_eq_of_mem_set hx with hx | hx
    · exact h7 x hx
    · subst hx; exact h7 x (List.mem_of_getElem? (Dfs.at_ ⟨h1, h2, h3, h4, h5, h6, h7, h8⟩ hr))
  · intro x hx
    rcases List.mem_or_eq_of_mem_set hx with hx | hx
    · exact h8 x hx
    · subst hx; exact List.mem_of_getElem? hr
theorem Dfs.skip (h : Dfs sz p rows cur j i) (hjl : j < rows.length) (hp : p j = true) : Dfs sz p rows cur (j + 1) i := by
  obtain ⟨h1, h2, h3, h4, h5, h6, h7, h8⟩ := h
  have hk : kpt p rows (j + 1) = kpt p rows j := by rw [kpt, hp]; simp
  exact ⟨hjl, by rw [hk]; exact h2, by omega, h4, by rw [hk]; exact h5, by rw [← List.drop_drop, ← List.drop_drop, h6], h7, h8⟩
end
end Go.Px

namespace Go.Proofs.YthbhpfefdnffaaaGreatDoor
open Go.Px
theorem B4n {k : IntKind} (c : Int) : K1 .eql k c (-1) = some (.bool (decide (c = -1))) := by
  by_cases h : c = -1
  · rw [decide_eq_true h]; exact eqT h
  · rw [decide_eq_false h]; exact eqF h
theorem A9x (v : Value) (rows : List (List Value)) (f : FuncId) (cs : List Value) (p : Nat → Bool) (B A : Mem) (hs : Sl 2 v rows.length rows.flatten B) (hl : ∀ r ∈ rows, r.length = 2) (h1 : ∀ c ∈ rows.flatten, c.oneCell' = true) (hn : rows.length ≤ 1099511627776) (hc_ : K2 Tryz.prog f = true) (hf : ∀ (j : Nat) (r : List Value), rows[j]? = some r → FnV Tryz.prog f (.agg r.toArray :: cs) A (.bool (p j))) : FnX Tryz.prog 69 [v, .func (.func f) #[] cs.toArray] B A fun q M J => Sl 2 q (kpt p rows rows.length).length (kpt p rows rows.length).flatten M := by
 haveI := hs.cel
 refine FnX.enterZ (N := 42) Tryz.func69 rfl rfl rfl fun w_ => ?_
 refine C4 (D5 0 1) (A3 (as_ (A0 (D5 0 1) (A3 (mv_ (mv_ ?_))))))
 refine F8 (aS rfl (aS rfl a0)) kR (A9u v rows f cs p _ (hs.rd fun x hx => by simp [hx]) hl hn hc_ (fun j r hr => B1F (hf j r hr) SubC.sub)) rfl ?_
 refine as_ (A0 (E1 0 1 5) (A5 (A3 (mv_ ?_))))
 refine A4 (F9 (decide (A6M p rows.length = -1)) rfl rfl (B4n _)) rfl ?_
 refine A0 (E7 0 1 5 12) ?_
 refine C8 rfl (fun hc => ?_) (fun hc => ?_)
 ·
  have hm1 : A6M p rows.length = -1 := of_decide_eq_true hc
  have hall : ∀ i, i < rows.length → p i = false := by rcases A2g p rows.length with ⟨_, h⟩ | ⟨i, _, h, _, _⟩; exact h; omega
  refine A3 (mv_ (as_ (A0 (D8 4) (C2 (tr ?_)))))
  refine ⟨_, B, [], I4 rfl rfl, Fit.none (Fit.last PickC.perm), ?_⟩
  rw [A7D _ hall, List.take_length]
  exact hs
 ·
  have hne : ¬ A6M p rows.length = -1 := of_decide_eq_false hc
  obtain ⟨i0, hi0, he0, hp0, hq0⟩ : ∃ i, i < rows.length ∧ A6M p rows.length = (i : Int) ∧ p i = true ∧ ∀ j, j < i → p j = false := (A2g p rows.length).resolve_left fun h => hne h.1
  rw [he0]
  refine A9 (nx (E1 0 1 5) (A5 (A3 (mv_ ?_))))
  refine A4 (E4 ((i0 + 1 : Nat) : Int) rfl rfl (G3 (by omega) (by omega) (by omega))) rfl ?_
  refine as_ (A0 (E7 0 1 5 6) (C0 ?_))
  refine F2 (α := Nat × Nat × List (List Value) × Mem) (fun y => [(0, v), (1, .func (.func f) #[] cs.toArray), (5, .int .i64 ((y.2.1 : Nat) : Int)), (6, .int .i64 ((y.1 : Nat) : Int))]) (fun y => y.2.2.2) (fun _ => []) (fun y => Dfs 2 p rows y.2.2.1 y.1 y.2.1 ∧ Sl 2 v rows.length y.2.2.1.flatten y.2.2.2) (fun y => rows.length - y.1) (i0 + 1, i0, rows, B) ⟨Dfs.init hl hi0 hp0 hq0, hs⟩ (E7 0 1 5 6) Fit.rfl (fun _ h => h) ?_
  rintro ⟨j, i, cur, Bc⟩ ⟨hD, hsc⟩
  dsimp only at hD hsc ⊢
  have hjn := hD.jn
  have hij := hD.ij
  have hcs := hD.cs
  refine A5 (A3 (mv_ (mv_ ?_)))
  refine A4 (I3 (sz := 2) rfl kR (hsc.rd (R := Bc) fun _ h => h)) rfl ?_
  refine A4 (F1 rfl rfl rfl) rfl ?_
  refine A0 (F7 0 1 5 6 19) ?_
  refine C8 rfl (fun hc => ?_) (fun hc => ?_)
  ·
   have hlt : j < rows.length := by simp at hc; omega
   obtain ⟨r, hr⟩ : ∃ r, rows[j]? = some r := ⟨_, List.getElem?_eq_getElem hlt⟩
   have hrc : cur[j]? = some r := hD.at_ hr
   have hrl : r.length = 2 := hcs r (List.mem_of_getElem? hrc)
   have hr1 : ∀ c ∈ r, c.oneCell' = true := fun c hc => h1 c (List.mem_flatten.2 ⟨r, List.mem_of_getElem? hr, hc⟩)
   obtain ⟨c0_, c1_, rfl⟩ : ∃ c0_ c1_, r = [c0_, c1_] := by match r, hrl with | [c0_, c1_], _ => exact ⟨c0_, c1_, rfl⟩
   refine A9 (nx (E7 0 1 5 6) (A5 (C0 (A3 (mv_ (mv_ ?_))))))
   refine A4 (I7 (sz := 2) (a := j) rfl rfl kR rfl (hsc.rd (R := Bc) fun _ h => h) hlt) rfl ?_
   refine A4 (A0F rfl kR (hsc.rd fun x hx => by simp [hx]) hcs (by decide) hrc) rfl ?_
   refine A6 rfl (C5 (cs := [.int .u32 0, .slice none 0 0]) kR rfl fun b7 => ?_)
   refine A6 rfl (A8 rfl rfl rfl kR (by rfl) hr1 UpC.upd ?_)
   refine A0 (F7 0 1 5 6 7) (A3 (mv_ ?_))
   refine A4 (qw_ 2) rfl ?_
   refine A6 rfl (A1X rfl (aS rfl a0) hc_ (B1F (hf j _ hr) SubC.sub) rfl ?_)
   refine A4 (A0e rfl) rfl ?_
   refine A0 (I5 0 1 5 6 7 29) ?_
   refine C8 rfl (fun hc => ?_) (fun hc => ?_)
   ·
    refine A3 (mv_ (mv_ ?_))
    refine A4 (qw_ 2) rfl ?_
    refine A4 (I7 (sz := 2) (a := i) rfl rfl kR rfl (hsc.rd (R := Bc) fun _ h => h) (by omega)) rfl ?_
    refine A6 rfl (B4k (sz := 2) (j := i) rfl rfl hsc hrl hr1 kR (by omega) PickC.perm fun B33 hs33 => ?_)
    refine A0 (E7 0 1 5 6) (C3 (mv_ ?_))
    refine A4 (E4 ((i + 1 : Nat) : Int) rfl rfl (G3 (by omega) (by omega) (by omega))) rfl ?_
    refine as_ (D0 (nb (nx (E7 0 1 5 6) (C3 (mv_ ?_)))))
    refine A4 (E4 ((j + 1 : Nat) : Int) rfl rfl (G3 (by omega) (by omega) (by omega))) rfl ?_
    refine as_ (D0 ?_)
    exact rn (j + 1, i + 1, cur.set i [c0_, c1_], B33) ⟨hD.keep hr (by simpa using hc), by rw [← B4j hcs rfl (by have := hD.cl; omega)]; exact hs33⟩ (by dsimp only; omega) (E7 0 1 5 6) (Fit.last PickC.perm) (fun _ h => h)
   ·
    refine A9 (nb (nx (E7 0 1 5 6) (C3 (mv_ ?_))))
    refine A4 (E4 ((j + 1 : Nat) : Int) rfl rfl (G3 (by omega) (by omega) (by omega))) rfl ?_
    refine as_ (D0 ?_)
    exact rn (j + 1, i, cur, Bc) ⟨hD.skip hlt (by simpa using hc), hsc⟩ (by dsimp only; omega) (E7 0 1 5 6) (Fit.last PickC.perm) (fun _ h => h)
  ·
   have hge : j = rows.length := by simp at hc; omega
   subst hge
   refine E6 (te (re (be rfl (nx (D5 0 5) (A3 (mv_ (mv_ ?_)))))))
   refine A4 (A7Z (sz := 2) rfl rfl kR rfl (by first | assumption | exact Sl.rd (by assumption) (fun _ h => h) | exact By.rd (by assumption)) (by omega)) rfl ?_
   refine A6 rfl (B4l (e := 134) (by_ := 32) (zs := (Builtin.zeroCells #[.int .u32 0, .slice none 0 0] (rows.length - i)).toList) rfl kR kR hsc (A4D (by simp [Value.oneCell']) (by simp) _) (by omega) PickC.perm fun B38 hs38 => ?_)
   refine A0 (D5 0 5) (A3 (mv_ (mv_ ?_)))
   refine A4 (A7Y (sz := 2) (a := i) rfl rfl kR rfl (hs38.rd (R := B38) fun _ h => h) (by omega)) rfl ?_
   refine as_ (A0 (D8 4) (C2 ?_))
   refine ⟨_, B38, [], I4 rfl rfl, Fit.none (Fit.last PickC.perm), ?_⟩
   have h2 := hs38.hi_app (by rw [A7P hcs, hD.cl]) (by omega)
   rw [A23 hcs, hD.ct] at h2
   rw [← hD.ki]
   exact h2

theorem N2 (s : Ps) (w : List Nat) : (H6 s w).ts.length ≤ s.ts.length + 2 := by
  unfold H6
  split
  · omega
  · have h1 := T6 (ts := s.ts) (ws := w)
    have h2 := A1r (ts := rdT s.ts w) (t := A9D ((rdI s.ts w : Nat) : Int))
    show (add (rdT s.ts w) _).length ≤ _
    omega
theorem A0U (s : Ps) (w : List Nat) : (H6 s w).n = s.n := by unfold H6; split <;> rfl
theorem B4o (s : Ps) (w m : List Nat) : (A5n s w m).ts.length ≤ s.ts.length + 2 := by
  unfold A5n
  split
  · omega
  · have h1 := T6 (ts := s.ts) (ws := w)
    have h2 := A1r (ts := rdT s.ts w) (t := A3S ((rdI s.ts w : Nat) : Int) m)
    show (add (rdT s.ts w) (A3S ((rdI s.ts w : Nat) : Int) m)).length ≤ _
    omega
theorem B9q (s : Ps) (w m : List Nat) : (A5n s w m).n = s.n := by unfold A5n; split <;> rfl
theorem A3O (s : Ps) (w : List Nat) : (K9 s w).length = 32 := by
  unfold K9
  split
  · exact A5l _ _
  · exact A0t _ (by decide)
noncomputable def B1I (k : Ks) (s : Ps) : Ps := A5n (H6 (D3 s) (D6 s)) k.sign (A5F k.next (K9 (D3 s) (D6 s)))
noncomputable def turnP (k : Ks) (s : Ps) : Pr := ⟨k.next, D6 s, B2k (H6 (D3 s) (D6 s)) k.sign (A5F k.next (K9 (D3 s) (D6 s)))⟩
def A9y (signed : List Pr) (x : Nm) : Bool := !decide (0 ≤ A1u (A13 x.n) signed)
noncomputable def V6 (k : Ks) (s : Ps) : Ks × Ps :=
  ({ k with signed := (turnP k s :: k.signed).take 2, next := k.next + 1, met := k.met.filter fun x => !A9y ((turnP k s :: k.signed).take 2) x }, B1I k s)
theorem B1J {l : List Pr} {rows : List (List Value)} {n b : Nat} {vi : Value} {A : Mem} (hR : RwL prR A rows l) (hvi : Cel vi [vi]) (hb : (b, blk [.int .u32 ((n : Nat) : Int), vi] 134) ∈ A) :
    ∀ (j : Nat) (r : List Value), rows[j]? = some r → FnV Tryz.prog 72 (.agg r.toArray :: [.pointer (some ⟨b, 0, none⟩)]) A (.bool ((fun j => (l[j]?.map (A13 n)).getD false) j)) := fun j r hr => by
  obtain ⟨x, hx, vs, vg, rfl, hs, hg, _⟩ := hR.of hr
  dsimp only
  rw [hx]
  exact A7y vs vg vi x n b _ hs hg hvi hb
theorem B7z (kb b n : Nat) (c0 c1 c2 c3 vq c5 c6 c7 vi : Value) (sg : List Pr) (rs : List (List Value)) (A : Mem) (hb : (b, blk [.pointer (some ⟨kb, 0, none⟩)] 35) ∈ A) (hkb : (kb, blk [c0, c1, c2, c3, vq, c5, c6, c7] 114) ∈ A) (hvi : Cel vi [vi]) (hv : Rd A 3 vq sg.length rs.flatten) (hR : RwL prR A rs sg) (hl : sg.length ≤ 1000000) : FnV Tryz.prog 70 [.agg #[.int .u32 ((n : Nat) : Int), vi], .pointer (some ⟨b, 0, none⟩)] A (.bool (!decide (0 ≤ A1u (A13 n) sg))) := by
 haveI := hv.cel
 refine FnX.enter (N := 11) Tryz.func70 rfl rfl rfl fun w => ?_
 refine C4 (D5 0 1) (A3 ?_)
 refine A6 rfl (bx_ fun b2 => ?_)
 refine as_ (A0 (D5 1 2) (A3 ?_))
 refine A4 (I2 rfl kR (mA hb) (by rfl)) rfl ?_
 refine A4 (F5 rfl) rfl ?_
 refine A4 (qf_ 4 4) rfl ?_
 refine A4 (I2 rfl kR (mA hkb) (by rfl)) rfl ?_
 refine A4 (A5c (aS rfl a0)) rfl ?_
 refine F8 (aS rfl (aS rfl a0)) kR (A5p vq rs 72 [.pointer (some ⟨b2, 0, none⟩)] (fun j => (sg[j]?.map (A13 n)).getD false) _ (by rw [hR.len]; exact hv.mono SubC.sub) (hR.lens prT) (by rw [hR.len]; omega) kR (B1J (hR.mono prT SubC.sub) hvi At.mem)) rfl ?_
 rw [hR.len]
 refine A4 (A0e rfl) rfl ?_
 refine as_ (A0 (D8 3) (C2 ?_))
 exact ⟨_, [], [], I4 rfl rfl, List.nil_sublist _, by simp, rfl, rfl, rfl⟩
theorem B1K {l : List Nm} {rows : List (List Value)} {kb b : Nat} {c0 c1 c2 c3 vq c5 c6 c7 : Value} {sg : List Pr} {rs : List (List Value)} {A : Mem} (hL : RwL nmR A rows l) (hb : (b, blk [.pointer (some ⟨kb, 0, none⟩)] 35) ∈ A) (hkb : (kb, blk [c0, c1, c2, c3, vq, c5, c6, c7] 114) ∈ A) (hv : Rd A 3 vq sg.length rs.flatten) (hR : RwL prR A rs sg) (hl : sg.length ≤ 1000000) :
    ∀ (j : Nat) (r : List Value), rows[j]? = some r → FnV Tryz.prog 70 (.agg r.toArray :: [.pointer (some ⟨b, 0, none⟩)]) A (.bool ((fun j => (l[j]?.map (A9y sg)).getD false) j)) := fun j r hr => by
  obtain ⟨x, hx, vi, rfl, hi, _⟩ := hL.of hr
  dsimp only
  rw [hx]
  exact B7z kb b x.n c0 c1 c2 c3 vq c5 c6 c7 vi sg rs A hb hkb hi.cel hv hR hl
theorem B9r (kb pb : Nat) (k : Ks) (s : Ps) (MK MP A : Mem) (hK : Kys A kb k MK) (hP : Prm pb s MP) (hn : s.ts.length + 100 ≤ 1048576) (hk : s.n < 1000000000) (hnx : k.next + 100 < 4000000000) (hG : Glb A) : FnX Tryz.prog 24 [.pointer (some ⟨kb, 0, none⟩), .pointer (some ⟨pb, 0, none⟩)] (MK ++ MP) A fun q M J => ∃ MK2 MP2, M = MK2 ++ MP2 ∧ Kys (J ++ A) kb (V6 k s).1 MK2 ∧ Prm pb (V6 k s).2 MP2 := by
 obtain ⟨va, vg, vq, vo, vm, rs, ro, rm, Bs, Bo, Bm, rfl, hva, hvg, hss, hrs, hso, hro, hsm, hrm, hn1, hn2, hn3, hn4⟩ := hK.ex
 haveI := hva.cel
 haveI := hvg.cel
 have fl := K8 s
 have pl := N2 (D3 s) (D6 s)
 have pkl := A3O (D3 s) (D6 s)
 haveI := hss.cel
 haveI := hso.cel
 haveI := hsm.cel
 refine FnX.enterZ (N := 68) Tryz.func24 rfl rfl rfl fun w_ => ?_
 refine C4 (D5 0 1) (A3 ?_)
 refine A6 rfl (bx_ fun b2 => ?_)
 refine A0 (D5 1 2) (A5 (A3 ?_))
 refine A4 ql_ rfl ?_
 refine A4 (F0 (e := 114) rfl rfl kR) rfl ?_
 refine A0 (E1 1 2 6) ?_
 refine D4 rfl ?_
 refine A9 (nx (D5 1 2) ?_)
 refine H5 (MP) (_) true (.range 8) (zp 0 [1, 0, 0, 1, 0, 3, 3, 4, 2]) kR kR PickC.perm fun hs K n0 hKm hKs hKn => ?_
 refine P0 hs rfl hKs ql_ ?_
 refine I0 hs rfl (F5 rfl) rfl ?_
 refine I0 hs rfl (qf_ 6 6) rfl ?_
 refine P0 hs rfl hKs ql_ ?_
 refine km_ hs ?_
 refine A0S [⟨5, 12, none, MP, fun v B R => Prm pb (D3 (s)) B ∧ By R v (D6 (s))⟩, ⟨6, 13, none, [], fun v B R => B = [] ∧ ∃ u, v = .agg [.int .u32 ((k.next : Nat) : Int), u, .slice none 0 0].toArray ∧ By R u (D6 s)⟩, ⟨7, 4, none, [], fun v B _ => ∃ b, v = .pointer (some ⟨b, 0, none⟩) ∧ B = [(b, blk [.int .u32 0, .slice none 0 0, .slice none 0 0] 110)]⟩] ((b2, blk [.pointer (some ⟨kb, 0, none⟩)] 35) :: ((kb, blk [.int .i64 k.user, .int .i64 k.dev, va, vg, vq, vo, .int .u32 ((k.next : Nat) : Int), vm] 114) :: (Bs ++ (Bo ++ Bm)))) (fun bs => [bs 5, bs 6, bs 7]) (hKn rfl) (by simp [A0y, A1V]) (show ∀ m ∈ ([MP, [], []] : List Mem), ∀ x ∈ m, K x.1 from C1 (hKm) (C1 (fun _ h => by cases h) (C1 (fun _ h => by cases h) (K3)))) kR (fun _ => by first | rfl | kernel_rfl)
  (C1 (fun _ _ _ _ h hp => ⟨hp.1, hp.2.mono h⟩) (C1 (fun _ _ _ _ h ⟨p1, u, p2, p3⟩ => ⟨p1, u, p2, p3.mono h⟩) (C1 (fun _ _ _ _ h hp => hp) (K3)))) (show List.Nodup [12, 13, 4] by decide) (show List.Nodup [5, 6, 7] by decide) (C1 (C7 rfl) (C1 (C7 rfl) (C1 (C7 rfl) (K3))))
  (C1 ⟨_, rfl, fun vs bs R Rj wG hb hj hjr ha => ⟨.inl rfl, ?_⟩⟩ (C1 ⟨_, rfl, fun vs bs R Rj wG hb hj hjr ha => ⟨.inl rfl, ?_⟩⟩ (C1 ⟨_, rfl, fun vs bs R Rj wG hb hj hjr ha => ⟨.inl rfl, ?_⟩⟩ (K3)))) ?_
 ·
  dsimp only [Gc.inp]
  refine E0 (Mc := MP) (R := []) (aS rfl a0) kR (by simp) (U4 pb (s) MP _ hP (by omega) (by omega) (hG.sub fun x hx => by have := hb x (by simp [hx]); simp [this])) rfl ?_
  rintro v12 M12 J12 ⟨hP12, h12⟩
  exact ⟨_, rfl, by simpa using hP12, h12.mono fun x hx => by simp [hx]⟩
 ·
  dsimp only [Gc.inp]
  have g5 := ha _ (List.mem_of_getElem? (i := 0) rfl) kR
  replace g5 : (fun v B R => Prm pb (D3 (s)) B ∧ By R v (D6 (s))) (vs 5) (bs 5) Rj := g5
  dsimp only at g5
  obtain ⟨hP12, h12⟩ := g5
  haveI := h12.cel
  exact OpQ.opL (F3 (place := fun x => #[(0, 1), (1, 1), (2, 1)][x]?) (z := [.int .u32 0, .slice none 0 0, .slice none 0 0]) (fun _ => by kernel_rfl) (eS rfl (eS rfl e0)) (bdS 0 1 rfl (by rfl) (bdS 1 1 rfl (by rfl) bd0))) rfl ⟨_, rfl, rfl, _, rfl, h12⟩
 ·
  dsimp only [Gc.inp]
  exact C5 (cs := [.int .u32 0, .slice none 0 0, .slice none 0 0]) kR rfl fun b => ⟨_, rfl, b, rfl, rfl⟩
 intro vs bs Jn0 hφ hKK
 have kk5 := hKK _ (List.mem_of_getElem? (i := 0) rfl)
 dsimp only at kk5
 have kk6 := hKK _ (List.mem_of_getElem? (i := 1) rfl)
 dsimp only at kk6
 have kk7 := hKK _ (List.mem_of_getElem? (i := 2) rfl)
 dsimp only at kk7
 clear hKK
 have g5 := ofH hφ
 dsimp only at g5
 replace hφ := ofT hφ
 have g6 := ofH hφ
 dsimp only at g6
 replace hφ := ofT hφ
 have g7 := ofH hφ
 dsimp only at g7
 clear hφ
 dsimp only [S7, A0y, List.foldr, List.map, List.cons_append, List.nil_append]
 generalize bs 5 = B12 at *
 generalize bs 6 = B13 at *
 generalize bs 7 = B4 at *
 generalize vs 5 = u12 at *
 generalize vs 6 = u13 at *
 generalize vs 7 = u4 at *
 obtain ⟨hP12, h12⟩ := g5
 obtain ⟨b4, rfl, rfl⟩ := g7
 obtain ⟨rfl, u, rfl, h12⟩ := g6
 haveI := h12.cel
 refine A1m (M' := B12 ++ ((b4, blk [.int .u32 0, .slice none 0 0, .slice none 0 0] 110) :: (b2, blk [.pointer (some ⟨kb, 0, none⟩)] 35) :: ((kb, blk [.int .i64 k.user, .int .i64 k.dev, va, vg, vq, vo, .int .u32 ((k.next : Nat) : Int), vm] 114) :: (Bs ++ (Bo ++ Bm))))) (by simp) ?_
 refine N5 rfl rfl rfl (A8 (vs := [.int .u32 ((k.next : Nat) : Int), u, .slice none 0 0]) rfl rfl rfl kR (by rfl) (by intro c hc; simp only [List.mem_cons, List.not_mem_nil, or_false] at hc; rcases hc with rfl | rfl | rfl; rfl; exact h12.one; rfl) UpC.upd ?_)
 refine N6 (E1 1 2 4) ?_
 refine H5 (B12) (_) true (.range 14) (zp 0 [0, 1, 0, 0, 1, 0, 1, 0, 0, 1, 2, 2, 2, 0, 2]) kR kR PickC.perm fun hs K n0 hKm hKs hKn => ?_
 refine km_ hs ?_
 refine P0 hs rfl hKs ql_ ?_
 refine I0 hs rfl (F5 rfl) rfl ?_
 refine I0 hs rfl (qf_ 3 3) rfl ?_
 refine P0 hs rfl hKs ql_ ?_
 refine I0 hs rfl (qf_ 0 0) rfl ?_
 refine P0 hs rfl hKs ql_ ?_
 refine km_ hs ?_
 refine I0 hs rfl (qf_ 1 1) rfl ?_
 refine P0 hs rfl hKs ql_ ?_
 refine K0 _ _ rfl rfl (List.Perm.refl _) hKm fun w0 => (E0 (Mc := B12) (R := _) (aS rfl (aS rfl a0)) kR PickC.perm (W5 pb (D3 s) u (D6 s) B12 _ hP12 (by omega) (h12.mono SubC.sub) hG.up) rfl ?_)
 rintro v24 M24 J24 ⟨hP24, h24⟩ hKx
 haveI := h24.cel
 refine A1m (M' := M24 ++ ((b4, blk [.int .u32 ((k.next : Nat) : Int), u, .slice none 0 0] 110) :: (b2, blk [.pointer (some ⟨kb, 0, none⟩)] 35) :: ((kb, blk [.int .i64 k.user, .int .i64 k.dev, va, vg, vq, vo, .int .u32 ((k.next : Nat) : Int), vm] 114) :: (Bs ++ (Bo ++ Bm))))) (by simp) ?_
 generalize hpk : K9 (D3 s) (D6 s) = pk at *
 generalize hps : H6 (D3 s) (D6 s) = s2 at *
 refine K0 [] _ rfl rfl (List.Perm.refl _) (fun _ h => by cases h) fun w0 => (D7 (aS rfl (aS rfl a0)) kR (A6E k.next v24 pk _ (by omega) (h24.mono SubC.sub) (by omega)) rfl ?_)
 rintro v25 M25 J25 ⟨rfl, h25⟩ _
 haveI := h25.cel
 generalize hms : A5F k.next pk = wm at *
 dsimp only [List.nil_append, List.append_eq]
 refine K0 M24 _ rfl rfl PickC.perm (fun x hx => hKx (hKn rfl) x (by simpa using hx)) fun w0 => (E0 (Mc := M24) (R := _) (aS rfl (aS rfl (aS rfl a0))) kR PickC.perm (B7h pb s2 vg v25 k.sign wm M24 _ hP24 (by omega) (hvg.mono SubC.sub) (h25.mono SubC.sub) hG.up) rfl ?_)
 rintro v26 M26 J26 ⟨hP26, h26⟩ hKx
 haveI := h26.cel
 refine I0 hs rfl (qf_ 2 2) rfl ?_
 refine N5 rfl rfl rfl (D9 rfl rfl h26.one kR SetC.set UpC.upd ?_)
 refine N6 (D5 2 4) (A3 ?_)
 refine A4 ql_ rfl ?_
 refine A4 (F5 rfl) rfl ?_
 refine A4 (qf_ 6 6) rfl ?_
 refine A4 ql_ rfl ?_
 refine A4 (A7X 4294967296 (a := k.next) (b := 1) rfl rfl rfl rfl rfl rfl (by omega)) rfl ?_
 refine A4 (F5 rfl) rfl ?_
 refine A4 (qf_ 6 6) rfl ?_
 refine A6 rfl (D9 rfl rfl rfl kR SetC.set UpC.upd ?_)
 refine A0 (D5 2 4) ?_
 refine H5 ([]) (_) true (.range 10) [(0, 1), (1, 1), (3, 1), (4, 0), (5, 0), (6, 1), (2, 2), (7, 2), (8, 0), (9, 0), (10, 2)] kR kR PickC.perm fun hs K n0 hKm hKs hKn => ?_
 refine P0 hs rfl hKs ql_ ?_
 refine P0 hs rfl hKs (qw_ 3) ?_
 refine P0 hs rfl hKs ql_ ?_
 refine I0 hs rfl (F5 rfl) rfl ?_
 refine I0 hs rfl (qf_ 4 4) rfl ?_
 refine P0 hs rfl hKs ql_ ?_
 refine K0 [] _ rfl rfl (List.Perm.refl _) (fun _ h => by cases h) fun w0 => (C6 (e := 110) (sz := 3) (z := [.int .u32 0, .slice none 0 0, .slice none 0 0]) kR (eS rfl e0) (bdS 0 3 rfl (by rfl) bd0) rfl fun b37 => fun hk37 => ?_)
 dsimp only [List.cons_append, List.nil_append, List.append_eq]
 refine K0 [(b37, blk [.int .u32 ((k.next : Nat) : Int), u, v26] 110)] _ rfl rfl PickC.perm (fun x hx => hk37 (hKn rfl) x (by simpa using hx)) fun w0 => (I8 (e := 110) (sz := 3) (by_ := 56) rfl rfl kR rfl (Sl.fresh (n := 1) (cs := [.int .u32 ((k.next : Nat) : Int), u, v26]) (e := 110) rfl (by decide)) (hss.rd fun x hx => by simp [hx]) (hrs.ones prT) PickC.perm (by unfold maxLen; omega) (by omega) rfl fun v42 B42 hs42 => fun _ => ?_)
 haveI := hs42.cel
 refine I0 hs rfl (F5 rfl) rfl ?_
 refine I0 hs rfl (qf_ 4 4) rfl ?_
 refine N5 rfl rfl rfl (D9 rfl rfl hs42.one kR SetC.set UpC.upd ?_)
 refine N6 (D8 2) ?_
 refine D2 (.range 14) (zp 0 [1, 1, 0, 0, 1, 1, 0, 0, 1, 0, 0, 0, 0, 0, 2]) kR kR fun hs => ?_
 refine F6 hs rfl ql_ rfl ?_
 refine F6 hs rfl ql_ rfl ?_
 refine D1 hs rfl (F5 rfl) rfl ?_
 refine D1 hs rfl (qf_ 4 4) rfl ?_
 refine F6 hs rfl ql_ rfl ?_
 refine F6 hs rfl ql_ rfl ?_
 refine D1 hs rfl (F5 rfl) rfl ?_
 refine D1 hs rfl (qf_ 4 4) rfl ?_
 refine F6 hs rfl ql_ rfl ?_
 refine D1 hs rfl (I3 (sz := 3) rfl kR (hs42.rd (R := B42) fun _ h => h)) rfl ?_
 refine D1 hs rfl (B70 rfl rfl) rfl ?_
 refine D1 hs rfl (A7Y (sz := 3) (a := min 2 (1 + k.signed.length)) rfl rfl kR (by omega) (hs42.rd (R := B42) fun _ h => h) (by omega)) rfl ?_
 have hs6 := hs42.hiV (min 2 (1 + k.signed.length)) (by omega)
 generalize vHi (min 2 (1 + k.signed.length)) v42 = vq6 at *
 haveI := hs6.cel
 obtain ⟨tp, htp⟩ : ∃ tp, turnP k s = tp := ⟨_, rfl⟩
 have htq : tp = ⟨k.next, D6 s, B2k s2 k.sign wm⟩ := by rw [← htp]; unfold turnP; rw [hpk, hps, hms]
 have hrow : prR (J26 ++ (J25 ++ (J24 ++ (Jn0 ++ A)))) tp [.int .u32 ((k.next : Nat) : Int), u, v26] := ⟨u, v26, by rw [htq], by rw [htq]; exact h12.mono SubC.sub, by rw [htq]; exact h26.mono SubC.sub, by rw [htq]; dsimp only; omega⟩
 have hRs : RwL prR (J26 ++ (J25 ++ (J24 ++ (Jn0 ++ A)))) (([.int .u32 ((k.next : Nat) : Int), u, v26] :: rs).take 2) ((tp :: k.signed).take 2) := (RwL.cons hrow (hrs.mono prT SubC.sub)).take 2
 have hl6 : ((tp :: k.signed).take 2).length = min 2 (1 + k.signed.length) := by rw [List.length_take, List.length_cons]; omega
 have hSg : Sl 3 vq6 ((tp :: k.signed).take 2).length (([.int .u32 ((k.next : Nat) : Int), u, v26] :: rs).take 2).flatten B42 := by
  have e1 : [.int .u32 ((k.next : Nat) : Int), u, v26] ++ rs.flatten = ([.int .u32 ((k.next : Nat) : Int), u, v26] :: rs).flatten := rfl
  have e2 : min 2 (1 + k.signed.length) = min 2 ([.int .u32 ((k.next : Nat) : Int), u, v26] :: rs).length := by rw [List.length_cons, hrs.len]; omega
  rw [e1, A23 ((RwL.cons hrow (hrs.mono prT SubC.sub)).lens prT), e2, ← List.take_eq_take_min, ← e2, ← hl6] at hs6
  exact hs6
 refine D1 hs rfl (F5 rfl) rfl ?_
 refine D1 hs rfl (qf_ 4 4) rfl ?_
 refine G2 rfl rfl rfl (D9 rfl rfl hs6.one kR SetC.set UpC.upd ?_)
 refine E3 (D8 2) ?_
 refine X6 (Bm) (_) true (.range 9) (zp 0 [1, 1, 0, 0, 1, 0, 2, 0, 0, 2]) kR kR PickC.perm fun hs K n0 hKm hKs hKn => ?_
 refine P0 hs rfl hKs ql_ ?_
 refine P0 hs rfl hKs ql_ ?_
 refine I0 hs rfl (F5 rfl) rfl ?_
 refine I0 hs rfl (qf_ 7 7) rfl ?_
 refine P0 hs rfl hKs ql_ ?_
 refine I0 hs rfl (A5c (aS rfl a0)) rfl ?_
 refine K0 _ _ rfl rfl (List.Perm.refl _) hKm fun w0 => (E0 (Mc := Bm) (R := _) (aS rfl (aS rfl a0)) kR PickC.perm (by rw [← hrm.len] at hsm; exact A9x vm rm 70 [.pointer (some ⟨b2, 0, none⟩)] (fun j => (k.met[j]?.map (A9y ((tp :: k.signed).take 2))).getD false) Bm _ hsm (hrm.lens nmT) (hrm.ones nmT) (by rw [hrm.len]; omega) kR (B1K (hrm.mono nmT SubC.sub) At.mem At.mem (hSg.rd fun x hx => by simp [hx]) (hRs.mono prT SubC.sub) (by rw [hl6]; omega))) rfl ?_)
 rintro v65 M65 J65 h65 _
 haveI := h65.cel
 refine I0 hs rfl (F5 rfl) rfl ?_
 refine I0 hs rfl (qf_ 7 7) rfl ?_
 refine N5 rfl rfl rfl (D9 rfl rfl h65.one kR SetC.set UpC.upd ?_)
 refine A3f ?_
 have hkm := hrm.kpt (fun j => (k.met[j]?.map (A9y ((tp :: k.signed).take 2))).getD false) rm.length
 rw [A4w, hrm.len, List.take_length] at hkm
 rw [hrm.len] at h65
 have htK : V6 k s = ({ k with signed := (tp :: k.signed).take 2, next := k.next + 1, met := k.met.filter fun x => !A9y ((tp :: k.signed).take 2) x }, A5n s2 k.sign wm) := by unfold V6 B1I; rw [htp, hpk, hps, hms]
 rw [htK]
 have hkl : (k.met.filter fun x => !A9y ((tp :: k.signed).take 2) x).length ≤ 100000 := Nat.le_trans (List.length_filter_le _ _) hn4
 refine ⟨_, (kb, blk [.int .i64 k.user, .int .i64 k.dev, va, vg, vq6, vo, .int .u32 ((k.next + 1 : Nat) : Int), v65] 114) :: (B42 ++ (Bo ++ (M65 ++ M26))), [], B7P rfl, Fit.none (Fit.pick (B := [_]) PickC.perm (Fit.pick PickC.perm (Fit.pick PickC.perm (Fit.pick PickC.perm (Fit.last PickC.perm))))), (kb, blk [.int .i64 k.user, .int .i64 k.dev, va, vg, vq6, vo, .int .u32 ((k.next + 1 : Nat) : Int), v65] 114) :: (B42 ++ (Bo ++ M65)), M26, by simp, ⟨⟨va, vg, vq6, vo, v65, _, ro, _, B42, Bo, M65, rfl, hva.mono SubC.sub, hvg.mono SubC.sub, hSg, hRs.mono prT SubC.sub, hso, hro.mono prT SubC.sub, ?_, hkm.mono nmT SubC.sub, by dsimp only; omega, by dsimp only; rw [hl6]; omega, hn3, hkl⟩⟩, hP26⟩
 rw [hkm.len] at h65
 exact h65

end Go.Proofs.YthbhpfefdnffaaaGreatDoor
