/- Part 16 of the texts of this claim, one behind the other. -/
import Derived.Test.YthbhpfefdnffaaaGreatDoorB15
set_option linter.unusedVariables false
set_option linter.unusedSimpArgs false
set_option maxRecDepth 100000
namespace Go.Proofs.YthbhpfefdnffaaaGreatDoor
open Go.Px
structure Ks where
  user : Int
  dev : Int
  agree : List Nat
  sign : List Nat
  signed : List Pr
  once : List Pr
  next : Nat
  met : List Nm
def Z4 (n : Nat) (x : Pr) : Bool := decide (x.n = n)
def tstN (n : Nat) (w : List Nat) (x : Nm) : Bool := decide (x.n = n) && decide (x.id = w)
def A0S (l : List Pr) (n : Nat) : Option (List Nat) := if A1b (Z4 n) l < 0 then none else (l[(A1b (Z4 n) l).toNat]?).map (·.sec)
theorem A3J {l : List Pr} {n : Nat} (h : A1b (Z4 n) l = -1) : A0S l n = none := if_pos (by rw [h]; decide)
theorem Y9 {l : List Pr} {n i : Nat} {x : Pr} (h : A1b (Z4 n) l = (i : Int)) (hx : l[i]? = some x) : A0S l n = some x.sec := by
  unfold A0S; rw [h, if_neg (by omega), Int.toNat_natCast, hx]; rfl
def kyC (k : Ks) (va vg vs vo vm : Value) : List Value := [.int .i64 k.user, .int .i64 k.dev, va, vg, vs, vo, .int .u32 ((k.next : Nat) : Int), vm]
structure KyR (R : Mem) (kb : Nat) (k : Ks) (va vg vs vo vm : Value) (rs ro rm : List (List Value)) : Prop where
  blk_ : (kb, blk [.int .i64 k.user, .int .i64 k.dev, va, vg, vs, vo, .int .u32 ((k.next : Nat) : Int), vm] 114) ∈ R
  agree : By R va k.agree
  sign : By R vg k.sign
  signed : Rd R 3 vs k.signed.length rs.flatten
  signedR : RwL prR R rs k.signed
  once : Rd R 3 vo k.once.length ro.flatten
  onceR : RwL prR R ro k.once
  met : Rd R 2 vm k.met.length rm.flatten
  metR : RwL nmR R rm k.met
  next : k.next < 4294967296
  l1 : k.signed.length ≤ 1000000
  l2 : k.once.length ≤ 1000000
  l3 : k.met.length ≤ 1000000
theorem KyR.mono {R R' : Mem} {kb : Nat} {k : Ks} {va vg vs vo vm : Value} {rs ro rm : List (List Value)} (h : KyR R kb k va vg vs vo vm rs ro rm) (hR : ∀ x, x ∈ R → x ∈ R') : KyR R' kb k va vg vs vo vm rs ro rm :=
  ⟨hR _ h.blk_, h.agree.mono hR, h.sign.mono hR, h.signed.mono hR, h.signedR.mono prT hR, h.once.mono hR, h.onceR.mono prT hR, h.met.mono hR, h.metR.mono nmT hR, h.next, h.l1, h.l2, h.l3⟩
theorem B1B {l : List Pr} {rows : List (List Value)} {n b : Nat} {A : Mem} (hR : RwL prR A rows l) (hb : (b, blk [.int .u32 ((n : Nat) : Int)] 30) ∈ A) :
    ∀ (j : Nat) (r : List Value), rows[j]? = some r → FnV Tryz.prog 151 (.agg r.toArray :: [.pointer (some ⟨b, 0, none⟩)]) A (.bool ((fun j => (l[j]?.map (Z4 n)).getD false) j)) := fun j r hr => by
  obtain ⟨x, hx, vs, vg, rfl, hs, hg, _⟩ := hR.of hr
  dsimp only
  rw [hx]
  exact A9q vs vg x n b _ hs hg hb
theorem B9c (v : Value) (rows : List (List Value)) (l : List Pr) (n : Nat) (A : Mem) (hv : Rd A 3 v l.length rows.flatten) (hR : RwL prR A rows l) (hl : l.length ≤ 1000000) : FnX Tryz.prog 110 [v, .int .u32 ((n : Nat) : Int)] [] A fun r M J => M = [] ∧ ∃ q, r = .tuple #[q, .bool (A0S l n).isSome] ∧ By J q ((A0S l n).getD []) := by
 haveI := hv.cel
 refine FnX.enterZ (N := 18) Tryz.func110 rfl rfl rfl fun w_ => ?_
 refine C4 (D4 0 1) (A3 ?_)
 refine A6 rfl (bx_ fun b3 => ?_)
 refine as_ (as_ (A0 (D4 0 3) (A3 (mv_ ?_))))
 refine A4 (A2S (aS rfl a0)) rfl ?_
 refine G1 (aS rfl (aS rfl a0)) kR (A2j v rows 151 [.pointer (some ⟨b3, 0, none⟩)] (fun j => (l[j]?.map (Z4 n)).getD false) _ (by rw [hR.len]; exact hv.mono SubC.sub) (hR.lens prT) (by rw [hR.len]; omega) kR (B1B (hR.mono prT SubC.sub) At.mem)) rfl ?_
 rw [hR.len, show A4m (fun j => (l[j]?.map (Z4 n)).getD false) l.length = A1b (Z4 n) l from rfl]
 refine as_ (A0 (D4 0 6) (A5 (A3 (mv_ ?_))))
 refine A4 (F3 rfl rfl rfl) rfl ?_
 refine A0 (E1 0 6 11) ?_
 refine C6 rfl (fun hc => ?_) (fun hc => ?_)
 ·
  have hf : A1b (Z4 n) l = -1 := by
   obtain ⟨hf, hz⟩ | ⟨i, x, hf, hxi, hq, hmin⟩ := U5 (Z4 n) l
   · exact hf
   · rw [hf] at hc; (simp at hc) <;> omega
  refine A3 (as_ (as_ (A0 (D4 4 5) (C2 (tr ?_)))))
  exact ⟨_, [], [], A6M rfl rfl rfl, Fit.sub (List.nil_sublist _), rfl, _, by rw [A3J hf]; rfl, by rw [A3J hf]; exact By.nil⟩
 ·
  obtain ⟨hf, hz⟩ | ⟨i, x, hf, hxi, hq, hmin⟩ := U5 (Z4 n) l
  · rw [hf] at hc; simp at hc
  have hil := (List.getElem?_eq_some_iff.1 hxi).1
  rw [hf]
  obtain ⟨r, hr, vs, vg, rfl, hs, hg, hxn⟩ := hR.get i x hxi
  haveI := hs.cel
  refine A8 (nx (D4 0 6) (A3 (mv_ (mv_ ?_))))
  refine A4 (I4 (sz := 3) rfl rfl kR rfl hv hil) rfl ?_
  refine A4 (B4B (off := 1) rfl hv hil kR) rfl ?_
  refine A4 (B4C (u := vs) rfl (hv.mono SubC.sub) (by omega) kR (by rw [A2D (hR.lens prT) hr 1 (by decide)]; rfl)) rfl ?_
  refine D0 (aS rfl a0) kR (A1v vs x.sec _ (hs.mono SubC.sub)) rfl ?_
  rintro v17 M17 J17 ⟨rfl, h17⟩
  haveI := h17.cel
  refine as_ (as_ (A0 (D4 4 5) (C2 ?_)))
  exact ⟨_, [], [], A6M rfl rfl rfl, Fit.sub (List.nil_sublist _), rfl, _, by rw [Y9 hf hxi]; rfl, by rw [Y9 hf hxi]; exact h17.mono SubC.sub⟩
theorem B3Y (kb : Nat) (k : Ks) (va vg vs vo vm : Value) (rs ro rm : List (List Value)) (n : Nat) (A : Mem) (hK : KyR A kb k va vg vs vo vm rs ro rm) : FnX Tryz.prog 66 [.pointer (some ⟨kb, 0, none⟩), .int .u32 ((n : Nat) : Int)] [] A fun r M J => M = [] ∧ ∃ q, r = .tuple #[q, .bool (A0S k.signed n).isSome] ∧ By J q ((A0S k.signed n).getD []) := by
 have hkb := hK.blk_
 haveI := hK.agree.cel
 haveI := hK.sign.cel
 haveI := hK.signed.cel
 haveI := hK.once.cel
 haveI := hK.met.cel
 refine FnX.enterZ (N := 16) Tryz.func66 rfl rfl rfl fun w_ => ?_
 refine C4 (D4 0 1) (A3 (as_ (as_ (A0 (D4 0 1) (A5 (A3 (mv_ ?_)))))))
 refine A4 (F2 (e := 114) rfl rfl kR) rfl ?_
 refine A0 (E1 0 1 7) ?_
 refine D3 rfl ?_
 refine A8 (nx (D4 0 1) (A3 (mv_ ?_)))
 refine A4 (F5 rfl) rfl ?_
 refine A4 (qf_ 4 4) rfl ?_
 refine A4 (G8 rfl kR (mA hkb) (by rfl)) rfl ?_
 refine mv_ ?_
 refine D0 (aS rfl (aS rfl a0)) kR (B9c vs rs k.signed n _ (hK.signed.mono SubC.sub) (hK.signedR.mono prT SubC.sub) hK.l1) rfl ?_
 rintro r13 M13 J13 ⟨rfl, q, rfl, hq⟩
 haveI := hq.cel
 refine A4 (A2s rfl) rfl ?_
 refine A4 (A18 rfl) rfl ?_
 refine as_ (as_ (A0 (D4 4 5) (C2 ?_)))
 exact ⟨_, [], [], A6M rfl rfl rfl, Fit.sub (List.nil_sublist _), rfl, _, rfl, hq.mono SubC.sub⟩
theorem B9d (kb : Nat) (k : Ks) (va vg vs vo vm : Value) (rs ro rm : List (List Value)) (A : Mem) (hK : KyR A kb k va vg vs vo vm rs ro rm) : FnV Tryz.prog 26 [.pointer (some ⟨kb, 0, none⟩)] A (.int .i64 ((k.once.length : Nat) : Int)) := by
 have hkb := hK.blk_
 haveI := hK.agree.cel
 haveI := hK.sign.cel
 haveI := hK.signed.cel
 haveI := hK.once.cel
 haveI := hK.met.cel
 refine FnX.enter (N := 10) Tryz.func26 rfl rfl rfl fun w => ?_
 refine C4 (D5 0) (A3 (as_ (A0 (D5 0) (A5 (A3 (mv_ ?_))))))
 refine A4 (F2 (e := 114) rfl rfl kR) rfl ?_
 refine A0 (D4 0 4) ?_
 refine D3 rfl ?_
 refine A8 (nx (D5 0) (A3 (mv_ ?_)))
 refine A4 (F5 rfl) rfl ?_
 refine A4 (qf_ 5 5) rfl ?_
 refine A4 (G8 rfl kR (mA hkb) (by rfl)) rfl ?_
 refine A4 (H7 (sz := 3) rfl kR hK.once) rfl ?_
 refine as_ (A0 (D5 2) (C2 ?_))
 exact ⟨_, [], [], I0 rfl rfl, List.nil_sublist _, by simp, rfl, rfl, rfl⟩
theorem A8x (kb : Nat) (k : Ks) (va vg vs vo vm : Value) (rs ro rm : List (List Value)) (A : Mem) (hK : KyR A kb k va vg vs vo vm rs ro rm) : FnX Tryz.prog 61 [.pointer (some ⟨kb, 0, none⟩)] [] A fun r M J => M = [] ∧ By J r k.agree := by
 have hkb := hK.blk_
 haveI := hK.agree.cel
 haveI := hK.sign.cel
 haveI := hK.signed.cel
 haveI := hK.once.cel
 haveI := hK.met.cel
 refine FnX.enterZ (N := 10) Tryz.func61 rfl rfl rfl fun w_ => ?_
 refine C4 (D5 0) (A3 (as_ (A0 (D5 0) (A5 (A3 (mv_ ?_))))))
 refine A4 (F2 (e := 114) rfl rfl kR) rfl ?_
 refine A0 (D4 0 4) ?_
 refine D3 rfl ?_
 refine A8 (nx (D5 0) (A3 (mv_ ?_)))
 refine A4 (F5 rfl) rfl ?_
 refine A4 (qf_ 2 2) rfl ?_
 refine A4 (G8 rfl kR (mA hkb) (by rfl)) rfl ?_
 refine D0 (aS rfl a0) kR (A1v va k.agree _ (hK.agree.mono SubC.sub)) rfl ?_
 rintro r9 M9 J9 ⟨rfl, h9⟩
 haveI := h9.cel
 refine as_ (A0 (D5 2) (C2 ?_))
 exact ⟨_, [], [], I0 rfl rfl, Fit.sub (List.nil_sublist _), rfl, h9.mono SubC.sub⟩

def B3Z (a b : Nat) : Int := if a < b then -1 else if b < a then 1 else 0
theorem A7r {a b : Nat} (h : a < b) : B3Z a b = -1 := if_pos h
theorem A7s {a b : Nat} (h : b < a) : B3Z a b = 1 := by unfold B3Z; rw [if_neg (by omega), if_pos h]
theorem A7t {a b : Nat} (h : a = b) : B3Z a b = 0 := by unfold B3Z; rw [if_neg (by omega), if_neg (by omega)]
theorem B37 (a b : Nat) : K2 .lss .i64 (B3Z a b) 0 = some (.bool (decide (a < b))) := by
  rcases Nat.lt_trichotomy a b with h | h | h
  · rw [A7r h, decide_eq_true h]; rfl
  · rw [A7t h, decide_eq_false (by omega)]; rfl
  · rw [A7s h, decide_eq_false (by omega)]; rfl
theorem B39 (a b : Nat) : K2 .eql .i64 (B3Z a b) 0 = some (.bool (decide (a = b))) := by
  rcases Nat.lt_trichotomy a b with h | h | h
  · rw [A7r h, decide_eq_false (by omega)]; rfl
  · rw [A7t h, decide_eq_true h]; rfl
  · rw [A7s h, decide_eq_false (by omega)]; rfl
theorem lt32 (a b : Nat) : K2 .lss .u32 ((a : Nat) : Int) ((b : Nat) : Int) = some (.bool (decide (a < b))) := by
  by_cases h : a < b
  · rw [decide_eq_true h]; exact ltT (by omega)
  · rw [decide_eq_false h]; exact ltF (by omega)
theorem gt32 (a b : Nat) : K2 .gtr .u32 ((a : Nat) : Int) ((b : Nat) : Int) = some (.bool (decide (b < a))) := by
  by_cases h : b < a
  · rw [decide_eq_true h]; exact gtT (by omega)
  · rw [decide_eq_false h]; exact gtF (by omega)
def B1C (l : List Pr) : Prop := ∀ (i j : Nat) (x y : Pr), i < j → l[i]? = some x → l[j]? = some y → x.n < y.n
theorem B4a {l : List Pr} {n i : Nat} {x : Pr} (hx : l[i]? = some x) (hn : x.n = n) (h : ∀ (j : Nat) (y : Pr), j < i → l[j]? = some y → y.n < n) : A1b (Z4 n) l = (i : Int) := by
  have hil := (List.getElem?_eq_some_iff.1 hx).1
  refine A1S hil (fun j hj => ?_) (by rw [hx]; simp [Z4, hn])
  have hjl : j < l.length := by omega
  rw [List.getElem?_eq_getElem hjl]
  have := h j _ hj (List.getElem?_eq_getElem hjl)
  simp [Z4]; omega
theorem A9r {l : List Pr} {n : Nat} (h : ∀ (j : Nat) (y : Pr), l[j]? = some y → y.n ≠ n) : A1b (Z4 n) l = -1 := by
  refine A1T fun j hj => ?_
  rw [List.getElem?_eq_getElem hj]
  have := h j _ (List.getElem?_eq_getElem hj)
  simp [Z4, this]
structure BsR (l : List Pr) (n i : Nat) (b : Bool) : Prop where
  le : i ≤ l.length
  lt : ∀ (j : Nat) (y : Pr), j < i → l[j]? = some y → y.n < n
  ge : ∀ (j : Nat) (y : Pr), i ≤ j → l[j]? = some y → n ≤ y.n
  at_ : b = true ↔ ∃ x, l[i]? = some x ∧ x.n = n
theorem BsR.yes {l : List Pr} {n i : Nat} (h : BsR l n i true) : ∃ x, l[i]? = some x ∧ A1b (Z4 n) l = (i : Int) := by
  obtain ⟨x, hx, hn⟩ := h.at_.1 rfl
  exact ⟨x, hx, B4a hx hn h.lt⟩
theorem BsR.no {l : List Pr} {n i : Nat} (hr : B1C l) (h : BsR l n i false) : A1b (Z4 n) l = -1 := by
  refine A9r fun j y hy hn => ?_
  rcases Nat.lt_trichotomy j i with hj | hj | hj
  · have := h.lt j y hj hy; omega
  · subst hj
    have := h.at_.2 ⟨y, hy, hn⟩
    cases this
  · have hjl := (List.getElem?_eq_some_iff.1 hy).1
    have hil : i < l.length := by omega
    have h1 := h.ge i _ (Nat.le_refl _) (List.getElem?_eq_getElem hil)
    have h2 := hr i j _ y hj (List.getElem?_eq_getElem hil) hy
    omega
theorem A6D (x : Int) (A : Mem) : FnV Tryz.prog 152 [.int .u32 x] A (.bool false) := by
 refine FnX.enter (N := 6) Tryz.func152 rfl rfl rfl fun w => ?_
 refine C4 (D5 0) (A3 (as_ (A0 (D5 0) (A3 (mv_ (mv_ ?_))))))
 refine A4 (F9 false rfl rfl (neF rfl)) rfl ?_
 refine as_ (A0 (D5 2) (C2 ?_))
 exact ⟨_, [], [], I0 rfl rfl, List.nil_sublist _, by simp, rfl, rfl, rfl⟩
theorem A7u (a b : Nat) (A : Mem) : FnV Tryz.prog 113 [.int .u32 ((a : Nat) : Int), .int .u32 ((b : Nat) : Int)] A (.int .i64 (B3Z a b)) := by
 refine FnX.enter (N := 20) Tryz.func113 rfl rfl rfl fun w => ?_
 refine C4 (D4 0 1) (A3 (as_ (A0 (D4 0 1) (A3 (mv_ ?_)))))
 refine G1 (aS rfl a0) kR (A6D _ _) rfl ?_
 refine as_ (A0 (E1 0 1 5) (A3 (mv_ ?_)))
 refine G1 (aS rfl a0) kR (A6D _ _) rfl ?_
 refine as_ (A0 (E4 0 1 5 6) (A5 (A3 (mv_ (A0 (E4 0 1 6 11) ?_)))))
 refine D3 rfl ?_
 refine A8 (nx (E1 0 1 6) (A5 (A3 (mv_ (A0 (E1 0 1 13) ?_)))))
 refine D3 rfl ?_
 refine A8 (nx (D4 0 1) (A5 (A3 (mv_ (mv_ ?_)))))
 refine A4 (F9 (decide (a < b)) rfl rfl (lt32 _ _)) rfl ?_
 refine A0 (E1 0 1 16) ?_
 refine C6 rfl (fun hc => ?_) (fun hc => ?_)
 ·
  have hab : a < b := of_decide_eq_true hc
  refine A3 (as_ (A0 (D5 4) (C2 (tr ?_))))
  exact ⟨_, [], [], I0 rfl rfl, List.nil_sublist _, by simp, by rw [A7r hab], rfl, rfl⟩
 ·
  have hab : ¬ a < b := of_decide_eq_false hc
  refine A8 (nx (D4 0 1) (A5 (A3 (mv_ (mv_ ?_)))))
  refine A4 (F9 (decide (b < a)) rfl rfl (gt32 _ _)) rfl ?_
  refine A0 (D5 19) ?_
  refine C6 rfl (fun hc => ?_) (fun hc => ?_)
  ·
   have hba : b < a := of_decide_eq_true hc
   refine A3 (as_ (A0 (D5 4) (C2 (tr ?_))))
   exact ⟨_, [], [], I0 rfl rfl, List.nil_sublist _, by simp, by rw [A7s hba], rfl, rfl⟩
  ·
   have hba : ¬ b < a := of_decide_eq_false hc
   refine A8 (nx kn (A3 (as_ (A0 (D5 4) (C2 ?_)))))
   exact ⟨_, [], [], I0 rfl rfl, List.nil_sublist _, by simp, by rw [A7t (by omega)], rfl, rfl⟩
theorem A4q (vs vg : Value) (x : Pr) (n : Nat) (A : Mem) (hs : By A vs x.sec) (hg : By A vg x.sig) : FnV Tryz.prog 112 [.agg #[.int .u32 ((x.n : Nat) : Int), vs, vg], .int .u32 ((n : Nat) : Int)] A (.int .i64 (B3Z x.n n)) := by
 haveI := hs.cel
 haveI := hg.cel
 refine FnX.enter (N := 9) Tryz.func112 rfl rfl rfl fun w => ?_
 refine C4 (D4 0 1) (A3 ?_)
 refine A6 rfl (bx_ fun b2 => ?_)
 refine as_ (A0 (D4 1 2) (A3 ?_))
 refine A4 (qf_ 0 0) rfl ?_
 refine A4 ql_ rfl ?_
 refine mv_ ?_
 refine G1 (aS rfl (aS rfl a0)) kR (A7u x.n n _) rfl ?_
 refine as_ (A0 (D5 4) (C2 ?_))
 exact ⟨_, [], [], I0 rfl rfl, List.nil_sublist _, by simp, rfl, rfl, rfl⟩
theorem B1D (v : Value) (rows : List (List Value)) (l : List Pr) (n : Nat) (A : Mem) (hv : Rd A 3 v l.length rows.flatten) (hR : RwL prR A rows l) (hrise : B1C l) (hl : l.length ≤ 1000000) : FnX Tryz.prog 111 [v, .int .u32 ((n : Nat) : Int), .func (.func 112) #[] #[]] [] A fun r M J => M = [] ∧ J = [] ∧ ∃ i b, r = .tuple #[.int .i64 ((i : Nat) : Int), .bool b] ∧ BsR l n i b := by
  haveI := hv.cel
  refine FnX.enter (N := 49) Tryz.func111 rfl rfl rfl fun w => ?_
  refine C4 (E1 0 1 2) (A3 (as_ (as_ (A0 (E1 0 1 2) (A3 (mv_ ?_))))))
  refine A4 (H7 (sz := 3) rfl kR hv) rfl ?_
  refine as_ (A0 (E4 0 1 2 8) (A3 (mv_ (as_ (as_ (A0 (I1 0 1 2 8 9 10) (A5 (C0 ?_))))))))
  refine F1 (α := Nat × Nat) (fun y => [(0, v), (1, .int .u32 ((n : Nat) : Int)), (2, .func (.func 112) #[] #[]), (8, .int .i64 ((l.length : Nat) : Int)), (9, .int .i64 ((y.1 : Nat) : Int)), (10, .int .i64 ((y.2 : Nat) : Int))]) (fun _ => []) (fun _ => []) (fun y => y.1 ≤ y.2 ∧ y.2 ≤ l.length ∧ (∀ (j : Nat) (z : Pr), j < y.1 → l[j]? = some z → z.n < n) ∧ (∀ (j : Nat) (z : Pr), y.2 ≤ j → l[j]? = some z → n ≤ z.n)) (fun y => y.2 - y.1) (0, l.length) ⟨Nat.zero_le _, Nat.le_refl _, fun j z h => by omega, fun j z h1 h2 => by have := (List.getElem?_eq_some_iff.1 h2).1; omega⟩ (I1 0 1 2 8 9 10) .rfl (fun _ h => h) ?_
  rintro ⟨lo, hi⟩ ⟨h1, h2, h3, h4⟩
  dsimp only at h1 h2 h3 h4 ⊢
  refine A5 (A3 (mv_ (mv_ ?_)))
  refine A4 (F3 rfl rfl rfl) rfl ?_
  refine A0 (V5 0 1 2 8 9 10 17) ?_
  refine C6 rfl (fun hc => ?_) (fun hc => ?_)
  ·
    have hlt : lo < hi := by simp at hc; omega
    obtain ⟨h, hh⟩ : ∃ h, (lo + hi) / 2 ^ 1 = h := ⟨_, rfl⟩
    have hh1 : lo ≤ h ∧ h < hi := by omega
    obtain ⟨x, hx⟩ : ∃ x, l[h]? = some x := ⟨_, List.getElem?_eq_getElem (by omega)⟩
    obtain ⟨r, hr, vs, vg, rfl, hs_, hg_, hxn⟩ := hR.get h x hx
    haveI := hs_.cel
    haveI := hg_.cel
    refine A8 (nx (I1 0 1 2 8 9 10) (C0 (A3 (mv_ (mv_ ?_)))))
    refine A4 (E3 ((lo + hi : Nat) : Int) rfl rfl (G2 (by omega) (by omega) (by omega))) rfl ?_
    refine A4 (P8 (k' := .u64) (lo + hi) rfl kR (A4A (by omega) (by omega))) rfl ?_
    refine A4 (hh ▸ A2t (a := lo + hi) (b := 1) rfl rfl rfl rfl (by decide)) rfl ?_
    refine A4 (P8 (k' := .i64) h rfl kR (A15 (by omega))) rfl ?_
    refine as_ (A0 (V5 0 1 2 8 9 10 11) (A3 (mv_ (mv_ (mv_ ?_)))))
    refine A4 (I4 (sz := 3) rfl rfl kR rfl hv (show h < l.length by omega)) rfl ?_
    refine A4 (A0c rfl kR (hv.mono SubC.sub) (hR.lens prT) (by decide) hr) rfl ?_
    refine mv_ ?_
    refine A6 rfl (A04 rfl (aS rfl (aS rfl a0)) kR (A4q vs vg x n _ (hs_.mono SubC.sub) (hg_.mono SubC.sub)) rfl ?_)
    refine A4 (F9 (decide (x.n < n)) rfl rfl (B37 _ _)) rfl ?_
    refine A0 (A12 0 1 2 8 9 10 11 31) ?_
    refine C6 rfl (fun hc => ?_) (fun hc => ?_)
    ·
      have hxl : x.n < n := of_decide_eq_true hc
      refine C3 (mv_ ?_)
      refine A4 (E3 ((h + 1 : Nat) : Int) rfl rfl (G2 (by omega) (by omega) (by omega))) rfl ?_
      refine as_ (C9 (nb ?_))
      exact rn (h + 1, hi) ⟨by dsimp only; omega, h2, fun j z hj hz => by
        dsimp only at hj
        rcases Nat.lt_or_ge j h with hjh | hjh
        · have := hrise j h z x hjh hz hx; omega
        · obtain rfl : j = h := by omega
          rw [hx] at hz; cases hz; exact hxl, h4⟩ (by dsimp only; omega) (I1 0 1 2 8 9 10) .rfl (fun _ h => h)
    ·
      have hxl : ¬ x.n < n := of_decide_eq_false hc
      refine C3 (mv_ (as_ (C9 (nb ?_))))
      exact rn (lo, h) ⟨by dsimp only; omega, by dsimp only; omega, h3, fun j z hj hz => by
        dsimp only at hj
        rcases Nat.lt_or_ge h j with hjh | hjh
        · have := hrise h j x z hjh hx hz; omega
        · obtain rfl : j = h := by omega
          rw [hx] at hz; cases hz; omega⟩ (by dsimp only; omega) (I1 0 1 2 8 9 10) .rfl (fun _ h => h)
  ·
    have hlt : lo = hi := by simp at hc; omega
    subst hlt
    refine E5 (te (re (be rfl (nx (F7 0 1 2 8 9) (A3 (mv_ (mv_ (mv_ ?_))))))))
    refine A4 (F3 rfl rfl rfl) rfl ?_
    refine mv_ ?_
    refine U7 (t := 39) rfl (fun hb => ?_) (fun hb => ?_)
    ·
      have hlo : lo < l.length := by simp at hb; omega
      obtain ⟨x, hx⟩ : ∃ x, l[lo]? = some x := ⟨_, List.getElem?_eq_getElem hlo⟩
      obtain ⟨r, hr, vs, vg, rfl, hs_, hg_, hxn⟩ := hR.get lo x hx
      haveI := hs_.cel
      haveI := hg_.cel
      refine F4 rfl rfl (OpQ.opL qm_ rfl ?_)
      refine F4 rfl rfl (OpQ.opL qm_ rfl ?_)
      refine F4 rfl rfl (OpQ.opL qm_ rfl ?_)
      refine F4 rfl rfl (OpQ.opL (I4 (sz := 3) rfl rfl kR rfl hv hlo) rfl ?_)
      refine F4 rfl rfl (OpQ.opL (A0c rfl kR (hv.mono SubC.sub) (hR.lens prT) (by decide) hr) rfl ?_)
      refine F4 rfl rfl (OpQ.opL qm_ rfl ?_)
      refine F4 rfl rfl (A04 rfl (aS rfl (aS rfl a0)) kR (A4q vs vg x n _ (hs_.mono SubC.sub) (hg_.mono SubC.sub)) rfl ?_)
      refine F4 rfl rfl (OpQ.opL (F9 (decide (x.n = n)) rfl rfl (B39 _ _)) rfl ?_)
      refine A4 (H5 rfl rfl) rfl ?_
      refine as_ (as_ (A0 (D4 6 7) (C2 ?_)))
      exact ⟨_, [], [], A6M rfl rfl rfl, List.nil_sublist _, by simp, rfl, rfl, lo, _, rfl, h2, h3, h4, by rw [hx]; simp⟩
    ·
      have hlo : ¬ lo < l.length := by simp at hb; omega
      refine K5 rfl rfl rfl rfl ?_
      refine K5 rfl rfl rfl rfl ?_
      refine K5 rfl rfl rfl rfl ?_
      refine K5 rfl rfl rfl rfl ?_
      refine K5 rfl rfl rfl rfl ?_
      refine K5 rfl rfl rfl rfl ?_
      refine K5 rfl rfl rfl rfl ?_
      refine K5 rfl rfl rfl rfl ?_
      refine A4 (E7 rfl rfl) rfl ?_
      refine as_ (as_ (A0 (D4 6 7) (C2 ?_)))
      exact ⟨_, [], [], A6M rfl rfl rfl, List.nil_sublist _, by simp, rfl, rfl, lo, _, rfl, h2, h3, h4, by rw [List.getElem?_eq_none (by omega)]; simp⟩
theorem B5r (kb : Nat) (k : Ks) (va vg vs vo vm : Value) (rs ro rm : List (List Value)) (n : Nat) (A : Mem) (hK : KyR A kb k va vg vs vo vm rs ro rm) (hrise : B1C k.once) : FnX Tryz.prog 67 [.pointer (some ⟨kb, 0, none⟩), .int .u32 ((n : Nat) : Int)] [] A fun r M J => M = [] ∧ ∃ q, r = .tuple #[q, .bool (A0S k.once n).isSome] ∧ By J q ((A0S k.once n).getD []) := by
 have hkb := hK.blk_
 haveI := hK.agree.cel
 haveI := hK.sign.cel
 haveI := hK.signed.cel
 haveI := hK.once.cel
 haveI := hK.met.cel
 refine FnX.enterZ (N := 30) Tryz.func67 rfl rfl rfl fun w_ => ?_
 refine C4 (D4 0 1) (A3 (as_ (as_ (A0 (D4 0 1) (A5 (A3 (mv_ ?_)))))))
 refine A4 (F2 (e := 114) rfl rfl kR) rfl ?_
 refine A0 (E1 0 1 9) ?_
 refine D3 rfl ?_
 refine A8 (nx (D4 0 1) (A3 (mv_ ?_)))
 refine A4 (F5 rfl) rfl ?_
 refine A4 (qf_ 5 5) rfl ?_
 refine A4 (G8 rfl kR (mA hkb) (by rfl)) rfl ?_
 refine mv_ ?_
 refine D0 (aS rfl (aS rfl (aS rfl a0))) kR (B1D vo ro k.once n _ (hK.once.mono SubC.sub) (hK.onceR.mono prT SubC.sub) hrise hK.l2) rfl ?_
 rintro r16 M16 J16 ⟨rfl, rfl, i, b, rfl, hb⟩
 refine mv_ ?_
 refine A4 (A2s rfl) rfl ?_
 refine A4 (A18 rfl) rfl ?_
 refine as_ (as_ (A0 (E1 0 6 7) (A5 ?_)))
 cases b
 ·
  have hf := hb.no hrise
  refine A3 (mv_ ?_)
  refine A4 (W4 rfl) rfl ?_
  refine A0 (E1 0 6 20) ?_
  refine E2 rfl ?_
  refine A3 (as_ (as_ (A0 (D4 4 5) (C2 (tr ?_)))))
  exact ⟨_, [], [], A6M rfl rfl rfl, Fit.sub (List.nil_sublist _), rfl, _, by rw [A3J hf]; rfl, by rw [A3J hf]; exact By.nil⟩
 ·
  obtain ⟨x, hx, hf⟩ := hb.yes
  have hil := (List.getElem?_eq_some_iff.1 hx).1
  obtain ⟨r, hr, vs_, vg_, rfl, hs_, hg_, hxn⟩ := hK.onceR.get i x hx
  haveI := hs_.cel
  refine A3 (mv_ ?_)
  refine A4 (W4 rfl) rfl ?_
  refine A0 (E1 0 6 20) ?_
  refine D3 rfl ?_
  refine A8 (nx (D4 0 6) (A3 (mv_ ?_)))
  refine A4 (F5 rfl) rfl ?_
  refine A4 (qf_ 5 5) rfl ?_
  refine A4 (G8 rfl kR (mA hkb) (by rfl)) rfl ?_
  refine mv_ ?_
  refine A4 (I4 (sz := 3) rfl rfl kR rfl hK.once hil) rfl ?_
  refine A4 (B4B (off := 1) rfl hK.once hil kR) rfl ?_
  refine A4 (B4C (u := vs_) rfl (hK.once.mono SubC.sub) (by omega) kR (by rw [A2D (hK.onceR.lens prT) hr 1 (by decide)]; rfl)) rfl ?_
  refine D0 (aS rfl a0) kR (A1v vs_ x.sec _ (hs_.mono SubC.sub)) rfl ?_
  rintro r29 M29 J29 ⟨rfl, h29⟩
  haveI := h29.cel
  refine as_ (as_ (A0 (D4 4 5) (C2 ?_)))
  exact ⟨_, [], [], A6M rfl rfl rfl, Fit.sub (List.nil_sublist _), rfl, _, by rw [Y9 hf hx]; rfl, by rw [Y9 hf hx]; exact h29.mono SubC.sub⟩

structure Kys (R : Mem) (kb : Nat) (k : Ks) (M : Mem) : Prop where
  ex : ∃ (va vg vs vo vm : Value) (rs ro rm : List (List Value)) (Bs Bo Bm : Mem), M = (kb, blk [.int .i64 k.user, .int .i64 k.dev, va, vg, vs, vo, .int .u32 ((k.next : Nat) : Int), vm] 114) :: (Bs ++ (Bo ++ Bm)) ∧
    By R va k.agree ∧ By R vg k.sign ∧ Sl 3 vs k.signed.length rs.flatten Bs ∧ RwL prR R rs k.signed ∧ Sl 3 vo k.once.length ro.flatten Bo ∧ RwL prR R ro k.once ∧ Sl 2 vm k.met.length rm.flatten Bm ∧ RwL nmR R rm k.met ∧ k.next < 4294967296 ∧ k.signed.length ≤ 2 ∧ k.once.length ≤ 100 ∧ k.met.length ≤ 100000
theorem Kys.mono {R R' : Mem} {kb : Nat} {k : Ks} {M : Mem} (h : Kys R kb k M) (hR : ∀ x, x ∈ R → x ∈ R') : Kys R' kb k M := by
  obtain ⟨va, vg, vs, vo, vm, rs, ro, rm, Bs, Bo, Bm, h1, h2, h3, h4, h5, h6, h7, h8, h9, h10⟩ := h.ex
  exact ⟨va, vg, vs, vo, vm, rs, ro, rm, Bs, Bo, Bm, h1, h2.mono hR, h3.mono hR, h4, h5.mono prT hR, h6, h7.mono prT hR, h8, h9.mono nmT hR, h10⟩
theorem Kys.r {R : Mem} {kb : Nat} {k : Ks} {M : Mem} (h : Kys R kb k M) : ∃ va vg vs vo vm rs ro rm, ∀ R', (∀ x, x ∈ R → x ∈ R') → (∀ x, x ∈ M → x ∈ R') → KyR R' kb k va vg vs vo vm rs ro rm := by
  obtain ⟨va, vg, vs, vo, vm, rs, ro, rm, Bs, Bo, Bm, rfl, h2, h3, h4, h5, h6, h7, h8, h9, h10, h11, h12, h13⟩ := h.ex
  refine ⟨va, vg, vs, vo, vm, rs, ro, rm, fun R' hR hM => ⟨hM _ List.mem_cons_self, h2.mono hR, h3.mono hR, h4.rd fun x hx => hM x (by simp [hx]), h5.mono prT hR, h6.rd fun x hx => hM x (by simp [hx]), h7.mono prT hR, h8.rd fun x hx => hM x (by simp [hx]), h9.mono nmT hR, by omega, by omega, by omega, by omega⟩⟩
noncomputable def fillI (k : Ks) (s : Ps) : Nat → Ks × Ps
  | 0 => (k, s)
  | i + 1 => ({ (fillI k s i).1 with once := (fillI k s i).1.once ++ [⟨(fillI k s i).1.next, E8 (fillI k s i).2, []⟩], next := (fillI k s i).1.next + 1 }, D7 (fillI k s i).2)
theorem A4r (k : Ks) (s : Ps) : ∀ i, (fillI k s i).1.once.length = k.once.length + i
  | 0 => rfl
  | i + 1 => by simp [fillI, A4r k s i]; omega
theorem A0k (k : Ks) (s : Ps) : ∀ i, (fillI k s i).1.next = k.next + i
  | 0 => rfl
  | i + 1 => by simp [fillI, A0k k s i]; omega
theorem A5m (k : Ks) (s : Ps) : ∀ i, (fillI k s i).1 = { k with once := (fillI k s i).1.once, next := k.next + i }
  | 0 => rfl
  | i + 1 => by
    have h := A5m k s i
    have hn := A0k k s i
    simp only [fillI, hn]
    rw [h]
    simp [Nat.add_assoc]
theorem L3 (s : Ps) : (D7 s).ts.length ≤ s.ts.length + 1 ∧ (D7 s).n = s.n + 1 := by
  unfold D7
  split
  · exact ⟨by simp, rfl⟩
  · refine ⟨?_, rfl⟩
    show (add s.ts _).length ≤ _
    unfold add
    split <;> simp
theorem A2T (k : Ks) (s : Ps) : ∀ i, (fillI k s i).2.ts.length ≤ s.ts.length + i ∧ (fillI k s i).2.n = s.n + i
  | 0 => ⟨Nat.le_refl _, rfl⟩
  | i + 1 => by
    have h := A2T k s i
    have h2 := L3 (fillI k s i).2
    simp only [fillI]
    omega
noncomputable def A1Y (k : Ks) (s : Ps) : Ks × Ps := fillI k s (4 - k.once.length)
theorem B9e (kb pb : Nat) (k : Ks) (s : Ps) (MK MP A : Mem) (hK : Kys A kb k MK) (hP : Prm pb s MP) (hn : s.ts.length + 100 ≤ 1048576) (hk : s.n < 1000000000) (hnx : k.next + 100 < 4000000000) (hG : Glb A) : FnX Tryz.prog 65 [.pointer (some ⟨kb, 0, none⟩), .pointer (some ⟨pb, 0, none⟩)] (MK ++ MP) A fun q M J => q = .int .i64 ((4 - k.once.length : Nat) : Int) ∧ ∃ MK2 MP2, M = MK2 ++ MP2 ∧ Kys (J ++ A) kb (A1Y k s).1 MK2 ∧ Prm pb (A1Y k s).2 MP2 := by
 obtain ⟨va, vg, vs, vo, vm, rs, ro, rm, Bs, Bo, Bm, rfl, hva, hvg, hss, hrs, hso, hro, hsm, hrm, hn1, hn2, hn3, hn4⟩ := hK.ex
 haveI := hva.cel
 haveI := hvg.cel
 haveI := hss.cel
 haveI := hso.cel
 haveI := hsm.cel
 refine FnX.enterZ (N := 42) Tryz.func65 rfl rfl rfl fun w_ => ?_
 refine C4 (D4 0 1) (A3 (as_ (A0 (D4 0 1) (A3 (as_ (A0 (E1 0 1 5) (A5 ?_)))))))
 refine C0 ?_
 refine F1 (α := Nat × (Value × List (List Value) × Mem) × Mem × Mem) (fun y => [(0, .pointer (some ⟨kb, 0, none⟩)), (1, .pointer (some ⟨pb, 0, none⟩)), (5, .int .i64 ((y.1 : Nat) : Int))]) (fun y => (kb, blk [.int .i64 k.user, .int .i64 k.dev, va, vg, vs, y.2.1.1, .int .u32 ((k.next + y.1 : Nat) : Int), vm] 114) :: (Bs ++ (y.2.1.2.2 ++ (Bm ++ y.2.2.1)))) (fun y => y.2.2.2) (fun y => y.1 + k.once.length ≤ max 4 k.once.length ∧ Sl 3 y.2.1.1 (k.once.length + y.1) y.2.1.2.1.flatten y.2.1.2.2 ∧ RwL prR (y.2.2.2 ++ A) y.2.1.2.1 (fillI k s y.1).1.once ∧ Prm pb (fillI k s y.1).2 y.2.2.1) (fun y => 4 - (k.once.length + y.1)) (0, (vo, ro, Bo), MP, []) ⟨by dsimp only; omega, hso, hro, hP⟩ (E1 0 1 5) (Fit.pick (B := [_]) PickC.perm (Fit.pick PickC.perm (Fit.pick PickC.perm (Fit.pick PickC.perm (Fit.last PickC.perm))))) (fun _ h => h) ?_
 rintro ⟨i, ⟨voi, roi, Boi⟩, MPi, Ji⟩ ⟨hi, hsi, hri, hPi⟩
 dsimp only at hi hsi hri hPi ⊢
 haveI := hsi.cel
 have hps := A2T k s i
 have hnx := A0k k s i
 have hol := A4r k s i
 refine A5 (A3 (mv_ ?_))
 refine A4 (A8P (e := 114) rfl rfl kR) rfl ?_
 refine mv_ ?_
 refine F4 rfl rfl (OpQ.opL qm_ rfl ?_)
 refine F4 rfl rfl (OpQ.opL (F5 rfl) rfl ?_)
 refine F4 rfl rfl (OpQ.opL (qf_ 5 5) rfl ?_)
 refine F4 rfl rfl (OpQ.opL ql_ rfl ?_)
 refine F4 rfl rfl (OpQ.opL (H7 (sz := 3) rfl kR (hsi.rd (R := Boi) fun _ h => h)) rfl ?_)
 refine F4 rfl rfl (OpQ.opL (F3 rfl rfl rfl) rfl ?_)
 refine A4 (H5 rfl rfl) rfl ?_
 refine A0 (E4 0 1 5 15) ?_
 refine C6 rfl (fun hc => ?_) (fun hc => ?_)
 ·
  have hlt : k.once.length + i < 4 := by simp at hc; omega
  refine A8 (nx (E1 0 1 5) (A5 (C0 ?_)))
  refine I2 (MPi) (_) true [0, 1, 2, 3, 4, 5, 6, 7, 8, 9, 10, 11, 12, 14, 15] (zp 0 [0, 0, 0, 0, 1, 0, 0, 0, 1, 0, 2, 0, 2, 2, 0, 0, 2]) kR kR PickC.perm fun hs K n0 hKm hKs hKn => ?_
  refine km_ hs ?_
  refine km_ hs ?_
  refine K6 hs rfl (F5 rfl) rfl ?_
  refine K6 hs rfl (qf_ 5 5) rfl ?_
  refine Q5 hs rfl hKs ql_ ?_
  refine km_ hs ?_
  refine K6 hs rfl (F5 rfl) rfl ?_
  refine K6 hs rfl (qf_ 6 6) rfl ?_
  refine Q5 hs rfl hKs ql_ ?_
  refine km_ hs ?_
  refine K8 _ _ rfl rfl (List.Perm.refl _) hKm fun w0 => (D9 (Mc := MPi) (R := _) (aS rfl a0) kR PickC.perm (A0e pb (fillI k s i).2 MPi _ hPi (by omega) (by omega) hG.up) rfl ?_)
  rintro v28 M28 J28 ⟨hP28, h28⟩ hKx
  haveI := h28.cel
  refine K6 hs rfl (F8 (place := fun x => #[(0, 1), (1, 1), (2, 1)][x]?) (z := [.int .u32 0, .slice none 0 0, .slice none 0 0]) (fun _ => by kernel_rfl) (eS rfl (eS rfl e0)) (bdS 0 1 rfl (by rfl) (bdS 1 1 rfl (by rfl) bd0))) rfl ?_
  refine K8 [] _ rfl rfl (List.Perm.refl _) (fun _ h => by cases h) fun w0 => (C7 (e := 110) (sz := 3) (z := [.int .u32 0, .slice none 0 0, .slice none 0 0]) kR (eS rfl e0) (bdS 0 3 rfl (by rfl) bd0) rfl fun b30 => fun _ => ?_)
  refine A0M (M' := (b30, blk [.int .u32 ((k.next + i : Nat) : Int), v28, .slice none 0 0] 110) :: (M28 ++ ((kb, blk [.int .i64 k.user, .int .i64 k.dev, va, vg, vs, voi, .int .u32 ((k.next + i : Nat) : Int), vm] 114) :: (Bs ++ (Boi ++ (Bm ++ [])))))) (by simp) ?_
  refine XK.tl rfl rfl rfl (I8 (e := 110) (sz := 3) (by_ := 56) rfl rfl kR rfl hsi (Rd.whole (n := 1) At.mem (by rfl)) (by intro c hc; simp only [List.mem_cons, List.not_mem_nil, or_false] at hc; rcases hc with rfl | rfl | rfl; rfl; exact h28.one; rfl) PickC.perm (by unfold maxLen; omega) (by omega) rfl fun v31 B31 hs31 => ?_)
  haveI := hs31.cel
  refine K6 hs rfl (F5 rfl) rfl ?_
  refine K6 hs rfl (qf_ 5 5) rfl ?_
  refine XK.tl rfl rfl rfl (D8 rfl rfl hs31.one kR SetC.set UpC.upd ?_)
  refine P7 (E1 0 1 5) (C3 (mv_ ?_))
  refine A4 (F5 rfl) rfl ?_
  refine A4 (qf_ 6 6) rfl ?_
  refine A4 ql_ rfl ?_
  refine A4 (A7R 4294967296 (a := k.next + i) (b := 1) rfl rfl rfl rfl rfl rfl (by omega)) rfl ?_
  refine A4 (F5 rfl) rfl ?_
  refine A4 (qf_ 6 6) rfl ?_
  refine A6 rfl (D8 rfl rfl rfl kR SetC.set UpC.upd ?_)
  refine C9 (nb (nx (E1 0 1 5) (C3 (mv_ ?_))))
  refine A4 (E3 ((i + 1 : Nat) : Int) rfl rfl (G2 (by omega) (by omega) (by omega))) rfl ?_
  refine as_ (C9 ?_)
  exact rn (i + 1, (v31, roi ++ [[.int .u32 ((k.next + i : Nat) : Int), v28, .slice none 0 0]], B31), _, _) ⟨by dsimp only; omega, by simpa [Nat.add_assoc] using hs31, (hri.mono prT SubC.sub).snoc ⟨v28, .slice none 0 0, by rw [hnx], h28.mono SubC.sub, By.nil, by dsimp only; omega⟩, hP28⟩ (by dsimp only; omega) (E1 0 1 5) (Fit.pick (B := [_]) PickC.perm (Fit.pick PickC.perm (Fit.pick PickC.perm (Fit.pick PickC.perm (Fit.last PickC.perm))))) (fun _ h => h)
 ·
  have hge : 4 ≤ k.once.length + i := by simp at hc; omega
  obtain rfl : i = 4 - k.once.length := by omega
  refine E5 (te (re (be rfl (nx (D5 5) (A3 (mv_ (as_ (A0 (D5 4) ?_))))))))
  refine C2 ?_
  have hfe := A5m k s (4 - k.once.length)
  refine ⟨_, (kb, blk [.int .i64 k.user, .int .i64 k.dev, va, vg, vs, voi, .int .u32 ((k.next + (4 - k.once.length) : Nat) : Int), vm] 114) :: (Bs ++ (Boi ++ (Bm ++ MPi))), [], I0 rfl rfl, Fit.none (Fit.eq (by simp)), rfl, (kb, blk [.int .i64 k.user, .int .i64 k.dev, va, vg, vs, voi, .int .u32 ((k.next + (4 - k.once.length) : Nat) : Int), vm] 114) :: (Bs ++ (Boi ++ Bm)), MPi, by simp, ⟨⟨va, vg, vs, voi, vm, rs, roi, rm, Bs, Boi, Bm, ?_⟩⟩, hPi⟩
  unfold A1Y
  rw [hfe]
  exact ⟨rfl, hva.mono SubC.sub, hvg.mono SubC.sub, hss, hrs.mono prT SubC.sub, by show Sl 3 voi (fillI k s (4 - k.once.length)).1.once.length _ _; rw [hol]; exact hsi, hri, hsm, hrm.mono nmT SubC.sub, by dsimp only; omega, hn2, by show (fillI k s (4 - k.once.length)).1.once.length ≤ 100; rw [hol]; omega, hn4⟩

end Go.Proofs.YthbhpfefdnffaaaGreatDoor
namespace Go.Px
theorem A8y {rows : List (List Value)} {sz : Nat} {r : List Value} (hl : ∀ r ∈ rows, r.length = sz) (hr : r.length = sz) {j : Nat} (hj : j < rows.length) :
    rows.flatten.take (j * sz) ++ r ++ rows.flatten.drop (j * sz + sz) = (rows.set j r).flatten := by
  rw [show j * sz + sz = (j + 1) * sz from by rw [Nat.add_mul, Nat.one_mul], A1C hl, A5D hl, List.set_eq_take_append_cons_drop, if_pos hj]
  simp
section
variable {C : Cx} {l : Env} {M J : Mem} {K : Env → Mem → Mem → Prop} {ty t : TypeId} {pos : String} {af : Array Edge} {g : Option (Nat × Bool)} {x y : Operand} {v : Value} {xs : List Value} {n j sz : Nat} {B M0 : Mem}
theorem A8z {r : List Value} (hx : ev l x = some (vAt sz j v)) (hy : ev l y = some (.agg r.toArray)) (h : Sl sz v n xs B) (hr : r.length = sz) (h1 : ∀ u ∈ r, u.oneCell' = true)
    (ht : P4 C.P t = some sz) (hj : j < n) (hM : M.Perm (B ++ M0)) (h2 : ∀ B', Sl sz v n (xs.take (j * sz) ++ r ++ xs.drop (j * sz + sz)) B' → K l (B' ++ M0) J) :
    OpL C ⟨none, .store t x y, ty, pos, af, g⟩ l M J K := by
  suffices hh : OpL C ⟨none, .store t x y, ty, pos, af, g⟩ l (B ++ M0) J K from fun Qp a w ha hw => hh Qp a w ha (hw.fit (Fit.perm hM) fun _ h => h)
  clear hM
  subst hr
  have hjm : j * r.length + r.length ≤ n * r.length := by rw [← Nat.succ_mul]; exact Nat.mul_le_mul_right _ hj
  rcases h with ⟨p, rfl, rfl, hx2, rfl⟩ | ⟨b, o, cap, cs, e, rfl, rfl, h3, h4, h5, h6, h7⟩
  · omega
  · simp only [vAt, Addr.add_mid] at hx
    have hcm : n * r.length ≤ cap * r.length := Nat.mul_le_mul_right _ h3
    refine A4x hx hy rfl ht (by omega) h1 rfl .hd (h2 [_] (.inr ⟨b, o, cap, _, e, rfl, rfl, h3, h4, ?_, ?_, ?_⟩))
    · rw [A0X (by omega)]; exact h5
    · rw [A0X (by omega)]; exact h6
    · intro q u hq
      have hlt := (List.getElem?_eq_some_iff.1 hq).1
      rw [A0X (by omega)] at hlt
      by_cases hq1 : q < j * r.length
      · rw [A2Z (by omega) hq1] at hq
        rw [A2Z (by omega) (by omega)]
        exact h7 q u hq
      · by_cases hq2 : q < j * r.length + r.length
        · rw [A14 (by omega) (by omega) hq2] at hq
          rw [A14 (by omega) (by omega) (by omega), ← hq]
          congr 1; omega
        · rw [A5B (by omega) (by omega)] at hq
          rw [A5B (by omega) (by omega)]
          exact h7 q u hq
theorem A8A {e : TypeId} {by_ : Nat} {zs : List Value} (hx : ev l x = some (vLo j sz v)) (ht : A2X C.P t = some (e, sz, by_)) (hz : zn C.P t (n - j) = some zs) (h : Sl sz v n xs B)
    (h1 : ∀ c ∈ zs, c.oneCell' = true) (hj : j < n) (hM : M.Perm (B ++ M0)) (h2 : ∀ B', Sl sz v n (xs.take (j * sz) ++ zs) B' → K l (B' ++ M0) J) :
    OpL C ⟨none, .call { callee := .builtin .clear, args := #[x], argTypes := #[t] }, ty, pos, af, g⟩ l M J K := by
  suffices hh : OpL C ⟨none, .call { callee := .builtin .clear, args := #[x], argTypes := #[t] }, ty, pos, af, g⟩ l (B ++ M0) J K from fun Qp a w ha hw => hh Qp a w ha (hw.fit (Fit.perm hM) fun _ h => h)
  clear hM
  have hzl := B4q hz ht
  have hjm : j * sz ≤ n * sz := Nat.mul_le_mul_right _ (by omega)
  rw [Nat.sub_mul] at hzl
  rcases h with ⟨p, rfl, rfl, hx2, rfl⟩ | ⟨b, o, cap, cs, e', rfl, rfl, h3, h4, h5, h6, h7⟩
  · omega
  · have hcm : n * sz ≤ cap * sz := Nat.mul_le_mul_right _ h3
    simp only [vLo, if_neg (show ¬ cap = j by omega), Option.map_some, Addr.add_mid] at hx
    have hnj : (n - j) * sz = zs.length := by rw [hzl, Nat.sub_mul]
    refine B5B hx ht hz h1 (by rw [hnj]; omega) rfl .hd (h2 [_] (.inr ⟨b, o, cap, _, e', rfl, rfl, h3, h4, ?_, ?_, ?_⟩))
    · rw [hnj, A0X (by omega)]; exact h5
    · simp; omega
    · intro q u hq
      have hlt := (List.getElem?_eq_some_iff.1 hq).1
      simp at hlt
      rw [hnj]
      by_cases hq1 : q < j * sz
      · rw [A2Z (by omega) (by omega)]
        rw [List.getElem?_append_left (by simp; omega), List.getElem?_take_of_lt hq1] at hq
        exact h7 q u hq
      · rw [A14 (by omega) (by omega) (by omega)]
        rw [List.getElem?_append_right (by simp; omega)] at hq
        rw [← hq]
        congr 1
        simp; omega
end
def kpt {β : Type} (p : Nat → Bool) (rows : List β) : Nat → List β
  | 0 => []
  | j + 1 => kpt p rows j ++ (if p j then [] else rows[j]?.toList)
theorem A5n {β : Type} {p : Nat → Bool} {rows : List β} : ∀ j, (∀ i, i < j → p i = false) → kpt p rows j = rows.take j
  | 0, _ => by simp [kpt]
  | j + 1, h => by
    rw [kpt, A5n j fun i hi => h i (by omega), if_neg (by rw [h j (by omega)]; decide), List.take_add_one]
theorem A2k {α : Type} (q : α → Bool) (xs : List α) : ∀ j, kpt (fun i => (xs[i]?.map q).getD false) xs j = (xs.take j).filter fun x => !q x
  | 0 => by simp [kpt]
  | j + 1 => by
    rw [kpt, A2k q xs j, List.take_add_one, List.filter_append]
    congr 1
    cases h : xs[j]? with
    | none => simp
    | some x => cases hq : q x <;> simp [hq]
theorem RwL.kpt {α : Type} {φ : Mem → α → List Value → Prop} {R : Mem} {rows : List (List Value)} {xs : List α} (h : RwL φ R rows xs) (p : Nat → Bool) : ∀ j, RwL φ R (Px.kpt p rows j) (Px.kpt p xs j)
  | 0 => RwL.nil
  | j + 1 => by
    rw [Px.kpt, Px.kpt]
    refine (RwL.kpt h p j).app ?_
    split
    · exact RwL.nil
    · cases hx : xs[j]? with
      | none =>
        have : rows[j]? = none := by rw [List.getElem?_eq_none_iff] at hx ⊢; rw [h.len]; exact hx
        rw [this]; exact RwL.nil
      | some x =>
        obtain ⟨r, h1, h2⟩ := h.get j x hx
        rw [h1]
        exact RwL.cons h2 RwL.nil
theorem B4b {α : Type} {cur : List α} {i : Nat} {r : α} (h : i < cur.length) : (cur.set i r).take (i + 1) = cur.take i ++ [r] := by
  rw [List.take_add_one, List.getElem?_set_self h, List.take_set_of_le (Nat.le_refl _)]
  rfl
theorem Sl.hi_app {sz n i : Nat} {v : Value} {xs zs : List Value} {B : Mem} (h : Sl sz v n (xs.take (i * sz) ++ zs) B) (hx : xs.length = n * sz) (hi : i ≤ n) : Sl sz (vHi i v) i (xs.take (i * sz)) B := by
  have h2 := h.hiV i hi
  have h3 : i * sz ≤ n * sz := Nat.mul_le_mul_right _ hi
  rwa [List.take_left' (by rw [List.length_take]; omega)] at h2
structure Dfs (sz : Nat) (p : Nat → Bool) (rows cur : List (List Value)) (j i : Nat) : Prop where
  jn : j ≤ rows.length
  ki : i = (kpt p rows j).length
  ij : i < j
  cl : cur.length = rows.length
  ct : cur.take i = kpt p rows j
  cd : cur.drop j = rows.drop j
  cs : ∀ r ∈ cur, r.length = sz
  cr : ∀ r ∈ cur, r ∈ rows
section
variable {sz : Nat} {p : Nat → Bool} {rows cur : List (List Value)} {j i i0 : Nat} {r : List Value}
theorem Dfs.init (hl : ∀ r ∈ rows, r.length = sz) (hi : i0 < rows.length) (hp : p i0 = true) (hq : ∀ j, j < i0 → p j = false) : Dfs sz p rows rows (i0 + 1) i0 := by
  have hk0 : kpt p rows (i0 + 1) = rows.take i0 := by rw [kpt, hp, A5n i0 hq]; simp
  exact ⟨hi, by rw [hk0, List.length_take]; omega, by omega, rfl, hk0.symm, rfl, hl, fun _ h => h⟩
theorem Dfs.at_ (h : Dfs sz p rows cur j i) (hr : rows[j]? = some r) : cur[j]? = some r := by
  have h2 := congrArg (fun l => l[0]?) h.cd
  simpa [List.getElem?_drop, hr] using h2
theorem Dfs.keep (h : Dfs sz p rows cur j i) (hr : rows[j]? = some r) (hp : p j = false) : Dfs sz p rows (cur.set i r) (j + 1) (i + 1) := by
  obtain ⟨h1, h2, h3, h4, h5, h6, h7, h8⟩ := h
  have hjl := (List.getElem?_eq_some_iff.1 hr).1
  have hk : kpt p rows (j + 1) = kpt p rows j ++ [r] := by rw [kpt, hp, hr]; rfl
  have hcj : cur.drop (j + 1) = rows.drop (j + 1) := by rw [← List.drop_drop, ← List.drop_drop, h6]
  refine ⟨hjl, by rw [hk]; simp [← h2], by omega, by simp [h4], ?_, ?_, ?_, ?_⟩
  · rw [B4b (by omega), h5, hk]
  · rw [List.drop_set_of_lt (by omega), hcj]
  · intro x hx
    rcases List.mem_or_eq_of_mem_set hx with hx | hx
    · exact h7 x hx
    · subst hx; exact h7 x (List.mem_of_getElem? (Dfs.at_ ⟨h1, h2, h3, h4, h5, h6, h7, h8⟩ hr))
  · intro x hx
    rcases List.mem_or_eq_of_mem_set hx with hx | hx
    · exact h8 x hx
    · subst hx; exact List.mem_of_getElem? hr
theorem Dfs.skip (h : Dfs sz p rows cur j i) (hjl : j < rows.length) (hp : p j = true) : Dfs sz p rows cur (j + 1) i := by
  obtain ⟨h1, h2, h3, h4, h5, h6, h7, h8⟩ := h
  have hk : kpt p rows (j + 1) = kpt p rows j := by rw [kpt, hp]; simp
  exact ⟨hjl, by rw [hk]; exact h2, by omega, h4, by rw [hk]; exact h5, by rw [← List.drop_drop, ← List.drop_drop, h6], h7, h8⟩
end
end Go.Px

namespace Go.Proofs.YthbhpfefdnffaaaGreatDoor
open Go.Px
theorem A8B {k : IntKind} (c : Int) : K2 .eql k c (-1) = some (.bool (decide (c = -1))) := by
  by_cases h : c = -1
  · rw [decide_eq_true h]; exact eqT h
  · rw [decide_eq_false h]; exact eqF h
theorem A9s (v : Value) (rows : List (List Value)) (f : FuncId) (cs : List Value) (p : Nat → Bool) (B A : Mem) (hs : Sl 3 v rows.length rows.flatten B) (hl : ∀ r ∈ rows, r.length = 3) (h1 : ∀ c ∈ rows.flatten, c.oneCell' = true) (hn : rows.length ≤ 1099511627776) (hc_ : I7 Tryz.prog f = true) (hf : ∀ (j : Nat) (r : List Value), rows[j]? = some r → FnV Tryz.prog f (.agg r.toArray :: cs) A (.bool (p j))) : FnX Tryz.prog 74 [v, .func (.func f) #[] cs.toArray] B A fun q M J => Sl 3 q (kpt p rows rows.length).length (kpt p rows rows.length).flatten M := by
 haveI := hs.cel
 refine FnX.enterZ (N := 42) Tryz.func74 rfl rfl rfl fun w_ => ?_
 refine C4 (D4 0 1) (A3 (as_ (A0 (D4 0 1) (A3 (mv_ (mv_ ?_))))))
 refine G1 (aS rfl (aS rfl a0)) kR (A2j v rows f cs p _ (hs.rd fun x hx => by simp [hx]) hl hn hc_ (fun j r hr => A6C (hf j r hr) SubC.sub)) rfl ?_
 refine as_ (A0 (E1 0 1 5) (A5 (A3 (mv_ ?_))))
 refine A4 (F9 (decide (A4m p rows.length = -1)) rfl rfl (A8B _)) rfl ?_
 refine A0 (E4 0 1 5 12) ?_
 refine C6 rfl (fun hc => ?_) (fun hc => ?_)
 ·
  have hm1 : A4m p rows.length = -1 := of_decide_eq_true hc
  have hall : ∀ i, i < rows.length → p i = false := by rcases A0i p rows.length with ⟨_, h⟩ | ⟨i, _, h, _, _⟩; exact h; omega
  refine A3 (mv_ (as_ (A0 (D5 4) (C2 (tr ?_)))))
  refine ⟨_, B, [], I0 rfl rfl, Fit.none (Fit.last PickC.perm), ?_⟩
  rw [A5n _ hall, List.take_length]
  exact hs
 ·
  have hne : ¬ A4m p rows.length = -1 := of_decide_eq_false hc
  obtain ⟨i0, hi0, he0, hp0, hq0⟩ : ∃ i, i < rows.length ∧ A4m p rows.length = (i : Int) ∧ p i = true ∧ ∀ j, j < i → p j = false := (A0i p rows.length).resolve_left fun h => hne h.1
  rw [he0]
  refine A8 (nx (E1 0 1 5) (A5 (A3 (mv_ ?_))))
  refine A4 (E3 ((i0 + 1 : Nat) : Int) rfl rfl (G2 (by omega) (by omega) (by omega))) rfl ?_
  refine as_ (A0 (E4 0 1 5 6) (C0 ?_))
  refine F1 (α := Nat × Nat × List (List Value) × Mem) (fun y => [(0, v), (1, .func (.func f) #[] cs.toArray), (5, .int .i64 ((y.2.1 : Nat) : Int)), (6, .int .i64 ((y.1 : Nat) : Int))]) (fun y => y.2.2.2) (fun _ => []) (fun y => Dfs 3 p rows y.2.2.1 y.1 y.2.1 ∧ Sl 3 v rows.length y.2.2.1.flatten y.2.2.2) (fun y => rows.length - y.1) (i0 + 1, i0, rows, B) ⟨Dfs.init hl hi0 hp0 hq0, hs⟩ (E4 0 1 5 6) Fit.rfl (fun _ h => h) ?_
  rintro ⟨j, i, cur, Bc⟩ ⟨hD, hsc⟩
  dsimp only at hD hsc ⊢
  have hjn := hD.jn
  have hij := hD.ij
  have hcs := hD.cs
  refine A5 (A3 (mv_ (mv_ ?_)))
  refine A4 (H7 (sz := 3) rfl kR (hsc.rd (R := Bc) fun _ h => h)) rfl ?_
  refine A4 (F3 rfl rfl rfl) rfl ?_
  refine A0 (F7 0 1 5 6 19) ?_
  refine C6 rfl (fun hc => ?_) (fun hc => ?_)
  ·
   have hlt : j < rows.length := by simp at hc; omega
   obtain ⟨r, hr⟩ : ∃ r, rows[j]? = some r := ⟨_, List.getElem?_eq_getElem hlt⟩
   have hrc : cur[j]? = some r := hD.at_ hr
   have hrl : r.length = 3 := hcs r (List.mem_of_getElem? hrc)
   have hr1 : ∀ c ∈ r, c.oneCell' = true := fun c hc => h1 c (List.mem_flatten.2 ⟨r, List.mem_of_getElem? hr, hc⟩)
   obtain ⟨c0_, c1_, c2_, rfl⟩ : ∃ c0_ c1_ c2_, r = [c0_, c1_, c2_] := by match r, hrl with | [c0_, c1_, c2_], _ => exact ⟨c0_, c1_, c2_, rfl⟩
   refine A8 (nx (E4 0 1 5 6) (A5 (C0 (A3 (mv_ (mv_ ?_))))))
   refine A4 (I4 (sz := 3) (a := j) rfl rfl kR rfl (hsc.rd (R := Bc) fun _ h => h) hlt) rfl ?_
   refine A4 (A0c rfl kR (hsc.rd fun x hx => by simp [hx]) hcs (by decide) hrc) rfl ?_
   refine A6 rfl (C5 (cs := [.int .u32 0, .slice none 0 0, .slice none 0 0]) kR rfl fun b7 => ?_)
   refine A6 rfl (A9 rfl rfl rfl kR (by rfl) hr1 UpC.upd ?_)
   refine A0 (F7 0 1 5 6 7) (A3 (mv_ ?_))
   refine A4 (qw_ 3) rfl ?_
   refine A6 rfl (A04 rfl (aS rfl a0) hc_ (A6C (hf j _ hr) SubC.sub) rfl ?_)
   refine A4 (W4 rfl) rfl ?_
   refine A0 (I1 0 1 5 6 7 29) ?_
   refine C6 rfl (fun hc => ?_) (fun hc => ?_)
   ·
    refine A3 (mv_ (mv_ ?_))
    refine A4 (qw_ 3) rfl ?_
    refine A4 (I4 (sz := 3) (a := i) rfl rfl kR rfl (hsc.rd (R := Bc) fun _ h => h) (by omega)) rfl ?_
    refine A6 rfl (A8z (sz := 3) (j := i) rfl rfl hsc hrl hr1 kR (by omega) PickC.perm fun B33 hs33 => ?_)
    refine A0 (E4 0 1 5 6) (C3 (mv_ ?_))
    refine A4 (E3 ((i + 1 : Nat) : Int) rfl rfl (G2 (by omega) (by omega) (by omega))) rfl ?_
    refine as_ (C9 (nb (nx (E4 0 1 5 6) (C3 (mv_ ?_)))))
    refine A4 (E3 ((j + 1 : Nat) : Int) rfl rfl (G2 (by omega) (by omega) (by omega))) rfl ?_
    refine as_ (C9 ?_)
    exact rn (j + 1, i + 1, cur.set i [c0_, c1_, c2_], B33) ⟨hD.keep hr (by simpa using hc), by rw [← A8y hcs rfl (by have := hD.cl; omega)]; exact hs33⟩ (by dsimp only; omega) (E4 0 1 5 6) (Fit.last PickC.perm) (fun _ h => h)
   ·
    refine A8 (nb (nx (E4 0 1 5 6) (C3 (mv_ ?_))))
    refine A4 (E3 ((j + 1 : Nat) : Int) rfl rfl (G2 (by omega) (by omega) (by omega))) rfl ?_
    refine as_ (C9 ?_)
    exact rn (j + 1, i, cur, Bc) ⟨hD.skip hlt (by simpa using hc), hsc⟩ (by dsimp only; omega) (E4 0 1 5 6) (Fit.last PickC.perm) (fun _ h => h)
  ·
   have hge : j = rows.length := by simp at hc; omega
   subst hge
   refine E5 (te (re (be rfl (nx (D4 0 5) (A3 (mv_ (mv_ ?_)))))))
   refine A4 (A5P (sz := 3) rfl rfl kR rfl (by first | assumption | exact Sl.rd (by assumption) (fun _ h => h) | exact By.rd (by assumption)) (by omega)) rfl ?_
   refine A6 rfl (A8A (e := 110) (by_ := 56) (zs := (Builtin.zeroCells #[.int .u32 0, .slice none 0 0, .slice none 0 0] (rows.length - i)).toList) rfl kR kR hsc (A1B (by simp [Value.oneCell']) (by simp) _) (by omega) PickC.perm fun B38 hs38 => ?_)
   refine A0 (D4 0 5) (A3 (mv_ (mv_ ?_)))
   refine A4 (A5O (sz := 3) (a := i) rfl rfl kR rfl (hs38.rd (R := B38) fun _ h => h) (by omega)) rfl ?_
   refine as_ (A0 (D5 4) (C2 ?_))
   refine ⟨_, B38, [], I0 rfl rfl, Fit.none (Fit.last PickC.perm), ?_⟩
   have h2 := hs38.hi_app (by rw [A4C hcs, hD.cl]) (by omega)
   rw [A1C hcs, hD.ct] at h2
   rw [← hD.ki]
   exact h2
theorem A9t (v : Value) (rows : List (List Value)) (f : FuncId) (cs : List Value) (p : Nat → Bool) (B A : Mem) (hs : Sl 2 v rows.length rows.flatten B) (hl : ∀ r ∈ rows, r.length = 2) (h1 : ∀ c ∈ rows.flatten, c.oneCell' = true) (hn : rows.length ≤ 1099511627776) (hc_ : I7 Tryz.prog f = true) (hf : ∀ (j : Nat) (r : List Value), rows[j]? = some r → FnV Tryz.prog f (.agg r.toArray :: cs) A (.bool (p j))) : FnX Tryz.prog 69 [v, .func (.func f) #[] cs.toArray] B A fun q M J => Sl 2 q (kpt p rows rows.length).length (kpt p rows rows.length).flatten M := by
 haveI := hs.cel
 refine FnX.enterZ (N := 42) Tryz.func69 rfl rfl rfl fun w_ => ?_
 refine C4 (D4 0 1) (A3 (as_ (A0 (D4 0 1) (A3 (mv_ (mv_ ?_))))))
 refine G1 (aS rfl (aS rfl a0)) kR (A9p v rows f cs p _ (hs.rd fun x hx => by simp [hx]) hl hn hc_ (fun j r hr => A6C (hf j r hr) SubC.sub)) rfl ?_
 refine as_ (A0 (E1 0 1 5) (A5 (A3 (mv_ ?_))))
 refine A4 (F9 (decide (A4m p rows.length = -1)) rfl rfl (A8B _)) rfl ?_
 refine A0 (E4 0 1 5 12) ?_
 refine C6 rfl (fun hc => ?_) (fun hc => ?_)
 ·
  have hm1 : A4m p rows.length = -1 := of_decide_eq_true hc
  have hall : ∀ i, i < rows.length → p i = false := by rcases A0i p rows.length with ⟨_, h⟩ | ⟨i, _, h, _, _⟩; exact h; omega
  refine A3 (mv_ (as_ (A0 (D5 4) (C2 (tr ?_)))))
  refine ⟨_, B, [], I0 rfl rfl, Fit.none (Fit.last PickC.perm), ?_⟩
  rw [A5n _ hall, List.take_length]
  exact hs
 ·
  have hne : ¬ A4m p rows.length = -1 := of_decide_eq_false hc
  obtain ⟨i0, hi0, he0, hp0, hq0⟩ : ∃ i, i < rows.length ∧ A4m p rows.length = (i : Int) ∧ p i = true ∧ ∀ j, j < i → p j = false := (A0i p rows.length).resolve_left fun h => hne h.1
  rw [he0]
  refine A8 (nx (E1 0 1 5) (A5 (A3 (mv_ ?_))))
  refine A4 (E3 ((i0 + 1 : Nat) : Int) rfl rfl (G2 (by omega) (by omega) (by omega))) rfl ?_
  refine as_ (A0 (E4 0 1 5 6) (C0 ?_))
  refine F1 (α := Nat × Nat × List (List Value) × Mem) (fun y => [(0, v), (1, .func (.func f) #[] cs.toArray), (5, .int .i64 ((y.2.1 : Nat) : Int)), (6, .int .i64 ((y.1 : Nat) : Int))]) (fun y => y.2.2.2) (fun _ => []) (fun y => Dfs 2 p rows y.2.2.1 y.1 y.2.1 ∧ Sl 2 v rows.length y.2.2.1.flatten y.2.2.2) (fun y => rows.length - y.1) (i0 + 1, i0, rows, B) ⟨Dfs.init hl hi0 hp0 hq0, hs⟩ (E4 0 1 5 6) Fit.rfl (fun _ h => h) ?_
  rintro ⟨j, i, cur, Bc⟩ ⟨hD, hsc⟩
  dsimp only at hD hsc ⊢
  have hjn := hD.jn
  have hij := hD.ij
  have hcs := hD.cs
  refine A5 (A3 (mv_ (mv_ ?_)))
  refine A4 (H7 (sz := 2) rfl kR (hsc.rd (R := Bc) fun _ h => h)) rfl ?_
  refine A4 (F3 rfl rfl rfl) rfl ?_
  refine A0 (F7 0 1 5 6 19) ?_
  refine C6 rfl (fun hc => ?_) (fun hc => ?_)
  ·
   have hlt : j < rows.length := by simp at hc; omega
   obtain ⟨r, hr⟩ : ∃ r, rows[j]? = some r := ⟨_, List.getElem?_eq_getElem hlt⟩
   have hrc : cur[j]? = some r := hD.at_ hr
   have hrl : r.length = 2 := hcs r (List.mem_of_getElem? hrc)
   have hr1 : ∀ c ∈ r, c.oneCell' = true := fun c hc => h1 c (List.mem_flatten.2 ⟨r, List.mem_of_getElem? hr, hc⟩)
   obtain ⟨c0_, c1_, rfl⟩ : ∃ c0_ c1_, r = [c0_, c1_] := by match r, hrl with | [c0_, c1_], _ => exact ⟨c0_, c1_, rfl⟩
   refine A8 (nx (E4 0 1 5 6) (A5 (C0 (A3 (mv_ (mv_ ?_))))))
   refine A4 (I4 (sz := 2) (a := j) rfl rfl kR rfl (hsc.rd (R := Bc) fun _ h => h) hlt) rfl ?_
   refine A4 (A0c rfl kR (hsc.rd fun x hx => by simp [hx]) hcs (by decide) hrc) rfl ?_
   refine A6 rfl (C5 (cs := [.int .u32 0, .slice none 0 0]) kR rfl fun b7 => ?_)
   refine A6 rfl (A9 rfl rfl rfl kR (by rfl) hr1 UpC.upd ?_)
   refine A0 (F7 0 1 5 6 7) (A3 (mv_ ?_))
   refine A4 (qw_ 2) rfl ?_
   refine A6 rfl (A04 rfl (aS rfl a0) hc_ (A6C (hf j _ hr) SubC.sub) rfl ?_)
   refine A4 (W4 rfl) rfl ?_
   refine A0 (I1 0 1 5 6 7 29) ?_
   refine C6 rfl (fun hc => ?_) (fun hc => ?_)
   ·
    refine A3 (mv_ (mv_ ?_))
    refine A4 (qw_ 2) rfl ?_
    refine A4 (I4 (sz := 2) (a := i) rfl rfl kR rfl (hsc.rd (R := Bc) fun _ h => h) (by omega)) rfl ?_
    refine A6 rfl (A8z (sz := 2) (j := i) rfl rfl hsc hrl hr1 kR (by omega) PickC.perm fun B33 hs33 => ?_)
    refine A0 (E4 0 1 5 6) (C3 (mv_ ?_))
    refine A4 (E3 ((i + 1 : Nat) : Int) rfl rfl (G2 (by omega) (by omega) (by omega))) rfl ?_
    refine as_ (C9 (nb (nx (E4 0 1 5 6) (C3 (mv_ ?_)))))
    refine A4 (E3 ((j + 1 : Nat) : Int) rfl rfl (G2 (by omega) (by omega) (by omega))) rfl ?_
    refine as_ (C9 ?_)
    exact rn (j + 1, i + 1, cur.set i [c0_, c1_], B33) ⟨hD.keep hr (by simpa using hc), by rw [← A8y hcs rfl (by have := hD.cl; omega)]; exact hs33⟩ (by dsimp only; omega) (E4 0 1 5 6) (Fit.last PickC.perm) (fun _ h => h)
   ·
    refine A8 (nb (nx (E4 0 1 5 6) (C3 (mv_ ?_))))
    refine A4 (E3 ((j + 1 : Nat) : Int) rfl rfl (G2 (by omega) (by omega) (by omega))) rfl ?_
    refine as_ (C9 ?_)
    exact rn (j + 1, i, cur, Bc) ⟨hD.skip hlt (by simpa using hc), hsc⟩ (by dsimp only; omega) (E4 0 1 5 6) (Fit.last PickC.perm) (fun _ h => h)
  ·
   have hge : j = rows.length := by simp at hc; omega
   subst hge
   refine E5 (te (re (be rfl (nx (D4 0 5) (A3 (mv_ (mv_ ?_)))))))
   refine A4 (A5P (sz := 2) rfl rfl kR rfl (by first | assumption | exact Sl.rd (by assumption) (fun _ h => h) | exact By.rd (by assumption)) (by omega)) rfl ?_
   refine A6 rfl (A8A (e := 134) (by_ := 32) (zs := (Builtin.zeroCells #[.int .u32 0, .slice none 0 0] (rows.length - i)).toList) rfl kR kR hsc (A1B (by simp [Value.oneCell']) (by simp) _) (by omega) PickC.perm fun B38 hs38 => ?_)
   refine A0 (D4 0 5) (A3 (mv_ (mv_ ?_)))
   refine A4 (A5O (sz := 2) (a := i) rfl rfl kR rfl (hs38.rd (R := B38) fun _ h => h) (by omega)) rfl ?_
   refine as_ (A0 (D5 4) (C2 ?_))
   refine ⟨_, B38, [], I0 rfl rfl, Fit.none (Fit.last PickC.perm), ?_⟩
   have h2 := hs38.hi_app (by rw [A4C hcs, hD.cl]) (by omega)
   rw [A1C hcs, hD.ct] at h2
   rw [← hD.ki]
   exact h2

end Go.Proofs.YthbhpfefdnffaaaGreatDoor
namespace Go.Px
structure Gv where
  i : Nat
  d : Nat
  m : Mem
  φ : Value → Mem → Mem → Prop
def A2B (G : List Gv) (vs : Nat → Value) : Env := G.map fun g => (g.d, vs g.i)
def B7r (G : List Gv) : List Gm := G.map fun g => ⟨g.i, g.d, fun _ _ => True⟩
theorem B9f (G : List Gv) : (B7r G).map (·.i) = G.map (·.i) := by simp [B7r]
theorem B9g (G : List Gv) : (B7r G).map (·.d) = G.map (·.d) := by simp [B7r]
theorem A8C (G : List Gv) (vs : Nat → Value) : A2y (B7r G) vs = A2B G vs := by simp [A2y, A2B, B7r]
theorem B1E {G : List Gv} (h : (G.map (·.i)).Nodup) {g g' : Gv} (hg : g ∈ G) (hg' : g' ∈ G) (e : g.i = g'.i) : g = g' := by
  induction G with
  | nil => cases hg
  | cons x G ih =>
    simp only [List.map_cons, List.nodup_cons] at h
    rcases List.mem_cons.1 hg with h1 | h1 <;> rcases List.mem_cons.1 hg' with h2 | h2
    · rw [h1, h2]
    · exact absurd (by rw [← h1, e]; exact List.mem_map_of_mem (f := Gv.i) h2) h.1
    · exact absurd (by rw [← h2, ← e]; exact List.mem_map_of_mem (f := Gv.i) h1) h.1
    · exact ih h.2 h1 h2
def A8D (X : List Nat) (bs : Nat → Mem) (G : List Gv) : Mem := (G.map fun g => if g.i ∈ X then bs g.i else g.m).flatten
def A3W (X : List Nat) (bs : Nat → Mem) (G : List Gv) : Mem := (G.map fun g => if g.i ∈ X then bs g.i else []).flatten
def B9h (bs : Nat → Mem) (G : List Gv) : Mem := (G.map fun g => bs g.i).flatten
theorem A6E {X : List Nat} {bs : Nat → Mem} {G : List Gv} : ∀ x ∈ A3W X bs G, x ∈ A8D X bs G := by
  intro x hx
  unfold A3W at hx
  unfold A8D
  obtain ⟨l, hl, hx⟩ := List.mem_flatten.1 hx
  obtain ⟨g, hg, rfl⟩ := List.mem_map.1 hl
  refine List.mem_flatten.2 ⟨_, List.mem_map_of_mem hg, ?_⟩
  split at hx
  · rename_i h; rw [if_pos h]; exact hx
  · cases hx
theorem A6F {X : List Nat} {bs : Nat → Mem} {G : List Gv} {g : Gv} (hi : (G.map (·.i)).Nodup) (hg : g ∈ G) (hX : g.i ∉ X) (M' : Mem) :
    ∃ R, (A8D X bs G).Perm (g.m ++ R) ∧ (∀ x ∈ A3W X bs G, x ∈ R) ∧ (M' ++ R).Perm (A8D (X ++ [g.i]) (fun k => if k = g.i then M' else bs k) G) ∧ (∀ x ∈ M' ++ A3W X bs G, x ∈ A3W (X ++ [g.i]) (fun k => if k = g.i then M' else bs k) G) := by
  obtain ⟨s, t, rfl⟩ := List.append_of_mem hg
  have hne : ∀ x ∈ s ++ t, x.i ≠ g.i := by
    intro x hx e
    simp only [List.map_append, List.map_cons, List.nodup_append, List.nodup_cons] at hi
    rcases List.mem_append.1 hx with h | h
    · exact hi.2.2 _ (List.mem_map_of_mem (f := Gv.i) h) _ List.mem_cons_self e
    · exact hi.2.1.1 (e ▸ List.mem_map_of_mem (f := Gv.i) h)
  have e1 : ∀ (f f' : Gv → Mem) (l : List Gv), (∀ x ∈ l, f x = f' x) → l.map f = l.map f' := fun f f' l h => List.map_congr_left h
  have es : (s.map fun x => if x.i ∈ X ++ [g.i] then (if x.i = g.i then M' else bs x.i) else x.m) = s.map fun x => if x.i ∈ X then bs x.i else x.m := e1 _ _ _ fun x hx => by
    have h := hne x (List.mem_append_left _ hx)
    simp [h]
  have et : (t.map fun x => if x.i ∈ X ++ [g.i] then (if x.i = g.i then M' else bs x.i) else x.m) = t.map fun x => if x.i ∈ X then bs x.i else x.m := e1 _ _ _ fun x hx => by
    have h := hne x (List.mem_append_right _ hx)
    simp [h]
  have fs : (s.map fun x => if x.i ∈ X ++ [g.i] then (if x.i = g.i then M' else bs x.i) else ([] : Mem)) = s.map fun x => if x.i ∈ X then bs x.i else [] := e1 _ _ _ fun x hx => by
    have h := hne x (List.mem_append_left _ hx)
    simp [h]
  have ft : (t.map fun x => if x.i ∈ X ++ [g.i] then (if x.i = g.i then M' else bs x.i) else ([] : Mem)) = t.map fun x => if x.i ∈ X then bs x.i else [] := e1 _ _ _ fun x hx => by
    have h := hne x (List.mem_append_right _ hx)
    simp [h]
  refine ⟨(s.map fun x => if x.i ∈ X then bs x.i else x.m).flatten ++ (t.map fun x => if x.i ∈ X then bs x.i else x.m).flatten, ?_, ?_, ?_, ?_⟩
  · simp only [A8D, List.map_append, List.map_cons, if_neg hX, List.flatten_append, List.flatten_cons]
    exact List.perm_append_comm_assoc _ _ _
  · intro x hx
    simp only [A3W, List.map_append, List.map_cons, if_neg hX, List.flatten_append, List.flatten_cons, List.nil_append, List.mem_append] at hx
    refine List.mem_append.2 (hx.imp (fun h => ?_) fun h => ?_)
    · exact A6E (G := s) x h
    · exact A6E (G := t) x h
  · simp only [A8D, List.map_append, List.map_cons, List.flatten_append, List.flatten_cons, es, et]
    simp only [List.mem_append, List.mem_singleton, or_true, if_true]
    exact (List.perm_append_comm_assoc _ _ _).symm
  · intro x hx
    simp only [A3W, List.map_append, List.map_cons, List.flatten_append, List.flatten_cons, fs, ft]
    simp only [List.mem_append, List.mem_singleton, or_true, if_true]
    simp only [A3W, List.map_append, List.map_cons, if_neg hX, List.flatten_append, List.flatten_cons, List.nil_append, List.mem_append] at hx
    rcases hx with h | h | h
    · exact .inr (.inl h)
    · exact .inl h
    · exact .inr (.inr h)
theorem B4c {bs : Nat → Mem} {G : List Gv} : A8D [] bs G = (G.map (·.m)).flatten := by simp [A8D]
theorem B4d {X : List Nat} {bs : Nat → Mem} {G : List Gv} (h : ∀ g ∈ G, g.i ∈ X) : A8D X bs G = B9h bs G := by
  unfold A8D B9h
  rw [List.map_congr_left (g := fun g => bs g.i) fun g hg => if_pos (h g hg)]
theorem St.widen {P : Program} {w w' : World} {F : List Nat} {A A' Mc M' J' : Mem} {n : Nat} (h : St ⟨P, w, F, A', n⟩ Mc [] w) (hs : St ⟨P, w, F, A, n⟩ M' J' w') : St ⟨P, w, F, A', n⟩ M' J' w' := by
  refine ⟨hs.os, hs.tape, hs.output, hs.size, hs.frame, fun b o hb => ?_, hs.nodup, hs.own, hs.sepJ, h.sepA, hs.old⟩
  simp only [List.mem_append] at hb
  rcases hb with hb | hb | hb
  · exact hs.mem b o (by simp [hb])
  · exact hs.mem b o (by simp [hb])
  · have h1 := h.sepA b o hb
    have h2 := hs.frame b h1.2 h1.1
    rw [h2]
    exact h.mem b o (by simp; exact .inr hb)
theorem St.less {P : Program} {w : World} {F : List Nat} {A A' Mc : Mem} {n : Nat} (h : St ⟨P, w, F, A', n⟩ Mc [] w) (hA : ∀ x ∈ A, x ∈ A') : St ⟨P, w, F, A, n⟩ Mc [] w :=
  ⟨h.os, h.tape, h.output, h.size, h.frame, fun b o hb => h.mem b o (by simp at hb ⊢; exact hb.imp id (hA _)), h.nodup, h.own, h.sepJ, fun b o hb => h.sepA b o (hA _ hb), h.old⟩
section group
variable {C : Cx} {Q : XQ} {l : Env} {M M0 J : Mem} {os : List Oper} {K : Nat → Prop} {n0 : Nat} {nd : List Nat} {plan : List (Nat × Nat)}
def B9i (C : Cx) (os : List Oper) (l : Env) (M0 J : Mem) (G : List Gv) (g : Gv) : Prop :=
  ∃ o, nth os g.i = some o ∧ ∀ (vs : Nat → Value) (bs : Nat → Mem) (R Rj : Mem) (w : World), (∀ x ∈ M0 ++ (J ++ C.A), x ∈ R) → (∀ x ∈ J ++ C.A, x ∈ Rj) → (∀ x ∈ Rj, x ∈ R) → (∀ g' ∈ G, anc os.toArray os.toArray.size g.i g'.i = true → g'.φ (vs g'.i) (bs g'.i) Rj) →
    A8Y os (A2B G vs ++ l) o ∧ OpL ⟨C.P, w, g.m.map Prod.fst, R, C.N⟩ o (A2B G vs ++ l) g.m [] (fun l' M' J' => ∃ v, l' = (g.d, v) :: (A2B G vs ++ l) ∧ g.φ v M' (J' ++ Rj))
theorem B1F {G : List Gv} (hmono : ∀ g ∈ G, A0d g.φ) (hd : (G.map (·.d)).Nodup) (hi : (G.map (·.i)).Nodup) (hK : ∀ g ∈ G, ∀ x ∈ g.m, K x.1) (hob : ∀ g ∈ G, B9i C os l M0 J G g) {A B : Array Bool} (hok : GOk os.toArray A (G.map (·.i)) B)
    (hfin : ∀ (vs : Nat → Value) (bs : Nat → Mem) Jn a w, (∀ g ∈ G, g.φ (vs g.i) (bs g.i) ((Jn ++ J) ++ C.A)) → (∀ g ∈ G, ∀ x ∈ bs g.i, x.1 ∈ g.m.map Prod.fst ∨ n0 ≤ x.1) → Ag C.N (A2B G vs ++ l) a → St C (B9h bs G ++ M0) (Jn ++ J) w → n0 ≤ w.heap.size → U3 C.P os.toArray (N0 (A3X C Q)) (Sk K) nd.contains plan.length B a w) :
    ∀ (n : Nat) (X : List Nat) (vs : Nat → Value) (bs : Nat → Mem) (Jn : Mem) (a : Act) (w : World), X.Nodup → (∀ i ∈ X, i ∈ G.map (·.i)) → n + X.length = G.length → L4 os.toArray (mark A X) →
      (∀ g ∈ G, g.i ∈ X → g.φ (vs g.i) (bs g.i) ((Jn ++ J) ++ C.A)) → (∀ g ∈ G, g.i ∈ X → ∀ x ∈ bs g.i, x.1 ∈ g.m.map Prod.fst ∨ n0 ≤ x.1) → Ag C.N (A2B G vs ++ l) a → St C (A8D X bs G ++ M0) (Jn ++ J) w → n0 ≤ w.heap.size →
      U3 C.P os.toArray (N0 (A3X C Q)) (Sk K) nd.contains (n + plan.length) (mark A X) a w := by
  intro n
  induction n with
  | zero =>
    intro X vs bs Jn a w hnd hX hlen hcl hφ hN ha hw hn
    have hall : ∀ i, i ∈ X ↔ i ∈ G.map (·.i) := fun i => ⟨hX i, A0b hnd hX (by simp; omega) i⟩
    have hin : ∀ g ∈ G, g.i ∈ X := fun g hg => (hall _).2 (List.mem_map_of_mem (f := Gv.i) hg)
    have hcur := B4d (bs := bs) hin
    rw [hcur] at hw
    rw [Nat.zero_add, A16 hall, ← hok.mark]
    exact hfin vs bs Jn a w (fun g hg => hφ g hg (hin g hg)) (fun g hg => hN g hg (hin g hg)) ha hw hn
  | succ n ih =>
    intro X vs bs Jn a w hnd hX hlen hcl hφ hN ha hw hn
    have hmiss : ∃ k ∈ G.map (·.i), k ∉ X := by
      apply Classical.byContradiction
      intro hno
      have hs : ∀ k ∈ G.map (·.i), k ∈ X := fun k hk => Classical.byContradiction fun h => hno ⟨k, hk, h⟩
      have := A0n hi hs
      simp at this; omega
    obtain ⟨k, hkG, hkX⟩ := hmiss
    have hun : ∀ i ∈ G.map (·.i), A.getD i true = false := by
      have : ∀ {is A B}, GOk os.toArray A is B → ∀ i ∈ is, A.getD i true = false := by
        intro is A B h
        induction h with
        | nil => intro i hi; cases hi
        | @cons A B i r hr ho h ih =>
          intro k hk
          rcases List.mem_cons.1 hk with rfl | hk
          · exact G7 hr
          · have h2 := ih k hk
            by_cases e : i = k
            · subst e; exact G7 hr
            · rwa [getD_set_ne true e] at h2
      exact this hok
    have hkun : (mark A X).getD k true = false := E9.2 ⟨hun k hkG, fun h => hkX h.1⟩
    rw [show n + 1 + plan.length = (n + plan.length) + 1 by omega]
    refine ⟨fun h0 => ?_, fun i hir => ?_⟩
    · obtain ⟨i, hir⟩ := hok.first (V1 A X) (fun j hj => V2 hj) hkG hkun
      rw [h0] at hir; cases hir
    · have hiG : i ∈ G.map (·.i) := by
        apply Classical.byContradiction
        intro hno
        have h1 := E9.1 (G7 hir)
        have h2 := hok.outer k hkG i (A00 hir) h1.1 hno
        exact L5 hkun (K3 hcl h2 hir)
      obtain ⟨g, hg, rfl⟩ := List.mem_map.1 hiG
      have hiX : g.i ∉ X := fun h => (E9.1 (G7 hir)).2 ⟨h, N9 (hun _ hiG)⟩
      obtain ⟨o, hget, howe⟩ := hob g hg
      have hi' : os.toArray[g.i]? = some o := by rw [R6] at hget; simpa using hget
      obtain ⟨hask, hop⟩ := howe vs bs ((A3W X bs G ++ M0) ++ ((Jn ++ J) ++ C.A)) ((Jn ++ J) ++ C.A) w (fun x hx => by simp only [List.mem_append] at hx ⊢; rcases hx with h | h | h <;> simp [h]) (fun x hx => by simp only [List.mem_append] at hx ⊢; rcases hx with h | h <;> simp [h]) (fun x hx => List.mem_append_right _ hx) (fun g' hg' hanc => hφ g' hg' (by
        have h3 := K3 hcl hanc hir
        rcases Q4 h3 with h4 | h4
        · exact (L5 (hun _ (List.mem_map_of_mem (f := Gv.i) hg')) h4).elim
        · exact h4))
      unfold wpOp
      simp only [hi']
      rw [if_pos (hask.wanted ha)]
      obtain ⟨R0, hp0, hd0, _, _⟩ := A6F (bs := bs) hi hg hiX []
      have hpc : (A8D X bs G ++ M0).Perm (g.m ++ (R0 ++ M0)) := by
        rw [← List.append_assoc]; exact List.Perm.append_right _ hp0
      have hcal := hw.callee hpc
      have hcal2 := St.less (A := (A3W X bs G ++ M0) ++ ((Jn ++ J) ++ C.A)) hcal fun x hx => by
        simp only [List.mem_append] at hx ⊢
        rcases hx with (h | h) | h
        · exact .inl (.inl (hd0 x h))
        · exact .inl (.inr h)
        · exact .inr h
      refine .inl (Oper.wp_mono ?_ (hop _ a w ha hcal2.cx))
      rintro a' w' ⟨l', M', J', ha', hs', v, rfl, hφv⟩
      have hsz : w.heap.size ≤ w'.heap.size := hs'.size
      have hs2 := St.widen hcal.cx hs'
      have hb := hw.back hpc hs2.cx
      obtain ⟨R1, hp1, hd1, hq1, hq2⟩ := A6F (bs := bs) hi hg hiX M'
      let bs' : Nat → Mem := fun k => if k = g.i then M' else bs k
      have hRR : R0.Perm R1 := (List.perm_append_left_iff _).1 (hp0.symm.trans hp1)
      have hperm : (M' ++ (R0 ++ M0)).Perm (A8D (X ++ [g.i]) bs' G ++ M0) := by
        rw [← List.append_assoc]
        exact List.Perm.append_right _ ((List.Perm.append_left _ hRR).trans hq1)
      have hfr2 : St C (A8D (X ++ [g.i]) bs' G ++ M0) ((J' ++ Jn) ++ J) w' := (hb.perm hperm).drop (List.Sublist.refl _) fun x hx => by
        simp only [List.mem_append] at hx ⊢
        rcases hx with (h | h) | h <;> simp [h]
      refine ⟨fun _ b hb' hnk => hs'.frame b hb' fun hm => ?_, ?_⟩
      · obtain ⟨x, hx, e⟩ := List.mem_map.1 hm
        exact hnk (e ▸ hK g hg x hx)
      rw [← L0]
      have henv := Y3 (N := C.N) (G := B7r G) (l := l) (vs := vs) (g := ⟨g.i, g.d, fun _ _ => True⟩) (a := a') (v := v) (List.mem_map_of_mem (f := fun g : Gv => (⟨g.i, g.d, fun _ _ => True⟩ : Gm)) hg) (by rw [B9g]; exact hd) (by rw [B9f]; exact hi) (by rw [A8C]; exact ha')
      rw [A8C] at henv
      refine ih (X ++ [g.i]) (fun k => if k = g.i then v else vs k) bs' (J' ++ Jn) a' w' ?_ ?_ (by simp; omega) ?_ ?_ ?_ henv hfr2 (Nat.le_trans hn hsz)
      · rw [List.nodup_append]; exact ⟨hnd, by simp, fun x hx y hy e => hiX (by simp at hy; subst hy; exact e ▸ hx)⟩
      · intro j hj
        rcases List.mem_append.1 hj with hj | hj
        · exact hX j hj
        · simp at hj; subst hj; exact hiG
      · rw [L0]; exact G4 hcl hir
      · intro g' hg' hm
        by_cases e : g'.i = g.i
        · have : g' = g := B1E hi hg' hg e
          subst this
          simp only [if_true, bs']
          exact hmono g' hg' _ _ _ _ (fun x hx => by simp only [List.mem_append] at hx ⊢; rcases hx with h | (h | h) | h <;> simp [h]) hφv
        · simp only [e, if_false, bs']
          have hm' : g'.i ∈ X := by simpa [e] using hm
          exact hmono g' hg' _ _ _ _ (fun x hx => by simp only [List.mem_append] at hx ⊢; rcases hx with (h | h) | h <;> simp [h]) (hφ g' hg' hm')
      · intro g' hg' hk x hx
        by_cases e : g'.i = g.i
        · have : g' = g := B1E hi hg' hg e
          subst this
          simp only [if_true, bs'] at hx
          rcases hs'.own x.1 x.2 (by simp [hx]) with h6 | h6
          · exact .inl h6
          · exact .inr (Nat.le_trans hn h6)
        · simp only [e, if_false, bs'] at hx
          have hk' : g'.i ∈ X := by simpa [e] using hk
          exact hN g' hg' hk' x hx
theorem B1G (G : List Gv) (M0 : Mem) (hM : M.Perm ((G.map (·.m)).flatten ++ M0)) (hK : ∀ g ∈ G, ∀ x ∈ g.m, K x.1) (hmono : ∀ g ∈ G, A0d g.φ) (hd : (G.map (·.d)).Nodup) (hi : (G.map (·.i)).Nodup) (hdN : ∀ g ∈ G, g.d < C.N) (hob : ∀ g ∈ G, B9i C os l M0 J G g)
    (h : ∀ (vs : Nat → Value) (bs : Nat → Mem) Jn, (∀ g ∈ G, g.φ (vs g.i) (bs g.i) ((Jn ++ J) ++ C.A)) → (∀ g ∈ G, (∀ b, n0 ≤ b → K b) → ∀ x ∈ bs g.i, K x.1) → XK C os Q K n0 nd plan (A2B G vs ++ l) (B9h bs G ++ M0) (Jn ++ J)) : XK C os Q K n0 nd (enc (G.map (·.i)) ++ plan) l M J := by
  refine A0M hM ?_
  intro listed hcl hp a w ha hw hn
  obtain ⟨B, hok, hp2⟩ := A5M hp
  have hBcl : L4 os.toArray B := by
    have : ∀ {A is B}, GOk os.toArray A is B → L4 os.toArray A → L4 os.toArray B := by
      intro A is B h
      induction h with
      | nil => exact id
      | cons hr _ _ ih => exact fun hc => ih (G4 hc hr)
    exact this hok hcl
  have hlen : (enc (G.map (·.i)) ++ plan).length = G.length + plan.length := by
    have : ∀ is : List Nat, (enc is).length = is.length := by
      intro is
      induction is with
      | nil => rfl
      | cons i r ih => cases r with
        | nil => rfl
        | cons j r => simp only [enc, List.length_cons] at ih ⊢; rw [ih]
    simp [this]
  rw [hlen]
  let vs : Nat → Value := fun k => match G.find? (fun g => g.i == k) with
    | some g => (a.tmps[g.d]?).getD undef
    | none => undef
  have hag : Ag C.N (A2B G vs ++ l) a := by
    refine ⟨ha.defers, ha.size, ?_⟩
    intro k u hk
    have key : ∀ G' : List Gv, (∀ g ∈ G', g ∈ G) → lk (A2B G' vs ++ l) k = some u → a.tmps[k]? = some u := by
      intro G'
      induction G' with
      | nil => intro _ h; exact ha.slot k u h
      | cons g G' ih =>
        intro hs h
        simp only [A2B, List.map_cons, List.cons_append, lk] at h
        by_cases e : g.d = k
        · subst e
          simp at h
          have hf : G.find? (fun x => x.i == g.i) = some g := by
            have hgG := hs g List.mem_cons_self
            cases hq : G.find? (fun x => x.i == g.i) with
            | none => have := List.find?_eq_none.1 hq g hgG; simp at this
            | some x =>
              have h1 := List.find?_some hq
              have h2 := List.mem_of_find?_eq_some hq
              rw [B1E hi h2 hgG (by simpa using h1)]
          have hlt : g.d < a.tmps.size := by rw [ha.size]; exact hdN g (hs g List.mem_cons_self)
          rw [← h]
          show a.tmps[g.d]? = some (vs g.i)
          simp only [vs, hf, Array.getElem?_eq_getElem hlt, Option.getD_some]
        · simp only [V0 e, cond_false] at h
          exact ih (fun x hx => hs x (List.mem_cons_of_mem _ hx)) h
    exact key G (fun _ h => h) hk
  refine B1F (n0 := n0) (K := K) hmono hd hi hK hob hok (fun vs bs Jn a w hφ hN ha hw hn => h vs bs Jn hφ (fun g hg hu x hx => ?_) B hBcl hp2 a w ha hw hn) G.length [] vs (fun _ => []) [] a w .nil (fun _ h => by cases h) (by simp) hcl (fun _ _ h => by cases h) (fun _ _ h => by cases h) hag (by rw [B4c]; exact hw) hn
  rcases hN g hg x hx with h1 | h1
  · obtain ⟨y, hy, e⟩ := List.mem_map.1 h1
    exact e ▸ hK g hg y hy
  · exact hu _ h1
end group
end Go.Px

