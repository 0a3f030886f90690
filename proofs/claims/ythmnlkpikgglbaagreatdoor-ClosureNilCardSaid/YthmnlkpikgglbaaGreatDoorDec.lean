/-
  Numbers as decimal texts, and names made of them. No program in sight.
-/
import Derived.Test.YthmnlkpikgglbaaGreatDoorEx
set_option linter.unusedVariables false
set_option linter.unusedSimpArgs false
namespace Go.Px
/-- How many digits a number has. -/
def ndF : Nat → Nat → Nat
  | 0, _ => 1
  | f + 1, u => if u < 10 then 1 else ndF f (u / 10) + 1
def nd10 (u : Nat) : Nat := ndF 64 u
/-- So many digits of a number, the highest first. -/
def dgs (n u : Nat) : List Nat := (List.range n).map fun j => 48 + u / 10 ^ (n - 1 - j) % 10
def dec (u : Nat) : List Nat := dgs (nd10 u) u
/-- What digits are as a number. -/
def dv (l : List Nat) : Nat := l.foldl (fun a c => a * 10 + (c - 48)) 0
theorem ndF_pos : ∀ f u, 1 ≤ ndF f u
  | 0, _ => Nat.le_refl _
  | f + 1, u => by unfold ndF; split <;> omega
theorem ndF_lt : ∀ f u, u < 10 ^ (f + 1) → u < 10 ^ ndF f u
  | 0, u, h => by simpa [ndF] using h
  | f + 1, u, h => by
    unfold ndF
    split
    · simpa using by assumption
    · have h1 : u / 10 < 10 ^ (f + 1) := Nat.div_lt_of_lt_mul (by rw [← Nat.pow_succ']; exact h)
      have := ndF_lt f (u / 10) h1
      rw [Nat.pow_succ]
      omega
theorem ndF_ge : ∀ f u, 10 ≤ u → 10 ^ (ndF f u - 1) ≤ u
  | 0, u, h => by simp [ndF]; omega
  | f + 1, u, h => by
    unfold ndF
    rw [if_neg (by omega), Nat.add_sub_cancel]
    by_cases h2 : 10 ≤ u / 10
    · have h3 := ndF_ge f (u / 10) h2
      have h4 := ndF_pos f (u / 10)
      rw [show ndF f (u / 10) = (ndF f (u / 10) - 1) + 1 by omega, Nat.pow_succ]
      omega
    · have : ndF f (u / 10) = 1 := by
        cases f with
        | zero => rfl
        | succ f => unfold ndF; rw [if_pos (by omega)]
      rw [this]; simpa using h
theorem nd10_uniq {u n : Nat} (hn : 0 < n) (h : u < 10 ^ n) (h2 : n = 1 ∨ 10 ^ (n - 1) ≤ u) (hu : u < 18446744073709551616) : nd10 u = n := by
  have h1 : u < 10 ^ nd10 u := ndF_lt 64 u (Nat.lt_trans hu (by decide))
  have h0 : 1 ≤ nd10 u := ndF_pos 64 u
  by_cases h10 : 10 ≤ u
  · have h3 : 10 ^ (nd10 u - 1) ≤ u := ndF_ge 64 u h10
    have h4 : 10 ^ (n - 1) ≤ u := by
      rcases h2 with rfl | h2
      · simp; omega
      · exact h2
    have a : nd10 u - 1 < n := (Nat.pow_lt_pow_iff_right (by decide : 1 < 10)).1 (Nat.lt_of_le_of_lt h3 h)
    have b : n - 1 < nd10 u := (Nat.pow_lt_pow_iff_right (by decide : 1 < 10)).1 (Nat.lt_of_le_of_lt h4 h1)
    omega
  · have hd : nd10 u = 1 := by unfold nd10 ndF; rw [if_pos (by omega)]
    rcases h2 with rfl | h2
    · exact hd
    · have : 10 ^ (n - 1) < 10 ^ 1 := by omega
      have := (Nat.pow_lt_pow_iff_right (by decide : 1 < 10)).1 this
      omega
theorem nd10_le {u : Nat} (hu : u < 18446744073709551616) : nd10 u ≤ 20 := by
  by_cases h10 : 10 ≤ u
  · have h3 : 10 ^ (nd10 u - 1) ≤ u := ndF_ge 64 u h10
    have : 10 ^ (nd10 u - 1) < 10 ^ 20 := Nat.lt_of_le_of_lt h3 (Nat.lt_trans hu (by decide))
    have := (Nat.pow_lt_pow_iff_right (by decide : 1 < 10)).1 this
    omega
  · have hd : nd10 u = 1 := by unfold nd10 ndF; rw [if_pos (by omega)]
    omega
theorem dgs_len (n u : Nat) : (dgs n u).length = n := by simp [dgs]
theorem dgs_mem {n u c : Nat} (h : c ∈ dgs n u) : 48 ≤ c ∧ c < 58 := by
  simp only [dgs, List.mem_map] at h
  obtain ⟨j, _, rfl⟩ := h
  omega
theorem dgs_succ (n u : Nat) : dgs (n + 1) u = dgs n (u / 10) ++ [48 + u % 10] := by
  unfold dgs
  rw [List.range_succ, List.map_append]
  congr 1
  · apply List.map_congr_left
    intro j hj
    have := List.mem_range.1 hj
    rw [Nat.div_div_eq_div_mul, ← Nat.pow_succ']
    congr 4; omega
  · simp
theorem dv_app (l : List Nat) (c : Nat) : dv (l ++ [c]) = dv l * 10 + (c - 48) := by simp [dv]
theorem dv_dgs : ∀ n u, dv (dgs n u) = u % 10 ^ n
  | 0, u => by simp [dgs, dv, Nat.mod_one]
  | n + 1, u => by
    rw [dgs_succ, dv_app, dv_dgs n, Nat.pow_succ', Nat.mod_mul]
    omega
theorem dv_dec {u : Nat} (hu : u < 18446744073709551616) : dv (dec u) = u := by
  unfold dec nd10
  rw [dv_dgs, Nat.mod_eq_of_lt (ndF_lt 64 u (Nat.lt_trans hu (by decide)))]
theorem dec_mem {u c : Nat} (h : c ∈ dec u) : 48 ≤ c ∧ c < 58 := dgs_mem h
theorem dec_len (u : Nat) : (dec u).length = nd10 u := dgs_len _ _
/-- A whole number's text. -/
def decI (i : Int) : List Nat := if i < 0 then 45 :: dec i.natAbs else dec i.natAbs
theorem decI_mem {i : Int} {c : Nat} (h : c ∈ decI i) : c = 45 ∨ (48 ≤ c ∧ c < 58) := by
  unfold decI at h
  split at h
  · rcases List.mem_cons.1 h with h | h
    · exact .inl h
    · exact .inr (dec_mem h)
  · exact .inr (dec_mem h)
theorem dec_ne (u : Nat) : dec u ≠ [] := by
  intro h
  have := congrArg List.length h
  rw [dec_len] at this
  have := ndF_pos 64 u
  unfold nd10 at *
  simp at *; omega
theorem decI_inj {i j : Int} (hi : i.natAbs < 18446744073709551616) (hj : j.natAbs < 18446744073709551616) (h : decI i = decI j) : i = j := by
  have head : ∀ (u : Nat) (l : List Nat), dec u ≠ 45 :: l := by
    intro u l e
    have : 45 ∈ dec u := by rw [e]; exact List.mem_cons_self
    have := dec_mem this; omega
  unfold decI at h
  split at h <;> split at h
  · have := congrArg dv (List.cons.inj h).2
    rw [dv_dec hi, dv_dec hj] at this; omega
  · exact absurd h.symm (head _ _)
  · exact absurd h (head _ _)
  · have := congrArg dv h
    rw [dv_dec hi, dv_dec hj] at this; omega
theorem decI_len {i : Int} (h : i.natAbs < 18446744073709551616) : (decI i).length ≤ 21 := by
  have := nd10_le h
  unfold decI
  split <;> simp [dec_len] <;> omega
/-! ### Names -/
def sepd (f : List Nat) (fs : List (List Nat)) : List Nat := f ++ fs.flatMap (fun x => 32 :: x)
theorem span_eq {c : Nat} : ∀ {a b x y : List Nat}, c ∉ a → c ∉ b → a ++ c :: x = b ++ c :: y → a = b ∧ x = y
  | [], [], x, y, _, _, h => ⟨rfl, (List.cons.inj h).2⟩
  | [], b :: bs, x, y, _, hb, h => by
    have := (List.cons.inj h).1
    exact absurd (this ▸ List.mem_cons_self) hb
  | a :: as, [], x, y, ha, _, h => by
    have := (List.cons.inj h).1
    exact absurd (this ▸ List.mem_cons_self) ha
  | a :: as, b :: bs, x, y, ha, hb, h => by
    obtain ⟨h1, h2⟩ := List.cons.inj h
    obtain ⟨h3, h4⟩ := span_eq (fun h => ha (List.mem_cons_of_mem _ h)) (fun h => hb (List.mem_cons_of_mem _ h)) h2
    exact ⟨by rw [h1, h3], h4⟩
theorem sepd_inj : ∀ {fs gs : List (List Nat)} {f g : List Nat}, 32 ∉ f → 32 ∉ g → (∀ x ∈ fs, 32 ∉ x) → (∀ x ∈ gs, 32 ∉ x) → sepd f fs = sepd g gs → f = g ∧ fs = gs
  | [], [], f, g, _, _, _, _, h => ⟨by simpa [sepd] using h, rfl⟩
  | [], y :: gs, f, g, hf, hg, _, _, h => by
    have : 32 ∈ f := by
      have e : f = g ++ 32 :: (y ++ gs.flatMap fun x => 32 :: x) := by simpa [sepd] using h
      rw [e]; simp
    exact absurd this hf
  | y :: fs, [], f, g, hf, hg, _, _, h => by
    have : 32 ∈ g := by
      have e : f ++ 32 :: (y ++ fs.flatMap fun x => 32 :: x) = g := by simpa [sepd] using h
      rw [← e]; simp
    exact absurd this hg
  | y :: fs, z :: gs, f, g, hf, hg, h1, h2, h => by
    have e : f ++ 32 :: sepd y fs = g ++ 32 :: sepd z gs := by simpa [sepd] using h
    obtain ⟨a, b⟩ := span_eq hf hg e
    obtain ⟨c, d⟩ := sepd_inj (h1 y (by simp)) (h2 z (by simp)) (fun x hx => h1 x (by simp [hx])) (fun x hx => h2 x (by simp [hx])) b
    exact ⟨a, by rw [c, d]⟩
/-- A term: its kind, those it is made of, its text, its number. -/
structure Tm where
  kind : Nat
  of : List Int
  text : List Nat
  n : Int
def Tm.nm (t : Tm) : List Nat := sepd (dec t.kind) (decI t.n :: t.of.map decI) ++ 58 :: t.text
/-- What a term that came out of Go is. -/
structure Tm.ok (t : Tm) : Prop where
  kind : t.kind < 256
  n : t.n.natAbs < 18446744073709551616
  of : ∀ i ∈ t.of, i.natAbs < 18446744073709551616
  text : ∀ c ∈ t.text, c < 256
theorem not_mem_decI {i : Int} {c : Nat} (h : c = 32 ∨ c = 58) : c ∉ decI i := fun hc => by have := decI_mem hc; omega
theorem not_mem_dec {u c : Nat} (h : c = 32 ∨ c = 58) : c ∉ dec u := fun hc => by have := dec_mem hc; omega
theorem Tm.nm_inj {s t : Tm} (hs : s.ok) (ht : t.ok) (h : s.nm = t.nm) : s = t := by
  have no58 : ∀ (u : Tm), 58 ∉ sepd (dec u.kind) (decI u.n :: u.of.map decI) := by
    intro u hc
    simp only [sepd, List.mem_append, List.mem_flatMap, List.mem_cons, List.mem_map] at hc
    rcases hc with hc | ⟨x, hx, hc⟩
    · exact not_mem_dec (.inr rfl) hc
    · rcases hc with hc | hc
      · omega
      · rcases hx with rfl | ⟨i, _, rfl⟩
        · exact not_mem_decI (.inr rfl) hc
        · exact not_mem_decI (.inr rfl) hc
  have no32 : ∀ (u : Tm), ∀ x ∈ decI u.n :: u.of.map decI, 32 ∉ x := by
    intro u x hx
    rcases List.mem_cons.1 hx with rfl | hx
    · exact not_mem_decI (.inl rfl)
    · obtain ⟨i, _, rfl⟩ := List.mem_map.1 hx
      exact not_mem_decI (.inl rfl)
  obtain ⟨h1, h2⟩ := span_eq (no58 s) (no58 t) h
  obtain ⟨h3, h4⟩ := sepd_inj (not_mem_dec (.inl rfl)) (not_mem_dec (.inl rfl)) (no32 s) (no32 t) h1
  obtain ⟨h5, h6⟩ := List.cons.inj h4
  have e1 : s.kind = t.kind := by
    have := congrArg dv h3
    have a := hs.kind
    have b := ht.kind
    rwa [dv_dec (by omega), dv_dec (by omega)] at this
  have e2 := decI_inj hs.n ht.n h5
  have e3 : s.of = t.of := by
    have a := hs.of
    have b := ht.of
    generalize s.of = l at h6 a
    generalize t.of = m at h6 b
    clear h4 h1 h h3 h5 h2
    induction l generalizing m with
    | nil => cases m with
      | nil => rfl
      | cons y m => simp at h6
    | cons x l ih =>
      cases m with
      | nil => simp at h6
      | cons y m =>
        simp only [List.map_cons, List.cons.injEq] at h6
        rw [decI_inj (a x (by simp)) (b y (by simp)) h6.1, ih (fun i hi => a i (by simp [hi])) m h6.2 (fun i hi => b i (by simp [hi]))]
  cases s; cases t
  simp_all
end Go.Px
