/- What is known of a table's terms: plain laws. No program in sight. -/
import Derived.Test.YthmnlkpikgglbaaGreatDoorPrm4
set_option linter.unusedVariables false
set_option linter.unusedSimpArgs false
namespace Go.Proofs.YthmnlkpikgglbaaGreatDoor
open Go.Px
def kat (h : List Bool) (i : Nat) : Bool := h.getD i false
def isK (h : List Bool) (i : Int) : Bool := decide (0 ≤ i) && kat h i.toNat
def pubF (ts : List Tm) (h : List Bool) (i : Int) : Bool := (match pos ts (pubT i) with
  | some j => kat h j
  | none => false) || isK h i
def mkK (k : Nat) : Bool := k == 2 || k == 3 || k == 5 || k == 6 || k == 7
def madeT (ts : List Tm) (h : List Bool) (t : Tm) : Bool :=
  if mkK t.kind then t.of.all (isK h)
  else if t.kind = 4 then (if t.n = 0 ∧ t.of.length = 2 then (isK h (t.of.getD 0 0) && pubF ts h (t.of.getD 1 0)) || (isK h (t.of.getD 1 0) && pubF ts h (t.of.getD 0 0)) else t.of.all (isK h))
  else false
def madeF (ts : List Tm) (h : List Bool) (i : Nat) : Bool := match ts[i]? with
  | none => false
  | some t => madeT ts h t
/-- No less is known. -/
def Le (h h' : List Bool) : Prop := ∀ i, kat h i = true → kat h' i = true
theorem Le.refl (h : List Bool) : Le h h := fun _ h => h
theorem Le.trans {a b c : List Bool} (h1 : Le a b) (h2 : Le b c) : Le a c := fun i h => h2 i (h1 i h)
theorem isK_mono {h h' : List Bool} (hl : Le h h') {i : Int} (hi : isK h i = true) : isK h' i = true := by
  unfold isK at *
  rw [Bool.and_eq_true] at *
  exact ⟨hi.1, hl _ hi.2⟩
theorem pubF_mono {ts : List Tm} {h h' : List Bool} (hl : Le h h') {i : Int} (hi : pubF ts h i = true) : pubF ts h' i = true := by
  unfold pubF at *
  rw [Bool.or_eq_true] at *
  rcases hi with h1 | h1
  · left
    cases hp : pos ts (pubT i) with
    | none => rw [hp] at h1; cases h1
    | some j => rw [hp] at h1; exact hl _ h1
  · exact .inr (isK_mono hl h1)
theorem all_mono {h h' : List Bool} (hl : Le h h') {l : List Int} (hi : l.all (isK h) = true) : l.all (isK h') = true := by
  rw [List.all_eq_true] at *
  exact fun x hx => isK_mono hl (hi x hx)
theorem madeT_mono {ts : List Tm} {h h' : List Bool} (hl : Le h h') {t : Tm} (hi : madeT ts h t = true) : madeT ts h' t = true := by
  unfold madeT at *
  split at hi
  · rename_i hk; rw [if_pos hk]; exact all_mono hl hi
  · rename_i hk
    rw [if_neg hk]
    split at hi
    · rename_i h4
      rw [if_pos h4]
      split at hi
      · rename_i h0
        rw [if_pos h0]
        simp only [Bool.or_eq_true, Bool.and_eq_true] at *
        rcases hi with ⟨a, b⟩ | ⟨a, b⟩
        · exact .inl ⟨isK_mono hl a, pubF_mono hl b⟩
        · exact .inr ⟨isK_mono hl a, pubF_mono hl b⟩
      · rename_i h0; rw [if_neg h0]; exact all_mono hl hi
    · cases hi
theorem madeF_mono {ts : List Tm} {h h' : List Bool} (hl : Le h h') {i : Nat} (hi : madeF ts h i = true) : madeF ts h' i = true := by
  unfold madeF at *
  cases ht : ts[i]? with
  | none => rw [ht] at hi; cases hi
  | some t => rw [ht] at hi; exact madeT_mono hl hi
/-- Nothing more can be made. -/
def Cld (ts : List Tm) (h : List Bool) : Prop := ∀ i, madeF ts h i = true → kat h i = true
/-- The least that is known of some. -/
structure Clo (ts : List Tm) (h0 h : List Bool) : Prop where
  len : h.length = ts.length
  sup : Le h0 h
  cld : Cld ts h
  lst : ∀ h', Le h0 h' → Cld ts h' → Le h h'
theorem kat_ext {h h' : List Bool} (hl : h.length = h'.length) (h1 : Le h h') (h2 : Le h' h) : h = h' := by
  apply List.ext_getElem hl
  intro i a b
  have e1 : kat h i = h[i] := by unfold kat; rw [List.getD_eq_getElem?_getD, List.getElem?_eq_getElem a]; rfl
  have e2 : kat h' i = h'[i] := by unfold kat; rw [List.getD_eq_getElem?_getD, List.getElem?_eq_getElem b]; rfl
  have p1 := h1 i
  have p2 := h2 i
  rw [e1, e2] at p1 p2
  rw [Bool.eq_iff_iff]
  exact ⟨p1, p2⟩
theorem Clo.uniq {ts : List Tm} {h0 a b : List Bool} (ha : Clo ts h0 a) (hb : Clo ts h0 b) : a = b :=
  kat_ext (ha.len.trans hb.len.symm) (ha.lst b hb.sup hb.cld) (hb.lst a ha.sup ha.cld)
theorem kat_set {h : List Bool} {i j : Nat} (hi : i < h.length) : kat (h.set i true) j = (kat h j || decide (i = j)) := by
  unfold kat
  rw [List.getD_eq_getElem?_getD, List.getD_eq_getElem?_getD, List.getElem?_set]
  by_cases e : i = j
  · subst e; simp [hi]
  · simp [e]
theorem set_le {h : List Bool} {i : Nat} : Le h (h.set i true) := fun j hj => by
  unfold kat at *
  rw [List.getD_eq_getElem?_getD] at *
  rw [List.getElem?_set]
  by_cases e : i = j
  · subst e
    have : i < h.length := by
      rcases Nat.lt_or_ge i h.length with h1 | h1
      · exact h1
      · rw [List.getElem?_eq_none h1] at hj; cases hj
    simp [this]
  · simp [e]; simpa using hj
/-- One term more, where it can be made. -/
def stF (ts : List Tm) (h : List Bool) (i : Nat) : List Bool := if !kat h i && madeF ts h i then h.set i true else h
theorem stF_len (ts : List Tm) (h : List Bool) (i : Nat) : (stF ts h i).length = h.length := by unfold stF; split <;> simp
theorem stF_le (ts : List Tm) (h : List Bool) (i : Nat) : Le h (stF ts h i) := by
  unfold stF; split
  · exact set_le
  · exact Le.refl h
theorem stF_below {ts : List Tm} {h h' : List Bool} (hl : Le h h') (hc : Cld ts h') (i : Nat) : Le (stF ts h i) h' := by
  unfold stF
  split
  · rename_i hm
    rw [Bool.and_eq_true] at hm
    intro j hj
    by_cases e : i = j
    · subst e; exact hc i (madeF_mono hl hm.2)
    · refine hl j ?_
      unfold kat at *
      rw [List.getD_eq_getElem?_getD] at *
      rwa [List.getElem?_set_ne e] at hj
  · exact hl
/-- So many terms, one behind the other. -/
def psN (ts : List Tm) (h : List Bool) (n : Nat) : List Bool := (List.range n).foldl (stF ts) h
theorem psN_succ (ts : List Tm) (h : List Bool) (n : Nat) : psN ts h (n + 1) = stF ts (psN ts h n) n := fold_range n
theorem psN_len (ts : List Tm) (h : List Bool) (n : Nat) : (psN ts h n).length = h.length := by
  induction n with
  | zero => rfl
  | succ n ih => rw [psN_succ, stF_len, ih]
theorem psN_le (ts : List Tm) (h : List Bool) (n : Nat) : Le h (psN ts h n) := by
  induction n with
  | zero => exact Le.refl h
  | succ n ih => rw [psN_succ]; exact ih.trans (stF_le _ _ _)
theorem psN_below {ts : List Tm} {h h' : List Bool} (hl : Le h h') (hc : Cld ts h') (n : Nat) : Le (psN ts h n) h' := by
  induction n with
  | zero => exact hl
  | succ n ih => rw [psN_succ]; exact stF_below ih hc n
/-- What isn't changed by going over all is closed. -/
theorem psN_fix {ts : List Tm} {h : List Bool} (n : Nat) (he : psN ts h n = h) : ∀ i, i < n → i < h.length → madeF ts h i = true → kat h i = true := by
  induction n with
  | zero => intro i hi; omega
  | succ n ih =>
    have h1 := psN_le ts h n
    have h2 : Le (psN ts h n) h := by
      have := stF_le ts (psN ts h n) n
      rw [← psN_succ, he] at this
      exact this
    have e : psN ts h n = h := kat_ext (psN_len ts h n) h2 h1
    intro i hi hl hm
    by_cases hin : i < n
    · exact ih e i hin hl hm
    · obtain rfl : i = n := by omega
      rw [psN_succ, e] at he
      cases hk : kat h i with
      | true => rfl
      | false =>
        have e2 : stF ts h i = h.set i true := by unfold stF; rw [hk, hm]; rfl
        rw [e2] at he
        have := kat_set (h := h) (j := i) hl
        rw [he, hk] at this
        simp at this
theorem Cld.of {ts : List Tm} {h : List Bool} (hl : h.length = ts.length) (he : psN ts h ts.length = h) : Cld ts h := fun i hm => by
  have hi : i < ts.length := by
    rcases Nat.lt_or_ge i ts.length with h1 | h1
    · exact h1
    · unfold madeF at hm; rw [List.getElem?_eq_none h1] at hm; cases hm
  exact psN_fix _ he i hi (by omega) hm
/-- Rounds over all terms. -/
def rds_ (ts : List Tm) (h : List Bool) : Nat → List Bool
  | 0 => h
  | n + 1 => psN ts (rds_ ts h n) ts.length
def cnt (h : List Bool) : Nat := h.countP id
theorem rds_len (ts : List Tm) (h : List Bool) (n : Nat) : (rds_ ts h n).length = h.length := by
  induction n with
  | zero => rfl
  | succ n ih => rw [rds_, psN_len, ih]
theorem cnt_le {h h' : List Bool} (hl : h.length = h'.length) (hle : Le h h') : cnt h ≤ cnt h' ∧ (cnt h = cnt h' → h = h') := by
  induction h generalizing h' with
  | nil =>
    cases h' with
    | nil => exact ⟨Nat.le_refl _, fun _ => rfl⟩
    | cons b h' => simp at hl
  | cons a h ih =>
    cases h' with
    | nil => simp at hl
    | cons b h' =>
      obtain ⟨h1, h2⟩ := ih (h' := h') (by simpa using hl) (fun i hi => hle (i + 1) hi)
      have h0 := hle 0
      unfold cnt at *
      cases a <;> cases b
      · simp only [List.countP_cons, id]
        refine ⟨by simpa using h1, fun e => ?_⟩
        rw [h2 (by simpa using e)]
      · simp only [List.countP_cons, id]
        refine ⟨by simp; omega, fun e => ?_⟩
        simp at e
        omega
      · have := h0 rfl
        cases this
      · simp only [List.countP_cons, id]
        refine ⟨by simp; omega, fun e => ?_⟩
        rw [h2 (by simp at e; exact e)]
theorem rds_fix (ts : List Tm) (h : List Bool) (hl : h.length = ts.length) : psN ts (rds_ ts h (ts.length + 1)) ts.length = rds_ ts h (ts.length + 1) := by
  have key : ∀ n, psN ts (rds_ ts h n) ts.length = rds_ ts h n ∨ n ≤ cnt (rds_ ts h n) := by
    intro n
    induction n with
    | zero => exact .inr (Nat.zero_le _)
    | succ n ih =>
      rcases ih with ih | ih
      · left; rw [rds_, ih, ih]
      · have h1 := cnt_le (h := rds_ ts h n) (h' := rds_ ts h (n + 1)) (by rw [rds_len, rds_len]) (psN_le _ _ _)
        by_cases e : cnt (rds_ ts h n) = cnt (rds_ ts h (n + 1))
        · have e2 := h1.2 e
          left
          have e3 : psN ts (rds_ ts h n) ts.length = rds_ ts h n := e2.symm
          rw [← e2]; exact e3
        · right; have := h1.1; omega
  rcases key (ts.length + 1) with h1 | h1
  · exact h1
  · exfalso
    have h2 : cnt (rds_ ts h (ts.length + 1)) ≤ (rds_ ts h (ts.length + 1)).length := List.countP_le_length
    rw [rds_len, hl] at h2
    omega
theorem rds_clo (ts : List Tm) (h : List Bool) (hl : h.length = ts.length) : Clo ts h (rds_ ts h (ts.length + 1)) := by
  refine ⟨by rw [rds_len, hl], ?_, Cld.of (by rw [rds_len, hl]) (rds_fix ts h hl), fun h' h1 h2 => ?_⟩
  · have : ∀ n, Le h (rds_ ts h n) := by
      intro n
      induction n with
      | zero => exact Le.refl h
      | succ n ih => exact ih.trans (psN_le _ _ _)
    exact this _
  · have : ∀ n, Le (rds_ ts h n) h' := by
      intro n
      induction n with
      | zero => exact h1
      | succ n ih => exact psN_below ih h2 _
    exact this _
