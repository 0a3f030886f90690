/- Part 11 of the texts of this claim, one behind the other. -/
import Derived.Test.YthmnlkpikgglbaaGreatDoorB10
set_option linter.unusedVariables false
set_option linter.unusedSimpArgs false
set_option linter.unusedVariables false
set_option linter.unusedSimpArgs false
namespace Go.Proofs.YthmnlkpikgglbaaGreatDoor
open Go.Px
def kat (h : List Bool) (i : Nat) : Bool := h.getD i false
def isK (h : List Bool) (i : Int) : Bool := decide (0 ≤ i) && kat h i.toNat
def pubF (ts : List Tm) (h : List Bool) (i : Int) : Bool := (match pos ts (pubT i) with
  | some j => kat h j
  | none => false) || isK h i
def mkK (k : Nat) : Bool := k == 2 || k == 3 || k == 5 || k == 6 || k == 7
def madeT (ts : List Tm) (h : List Bool) (t : Tm) : Bool :=
  if mkK t.kind then t.of.all (isK h)
  else if t.kind = 4 then (if t.n = 0 ∧ t.of.length = 2 then (isK h (t.of.getD 0 0) && pubF ts h (t.of.getD 1 0)) || (isK h (t.of.getD 1 0) && pubF ts h (t.of.getD 0 0)) else t.of.all (isK h))
  else false
def madeF (ts : List Tm) (h : List Bool) (i : Nat) : Bool := match ts[i]? with
  | none => false
  | some t => madeT ts h t
/-- No less is known. -/
def Le (h h' : List Bool) : Prop := ∀ i, kat h i = true → kat h' i = true
theorem Le.refl (h : List Bool) : Le h h := fun _ h => h
theorem Le.trans {a b c : List Bool} (h1 : Le a b) (h2 : Le b c) : Le a c := fun i h => h2 i (h1 i h)
theorem isK_mono {h h' : List Bool} (hl : Le h h') {i : Int} (hi : isK h i = true) : isK h' i = true := by
  unfold isK at *
  rw [Bool.and_eq_true] at *
  exact ⟨hi.1, hl _ hi.2⟩
theorem pubF_mono {ts : List Tm} {h h' : List Bool} (hl : Le h h') {i : Int} (hi : pubF ts h i = true) : pubF ts h' i = true := by
  unfold pubF at *
  rw [Bool.or_eq_true] at *
  rcases hi with h1 | h1
  · left
    cases hp : pos ts (pubT i) with
    | none => rw [hp] at h1; cases h1
    | some j => rw [hp] at h1; exact hl _ h1
  · exact .inr (isK_mono hl h1)
theorem all_mono {h h' : List Bool} (hl : Le h h') {l : List Int} (hi : l.all (isK h) = true) : l.all (isK h') = true := by
  rw [List.all_eq_true] at *
  exact fun x hx => isK_mono hl (hi x hx)
theorem madeT_mono {ts : List Tm} {h h' : List Bool} (hl : Le h h') {t : Tm} (hi : madeT ts h t = true) : madeT ts h' t = true := by
  unfold madeT at *
  split at hi
  · rename_i hk; rw [if_pos hk]; exact all_mono hl hi
  · rename_i hk
    rw [if_neg hk]
    split at hi
    · rename_i h4
      rw [if_pos h4]
      split at hi
      · rename_i h0
        rw [if_pos h0]
        simp only [Bool.or_eq_true, Bool.and_eq_true] at *
        rcases hi with ⟨a, b⟩ | ⟨a, b⟩
        · exact .inl ⟨isK_mono hl a, pubF_mono hl b⟩
        · exact .inr ⟨isK_mono hl a, pubF_mono hl b⟩
      · rename_i h0; rw [if_neg h0]; exact all_mono hl hi
    · cases hi
theorem madeF_mono {ts : List Tm} {h h' : List Bool} (hl : Le h h') {i : Nat} (hi : madeF ts h i = true) : madeF ts h' i = true := by
  unfold madeF at *
  cases ht : ts[i]? with
  | none => rw [ht] at hi; cases hi
  | some t => rw [ht] at hi; exact madeT_mono hl hi
/-- Nothing more can be made. -/
def Cld (ts : List Tm) (h : List Bool) : Prop := ∀ i, madeF ts h i = true → kat h i = true
/-- The least that is known of some. -/
structure Clo (ts : List Tm) (h0 h : List Bool) : Prop where
  len : h.length = ts.length
  sup : Le h0 h
  cld : Cld ts h
  lst : ∀ h', Le h0 h' → Cld ts h' → Le h h'
theorem kat_ext {h h' : List Bool} (hl : h.length = h'.length) (h1 : Le h h') (h2 : Le h' h) : h = h' := by
  apply List.ext_getElem hl
  intro i a b
  have e1 : kat h i = h[i] := by unfold kat; rw [List.getD_eq_getElem?_getD, List.getElem?_eq_getElem a]; rfl
  have e2 : kat h' i = h'[i] := by unfold kat; rw [List.getD_eq_getElem?_getD, List.getElem?_eq_getElem b]; rfl
  have p1 := h1 i
  have p2 := h2 i
  rw [e1, e2] at p1 p2
  rw [Bool.eq_iff_iff]
  exact ⟨p1, p2⟩
theorem Clo.uniq {ts : List Tm} {h0 a b : List Bool} (ha : Clo ts h0 a) (hb : Clo ts h0 b) : a = b :=
  kat_ext (ha.len.trans hb.len.symm) (ha.lst b hb.sup hb.cld) (hb.lst a ha.sup ha.cld)
theorem kat_set {h : List Bool} {i j : Nat} (hi : i < h.length) : kat (h.set i true) j = (kat h j || decide (i = j)) := by
  unfold kat
  rw [List.getD_eq_getElem?_getD, List.getD_eq_getElem?_getD, List.getElem?_set]
  by_cases e : i = j
  · subst e; simp [hi]
  · simp [e]
theorem set_le {h : List Bool} {i : Nat} : Le h (h.set i true) := fun j hj => by
  unfold kat at *
  rw [List.getD_eq_getElem?_getD] at *
  rw [List.getElem?_set]
  by_cases e : i = j
  · subst e
    have : i < h.length := by
      rcases Nat.lt_or_ge i h.length with h1 | h1
      · exact h1
      · rw [List.getElem?_eq_none h1] at hj; cases hj
    simp [this]
  · simp [e]; simpa using hj
/-- One term more, where it can be made. -/
def stF (ts : List Tm) (h : List Bool) (i : Nat) : List Bool := if !kat h i && madeF ts h i then h.set i true else h
theorem stF_len (ts : List Tm) (h : List Bool) (i : Nat) : (stF ts h i).length = h.length := by unfold stF; split <;> simp
theorem stF_le (ts : List Tm) (h : List Bool) (i : Nat) : Le h (stF ts h i) := by
  unfold stF; split
  · exact set_le
  · exact Le.refl h
theorem stF_below {ts : List Tm} {h h' : List Bool} (hl : Le h h') (hc : Cld ts h') (i : Nat) : Le (stF ts h i) h' := by
  unfold stF
  split
  · rename_i hm
    rw [Bool.and_eq_true] at hm
    intro j hj
    by_cases e : i = j
    · subst e; exact hc i (madeF_mono hl hm.2)
    · refine hl j ?_
      unfold kat at *
      rw [List.getD_eq_getElem?_getD] at *
      rwa [List.getElem?_set_ne e] at hj
  · exact hl
/-- So many terms, one behind the other. -/
def psN (ts : List Tm) (h : List Bool) (n : Nat) : List Bool := (List.range n).foldl (stF ts) h
theorem psN_succ (ts : List Tm) (h : List Bool) (n : Nat) : psN ts h (n + 1) = stF ts (psN ts h n) n := fold_range n
theorem psN_len (ts : List Tm) (h : List Bool) (n : Nat) : (psN ts h n).length = h.length := by
  induction n with
  | zero => rfl
  | succ n ih => rw [psN_succ, stF_len, ih]
theorem psN_le (ts : List Tm) (h : List Bool) (n : Nat) : Le h (psN ts h n) := by
  induction n with
  | zero => exact Le.refl h
  | succ n ih => rw [psN_succ]; exact ih.trans (stF_le _ _ _)
theorem psN_below {ts : List Tm} {h h' : List Bool} (hl : Le h h') (hc : Cld ts h') (n : Nat) : Le (psN ts h n) h' := by
  induction n with
  | zero => exact hl
  | succ n ih => rw [psN_succ]; exact stF_below ih hc n
/-- What isn't changed by going over all is closed. -/
theorem psN_fix {ts : List Tm} {h : List Bool} (n : Nat) (he : psN ts h n = h) : ∀ i, i < n → i < h.length → madeF ts h i = true → kat h i = true := by
  induction n with
  | zero => intro i hi; omega
  | succ n ih =>
    have h1 := psN_le ts h n
    have h2 : Le (psN ts h n) h := by
      have := stF_le ts (psN ts h n) n
      rw [← psN_succ, he] at this
      exact this
    have e : psN ts h n = h := kat_ext (psN_len ts h n) h2 h1
    intro i hi hl hm
    by_cases hin : i < n
    · exact ih e i hin hl hm
    · obtain rfl : i = n := by omega
      rw [psN_succ, e] at he
      cases hk : kat h i with
      | true => rfl
      | false =>
        have e2 : stF ts h i = h.set i true := by unfold stF; rw [hk, hm]; rfl
        rw [e2] at he
        have := kat_set (h := h) (j := i) hl
        rw [he, hk] at this
        simp at this
theorem Cld.of {ts : List Tm} {h : List Bool} (hl : h.length = ts.length) (he : psN ts h ts.length = h) : Cld ts h := fun i hm => by
  have hi : i < ts.length := by
    rcases Nat.lt_or_ge i ts.length with h1 | h1
    · exact h1
    · unfold madeF at hm; rw [List.getElem?_eq_none h1] at hm; cases hm
  exact psN_fix _ he i hi (by omega) hm
/-- Rounds over all terms. -/
def rds_ (ts : List Tm) (h : List Bool) : Nat → List Bool
  | 0 => h
  | n + 1 => psN ts (rds_ ts h n) ts.length
def cnt (h : List Bool) : Nat := h.countP id
theorem rds_len (ts : List Tm) (h : List Bool) (n : Nat) : (rds_ ts h n).length = h.length := by
  induction n with
  | zero => rfl
  | succ n ih => rw [rds_, psN_len, ih]
theorem cnt_le {h h' : List Bool} (hl : h.length = h'.length) (hle : Le h h') : cnt h ≤ cnt h' ∧ (cnt h = cnt h' → h = h') := by
  induction h generalizing h' with
  | nil =>
    cases h' with
    | nil => exact ⟨Nat.le_refl _, fun _ => rfl⟩
    | cons b h' => simp at hl
  | cons a h ih =>
    cases h' with
    | nil => simp at hl
    | cons b h' =>
      obtain ⟨h1, h2⟩ := ih (h' := h') (by simpa using hl) (fun i hi => hle (i + 1) hi)
      have h0 := hle 0
      unfold cnt at *
      cases a <;> cases b
      · simp only [List.countP_cons, id]
        refine ⟨by simpa using h1, fun e => ?_⟩
        rw [h2 (by simpa using e)]
      · simp only [List.countP_cons, id]
        refine ⟨by simp; omega, fun e => ?_⟩
        simp at e
        omega
      · have := h0 rfl
        cases this
      · simp only [List.countP_cons, id]
        refine ⟨by simp; omega, fun e => ?_⟩
        rw [h2 (by simp at e; exact e)]
theorem rds_fix (ts : List Tm) (h : List Bool) (hl : h.length = ts.length) : psN ts (rds_ ts h (ts.length + 1)) ts.length = rds_ ts h (ts.length + 1) := by
  have key : ∀ n, psN ts (rds_ ts h n) ts.length = rds_ ts h n ∨ n ≤ cnt (rds_ ts h n) := by
    intro n
    induction n with
    | zero => exact .inr (Nat.zero_le _)
    | succ n ih =>
      rcases ih with ih | ih
      · left; rw [rds_, ih, ih]
      · have h1 := cnt_le (h := rds_ ts h n) (h' := rds_ ts h (n + 1)) (by rw [rds_len, rds_len]) (psN_le _ _ _)
        by_cases e : cnt (rds_ ts h n) = cnt (rds_ ts h (n + 1))
        · have e2 := h1.2 e
          left
          have e3 : psN ts (rds_ ts h n) ts.length = rds_ ts h n := e2.symm
          rw [← e2]; exact e3
        · right; have := h1.1; omega
  rcases key (ts.length + 1) with h1 | h1
  · exact h1
  · exfalso
    have h2 : cnt (rds_ ts h (ts.length + 1)) ≤ (rds_ ts h (ts.length + 1)).length := List.countP_le_length
    rw [rds_len, hl] at h2
    omega
theorem rds_clo (ts : List Tm) (h : List Bool) (hl : h.length = ts.length) : Clo ts h (rds_ ts h (ts.length + 1)) := by
  refine ⟨by rw [rds_len, hl], ?_, Cld.of (by rw [rds_len, hl]) (rds_fix ts h hl), fun h' h1 h2 => ?_⟩
  · have : ∀ n, Le h (rds_ ts h n) := by
      intro n
      induction n with
      | zero => exact Le.refl h
      | succ n ih => exact ih.trans (psN_le _ _ _)
    exact this _
  · have : ∀ n, Le (rds_ ts h n) h' := by
      intro n
      induction n with
      | zero => exact h1
      | succ n ih => exact psN_below ih h2 _
    exact this _

end Go.Proofs.YthmnlkpikgglbaaGreatDoor
/-
  Function values: a closure is made, called. The first index of a predicate.
-/
set_option linter.unusedVariables false
set_option linter.unusedSimpArgs false
namespace Go.Px
theorem q_mkFunc {P : Program} {R : Mem} {l : Env} {d : Option Nat} {ty : TypeId} {pos : String} {af : Array Edge} {g : Option (Nat × Bool)} {fn : Fn} {xs : List Operand} {vs : List Value} (hx : Evs l xs vs) :
    OpQ P R ⟨d, .makeFunc fn #[] xs.toArray, ty, pos, af, g⟩ l (.func fn #[] vs.toArray) := fun N a w ha hw => by
  have e : xs.toArray.map a.eval = vs.toArray := by simp [hx.map ha]
  simp only [execOp, e]
  simp [Instr.makeFunc]
section call
variable {C : Cx} {l : Env} {M J : Mem} {K : Env → Mem → Mem → Prop} {d : Nat} {ty : TypeId} {pos : String} {af : Array Edge} {g : Option (Nat × Bool)} {x : Operand} {f : FuncId} {xs : List Operand} {vs cs : List Value} {ts : Array TypeId}
theorem l_callF {Mc R : Mem} {post : Value → Mem → Mem → Prop} (h0 : ev l x = some (.func (.func f) #[] cs.toArray)) (hx : Evs l xs vs) (hc : callable C.P f = true)
    (hM : M.Perm (Mc ++ R)) (hf : FnX C.P f (vs ++ cs) Mc (R ++ (J ++ C.A)) post) (hd : Nat.blt d C.N = true) (k : ∀ v M' J', post v M' J' → K ((d, v) :: l) (M' ++ R) (J' ++ J)) :
    OpL C ⟨some d, .call { callee := .value x, args := xs.toArray, argTypes := ts }, ty, pos, af, g⟩ l M J K := by
  intro Qp a w ha hw
  have hrun : (execOp a.eval ⟨some d, .call { callee := .value x, args := xs.toArray, argTypes := ts }, ty, pos, af, g⟩).run C.P w = .ok (.enter f (vs ++ cs).toArray) w := by
    have e : xs.toArray.map a.eval = vs.toArray := by simp [hx.map ha]
    simp only [execOp, resolve, e, Sem.run_bind, ha.ev h0]
    simp [Deferred.ofValue, invoke, run_call hc]
  unfold Oper.wp
  rw [hrun]
  refine Calls.mono (hf w (hw.callee hM)) ?_
  rintro e w' ⟨v, M', J', rfl, hp, hs⟩
  exact ⟨_, _, _, ha.put (blt_lt hd) v, hw.back hM hs, k v M' J' hp⟩
theorem l_callFV {v : Value} (h0 : ev l x = some (.func (.func f) #[] cs.toArray)) (hx : Evs l xs vs) (hc : callable C.P f = true) (hf : FnV C.P f (vs ++ cs) (M ++ (J ++ C.A)) v) (hd : Nat.blt d C.N = true) (k : K ((d, v) :: l) M J) :
    OpL C ⟨some d, .call { callee := .value x, args := xs.toArray, argTypes := ts }, ty, pos, af, g⟩ l M J K :=
  l_callF (Mc := []) (R := M) h0 hx hc (.refl _) hf hd fun r M' J' ⟨e, h1, h2⟩ => by subst e; subst h1; subst h2; exact k
end call
/-- The first index for which something holds; -1: there is none. -/
def fidx (p : Nat → Bool) (n : Nat) : Int := match (List.range n).find? p with
  | some i => (i : Int)
  | none => -1
theorem fidx_some {p : Nat → Bool} {n i : Nat} (hi : i < n) (h0 : ∀ j, j < i → p j = false) (h : p i = true) : fidx p n = (i : Int) := by
  unfold fidx
  have : (List.range n).find? p = some i := by
    rw [List.find?_range_eq_some]
    exact ⟨h, List.mem_range.2 hi, fun j hj => by rw [h0 j hj]; rfl⟩
  rw [this]
theorem fidx_none {p : Nat → Bool} {n : Nat} (h0 : ∀ j, j < n → p j = false) : fidx p n = -1 := by
  unfold fidx
  have : (List.range n).find? p = none := by
    rw [List.find?_eq_none]
    intro j hj
    rw [h0 j (List.mem_range.1 hj)]; decide
  rw [this]
theorem fidx_cases (p : Nat → Bool) (n : Nat) : (fidx p n = -1 ∧ ∀ j, j < n → p j = false) ∨ ∃ i, i < n ∧ fidx p n = (i : Int) ∧ p i = true ∧ ∀ j, j < i → p j = false := by
  cases h : (List.range n).find? p with
  | none =>
    have h1 : ∀ j, j < n → p j = false := fun j hj => by
      have := List.find?_eq_none.1 h j (List.mem_range.2 hj)
      simpa using this
    exact .inl ⟨fidx_none h1, h1⟩
  | some i =>
    obtain ⟨h1, h2, h3⟩ := List.find?_range_eq_some.1 h
    have h4 : ∀ j, j < i → p j = false := fun j hj => by simpa using h3 j hj
    exact .inr ⟨i, List.mem_range.1 h2, fidx_some (List.mem_range.1 h2) h4 h1, h1, h4⟩
/-! ### Slices of structs -/
/-- What a kind of rows is: so many cells, each one value, told of facts that stay. -/
structure RowT {α : Type} (sz : Nat) (φ : Mem → α → List Value → Prop) : Prop where
  mono : ∀ R R' x r, (∀ q, q ∈ R → q ∈ R') → φ R x r → φ R' x r
  len : ∀ R x r, φ R x r → r.length = sz
  one : ∀ R x r, φ R x r → ∀ c ∈ r, c.oneCell' = true
structure RwL {α : Type} (φ : Mem → α → List Value → Prop) (R : Mem) (rows : List (List Value)) (xs : List α) : Prop where
  len : rows.length = xs.length
  get : ∀ (j : Nat) (x : α), xs[j]? = some x → ∃ r, rows[j]? = some r ∧ φ R x r
section rows
variable {α : Type} {sz : Nat} {φ : Mem → α → List Value → Prop} {R R' : Mem} {rows : List (List Value)} {xs : List α} {x : α} {r : List Value}
theorem RwL.mono (hφ : RowT sz φ) (h : RwL φ R rows xs) (hR : ∀ q, q ∈ R → q ∈ R') : RwL φ R' rows xs := ⟨h.len, fun j x hj => by
  obtain ⟨r, h1, h2⟩ := h.get j x hj
  exact ⟨r, h1, hφ.mono _ _ _ _ hR h2⟩⟩
theorem RwL.nil : RwL φ R [] [] := ⟨rfl, fun j x h => by simp at h⟩
theorem RwL.of (h : RwL φ R rows xs) {j : Nat} (hr : rows[j]? = some r) : ∃ x, xs[j]? = some x ∧ φ R x r := by
  have hj : j < xs.length := by rw [← h.len]; exact (List.getElem?_eq_some_iff.1 hr).1
  obtain ⟨r', h1, h2⟩ := h.get j xs[j] (List.getElem?_eq_getElem hj)
  rw [hr] at h1
  cases h1
  exact ⟨_, List.getElem?_eq_getElem hj, h2⟩
theorem RwL.lens (hφ : RowT sz φ) (h : RwL φ R rows xs) : ∀ r ∈ rows, r.length = sz := by
  intro r hr
  obtain ⟨j, hj⟩ := List.getElem?_of_mem hr
  obtain ⟨x, _, h2⟩ := h.of hj
  exact hφ.len _ _ _ h2
theorem RwL.ones (hφ : RowT sz φ) (h : RwL φ R rows xs) : ∀ c ∈ rows.flatten, c.oneCell' = true := by
  intro c hc
  obtain ⟨r, hr, hc⟩ := List.mem_flatten.1 hc
  obtain ⟨j, hj⟩ := List.getElem?_of_mem hr
  obtain ⟨x, _, h2⟩ := h.of hj
  exact hφ.one _ _ _ h2 c hc
theorem RwL.snoc (h : RwL φ R rows xs) (hx : φ R x r) : RwL φ R (rows ++ [r]) (xs ++ [x]) := ⟨by simp [h.len], fun j y hj => by
  by_cases hlt : j < xs.length
  · rw [List.getElem?_append_left hlt] at hj
    obtain ⟨r', h1, h2⟩ := h.get j y hj
    exact ⟨r', by rw [List.getElem?_append_left (List.getElem?_eq_some_iff.1 h1).1]; exact h1, h2⟩
  · rw [List.getElem?_append_right (by omega)] at hj
    have hj0 : j = xs.length := by
      have := (List.getElem?_eq_some_iff.1 hj).1
      simp at this; omega
    subst hj0
    simp at hj
    subst hj
    exact ⟨r, by rw [List.getElem?_append_right (by rw [h.len]; omega), h.len]; simp, hx⟩⟩
theorem RwL.app {rows' : List (List Value)} {xs' : List α} (h : RwL φ R rows xs) (h' : RwL φ R rows' xs') : RwL φ R (rows ++ rows') (xs ++ xs') := ⟨by simp [h.len, h'.len], fun j y hj => by
  by_cases hlt : j < xs.length
  · rw [List.getElem?_append_left hlt] at hj
    obtain ⟨r', h1, h2⟩ := h.get j y hj
    exact ⟨r', by rw [List.getElem?_append_left (List.getElem?_eq_some_iff.1 h1).1]; exact h1, h2⟩
  · rw [List.getElem?_append_right (by omega)] at hj
    obtain ⟨r', h1, h2⟩ := h'.get _ y hj
    exact ⟨r', by rw [List.getElem?_append_right (by rw [h.len]; omega), h.len]; exact h1, h2⟩⟩
theorem RwL.cons (hx : φ R x r) (h : RwL φ R rows xs) : RwL φ R (r :: rows) (x :: xs) := ⟨by simp [h.len], fun j y hj => by
  cases j with
  | zero => simp at hj; subst hj; exact ⟨r, rfl, hx⟩
  | succ j => exact h.get j y hj⟩
theorem RwL.take (h : RwL φ R rows xs) (k : Nat) : RwL φ R (rows.take k) (xs.take k) := ⟨by simp [h.len], fun j y hj => by
  have hk : j < k := by
    rcases Nat.lt_or_ge j k with h | h
    · exact h
    · rw [List.getElem?_eq_none (by simp; omega)] at hj; cases hj
  rw [List.getElem?_take_of_lt hk] at hj ⊢
  exact h.get j y hj⟩
theorem RwL.drop (h : RwL φ R rows xs) (k : Nat) : RwL φ R (rows.drop k) (xs.drop k) := ⟨by simp [h.len], fun j y hj => by
  rw [List.getElem?_drop] at hj ⊢
  exact h.get _ y hj⟩
theorem RwL.erase (h : RwL φ R rows xs) (i : Nat) : RwL φ R (rows.take i ++ rows.drop (i + 1)) (xs.eraseIdx i) := by
  rw [List.eraseIdx_eq_take_drop_succ]
  exact (h.take i).app (h.drop (i + 1))
/-- The cells of what is left when a row is deleted. -/
theorem flat_erase (hl : ∀ r ∈ rows, r.length = sz) (i : Nat) : rows.flatten.take (i * sz) ++ rows.flatten.drop ((i + 1) * sz) = (rows.take i ++ rows.drop (i + 1)).flatten := by
  rw [flat_take hl, flat_drop hl, List.flatten_append]
end rows
/-- The first index of a list's element with a property. -/
def fidxL {α : Type} (q : α → Bool) (xs : List α) : Int := fidx (fun j => (xs[j]?.map q).getD false) xs.length
theorem fidxL_cases {α : Type} (q : α → Bool) (xs : List α) : (fidxL q xs = -1 ∧ ∀ x ∈ xs, q x = false) ∨ ∃ (i : Nat) (x : α), fidxL q xs = (i : Int) ∧ xs[i]? = some x ∧ q x = true ∧ ∀ (j : Nat) (y : α), j < i → xs[j]? = some y → q y = false := by
  rcases fidx_cases (fun j => (xs[j]?.map q).getD false) xs.length with ⟨h1, h2⟩ | ⟨i, h1, h2, h3, h4⟩
  · refine .inl ⟨h1, fun x hx => ?_⟩
    obtain ⟨j, hj⟩ := List.getElem?_of_mem hx
    have := h2 j (List.getElem?_eq_some_iff.1 hj).1
    rw [hj] at this
    exact this
  · refine .inr ⟨i, xs[i], h2, List.getElem?_eq_getElem h1, ?_, fun j y hj hy => ?_⟩
    · rw [List.getElem?_eq_getElem h1] at h3
      exact h3
    · have := h4 j hj
      rw [hy] at this
      exact this
end Go.Px

/-
  Slices of one-cell values, as bools: make, a store into an element; a call with values ahead; the index of a predicate over one-cell elements.
-/
set_option linter.unusedVariables false
set_option linter.unusedSimpArgs false
namespace Go.Px
/-- What make of a row of bools asks of the type. -/
def mkB (P : Program) (t : TypeId) : Option (TypeId × Nat) :=
  match P.underlying t with
  | some (.slice e) => match P.info? e with
    | some i => match i.zero with
      | some (.bool false) => if i.size = 1 then some (e, i.bytes) else none
      | _ => none
    | none => none
  | _ => none
def bools (h : List Bool) : List Value := h.map .bool
@[simp] theorem bools_len (h : List Bool) : (bools h).length = h.length := by simp [bools]
theorem bools_app (a b : List Bool) : bools (a ++ b) = bools a ++ bools b := by simp [bools]
theorem bools_one (h : List Bool) : ∀ c ∈ bools h, c.oneCell' = true := by
  intro c hc
  obtain ⟨b, _, rfl⟩ := List.mem_map.1 hc
  rfl
theorem bools_get {h : List Bool} {i : Nat} (hi : i < h.length) : (bools h)[i]? = some (.bool (h.getD i false)) := by
  simp [bools, List.getD_eq_getElem?_getD, hi]
theorem bools_set (h : List Bool) (i : Nat) (b : Bool) : (bools h).set i (.bool b) = bools (h.set i b) := by simp [bools, List.map_set]
theorem made_bools (n : Nat) : madeCells #[.bool false] n = (bools (List.replicate n false)).toArray := by
  apply Array.ext
  · simp [madeCells]
  · intro i h1 h2
    simp [madeCells, bools, Nat.mod_one]
theorem l_makeB {C : Cx} {l : Env} {M J : Mem} {K : Env → Mem → Mem → Prop} {ty t e : TypeId} {pos : String} {af : Array Edge} {g : Option (Nat × Bool)} {x y : Operand} {d by_ : Nat} {kl kc : IntKind} {i j : Int} (n : Nat) (hx : ev l x = some (.int kl i)) (hy : ev l y = some (.int kc j)) (ht : mkB C.P t = some (e, by_)) (hi : i = n) (hj : j = n)
    (hb : by_ * n ≤ 281474976710656) (hn : n ≤ 9223372036854775807) (hd : Nat.blt d C.N = true) (h : ∀ b, K ((d, .slice (some ⟨b, 0, none⟩) n n) :: l) ((b, blk (bools (List.replicate n false)) e) :: M) J) :
    OpL C ⟨some d, .makeSlice t x y, ty, pos, af, g⟩ l M J K := by
  intro Qp a w ha hw
  subst hi; subst hj
  unfold mkB at ht
  split at ht <;> try cases ht
  rename_i e' hu
  split at ht <;> try cases ht
  rename_i inf hi
  split at ht <;> try cases ht
  rename_i hz
  split at ht <;> simp only [Option.some.injEq, Prod.mk.injEq, reduceCtorEq] at ht
  rename_i hs
  obtain ⟨rfl, rfl⟩ := ht
  have hb' : (inf.bytes : Int) * (n : Int) ≤ 281474976710656 := by rw [← Int.natCast_mul]; omega
  have hr := run_make (P := C.P) w t e' inf _ hu hi hz kl kc n n (by omega) (by omega) hb' (by omega)
  simp only [Int.toNat_natCast, hs, Nat.mul_one] at hr
  rw [show (Value.bool false).cells = #[.bool false] from rfl, made_bools] at hr
  unfold Oper.wp
  simp only [execOp, ha.ev hx, ha.ev hy, Sem.run_bind, hr, Result.andThen_ok, Sem.run_pure]
  exact ⟨_, _, J, ha.put (blt_lt hd) _, hw.alloc _, h _⟩
/-- What an append of a row of noughts, of which the translation hands over the number alone, asks of the types. -/
def appB (P : Program) (t tn : TypeId) : Option (TypeId × Nat) :=
  match P.underlying tn with
  | some (.int _) => mkB P t
  | _ => none
theorem zeros_bools (n : Nat) : Builtin.zeroCells #[.bool false] n = (bools (List.replicate n false)).toArray := by
  apply Array.ext
  · simp [Builtin.zeroCells]
  · intro i h1 h2
    simp [Builtin.zeroCells, bools, Nat.mod_one]
theorem run_append_zB {P : Program} {t tn e ty : TypeId} {by_ n m : Nat} {v : Value} {xs : List Value} {B R : Mem} {w : World} (ht : appB P t tn = some (e, by_))
    (hs : Sl 1 v n xs B) (hB : ∀ q, q ∈ B → q ∈ R) (hw : Fx R w) (hmax : n + m ≤ maxLen) (hbytes : (n + m) * by_ ≤ 140737488355328) :
    ∃ v' w' B', (Builtin.append_ #[t, tn] ty #[v, .int .i64 (m : Int)]).run P w = .ok v' w' ∧ Sl 1 v' (n + m) (xs ++ bools (List.replicate m false)) B' ∧
      ((w' = w ∧ B' = B) ∨
       (∃ (b : Nat) (cs cs' : List Value) (e' : TypeId), B = [(b, blk cs e')] ∧ B' = [(b, blk cs' e')] ∧ w' = w.setRow b cs'.toArray) ∨
       (∃ o', B' = [(w.heap.size, o')] ∧ w' = w.drew.alloc o')) := by
  unfold appB at ht
  split at ht <;> try cases ht
  rename_i kn htn
  unfold mkB at ht
  split at ht <;> try cases ht
  rename_i e' hu
  split at ht <;> try cases ht
  rename_i i hi
  split at ht <;> try cases ht
  rename_i hz
  split at ht <;> simp only [Option.some.injEq, Prod.mk.injEq, reduceCtorEq] at ht
  rename_i his
  obtain ⟨rfl, rfl⟩ := ht
  have hzc : (Value.bool false).cells = #[.bool false] := rfl
  have hsmall : n + m ≤ 9223372036854775807 := by simp only [maxLen] at hmax; omega
  have hwm : IntKind.i64.wrap (m : Int) = m := by rw [IntKind.wrap_i64]; omega
  have hneg : ¬ ((m : Int) < 0) := by omega
  have h48i : ¬ (281474976710656 < (m : Int) * (i.bytes : Int)) := by
    rw [← Int.natCast_mul]
    have : m * i.bytes ≤ (n + m) * i.bytes := Nat.mul_le_mul_right _ (by omega)
    omega
  by_cases hm : m = 0
  · subst hm
    have hw0 : IntKind.i64.wrap 0 = 0 := by rw [IntKind.wrap_i64]; omega
    refine ⟨v, w, B, ?_, by simpa [bools] using hs, .inl ⟨rfl, rfl⟩⟩
    rcases hs with ⟨p, rfl, rfl, rfl, rfl⟩ | ⟨b, o, cap, cs, e', rfl, rfl, h1, h2, h3, h4, h5⟩
    · cases p <;> simp [Builtin.append_, run_underlying hu, run_underlying htn, sizeOf, typeInfo, hi, asInt, asIntOf, hw0, storeCells, his]
    · simp [Builtin.append_, run_underlying hu, run_underlying htn, sizeOf, typeInfo, hi, asInt, asIntOf, hw0, storeCells, his, h1]
  · have made : ∀ (r : Value) (cap' : Nat), r = .slice (some ⟨w.heap.size, 0, none⟩) (n + m) cap' → n + m ≤ cap' → cap' ≤ maxLen → xs.length = n →
        Sl 1 r (n + m) (xs ++ bools (List.replicate m false)) [(w.heap.size, .cells (xs.toArray ++ (bools (List.replicate m false)).toArray ++ (bools (List.replicate (cap' - (n + m)) false)).toArray) e' (0, 0))] := by
      intro r cap' hr' hc1 hc2 hxl
      refine .inr ⟨w.heap.size, 0, cap', (xs.toArray ++ (bools (List.replicate m false)).toArray ++ (bools (List.replicate (cap' - (n + m)) false)).toArray).toList, e', hr', by simp [blk], hc1, hc2, ?_, ?_, ?_⟩
      · simp [hxl]; omega
      · simp [hxl]
      · intro j u hj
        have hlt : j < (xs ++ bools (List.replicate m false)).length := (List.getElem?_eq_some_iff.1 hj).1
        rw [Nat.zero_add]
        simp only [Array.toList_append, List.append_assoc]
        rw [← List.append_assoc, List.getElem?_append_left (by simpa using hlt)]
        exact hj
    have h63' : ¬ (9223372036854775807 < ((n : Int) + (m : Int))) := by omega
    rcases hs with ⟨p, rfl, rfl, rfl, rfl⟩ | ⟨b, o, cap, cs, e2, rfl, rfl, h1, h2, h3, h4, h5⟩
    · have hge := grownCap_ge w (0 + m) 0 e'
      have hcm : grownCap w (0 + m) 0 e' ≤ maxLen := grownCap_le_maxLen w (0 + m) 0 e' hmax
      have hfit : Builtin.nextslicecap (0 + m) 0 * i.bytes ≤ 281474976710656 := growslice_fits (by omega) hbytes
      have h48' : ¬ (281474976710656 < Builtin.nextslicecap (0 + m) 0 * i.bytes) := by omega
      refine ⟨.slice (some ⟨w.heap.size, 0, none⟩) (0 + m) (grownCap w (0 + m) 0 e'), _, _, ?_, made _ _ rfl hge hcm (by simp), .inr (.inr ⟨_, rfl, rfl⟩)⟩
      simp only [Nat.zero_add] at *
      have h63'' : ¬ (9223372036854775807 < (m : Int)) := by omega
      cases p <;> simp [Builtin.append_, run_underlying hu, run_underlying htn, sizeOf, typeInfo, zeroValue, hi, hz, hzc, asInt, asIntOf, hwm, hm, hneg, his, h63'', h48', h48i, Question.forced, newRow, grownCap, Builtin.firstCells, loadCells, loadCellsFrom, zeros_bools]
    · have hb := hw b _ (hB _ (List.mem_singleton.2 rfl))
      by_cases hroom : n + m ≤ cap
      · have hfit : o + n + (bools (List.replicate m false)).length ≤ cs.length := by simp; omega
        have hst := run_storeCells_at (P := P) b (o + n) e2 (bools (List.replicate m false)) 0 cs.toArray w hb (by simpa using hfit) (bools_one _)
        simp only [Nat.add_zero] at hst
        refine ⟨.slice (some ⟨b, o, none⟩) (n + m) cap, w.setRow b (cs.take (o + n) ++ bools (List.replicate m false) ++ cs.drop (o + n + (bools (List.replicate m false)).length)).toArray, _, ?_, ?_, .inr (.inl ⟨b, cs, _, e2, rfl, rfl, rfl⟩)⟩
        · simp [Builtin.append_, run_underlying hu, run_underlying htn, sizeOf, typeInfo, zeroValue, hi, hz, hzc, asInt, asIntOf, hwm, hm, hneg, his, h48i, hroom, Addr.add_mid, hst, zeros_bools]
        · refine .inr ⟨b, o, cap, _, e2, rfl, rfl, hroom, h2, ?_, ?_, ?_⟩
          · simp only [List.length_append, List.length_take, List.length_drop]
            omega
          · simp [h4]
          · intro j q hj
            by_cases hjx : j < xs.length
            · rw [List.getElem?_append_left hjx] at hj
              rw [List.append_assoc, List.getElem?_append_left (by simp; omega), List.getElem?_take_of_lt (by omega)]
              exact h5 j q hj
            · rw [List.getElem?_append_right (by omega)] at hj
              have hlt := (List.getElem?_eq_some_iff.1 hj).1
              have hln : (cs.take (o + n)).length = o + n := by simp; omega
              rw [List.append_assoc, List.getElem?_append_right (by omega), List.getElem?_append_left (by omega), hln, ← hj]
              congr 1
              omega
      · have hge := grownCap_ge w (n + m) cap e'
        have hcm : grownCap w (n + m) cap e' ≤ maxLen := grownCap_le_maxLen w (n + m) cap e' hmax
        have hfit : Builtin.nextslicecap (n + m) cap * i.bytes ≤ 281474976710656 := growslice_fits (by omega) hbytes
        have h48' : ¬ (281474976710656 < Builtin.nextslicecap (n + m) cap * i.bytes) := by omega
        have hfo := run_firstCells_some (P := P) w.drew 1 n ⟨b, o, none⟩ n cap xs h4 (fun j q hj => by rw [Addr.add_mid]; simpa using (by rw [cell_of_row w b _ cs.toArray e2 (0, 0) hb]; simpa using h5 j q hj))
        refine ⟨.slice (some ⟨w.heap.size, 0, none⟩) (n + m) (grownCap w (n + m) cap e'), _, _, ?_, made _ _ rfl hge hcm (by omega), .inr (.inr ⟨_, rfl, rfl⟩)⟩
        simp [Builtin.append_, run_underlying hu, run_underlying htn, sizeOf, typeInfo, zeroValue, hi, hz, hzc, asInt, asIntOf, hwm, hm, hneg, his, hroom, h63', h48', h48i, Question.forced, newRow, grownCap, hfo, zeros_bools]
section zb
variable {C : Cx} {l : Env} {M J : Mem} {K : Env → Mem → Mem → Prop} {d : Nat} {ty t tn e : TypeId} {pos : String} {af : Array Edge} {g : Option (Nat × Bool)} {x y : Operand}
/-- append(s, make([]bool, m)...) in place. -/
theorem l_appendZB {by_ n m : Nat} {v : Value} {j : Int} {xs : List Value} {B M0 : Mem} (hx : ev l x = some v) (hy : ev l y = some (.int .i64 j)) (hj : j = (m : Int)) (ht : appB C.P t tn = some (e, by_))
    (hs : Sl 1 v n xs B) (hM : M.Perm (B ++ M0)) (hmax : n + m ≤ maxLen) (hbytes : (n + m) * by_ ≤ 140737488355328) (hd : Nat.blt d C.N = true)
    (k : ∀ v' B', Sl 1 v' (n + m) (xs ++ bools (List.replicate m false)) B' → K ((d, v') :: l) (B' ++ M0) J) :
    OpL C ⟨some d, .call { callee := .builtin .append, args := #[x, y], argTypes := #[t, tn] }, ty, pos, af, g⟩ l M J K := by
  intro Qp a w ha hw
  subst hj
  obtain ⟨v', w', B', hrun, hsl, hcase⟩ := run_append_zB (P := C.P) (ty := ty) (R := M ++ (J ++ C.A)) ht hs (fun q hq => by have := hM.mem_iff.2 (List.mem_append_left M0 hq); simp [this]) hw.fx hmax hbytes
  have hexec : (execOp a.eval ⟨some d, .call { callee := .builtin .append, args := #[x, y], argTypes := #[t, tn] }, ty, pos, af, g⟩).run C.P w = .ok (.value v') w' := by
    simp [execOp, resolve, invoke, builtin, ha.ev hx, ha.ev hy, hrun]
  unfold Oper.wp
  rw [hexec]
  refine ⟨_, B' ++ M0, J, ha.put (blt_lt hd) v', ?_, k v' B' hsl⟩
  rcases hcase with ⟨rfl, rfl⟩ | ⟨b, cs, cs', e', rfl, rfl, rfl⟩ | ⟨o', rfl, rfl⟩
  · exact hw.perm hM
  · exact (hw.perm hM).setRow (M' := [(b, blk cs' e')] ++ M0) Upd.hd
  · have h2 : St C ((w.heap.size, o') :: M) J (w.drew.alloc o') := St.alloc (w := w.drew) hw.drew o'
    have h3 := h2.perm (M' := (w.heap.size, o') :: (B ++ M0)) (List.Perm.cons _ hM)
    exact h3.drop (List.Sublist.cons_cons _ (List.sublist_append_right B M0)) (fun _ h => h)
end zb
/-- A store into an element of an owned slice of one-cell values. -/
theorem l_stE {C : Cx} {l : Env} {M J : Mem} {K : Env → Mem → Mem → Prop} {ty t : TypeId} {pos : String} {af : Array Edge} {g : Option (Nat × Bool)} {x y : Operand} {v u : Value} {xs : List Value} {n j : Nat} {B M0 : Mem} (h : Sl 1 v n xs B) (hx : ev l x = some (vAt 1 j v)) (hy : ev l y = some u) (h1 : u.oneCell' = true)
    (ht : sizeT C.P t = some 1) (hj : j < n) (hM : M.Perm (B ++ M0)) (h2 : ∀ B', Sl 1 v n (xs.set j u) B' → K l (B' ++ M0) J) :
    OpL C ⟨none, .store t x y, ty, pos, af, g⟩ l M J K := by
  suffices hh : OpL C ⟨none, .store t x y, ty, pos, af, g⟩ l (B ++ M0) J K from fun Qp a w ha hw => hh Qp a w ha (hw.fit (Fit.perm hM) fun _ h => h)
  clear hM
  rcases h with ⟨p, rfl, rfl, hx2, rfl⟩ | ⟨b, o, cap, cs, e, rfl, rfl, h3, h4, h5, h6, h7⟩
  · omega
  · simp only [vAt, Addr.add_mid, Nat.mul_one] at hx
    refine l_store hx hy h1 ht (setL_set (by omega)) .hd (h2 [_] (.inr ⟨b, o, cap, _, e, rfl, rfl, h3, h4, by simpa using h5, by simpa using h6, ?_⟩))
    intro i w hi
    rw [List.getElem?_set] at hi ⊢
    by_cases hij : j = i
    · subst hij
      simp only [if_true] at hi ⊢
      simp at hi h6
      rw [if_pos (by omega)]
      rw [← hi.2]
    · rw [if_neg hij] at hi
      rw [if_neg (by omega)]
      exact h7 i w hi
/-- A function value with values ahead of its arguments. -/
theorem q_mkFuncF {P : Program} {R : Mem} {l : Env} {d : Option Nat} {ty : TypeId} {pos : String} {af : Array Edge} {g : Option (Nat × Bool)} {fn : Fn} {ys xs : List Operand} {us vs : List Value} (hy : Evs l ys us) (hx : Evs l xs vs) :
    OpQ P R ⟨d, .makeFunc fn ys.toArray xs.toArray, ty, pos, af, g⟩ l (.func fn us.toArray vs.toArray) := fun N a w ha hw => by
  have e : xs.toArray.map a.eval = vs.toArray := by simp [hx.map ha]
  have e2 : ys.toArray.map a.eval = us.toArray := by simp [hy.map ha]
  simp only [execOp, e, e2]
  simp [Instr.makeFunc]
section call
variable {C : Cx} {l : Env} {M J : Mem} {K : Env → Mem → Mem → Prop} {d : Nat} {ty : TypeId} {pos : String} {af : Array Edge} {g : Option (Nat × Bool)} {x : Operand} {f : FuncId} {xs : List Operand} {us vs cs : List Value} {ts : Array TypeId}
theorem l_callFF {Mc R : Mem} {post : Value → Mem → Mem → Prop} (h0 : ev l x = some (.func (.func f) us.toArray cs.toArray)) (hx : Evs l xs vs) (hc : callable C.P f = true)
    (hM : M.Perm (Mc ++ R)) (hf : FnX C.P f (us ++ vs ++ cs) Mc (R ++ (J ++ C.A)) post) (hd : Nat.blt d C.N = true) (k : ∀ v M' J', post v M' J' → K ((d, v) :: l) (M' ++ R) (J' ++ J)) :
    OpL C ⟨some d, .call { callee := .value x, args := xs.toArray, argTypes := ts }, ty, pos, af, g⟩ l M J K := by
  intro Qp a w ha hw
  have hrun : (execOp a.eval ⟨some d, .call { callee := .value x, args := xs.toArray, argTypes := ts }, ty, pos, af, g⟩).run C.P w = .ok (.enter f (us ++ vs ++ cs).toArray) w := by
    have e : xs.toArray.map a.eval = vs.toArray := by simp [hx.map ha]
    simp only [execOp, resolve, e, Sem.run_bind, ha.ev h0]
    simp [Deferred.ofValue, invoke, run_call hc]
  unfold Oper.wp
  rw [hrun]
  refine Calls.mono (hf w (hw.callee hM)) ?_
  rintro e w' ⟨v, M', J', rfl, hp, hs⟩
  exact ⟨_, _, _, ha.put (blt_lt hd) v, hw.back hM hs, k v M' J' hp⟩
theorem l_callFFV {v : Value} (h0 : ev l x = some (.func (.func f) us.toArray cs.toArray)) (hx : Evs l xs vs) (hc : callable C.P f = true) (hf : FnV C.P f (us ++ vs ++ cs) (M ++ (J ++ C.A)) v) (hd : Nat.blt d C.N = true) (k : K ((d, v) :: l) M J) :
    OpL C ⟨some d, .call { callee := .value x, args := xs.toArray, argTypes := ts }, ty, pos, af, g⟩ l M J K :=
  l_callFF (Mc := []) (R := M) h0 hx hc (.refl _) hf hd fun r M' J' ⟨e, h1, h2⟩ => by subst e; subst h1; subst h2; exact k
end call
/-- Has an element of a list a property? (as the index of the first one, at least 0) -/
theorem fidx_ge {p : Nat → Bool} {n : Nat} : decide (fidx p n ≥ 0) = (List.range n).any p := by
  rcases fidx_cases p n with ⟨h1, h2⟩ | ⟨i, h1, h2, h3, _⟩
  · rw [h1]
    symm
    rw [show decide ((-1 : Int) ≥ 0) = false from rfl, List.any_eq_false]
    intro j hj
    rw [h2 j (List.mem_range.1 hj)]; decide
  · rw [h2]
    symm
    rw [decide_eq_true (by omega), List.any_eq_true]
    exact ⟨i, List.mem_range.2 h1, h3⟩
theorem range_any {α : Type} (q : α → Bool) (l : List α) : (List.range l.length).any (fun j => (l[j]?.map q).getD false) = l.any q := by
  rw [Bool.eq_iff_iff, List.any_eq_true, List.any_eq_true]
  constructor
  · rintro ⟨j, hj, h⟩
    have hj := List.mem_range.1 hj
    rw [List.getElem?_eq_getElem hj] at h
    exact ⟨l[j], List.getElem_mem hj, h⟩
  · rintro ⟨x, hx, h⟩
    obtain ⟨j, hj⟩ := List.getElem?_of_mem hx
    exact ⟨j, List.mem_range.2 (List.getElem?_eq_some_iff.1 hj).1, by rw [hj]; exact h⟩
end Go.Px

/- The walks of package closure: what is known of one term. -/
set_option linter.unusedVariables false
set_option linter.unusedSimpArgs false
namespace Go.Proofs.YthmnlkpikgglbaaGreatDoor
open Go.Px
/-- What an adversary knows: its block, and which terms are known; owned, and read. -/
structure Knw (kb bt : Nat) (h : List Bool) (M : Mem) : Prop where
  ex : ∃ (v : Value) (B : Mem), M = (kb, blk [.pointer (some ⟨bt, 0, none⟩), v] 79) :: B ∧ Sl 1 v h.length (bools h) B
structure KnR (kb bt : Nat) (h : List Bool) (A : Mem) : Prop where
  ex : ∃ (v : Value), (kb, blk [.pointer (some ⟨bt, 0, none⟩), v] 79) ∈ A ∧ Rd A 1 v h.length (bools h)
structure TbR (bt bm : Nat) (ts : List Tm) (A : Mem) : Prop where
  ex : ∃ MT, Tab bt bm ts MT ∧ ∀ x, x ∈ MT → x ∈ A
theorem KnR.mono {kb bt : Nat} {h : List Bool} {A A' : Mem} (hk : KnR kb bt h A) (hs : ∀ x, x ∈ A → x ∈ A') : KnR kb bt h A' := by
  obtain ⟨v, h1, h2⟩ := hk.ex
  exact ⟨v, hs _ h1, h2.mono hs⟩
theorem Knw.rd {kb bt : Nat} {h : List Bool} {M A : Mem} (hk : Knw kb bt h M) (hs : ∀ x, x ∈ M → x ∈ A) : KnR kb bt h A := by
  obtain ⟨v, B, rfl, h2⟩ := hk.ex
  exact ⟨v, hs _ (by simp), h2.rd fun x hx => hs x (by simp [hx])⟩
theorem TbR.mono {bt bm : Nat} {ts : List Tm} {A A' : Mem} (hk : TbR bt bm ts A) (hs : ∀ x, x ∈ A → x ∈ A') : TbR bt bm ts A' := by
  obtain ⟨v, h1, h2⟩ := hk.ex
  exact ⟨v, h1, fun x hx => hs x (h2 x hx)⟩
theorem Tab.tbr {bt bm : Nat} {ts : List Tm} {MT A : Mem} (hT : Tab bt bm ts MT) (hs : ∀ x, x ∈ MT → x ∈ A) : TbR bt bm ts A := ⟨_, hT, hs⟩
theorem isK_nat {h : List Bool} {n : Nat} : isK h ((n : Nat) : Int) = h.getD n false := by
  unfold isK kat
  rw [decide_eq_true (Int.natCast_nonneg n), Bool.true_and]; rfl
theorem isK_neg {h : List Bool} {i : Int} (hi : ¬ 0 ≤ i) : isK h i = false := by
  unfold isK
  rw [decide_eq_false hi]; rfl
theorem isK_far {h : List Bool} {n : Nat} (hn : ¬ n < h.length) : isK h ((n : Nat) : Int) = false := by
  rw [isK_nat, List.getD_eq_getElem?_getD, List.getElem?_eq_none (by omega)]; rfl
theorem madeT_mk {ts : List Tm} {h : List Bool} {t : Tm} (hk : mkK t.kind = true) : madeT ts h t = t.of.all (isK h) := if_pos hk
theorem madeT_4a {ts : List Tm} {h : List Bool} {t : Tm} (hk : t.kind = 4) (hn : t.n = 0) (hl : t.of.length = 2) : madeT ts h t = ((isK h (t.of.getD 0 0) && pubF ts h (t.of.getD 1 0)) || (isK h (t.of.getD 1 0) && pubF ts h (t.of.getD 0 0))) := by
  unfold madeT
  rw [if_neg (by rw [hk]; decide), if_pos hk, if_pos ⟨hn, hl⟩]
theorem madeT_4b {ts : List Tm} {h : List Bool} {t : Tm} (hk : t.kind = 4) (hn : ¬ (t.n = 0 ∧ t.of.length = 2)) : madeT ts h t = t.of.all (isK h) := by
  unfold madeT
  rw [if_neg (by rw [hk]; decide), if_pos hk, if_neg hn]
theorem madeT_no {ts : List Tm} {h : List Bool} {t : Tm} (hk : mkK t.kind = false) (h4 : ¬ t.kind = 4) : madeT ts h t = false := by
  unfold madeT
  rw [if_neg (by rw [hk]; decide), if_neg h4]
theorem all_any {h : List Bool} {l : List Int} : (!(l.any fun x => !isK h x)) = l.all (isK h) := by
  rw [List.all_eq_not_any_not]

set_option maxRecDepth 100000 in
theorem is_spec (kb bt : Nat) (h : List Bool) (i : Int) (A : Mem) (hK : KnR kb bt h A) : FnV Tryz.prog 36 [.pointer (some ⟨kb, 0, none⟩), .int .i64 i] A (.bool (isK h i)) := by
  obtain ⟨v, hkb, hrd⟩ := hK.ex
  haveI := hrd.cel
  refine FnX.enter (N := 25) Tryz.func36 rfl rfl rfl fun w => ?_
  refine XC.keep (kp 0 rfl (kp 1 rfl kn)) ?_
  refine XC.reg ?_
  refine XL.q (q_assign rfl) rfl ?_
  refine XL.fin (kp 0 rfl (kp 1 rfl kn)) ?_
  refine XC.reg ?_
  refine XL.q (q_move rfl) rfl ?_
  refine XL.q (q_bin rfl rfl rfl) rfl ?_
  refine XL.q (q_move rfl) rfl ?_
  refine XL.split (t := 7) rfl (fun hb => ?_) (fun hb => ?_)
  ·
    have h0 : 0 ≤ i := by simpa using hb
    obtain ⟨n, rfl⟩ := Int.eq_ofNat_of_zero_le h0
    refine XL.gy rfl rfl (OpQ.opL (q_move rfl) rfl ?_)
    refine XL.gy rfl rfl (OpQ.opL (q_move rfl) rfl ?_)
    refine XL.gy rfl rfl (OpQ.opL (q_nil rfl) rfl ?_)
    refine XL.gy rfl rfl (OpQ.opL (q_fieldAddrN 1 (off := 1) rfl (by kernel_rfl) rfl) rfl ?_)
    refine XL.gy rfl rfl (OpQ.opL (q_load rfl (by kernel_rfl) (by first | exact At.mem | exact mA (by assumption)) (by rfl)) rfl ?_)
    refine XL.gy rfl rfl (OpQ.opL (q_lenV2 (sz := 1) rfl (by kernel_rfl) hrd) rfl ?_)
    refine XL.gy rfl rfl (OpQ.opL (q_bin rfl rfl rfl) rfl ?_)
    refine XL.q (q_pickT rfl rfl) rfl ?_
    refine XL.q (q_move rfl) rfl ?_
    refine XL.split (t := 16) rfl (fun hb => ?_) (fun hb => ?_)
    ·
      have hlt : n < h.length := by simpa using hb
      refine XL.gy rfl rfl (OpQ.opL (q_move rfl) rfl ?_)
      refine XL.gy rfl rfl (OpQ.opL (q_nil rfl) rfl ?_)
      refine XL.gy rfl rfl (OpQ.opL (q_fieldAddrN 1 (off := 1) rfl (by kernel_rfl) rfl) rfl ?_)
      refine XL.gy rfl rfl (OpQ.opL (q_load rfl (by kernel_rfl) (by first | exact At.mem | exact mA (by assumption)) (by rfl)) rfl ?_)
      refine XL.gy rfl rfl (OpQ.opL (q_move rfl) rfl ?_)
      refine XL.gy rfl rfl (OpQ.opL (q_atV2 (sz := 1) rfl rfl (by kernel_rfl) rfl hrd hlt) rfl ?_)
      refine XL.gy rfl rfl (OpQ.opL (q_ldV (j := n) (u := .bool (h.getD n false)) (hrd.mono SubC.sub) rfl (by kernel_rfl) (bools_get hlt)) rfl ?_)
      refine XL.q (q_pickT rfl rfl) rfl ?_
      refine XL.q (q_assign rfl) rfl ?_
      refine XL.fin (kp 4 rfl kn) ?_
      refine XC.ret ?_
      exact ⟨_, [], [], res1 rfl rfl, List.nil_sublist _, by simp, by rw [isK_nat], rfl, rfl⟩
    ·
      have hlt : ¬ n < h.length := by simpa using hb
      refine XL.gn rfl rfl rfl rfl ?_
      refine XL.gn rfl rfl rfl rfl ?_
      refine XL.gn rfl rfl rfl rfl ?_
      refine XL.gn rfl rfl rfl rfl ?_
      refine XL.gn rfl rfl rfl rfl ?_
      refine XL.gn rfl rfl rfl rfl ?_
      refine XL.gn rfl rfl rfl rfl ?_
      refine XL.q (q_pickF rfl rfl) rfl ?_
      refine XL.q (q_assign rfl) rfl ?_
      refine XL.fin (kp 4 rfl kn) ?_
      refine XC.ret ?_
      exact ⟨_, [], [], res1 rfl rfl, List.nil_sublist _, by simp, by rw [isK_far hlt], rfl, rfl⟩
  ·
    have h0 : ¬ 0 ≤ i := by simpa using hb
    refine XL.gn rfl rfl rfl rfl ?_
    refine XL.gn rfl rfl rfl rfl ?_
    refine XL.gn rfl rfl rfl rfl ?_
    refine XL.gn rfl rfl rfl rfl ?_
    refine XL.gn rfl rfl rfl rfl ?_
    refine XL.gn rfl rfl rfl rfl ?_
    refine XL.gn rfl rfl rfl rfl ?_
    refine XL.q (q_pickF rfl rfl) rfl ?_
    refine XL.q (q_move rfl) rfl ?_
    refine XL.gn rfl rfl rfl rfl ?_
    refine XL.gn rfl rfl rfl rfl ?_
    refine XL.gn rfl rfl rfl rfl ?_
    refine XL.gn rfl rfl rfl rfl ?_
    refine XL.gn rfl rfl rfl rfl ?_
    refine XL.gn rfl rfl rfl rfl ?_
    refine XL.gn rfl rfl rfl rfl ?_
    refine XL.q (q_pickF rfl rfl) rfl ?_
    refine XL.q (q_assign rfl) rfl ?_
    refine XL.fin (kp 4 rfl kn) ?_
    refine XC.ret ?_
    exact ⟨_, [], [], res1 rfl rfl, List.nil_sublist _, by simp, by rw [isK_neg h0], rfl, rfl⟩

set_option maxRecDepth 100000 in
theorem lacks_spec (kb bt : Nat) (h : List Bool) (i : Int) (A : Mem) (hK : KnR kb bt h A) : FnV Tryz.prog 59 [.pointer (some ⟨kb, 0, none⟩), .int .i64 i] A (.bool (!isK h i)) := by
  skip
  refine FnX.enter (N := 9) Tryz.func59 rfl rfl rfl fun w => ?_
  refine XC.keep (kp 0 rfl (kp 1 rfl kn)) ?_
  refine XC.reg ?_
  refine XL.q (q_assign rfl) rfl ?_
  refine XL.fin (kp 0 rfl (kp 1 rfl kn)) ?_
  refine XC.reg ?_
  refine XL.q (q_move rfl) rfl ?_
  refine XL.q (q_move rfl) rfl ?_
  refine XL.callV (aS rfl (aS rfl a0)) (by kernel_rfl) (is_spec kb bt h i _ (hK.mono SubC.sub)) rfl ?_
  refine XL.q (q_not rfl) rfl ?_
  refine XL.q (q_assign rfl) rfl ?_
  refine XL.fin (kp 4 rfl kn) ?_
  refine XC.ret ?_
  exact ⟨_, [], [], res1 rfl rfl, List.nil_sublist _, by simp, rfl, rfl, rfl⟩

theorem pos_or {h : List Bool} {o : Option Nat} {b : Bool} : ((o.isSome && isK h ((o.getD 0 : Nat) : Int)) || b) = ((match o with
  | some j => kat h j
  | none => false) || b) := by
  cases o with
  | none => rfl
  | some j =>
    show ((true && isK h ((j : Nat) : Int)) || b) = _
    rw [isK_nat, Bool.true_and]; rfl
theorem pub_val {ts : List Tm} {h : List Bool} {i : Int} {po : Option Nat} (hpo : pos ts (pubT i) = po) : pubF ts h i = ((po.isSome && isK h ((po.getD 0 : Nat) : Int)) || isK h i) := by
  subst hpo
  rw [pos_or]; rfl

set_option maxRecDepth 100000 in
theorem public_k (kb bt bm : Nat) (ts : List Tm) (h : List Bool) (i : Int) (A : Mem) (hK : KnR kb bt h A) (hT0 : TbR bt bm ts A) (hi : i64 i) {e4 : TypeId} {f4 : Nat × Nat} (h4 : (4, Obj.cells (nums .u64 pow10T).toArray e4 f4) ∈ A) : FnV Tryz.prog 60 [.pointer (some ⟨kb, 0, none⟩), .int .i64 i] A (.bool (pubF ts h i)) := by
  obtain ⟨v, hkb, hrd⟩ := hK.ex
  haveI := hrd.cel
  obtain ⟨MT, hT, hsub⟩ := hT0.ex
  refine FnX.enter (N := 29) Tryz.func60 rfl rfl rfl fun w => ?_
  refine XC.keep (kp 0 rfl (kp 1 rfl kn)) ?_
  refine XC.reg ?_
  refine XL.q (q_assign rfl) rfl ?_
  refine XL.fin (kp 0 rfl (kp 1 rfl kn)) ?_
  refine XC.reg ?_
  refine XL.q (q_move rfl) rfl ?_
  refine XL.q (q_nil rfl) rfl ?_
  refine XL.q (q_fieldAddrN 0 (off := 0) rfl (by kernel_rfl) rfl) rfl ?_
  refine XL.q (q_load rfl (by kernel_rfl) (by first | exact At.mem | exact mA (by assumption)) (by rfl)) rfl ?_
  refine XL.q (q_move rfl) rfl ?_
  refine XL.lo rfl (l_buildSlice (e := 3) (sz := 1) (z := [.int .i64 0]) (by kernel_rfl) (eS rfl e0) (bdS 0 1 rfl (by rfl) bd0) rfl fun b13 => ?_)
  refine XL.q (q_build (place := fun x => #[(0, 1), (1, 1), (2, 1), (3, 1)][x]?) (z := [.int .u8 0, .slice none 0 0, .string ByteArray.empty, .int .i64 0]) (fun _ => by kernel_rfl) (eS rfl (eS rfl e0)) (bdS 0 1 rfl (by rfl) (bdS 1 1 rfl (by rfl) bd0))) rfl ?_
  refine XL.callV (aS rfl (aS rfl a0)) (by kernel_rfl) (findT_spec bt bm ts _ (pubT i) MT _ hT (fun x hx => mA (hsub x hx)) (Rd.whole (n := 1) At.mem (by rfl)) (pub_ok hi) (mA h4)) rfl ?_
  generalize hpo : pos ts (pubT i) = po
  refine XL.q (q_move rfl) rfl ?_
  refine XL.q (q_x0 rfl) rfl ?_
  refine XL.q (q_x1 rfl) rfl ?_
  refine XL.q (q_assign rfl) rfl ?_
  refine XL.q (q_assign rfl) rfl ?_
  refine XL.fin (kp 0 rfl (kp 1 rfl (kp 5 rfl (kp 6 rfl kn)))) ?_
  refine XC.reg ?_
  refine XL.q (q_move rfl) rfl ?_
  refine XL.q (q_move rfl) rfl ?_
  refine XL.split (t := 19) rfl (fun hb => ?_) (fun hb => ?_)
  ·
    have hA := hb
    refine XL.gy rfl rfl (OpQ.opL (q_move rfl) rfl ?_)
    refine XL.gy rfl rfl (OpQ.opL (q_move rfl) rfl ?_)
    refine XL.callVg rfl rfl (aS rfl (aS rfl a0)) (by kernel_rfl) (is_spec kb bt h _ _ (hK.mono SubC.sub)) rfl ?_
    refine XL.q (q_pickT rfl rfl) rfl ?_
    refine XL.q (q_move rfl) rfl ?_
    refine XL.split (t := 24) rfl (fun hb => ?_) (fun hb => ?_)
    ·
      have hB := hb
      refine XL.gn rfl rfl rfl rfl ?_
      refine XL.gn rfl rfl rfl rfl ?_
      refine XL.gn rfl rfl rfl rfl ?_
      refine XL.q (q_pickT rfl rfl) rfl ?_
      refine XL.q (q_assign rfl) rfl ?_
      refine XL.fin (kp 4 rfl kn) ?_
      refine XC.ret ?_
      exact ⟨_, [], [], res1 rfl rfl, List.nil_sublist _, by simp, by rw [pub_val hpo, hA, hB]; rfl, rfl, rfl⟩
    ·
      have hB := hb
      refine XL.gy rfl rfl (OpQ.opL (q_move rfl) rfl ?_)
      refine XL.gy rfl rfl (OpQ.opL (q_move rfl) rfl ?_)
      refine XL.callVg rfl rfl (aS rfl (aS rfl a0)) (by kernel_rfl) (is_spec kb bt h _ _ (hK.mono SubC.sub)) rfl ?_
      refine XL.q (q_pickF rfl rfl) rfl ?_
      refine XL.q (q_assign rfl) rfl ?_
      refine XL.fin (kp 4 rfl kn) ?_
      refine XC.ret ?_
      exact ⟨_, [], [], res1 rfl rfl, List.nil_sublist _, by simp, by rw [pub_val hpo, hA, hB]; rfl, rfl, rfl⟩
  ·
    have hA := hb
    refine XL.gn rfl rfl rfl rfl ?_
    refine XL.gn rfl rfl rfl rfl ?_
    refine XL.gn rfl rfl rfl rfl ?_
    refine XL.q (q_pickF rfl rfl) rfl ?_
    refine XL.q (q_move rfl) rfl ?_
    refine XL.gy rfl rfl (OpQ.opL (q_move rfl) rfl ?_)
    refine XL.gy rfl rfl (OpQ.opL (q_move rfl) rfl ?_)
    refine XL.callVg rfl rfl (aS rfl (aS rfl a0)) (by kernel_rfl) (is_spec kb bt h _ _ (hK.mono SubC.sub)) rfl ?_
    refine XL.q (q_pickF rfl rfl) rfl ?_
    refine XL.q (q_assign rfl) rfl ?_
    refine XL.fin (kp 4 rfl kn) ?_
    refine XC.ret ?_
    exact ⟨_, [], [], res1 rfl rfl, List.nil_sublist _, by simp, by rw [pub_val hpo, hA]; rfl, rfl, rfl⟩

theorem ints_at {xs : List Int} {i : Nat} (hi : i < xs.length) : (ints xs)[i]? = some (.int .i64 (xs.getD i 0)) := by
  unfold ints
  rw [List.getElem?_map, List.getD_eq_getElem?_getD, List.getElem?_eq_getElem hi]; rfl

set_option maxRecDepth 100000 in
theorem index_i (v : Value) (xs : List Int) (f : FuncId) (us : List Value) (q : Int → Bool) (A : Mem) (hv : Rd A 1 v xs.length (ints xs)) (hn : xs.length ≤ 1099511627776) (hc_ : callable Tryz.prog f = true) (hf : ∀ (x : Int), FnV Tryz.prog f (us ++ [.int .i64 x] ++ []) A (.bool (q x))) : FnV Tryz.prog 92 [v, .func (.func f) us.toArray #[]] A (.int .i64 (fidx (fun j => q (xs.getD j 0)) xs.length)) := by
  haveI := hv.cel
  refine FnX.enter (N := 19) Tryz.func92 rfl rfl rfl fun w => ?_
  refine XC.keep (kp 0 rfl (kp 1 rfl kn)) ?_
  refine XC.reg ?_
  refine XL.q (q_assign rfl) rfl ?_
  refine XL.fin (kp 0 rfl (kp 1 rfl kn)) ?_
  refine XC.seq ?_
  refine XC.reg ?_
  refine XL.q (q_move rfl) rfl ?_
  refine XL.q (q_lenV2 (sz := 1) rfl (by kernel_rfl) hv) rfl ?_
  refine XL.q (q_move rfl) rfl ?_
  refine XL.fin (kp 0 rfl (kp 1 rfl (kp 7 rfl (kp 8 rfl kn)))) ?_
  refine XC.block ?_
  refine XC.loop (α := Nat) (fun i => [(0, v), (1, .func (.func f) us.toArray #[]), (7, .int .i64 ((xs.length : Nat) : Int)), (8, .int .i64 (i : Int))]) (fun _ => []) (fun _ => []) (fun i => i ≤ xs.length ∧ ∀ j, j < i → q (xs.getD j 0) = false) (fun i => xs.length - i) 0 ⟨Nat.zero_le _, fun j h => absurd h (Nat.not_lt_zero j)⟩ (kp 0 rfl (kp 1 rfl (kp 7 rfl (kp 8 rfl kn)))) .rfl (fun _ h => h) ?_
  rintro i ⟨hi, hp⟩
  refine XC.reg ?_
  refine XL.q (q_bin rfl rfl rfl) rfl ?_
  refine XL.fin (kp 0 rfl (kp 1 rfl (kp 7 rfl (kp 8 rfl (kp 9 rfl kn))))) ?_
  refine XC.seq ?_
  refine XC.cond rfl (fun hc => ?_) (fun hc => ?_)
  ·
    have hlt : i < xs.length := by simp at hc; omega
    refine XC.skip ?_
    refine nx (kp 0 rfl (kp 1 rfl (kp 7 rfl (kp 8 rfl kn)))) ?_
    refine XC.seq ?_
    refine XC.block ?_
    refine XC.reg ?_
    refine XL.q (q_move rfl) rfl ?_
    refine XL.q (q_assign rfl) rfl ?_
    refine XL.fin (kp 0 rfl (kp 1 rfl (kp 5 rfl (kp 7 rfl (kp 8 rfl kn))))) ?_
    refine XC.reg ?_
    refine XL.q (q_move rfl) rfl ?_
    refine XL.q (q_move rfl) rfl ?_
    refine XL.q (q_move rfl) rfl ?_
    refine XL.q (q_atV2 (sz := 1) rfl rfl (by kernel_rfl) rfl hv hlt) rfl ?_
    refine XL.q (q_ldV (j := i) (u := .int .i64 (xs.getD i 0)) (hv.mono SubC.sub) rfl (by kernel_rfl) (ints_at hlt)) rfl ?_
    refine XL.lo rfl (l_callFFV rfl (aS rfl a0) hc_ (hf (xs.getD i 0)) rfl ?_)
    refine XL.fin (kp 0 rfl (kp 1 rfl (kp 5 rfl (kp 7 rfl (kp 8 rfl (kp 16 rfl kn)))))) ?_
    refine XC.cond rfl (fun hc => ?_) (fun hc => ?_)
    ·
      refine XC.reg ?_
      refine XL.q (q_move rfl) rfl ?_
      refine XL.q (q_assign rfl) rfl ?_
      refine XL.fin (kp 4 rfl kn) ?_
      refine XC.ret ?_
      refine br ?_
      refine tr ?_
      refine rr ?_
      refine br ?_
      refine tr ?_
      exact ⟨_, [], [], res1 rfl rfl, List.nil_sublist _, by simp, by rw [fidx_some hlt hp hc], rfl, rfl⟩
    ·
      refine XC.skip ?_
      refine nb ?_
      refine nx (kp 0 rfl (kp 1 rfl (kp 7 rfl (kp 8 rfl kn)))) ?_
      refine XC.reg1 ?_
      refine XL.q (q_addI (b := 1) rfl rfl rfl rfl (by omega)) rfl ?_
      refine XL.q (q_move rfl) rfl ?_
      refine XL.nil ?_
      exact rn (i + 1) ⟨hlt, fun j hj => by rcases Nat.lt_succ_iff_lt_or_eq.1 hj with h | h; exact hp j h; rw [h]; exact hc⟩ (by omega) (kp 0 rfl (kp 1 rfl (kp 7 rfl (kp 8 rfl kn)))) .rfl (fun _ h => h)
  ·
    have hge : i = xs.length := by simp at hc; omega
    subst hge
    refine XC.exit ?_
    refine te ?_
    refine re ?_
    refine be rfl ?_
    refine nx kn ?_
    refine XC.reg ?_
    refine XL.q (q_assign rfl) rfl ?_
    refine XL.fin (kp 4 rfl kn) ?_
    refine XC.ret ?_
    exact ⟨_, [], [], res1 rfl rfl, List.nil_sublist _, by simp, by rw [fidx_none hp], rfl, rfl⟩

theorem any_range {xs : List Int} {q : Int → Bool} : (List.range xs.length).any (fun j => q (xs.getD j 0)) = xs.any q := by
  rw [← range_any q xs, Bool.eq_iff_iff, List.any_eq_true, List.any_eq_true]
  constructor
  · rintro ⟨j, hj, h⟩
    refine ⟨j, hj, ?_⟩
    rw [List.getD_eq_getElem?_getD, List.getElem?_eq_getElem (List.mem_range.1 hj)] at h
    rw [List.getElem?_eq_getElem (List.mem_range.1 hj)]; exact h
  · rintro ⟨j, hj, h⟩
    refine ⟨j, hj, ?_⟩
    rw [List.getElem?_eq_getElem (List.mem_range.1 hj)] at h
    rw [List.getD_eq_getElem?_getD, List.getElem?_eq_getElem (List.mem_range.1 hj)]; exact h

set_option maxRecDepth 100000 in
theorem contains_i (v : Value) (xs : List Int) (f : FuncId) (us : List Value) (q : Int → Bool) (A : Mem) (hv : Rd A 1 v xs.length (ints xs)) (hn : xs.length ≤ 1099511627776) (hc_ : callable Tryz.prog f = true) (hf : ∀ (x : Int), FnV Tryz.prog f (us ++ [.int .i64 x] ++ []) A (.bool (q x))) : FnV Tryz.prog 58 [v, .func (.func f) us.toArray #[]] A (.bool (xs.any q)) := by
  haveI := hv.cel
  refine FnX.enter (N := 9) Tryz.func58 rfl rfl rfl fun w => ?_
  refine XC.keep (kp 0 rfl (kp 1 rfl kn)) ?_
  refine XC.reg ?_
  refine XL.q (q_assign rfl) rfl ?_
  refine XL.fin (kp 0 rfl (kp 1 rfl kn)) ?_
  refine XC.reg ?_
  refine XL.q (q_move rfl) rfl ?_
  refine XL.q (q_move rfl) rfl ?_
  refine XL.callV (aS rfl (aS rfl a0)) (by kernel_rfl) (index_i v xs f us q _ (hv.mono SubC.sub) hn hc_ hf) rfl ?_
  refine XL.q (q_cmp (decide (fidx (fun j => q (xs.getD j 0)) xs.length ≥ 0)) rfl rfl rfl) rfl ?_
  refine XL.q (q_assign rfl) rfl ?_
  refine XL.fin (kp 4 rfl kn) ?_
  refine XC.ret ?_
  exact ⟨_, [], [], res1 rfl rfl, List.nil_sublist _, by simp, by rw [fidx_ge, any_range], rfl, rfl⟩

theorem mk_no {k : Nat} (h2 : ¬ k = 2) (h3 : ¬ k = 3) (h5 : ¬ k = 5) (h6 : ¬ k = 6) (h7 : ¬ k = 7) : mkK k = false := by simp [mkK, h2, h3, h5, h6, h7]

set_option maxRecDepth 100000 in
theorem made_k (kb bt bm : Nat) (ts : List Tm) (h : List Bool) (n : Nat) (A : Mem) (hK : KnR kb bt h A) (hT0 : TbR bt bm ts A) (hn : n < ts.length) {e4 : TypeId} {f4 : Nat × Nat} (h4 : (4, Obj.cells (nums .u64 pow10T).toArray e4 f4) ∈ A) : FnV Tryz.prog 34 [.pointer (some ⟨kb, 0, none⟩), .int .i64 ((n : Nat) : Int)] A (.bool (madeF ts h n)) := by
  obtain ⟨v, hkb, hrd⟩ := hK.ex
  haveI := hrd.cel
  obtain ⟨MT, hT, hsub⟩ := hT0.ex
  refine FnX.enter (N := 74) Tryz.func34 rfl rfl rfl fun w => ?_
  refine XC.keep (kp 0 rfl (kp 1 rfl kn)) ?_
  refine XC.reg ?_
  refine XL.q (q_assign rfl) rfl ?_
  refine XL.fin (kp 0 rfl (kp 1 rfl kn)) ?_
  refine XC.reg ?_
  refine XL.q (q_move rfl) rfl ?_
  refine XL.q (q_nil rfl) rfl ?_
  refine XL.q (q_fieldAddrN 0 (off := 0) rfl (by kernel_rfl) rfl) rfl ?_
  refine XL.q (q_load rfl (by kernel_rfl) (by first | exact At.mem | exact mA (by assumption)) (by rfl)) rfl ?_
  refine XL.q (q_move rfl) rfl ?_
  refine XL.call (aS rfl (aS rfl a0)) (by kernel_rfl) (getT_spec bt bm ts ((n : Nat) : Int) MT _ hT (fun x hx => mA (hsub x hx))) rfl ?_
  rintro v14 M14 J14 ⟨rfl, rfl, c14, ok14, rfl, hg1, hg2⟩
  obtain ⟨rfl, t, ht, vo, rfl, hvo⟩ := hg1 ⟨by omega, by omega⟩
  rw [Int.toNat_natCast] at ht
  have hto := hT.tok.tmo t (List.mem_of_getElem? ht)
  haveI := hvo.cel
  have hmF : madeF ts h n = madeT ts h t := by unfold madeF; rw [ht]
  have hofl := hto.ofl
  have hofi : ∀ a, a < t.of.length → i64 (t.of.getD a 0) := fun a ha => hto.of _ (by rw [List.getD_eq_getElem?_getD, List.getElem?_eq_getElem ha]; exact List.getElem_mem _)
  refine XL.q (q_move rfl) rfl ?_
  refine XL.q (q_x0 rfl) rfl ?_
  refine XL.q (q_x1 rfl) rfl ?_
  refine XL.lo rfl (l_alloc (cs := [.int .u8 0, .slice none 0 0, .string ByteArray.empty, .int .i64 0]) (by kernel_rfl) rfl fun b5 => ?_)
  refine XL.lo rfl (l_storeW rfl rfl rfl (by kernel_rfl) (by rfl) (by intro c hc; simp only [List.mem_cons, List.not_mem_nil, or_false] at hc; rcases hc with rfl | rfl | rfl | rfl <;> first | rfl | exact hvo.one) UpC.upd ?_)
  refine XL.q (q_assign rfl) rfl ?_
  refine XL.fin (kp 0 rfl (kp 5 rfl kn)) ?_
  refine XC.reg ?_
  refine XL.q (q_fieldAddrN 1 (off := 1) rfl (by kernel_rfl) rfl) rfl ?_
  refine XL.q (q_load rfl (by kernel_rfl) (by first | exact At.mem | exact mA (by assumption)) (by rfl)) rfl ?_
  refine XL.q (q_move rfl) rfl ?_
  refine XL.q (q_mkFuncF (aS rfl a0) a0) rfl ?_
  refine XL.callV (aS rfl (aS rfl a0)) (by kernel_rfl) (contains_i vo t.of 59 [.pointer (some ⟨kb, 0, none⟩)] (fun x => !isK h x) _ (hvo.mono SubC.sub) (by omega) (by kernel_rfl) (fun x => lacks_spec kb bt h x _ (hK.mono SubC.sub))) rfl ?_
  refine XL.q (q_not rfl) rfl ?_
  rw [all_any]
  refine XL.q (q_assign rfl) rfl ?_
  refine XL.fin (kp 0 rfl (kp 5 rfl (kp 7 rfl kn))) ?_
  refine XC.seq ?_
  refine XC.reg ?_
  refine XL.q (q_fieldAddrN 0 (off := 0) rfl (by kernel_rfl) rfl) rfl ?_
  refine XL.q (q_load rfl (by kernel_rfl) (by first | exact At.mem | exact mA (by assumption)) (by rfl)) rfl ?_
  refine XL.fin (kp 0 rfl (kp 5 rfl (kp 7 rfl (kp 24 rfl kn)))) ?_
  refine XC.block ?_
  refine XC.seq ?_
  refine XC.reg ?_
  refine XL.q (q_bin rfl rfl rfl) rfl ?_
  refine XL.q (q_assign rfl) rfl ?_
  refine XL.fin (kp 0 rfl (kp 5 rfl (kp 7 rfl (kp 24 rfl (kp 25 rfl kn))))) ?_
  refine XC.cond rfl (fun hc => ?_) (fun hc => ?_)
  ·
    rw [hc]
    have hk2 : t.kind = 2 := by simp at hc; omega
    refine XC.skip ?_
    refine nx (kp 0 rfl (kp 5 rfl (kp 7 rfl (kp 24 rfl (kp 25 rfl kn))))) ?_
    refine XC.condT rfl ?_
    refine XC.reg ?_
    refine XL.q (q_move rfl) rfl ?_
    refine XL.q (q_assign rfl) rfl ?_
    refine XL.fin (kp 4 rfl kn) ?_
    refine XC.ret ?_
    refine br ?_
    refine tr ?_
    exact ⟨_, [], [], res1 rfl rfl, List.nil_sublist _, by simp, by rw [hmF, madeT_mk (by rw [hk2]; rfl)], rfl, rfl⟩
  ·
    rw [hc]
    have hk2 : ¬ t.kind = 2 := by simp at hc; omega
    refine XC.reg ?_
    refine XL.q (q_bin rfl rfl rfl) rfl ?_
    refine XL.q (q_assign rfl) rfl ?_
    refine XL.fin (kp 0 rfl (kp 5 rfl (kp 7 rfl (kp 24 rfl (kp 25 rfl kn))))) ?_
    refine XC.cond rfl (fun hc => ?_) (fun hc => ?_)
    ·
      rw [hc]
      have hk3 : t.kind = 3 := by simp at hc; omega
      refine XC.skip ?_
      refine nx (kp 0 rfl (kp 5 rfl (kp 7 rfl (kp 24 rfl (kp 25 rfl kn))))) ?_
      refine XC.condT rfl ?_
      refine XC.reg ?_
      refine XL.q (q_move rfl) rfl ?_
      refine XL.q (q_assign rfl) rfl ?_
      refine XL.fin (kp 4 rfl kn) ?_
      refine XC.ret ?_
      refine br ?_
      refine tr ?_
      exact ⟨_, [], [], res1 rfl rfl, List.nil_sublist _, by simp, by rw [hmF, madeT_mk (by rw [hk3]; rfl)], rfl, rfl⟩
    ·
      rw [hc]
      have hk3 : ¬ t.kind = 3 := by simp at hc; omega
      refine XC.reg ?_
      refine XL.q (q_bin rfl rfl rfl) rfl ?_
      refine XL.q (q_assign rfl) rfl ?_
      refine XL.fin (kp 0 rfl (kp 5 rfl (kp 7 rfl (kp 24 rfl (kp 25 rfl kn))))) ?_
      refine XC.cond rfl (fun hc => ?_) (fun hc => ?_)
      ·
        rw [hc]
        have hk5 : t.kind = 5 := by simp at hc; omega
        refine XC.skip ?_
        refine nx (kp 0 rfl (kp 5 rfl (kp 7 rfl (kp 24 rfl (kp 25 rfl kn))))) ?_
        refine XC.condT rfl ?_
        refine XC.reg ?_
        refine XL.q (q_move rfl) rfl ?_
        refine XL.q (q_assign rfl) rfl ?_
        refine XL.fin (kp 4 rfl kn) ?_
        refine XC.ret ?_
        refine br ?_
        refine tr ?_
        exact ⟨_, [], [], res1 rfl rfl, List.nil_sublist _, by simp, by rw [hmF, madeT_mk (by rw [hk5]; rfl)], rfl, rfl⟩
      ·
        rw [hc]
        have hk5 : ¬ t.kind = 5 := by simp at hc; omega
        refine XC.reg ?_
        refine XL.q (q_bin rfl rfl rfl) rfl ?_
        refine XL.q (q_assign rfl) rfl ?_
        refine XL.fin (kp 0 rfl (kp 5 rfl (kp 7 rfl (kp 24 rfl (kp 25 rfl kn))))) ?_
        refine XC.cond rfl (fun hc => ?_) (fun hc => ?_)
        ·
          rw [hc]
          have hk6 : t.kind = 6 := by simp at hc; omega
          refine XC.skip ?_
          refine nx (kp 0 rfl (kp 5 rfl (kp 7 rfl (kp 24 rfl (kp 25 rfl kn))))) ?_
          refine XC.condT rfl ?_
          refine XC.reg ?_
          refine XL.q (q_move rfl) rfl ?_
          refine XL.q (q_assign rfl) rfl ?_
          refine XL.fin (kp 4 rfl kn) ?_
          refine XC.ret ?_
          refine br ?_
          refine tr ?_
          exact ⟨_, [], [], res1 rfl rfl, List.nil_sublist _, by simp, by rw [hmF, madeT_mk (by rw [hk6]; rfl)], rfl, rfl⟩
        ·
          rw [hc]
          have hk6 : ¬ t.kind = 6 := by simp at hc; omega
          refine XC.reg1 ?_
          refine XL.q (q_bin rfl rfl rfl) rfl ?_
          refine XL.q (q_assign rfl) rfl ?_
          refine XL.fin (kp 0 rfl (kp 5 rfl (kp 7 rfl (kp 24 rfl (kp 25 rfl kn))))) ?_
          refine XC.cond rfl (fun hc => ?_) (fun hc => ?_)
          ·
            rw [hc]
            have hk7 : t.kind = 7 := by simp at hc; omega
            refine XC.reg ?_
            refine XL.q (q_move rfl) rfl ?_
            refine XL.q (q_assign rfl) rfl ?_
            refine XL.fin (kp 4 rfl kn) ?_
            refine XC.ret ?_
            refine br ?_
            refine tr ?_
            exact ⟨_, [], [], res1 rfl rfl, List.nil_sublist _, by simp, by rw [hmF, madeT_mk (by rw [hk7]; rfl)], rfl, rfl⟩
          ·
            rw [hc]
            have hk7 : ¬ t.kind = 7 := by simp at hc; omega
            refine XC.reg ?_
            refine XL.q (q_bin rfl rfl rfl) rfl ?_
            refine XL.q (q_assign rfl) rfl ?_
            refine XL.fin (kp 0 rfl (kp 5 rfl (kp 7 rfl (kp 32 rfl kn)))) ?_
            refine XC.cond rfl (fun hc => ?_) (fun hc => ?_)
            ·
              have hk4 : t.kind = 4 := by simp at hc; omega
              refine XC.seq ?_
              refine XC.reg ?_
              refine XL.q (q_fieldAddrN 3 (off := 3) rfl (by kernel_rfl) rfl) rfl ?_
              refine XL.q (q_load rfl (by kernel_rfl) (by first | exact At.mem | exact mA (by assumption)) (by rfl)) rfl ?_
              refine XL.q (q_bin rfl rfl rfl) rfl ?_
              refine XL.q (q_move rfl) rfl ?_
              refine XL.split (t := 37) rfl (fun hb => ?_) (fun hb => ?_)
              ·
                have hn0 : t.n = 0 := by simpa using hb
                refine XL.gy rfl rfl (OpQ.opL (q_fieldAddrN 1 (off := 1) rfl (by kernel_rfl) rfl) rfl ?_)
                refine XL.gy rfl rfl (OpQ.opL (q_load rfl (by kernel_rfl) (by first | exact At.mem | exact mA (by assumption)) (by rfl)) rfl ?_)
                refine XL.gy rfl rfl (OpQ.opL (q_lenV2 (sz := 1) rfl (by kernel_rfl) hvo) rfl ?_)
                refine XL.gy rfl rfl (OpQ.opL (q_bin rfl rfl rfl) rfl ?_)
                refine XL.q (q_pickT rfl rfl) rfl ?_
                refine XL.fin (kp 0 rfl (kp 5 rfl (kp 7 rfl (kp 42 rfl kn)))) ?_
                refine XC.cond rfl (fun hc => ?_) (fun hc => ?_)
                ·
                  have hl2 : t.of.length = 2 := by simp at hc; omega
                  refine XC.reg ?_
                  refine XL.q (q_move rfl) rfl ?_
                  refine XL.q (q_fieldAddrN 1 (off := 1) rfl (by kernel_rfl) rfl) rfl ?_
                  refine XL.q (q_load rfl (by kernel_rfl) (by first | exact At.mem | exact mA (by assumption)) (by rfl)) rfl ?_
                  refine XL.q (q_atV2 (sz := 1) (a := 0) rfl rfl (by kernel_rfl) rfl hvo (by omega)) rfl ?_
                  refine XL.q (q_ldV (j := 0) (u := .int .i64 (t.of.getD 0 0)) (hvo.mono SubC.sub) rfl (by kernel_rfl) (ints_at (by omega))) rfl ?_
                  refine XL.callV (aS rfl (aS rfl a0)) (by kernel_rfl) (is_spec kb bt h _ _ (hK.mono SubC.sub)) rfl ?_
                  refine XL.q (q_move rfl) rfl ?_
                  refine XL.split (t := 49) rfl (fun hb => ?_) (fun hb => ?_)
                  ·
                    have hA := hb
                    refine XL.gy rfl rfl (OpQ.opL (q_move rfl) rfl ?_)
                    refine XL.gy rfl rfl (OpQ.opL (q_fieldAddrN 1 (off := 1) rfl (by kernel_rfl) rfl) rfl ?_)
                    refine XL.gy rfl rfl (OpQ.opL (q_load rfl (by kernel_rfl) (by first | exact At.mem | exact mA (by assumption)) (by rfl)) rfl ?_)
                    refine XL.gy rfl rfl (OpQ.opL (q_atV2 (sz := 1) (a := 1) rfl rfl (by kernel_rfl) rfl hvo (by omega)) rfl ?_)
                    refine XL.gy rfl rfl (OpQ.opL (q_ldV (j := 1) (u := .int .i64 (t.of.getD 1 0)) (hvo.mono SubC.sub) rfl (by kernel_rfl) (ints_at (by omega))) rfl ?_)
                    refine XL.callVg rfl rfl (aS rfl (aS rfl a0)) (by kernel_rfl) (public_k kb bt bm ts h _ _ (hK.mono SubC.sub) (hT0.mono SubC.sub) (hofi 1 (by omega)) (mA h4)) rfl ?_
                    refine XL.q (q_pickT rfl rfl) rfl ?_
                    refine XL.q (q_move rfl) rfl ?_
                    refine XL.split (t := 57) rfl (fun hb => ?_) (fun hb => ?_)
                    ·
                      have hB := hb
                      refine XL.gn rfl rfl rfl rfl ?_
                      refine XL.gn rfl rfl rfl rfl ?_
                      refine XL.gn rfl rfl rfl rfl ?_
                      refine XL.gn rfl rfl rfl rfl ?_
                      refine XL.gn rfl rfl rfl rfl ?_
                      refine XL.gn rfl rfl rfl rfl ?_
                      refine XL.gn rfl rfl rfl rfl ?_
                      refine XL.gu rfl rfl rfl ?_
                      refine XL.gu rfl rfl rfl ?_
                      refine XL.gu rfl rfl rfl ?_
                      refine XL.gu rfl rfl rfl ?_
                      refine XL.gu rfl rfl rfl ?_
                      refine XL.gu rfl rfl rfl ?_
                      refine XL.gn rfl rfl rfl rfl ?_
                      refine XL.q (q_pickT rfl rfl) rfl ?_
                      refine XL.q (q_assign rfl) rfl ?_
                      refine XL.fin (kp 4 rfl kn) ?_
                      refine XC.ret ?_
                      refine tr ?_
                      refine br ?_
                      refine tr ?_
                      exact ⟨_, [], [], res1 rfl rfl, List.nil_sublist _, by simp, by rw [hmF, madeT_4a hk4 hn0 hl2, hA, hB]; rfl, rfl, rfl⟩
                    ·
                      have hB := hb
                      refine XL.gy rfl rfl (OpQ.opL (q_move rfl) rfl ?_)
                      refine XL.gy rfl rfl (OpQ.opL (q_fieldAddrN 1 (off := 1) rfl (by kernel_rfl) rfl) rfl ?_)
                      refine XL.gy rfl rfl (OpQ.opL (q_load rfl (by kernel_rfl) (by first | exact At.mem | exact mA (by assumption)) (by rfl)) rfl ?_)
                      refine XL.gy rfl rfl (OpQ.opL (q_atV2 (sz := 1) (a := 1) rfl rfl (by kernel_rfl) rfl hvo (by omega)) rfl ?_)
                      refine XL.gy rfl rfl (OpQ.opL (q_ldV (j := 1) (u := .int .i64 (t.of.getD 1 0)) (hvo.mono SubC.sub) rfl (by kernel_rfl) (ints_at (by omega))) rfl ?_)
                      refine XL.callVg rfl rfl (aS rfl (aS rfl a0)) (by kernel_rfl) (is_spec kb bt h _ _ (hK.mono SubC.sub)) rfl ?_
                      refine XL.gy rfl rfl (OpQ.opL (q_move rfl) rfl ?_)
                      refine XL.split (t := 64) rfl (fun hb => ?_) (fun hb => ?_)
                      ·
                        have hC := hb
                        refine XL.gy rfl rfl (OpQ.opL (q_move rfl) rfl ?_)
                        refine XL.gy rfl rfl (OpQ.opL (q_fieldAddrN 1 (off := 1) rfl (by kernel_rfl) rfl) rfl ?_)
                        refine XL.gy rfl rfl (OpQ.opL (q_load rfl (by kernel_rfl) (by first | exact At.mem | exact mA (by assumption)) (by rfl)) rfl ?_)
                        refine XL.gy rfl rfl (OpQ.opL (q_atV2 (sz := 1) (a := 0) rfl rfl (by kernel_rfl) rfl hvo (by omega)) rfl ?_)
                        refine XL.gy rfl rfl (OpQ.opL (q_ldV (j := 0) (u := .int .i64 (t.of.getD 0 0)) (hvo.mono SubC.sub) rfl (by kernel_rfl) (ints_at (by omega))) rfl ?_)
                        refine XL.callVg rfl rfl (aS rfl (aS rfl a0)) (by kernel_rfl) (public_k kb bt bm ts h _ _ (hK.mono SubC.sub) (hT0.mono SubC.sub) (hofi 0 (by omega)) (mA h4)) rfl ?_
                        refine XL.gy rfl rfl (OpQ.opL (q_pickT rfl rfl) rfl ?_)
                        refine XL.q (q_pickF rfl rfl) rfl ?_
                        refine XL.q (q_assign rfl) rfl ?_
                        refine XL.fin (kp 4 rfl kn) ?_
                        refine XC.ret ?_
                        refine tr ?_
                        refine br ?_
                        refine tr ?_
                        exact ⟨_, [], [], res1 rfl rfl, List.nil_sublist _, by simp, by rw [hmF, madeT_4a hk4 hn0 hl2, hA, hB, hC]; rfl, rfl, rfl⟩
                      ·
                        have hC := hb
                        refine XL.gn rfl rfl rfl rfl ?_
                        refine XL.gn rfl rfl rfl rfl ?_
                        refine XL.gn rfl rfl rfl rfl ?_
                        refine XL.gn rfl rfl rfl rfl ?_
                        refine XL.gn rfl rfl rfl rfl ?_
                        refine XL.gn rfl rfl rfl rfl ?_
                        refine XL.gy rfl rfl (OpQ.opL (q_pickF rfl rfl) rfl ?_)
                        refine XL.q (q_pickF rfl rfl) rfl ?_
                        refine XL.q (q_assign rfl) rfl ?_
                        refine XL.fin (kp 4 rfl kn) ?_
                        refine XC.ret ?_
                        refine tr ?_
                        refine br ?_
                        refine tr ?_
                        exact ⟨_, [], [], res1 rfl rfl, List.nil_sublist _, by simp, by rw [hmF, madeT_4a hk4 hn0 hl2, hA, hB, hC]; rfl, rfl, rfl⟩
                  ·
                    have hA := hb
                    refine XL.gn rfl rfl rfl rfl ?_
                    refine XL.gn rfl rfl rfl rfl ?_
                    refine XL.gn rfl rfl rfl rfl ?_
                    refine XL.gn rfl rfl rfl rfl ?_
                    refine XL.gn rfl rfl rfl rfl ?_
                    refine XL.gn rfl rfl rfl rfl ?_
                    refine XL.q (q_pickF rfl rfl) rfl ?_
                    refine XL.q (q_move rfl) rfl ?_
                    refine XL.gy rfl rfl (OpQ.opL (q_move rfl) rfl ?_)
                    refine XL.gy rfl rfl (OpQ.opL (q_fieldAddrN 1 (off := 1) rfl (by kernel_rfl) rfl) rfl ?_)
                    refine XL.gy rfl rfl (OpQ.opL (q_load rfl (by kernel_rfl) (by first | exact At.mem | exact mA (by assumption)) (by rfl)) rfl ?_)
                    refine XL.gy rfl rfl (OpQ.opL (q_atV2 (sz := 1) (a := 1) rfl rfl (by kernel_rfl) rfl hvo (by omega)) rfl ?_)
                    refine XL.gy rfl rfl (OpQ.opL (q_ldV (j := 1) (u := .int .i64 (t.of.getD 1 0)) (hvo.mono SubC.sub) rfl (by kernel_rfl) (ints_at (by omega))) rfl ?_)
                    refine XL.callVg rfl rfl (aS rfl (aS rfl a0)) (by kernel_rfl) (is_spec kb bt h _ _ (hK.mono SubC.sub)) rfl ?_
                    refine XL.gy rfl rfl (OpQ.opL (q_move rfl) rfl ?_)
                    refine XL.split (t := 64) rfl (fun hb => ?_) (fun hb => ?_)
                    ·
                      have hC := hb
                      refine XL.gy rfl rfl (OpQ.opL (q_move rfl) rfl ?_)
                      refine XL.gy rfl rfl (OpQ.opL (q_fieldAddrN 1 (off := 1) rfl (by kernel_rfl) rfl) rfl ?_)
                      refine XL.gy rfl rfl (OpQ.opL (q_load rfl (by kernel_rfl) (by first | exact At.mem | exact mA (by assumption)) (by rfl)) rfl ?_)
                      refine XL.gy rfl rfl (OpQ.opL (q_atV2 (sz := 1) (a := 0) rfl rfl (by kernel_rfl) rfl hvo (by omega)) rfl ?_)
                      refine XL.gy rfl rfl (OpQ.opL (q_ldV (j := 0) (u := .int .i64 (t.of.getD 0 0)) (hvo.mono SubC.sub) rfl (by kernel_rfl) (ints_at (by omega))) rfl ?_)
                      refine XL.callVg rfl rfl (aS rfl (aS rfl a0)) (by kernel_rfl) (public_k kb bt bm ts h _ _ (hK.mono SubC.sub) (hT0.mono SubC.sub) (hofi 0 (by omega)) (mA h4)) rfl ?_
                      refine XL.gy rfl rfl (OpQ.opL (q_pickT rfl rfl) rfl ?_)
                      refine XL.q (q_pickF rfl rfl) rfl ?_
                      refine XL.q (q_assign rfl) rfl ?_
                      refine XL.fin (kp 4 rfl kn) ?_
                      refine XC.ret ?_
                      refine tr ?_
                      refine br ?_
                      refine tr ?_
                      exact ⟨_, [], [], res1 rfl rfl, List.nil_sublist _, by simp, by rw [hmF, madeT_4a hk4 hn0 hl2, hA, hC]; rfl, rfl, rfl⟩
                    ·
                      have hC := hb
                      refine XL.gn rfl rfl rfl rfl ?_
                      refine XL.gn rfl rfl rfl rfl ?_
                      refine XL.gn rfl rfl rfl rfl ?_
                      refine XL.gn rfl rfl rfl rfl ?_
                      refine XL.gn rfl rfl rfl rfl ?_
                      refine XL.gn rfl rfl rfl rfl ?_
                      refine XL.gy rfl rfl (OpQ.opL (q_pickF rfl rfl) rfl ?_)
                      refine XL.q (q_pickF rfl rfl) rfl ?_
                      refine XL.q (q_assign rfl) rfl ?_
                      refine XL.fin (kp 4 rfl kn) ?_
                      refine XC.ret ?_
                      refine tr ?_
                      refine br ?_
                      refine tr ?_
                      exact ⟨_, [], [], res1 rfl rfl, List.nil_sublist _, by simp, by rw [hmF, madeT_4a hk4 hn0 hl2, hA, hC]; rfl, rfl, rfl⟩
                ·
                  have hl2 : ¬ t.of.length = 2 := by simp at hc; omega
                  refine XC.skip ?_
                  refine nx (kp 7 rfl kn) ?_
                  refine XC.reg ?_
                  refine XL.q (q_move rfl) rfl ?_
                  refine XL.q (q_assign rfl) rfl ?_
                  refine XL.fin (kp 4 rfl kn) ?_
                  refine XC.ret ?_
                  refine br ?_
                  refine tr ?_
                  exact ⟨_, [], [], res1 rfl rfl, List.nil_sublist _, by simp, by rw [hmF, madeT_4b hk4 (fun h => hl2 h.2)], rfl, rfl⟩
              ·
                have hn0 : ¬ t.n = 0 := by simpa using hb
                refine XL.gn rfl rfl rfl rfl ?_
                refine XL.gn rfl rfl rfl rfl ?_
                refine XL.gn rfl rfl rfl rfl ?_
                refine XL.gn rfl rfl rfl rfl ?_
                refine XL.q (q_pickF rfl rfl) rfl ?_
                refine XL.fin (kp 0 rfl (kp 5 rfl (kp 7 rfl (kp 42 rfl kn)))) ?_
                refine XC.condF rfl ?_
                refine XC.skip ?_
                refine nx (kp 7 rfl kn) ?_
                refine XC.reg ?_
                refine XL.q (q_move rfl) rfl ?_
                refine XL.q (q_assign rfl) rfl ?_
                refine XL.fin (kp 4 rfl kn) ?_
                refine XC.ret ?_
                refine br ?_
                refine tr ?_
                exact ⟨_, [], [], res1 rfl rfl, List.nil_sublist _, by simp, by rw [hmF, madeT_4b hk4 (fun h => hn0 h.1)], rfl, rfl⟩
            ·
              have hk4 : ¬ t.kind = 4 := by simp at hc; omega
              refine XC.skip ?_
              refine nb ?_
              refine nx kn ?_
              refine XC.reg ?_
              refine XL.q (q_assign rfl) rfl ?_
              refine XL.fin (kp 4 rfl kn) ?_
              refine XC.ret ?_
              exact ⟨_, [], [], res1 rfl rfl, List.nil_sublist _, by simp, by rw [hmF, madeT_no (mk_no hk2 hk3 hk5 hk6 hk7) hk4], rfl, rfl⟩

end Go.Proofs.YthmnlkpikgglbaaGreatDoor
