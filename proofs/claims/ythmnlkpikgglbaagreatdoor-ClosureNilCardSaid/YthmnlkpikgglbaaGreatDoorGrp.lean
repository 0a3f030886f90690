/-
  Groups of operations of a drawn region that come up in any order; each makes new blocks alone, which are read only behind it.
-/
import Derived.Test.YthmnlkpikgglbaaGreatDoorDraw
set_option linter.unusedVariables false
set_option linter.unusedSimpArgs false
namespace Go.Px
/-- A member: its number, its slot, what it yields (with the facts that are there). -/
structure Gm where
  i : Nat
  d : Nat
  φ : Value → Mem → Prop
def gEnv (G : List Gm) (vs : Nat → Value) : Env := G.map fun g => (g.d, vs g.i)
def enc : List Nat → List (Nat × Nat)
  | [] => []
  | [i] => [(i, 4)]
  | i :: j :: r => (i, 3) :: enc (j :: r)

inductive GOk (ops : Array Oper) : Array Bool → List Nat → Array Bool → Prop
  | nil {A : Array Bool} : GOk ops A [] A
  | cons {A B : Array Bool} {i : Nat} {r : List Nat} (hr : i ∈ Region.ready .any ops A) (ho : ∀ j, j < ops.size → A.getD j true = false → j ∉ i :: r → anc ops ops.size j i = true) (h : GOk ops (A.setIfInBounds i true) r B) : GOk ops A (i :: r) B
theorem grp_enc (i : Nat) (r : List Nat) (plan : List (Nat × Nat)) : grp (enc (i :: r) ++ plan) = i :: r := by
  induction r generalizing i with
  | nil => rfl
  | cons j r ih => simp only [enc, List.cons_append, grp]; rw [ih j]
theorem enc_ok {ops : Array Oper} {nd : List Nat} {plan : List (Nat × Nat)} : ∀ {is : List Nat} {A : Array Bool}, planOk ops nd (enc is ++ plan) A = true → ∃ B, GOk ops A is B ∧ planOk ops nd plan B = true
  | [], A, h => ⟨A, .nil, h⟩
  | [i], A, h => by
    simp only [enc, List.cons_append, List.nil_append, planOk, grpOk, Bool.and_eq_true, List.all_eq_true, List.mem_range, Bool.or_eq_true] at h
    refine ⟨_, .cons (by simpa using h.1.1) (fun j hj hu hn => ?_) .nil, h.2⟩
    rcases h.1.2 j hj with (h1 | h1) | h1
    · rw [hu] at h1; cases h1
    · exact absurd (by simpa using h1) hn
    · exact h1
  | i :: j :: r, A, h => by
    simp only [enc, List.cons_append, planOk, grpOk, Bool.and_eq_true, List.all_eq_true, List.mem_range, Bool.or_eq_true, grp_enc] at h
    obtain ⟨B, hB, hp⟩ := enc_ok (is := j :: r) h.2
    refine ⟨B, .cons (by simpa using h.1.1) (fun j hj hu hn => ?_) hB, hp⟩
    rcases h.1.2 j hj with (h1 | h1) | h1
    · rw [hu] at h1; cases h1
    · exact absurd (by simpa using h1) hn
    · exact h1

def mark (A : Array Bool) (X : List Nat) : Array Bool := X.foldl (fun B i => B.setIfInBounds i true) A
theorem mark_get (X : List Nat) : ∀ (A : Array Bool) (j : Nat), (mark A X)[j]? = if j ∈ X ∧ j < A.size then some true else A[j]? := by
  induction X with
  | nil => intro A j; simp [mark]
  | cons i X ih =>
    intro A j
    have := ih (A.setIfInBounds i true) j
    simp only [mark, List.foldl_cons] at this ⊢
    rw [this]
    simp only [Array.size_setIfInBounds, List.mem_cons]
    by_cases h1 : j < A.size
    · by_cases h2 : j ∈ X
      · simp [h1, h2]
      · by_cases h3 : i = j
        · subst h3; simp [h1, h2]
        · have h3' : j ≠ i := fun h => h3 h.symm
          simp [h1, h2, h3, h3', Array.getElem?_setIfInBounds]
    · simp [h1]
theorem mark_snoc (A : Array Bool) (X : List Nat) (i : Nat) : mark A (X ++ [i]) = (mark A X).setIfInBounds i true := by simp [mark]
theorem mark_eq {A : Array Bool} {X Y : List Nat} (h : ∀ j, j ∈ X ↔ j ∈ Y) : mark A X = mark A Y := by
  apply Array.ext_getElem?
  intro j; rw [mark_get, mark_get]; simp only [h]
theorem mark_getD_f {A : Array Bool} {X : List Nat} {j : Nat} : (mark A X).getD j true = false ↔ (A.getD j true = false ∧ ¬ (j ∈ X ∧ j < A.size)) := by
  have := mark_get X A j
  simp only [Array.getD_eq_getD_getElem?, this]
  split
  · simp_all
  · simp_all
theorem mark_getD_t {A : Array Bool} {X : List Nat} {j : Nat} (h : (mark A X).getD j false = true) : A.getD j false = true ∨ j ∈ X := by
  have := mark_get X A j
  simp only [Array.getD_eq_getD_getElem?, this] at h ⊢
  split at h
  · rename_i hh; exact .inr hh.1
  · exact .inl h
theorem GOk.mark {ops : Array Oper} {A B : Array Bool} {is : List Nat} (h : GOk ops A is B) : B = mark A is := by
  induction h with
  | nil => rfl
  | cons _ _ _ ih => rw [ih]; rfl
theorem ready_un {ops : Array Oper} {A : Array Bool} {i : Nat} (h : i ∈ Region.ready .any ops A) : A.getD i true = false := (mem_ready.1 h).1
theorem ready_lt {ops : Array Oper} {A : Array Bool} {i : Nat} (h : i ∈ Region.ready .any ops A) : i < ops.size := by
  obtain ⟨_, oj, hoj, _⟩ := mem_ready.1 h
  exact (Array.getElem?_eq_some_iff.1 hoj).1
/-- Whoever isn't of the group waits for all of it. -/
theorem GOk.outer {ops : Array Oper} {A B : Array Bool} {is : List Nat} (h : GOk ops A is B) : ∀ i ∈ is, ∀ j, j < ops.size → A.getD j true = false → j ∉ is → anc ops ops.size j i = true := by
  induction h with
  | nil => intro i hi; cases hi
  | @cons A B i r hr ho h ih =>
    intro k hk j hj hu hn
    rcases List.mem_cons.1 hk with rfl | hk
    · exact ho j hj hu hn
    · have hne : i ≠ j := fun e => hn (e ▸ List.mem_cons_self)
      exact ih k hk j hj (by rw [getD_set_ne true hne]; exact hu) (fun hm => hn (List.mem_cons_of_mem _ hm))
/-- Who is first of those that are missing is ready. -/
theorem ready_more {ops : Array Oper} {A A' : Array Bool} {i : Nat} (hr : i ∈ Region.ready .any ops A) (hu : A'.getD i true = false) (hm : ∀ j, A.getD j false = true → A'.getD j false = true) : i ∈ Region.ready .any ops A' := by
  obtain ⟨h1, oj, hoj, hall⟩ := mem_ready.1 hr
  exact mem_ready.2 ⟨hu, oj, hoj, fun e he hb => hm _ (hall e he hb)⟩
theorem getD_f_lt {A : Array Bool} {i : Nat} (h : A.getD i true = false) : i < A.size := by
  rcases Nat.lt_or_ge i A.size with h1 | h1
  · exact h1
  · simp [Array.getElem?_eq_none h1] at h
theorem GOk.first {ops : Array Oper} {A B : Array Bool} {is : List Nat} (h : GOk ops A is B) {A' : Array Bool} (hsz : A'.size = A.size) (hm : ∀ j, A.getD j false = true → A'.getD j false = true) {k : Nat} (hk : k ∈ is) (hk' : A'.getD k true = false) : ∃ i, i ∈ Region.ready .any ops A' := by
  induction h generalizing k with
  | nil => cases hk
  | @cons A B i r hr ho h ih =>
    by_cases hi : A'.getD i true = false
    · exact ⟨i, ready_more hr hi hm⟩
    · rcases List.mem_cons.1 hk with rfl | hk
      · exact absurd hk' hi
      · refine ih (by simpa using hsz) (fun j hj => ?_) hk hk'
        by_cases e : i = j
        · subst e
          have hlt := getD_f_lt (ready_un hr)
          have hlt' : i < A'.size := by omega
          simp [hlt'] at hi ⊢; exact hi
        · rw [getD_set_ne false e] at hj
          exact hm j hj
theorem mark_size (A : Array Bool) (X : List Nat) : (mark A X).size = A.size := by
  induction X generalizing A with
  | nil => rfl
  | cons i X ih => simp only [mark, List.foldl_cons] at ih ⊢; rw [ih]; simp
theorem mark_mono {A : Array Bool} {X : List Nat} {j : Nat} (h : A.getD j false = true) : (mark A X).getD j false = true := by
  have := mark_get X A j
  simp only [Array.getD_eq_getD_getElem?, this] at h ⊢
  split
  · rfl
  · exact h
theorem St.freezeAll {C : Cx} {M J : Mem} {w : World} : ∀ {B : Mem}, St C (B ++ M) J w → St C M (B ++ J) w
  | [], h => h
  | x :: B, h => by
    have h1 := St.freezeAll (B := B) (h.freeze)
    exact h1.drop (List.Sublist.refl _) fun y hy => by
      simp only [List.cons_append, List.mem_cons, List.mem_append] at hy ⊢
      rcases hy with hy | hy | hy <;> simp [hy]

theorem nodup_le {X : List Nat} : ∀ {Y : List Nat}, X.Nodup → (∀ x ∈ X, x ∈ Y) → X.length ≤ Y.length := by
  induction X with
  | nil => intros; simp
  | cons x X ih =>
    intro Y hn hs
    simp only [List.nodup_cons] at hn
    have h1 := ih (Y := Y.erase x) hn.2 fun z hz => (List.mem_erase_of_ne (fun e => hn.1 (by rw [← e]; exact hz))).2 (hs z (List.mem_cons_of_mem _ hz))
    have h2 := List.length_erase_of_mem (hs x List.mem_cons_self)
    have h3 : 0 < Y.length := List.length_pos_of_mem (hs x List.mem_cons_self)
    simp only [List.length_cons]; omega
theorem nodup_all {X Y : List Nat} (hn : X.Nodup) (hs : ∀ x ∈ X, x ∈ Y) (hl : Y.length ≤ X.length) : ∀ y ∈ Y, y ∈ X := by
  intro y hy
  apply Classical.byContradiction
  intro hno
  have := nodup_le (X := y :: X) (Y := Y) (List.nodup_cons.2 ⟨hno, hn⟩) (fun z hz => by
    rcases List.mem_cons.1 hz with rfl | hz
    · exact hy
    · exact hs z hz)
  simp at this; omega
theorem gm_inj {G : List Gm} (h : (G.map (·.i)).Nodup) {g g' : Gm} (hg : g ∈ G) (hg' : g' ∈ G) (e : g.i = g'.i) : g = g' := by
  induction G with
  | nil => cases hg
  | cons x G ih =>
    simp only [List.map_cons, List.nodup_cons] at h
    rcases List.mem_cons.1 hg with h1 | h1 <;> rcases List.mem_cons.1 hg' with h2 | h2
    · rw [h1, h2]
    · exact absurd (by rw [← h1, e]; exact List.mem_map_of_mem (f := Gm.i) h2) h.1
    · exact absurd (by rw [← h2, ← e]; exact List.mem_map_of_mem (f := Gm.i) h1) h.1
    · exact ih h.2 h1 h2

theorem gEnv_set {N : Nat} {G : List Gm} {l : Env} {vs : Nat → Value} {a : Act} {g : Gm} (hg : g ∈ G) (hd : (G.map (·.d)).Nodup) (hi : (G.map (·.i)).Nodup) {v : Value} (h : Ag N ((g.d, v) :: (gEnv G vs ++ l)) a) :
    Ag N (gEnv G (fun k => if k = g.i then v else vs k) ++ l) a := by
  refine h.sub ?_
  have key : ∀ (G : List Gm), g ∈ G → (G.map (·.d)).Nodup → (G.map (·.i)).Nodup → ∀ k u, lk (gEnv G (fun k => if k = g.i then v else vs k) ++ l) k = some u → lk ((g.d, v) :: (gEnv G vs ++ l)) k = some u := by
    intro G
    have step : ∀ (G : List Gm), (∀ x ∈ G, x.i ≠ g.i) → gEnv G (fun k => if k = g.i then v else vs k) = gEnv G vs := by
      intro G hG
      exact List.map_congr_left fun x hx => by simp [hG x hx]
    induction G with
    | nil => intro h; cases h
    | cons x G ih =>
      intro hm hd hi k u hk
      simp only [List.map_cons, List.nodup_cons] at hd hi
      rcases List.mem_cons.1 hm with rfl | hm
      · have e := step G fun x hx e => hi.1 (e ▸ List.mem_map_of_mem (f := Gm.i) hx)
        simp only [gEnv, List.map_cons, List.cons_append, lk] at hk ⊢
        by_cases h1 : g.d = k
        · subst h1; simpa using hk
        · simp only [beq_ne h1, cond_false] at hk ⊢
          rw [show List.map (fun g_1 => (g_1.d, if g_1.i = g.i then v else vs g_1.i)) G = gEnv G vs from e] at hk
          exact hk
      · have hne : x.i ≠ g.i := fun e => hi.1 (e ▸ List.mem_map_of_mem (f := Gm.i) hm)
        have hned : x.d ≠ g.d := fun e => hd.1 (e ▸ List.mem_map_of_mem (f := Gm.d) hm)
        simp only [gEnv, List.map_cons, List.cons_append, lk, hne, if_false] at hk ⊢
        by_cases h1 : g.d = k
        · subst h1
          simp only [beq_ne hned, cond_false] at hk
          have := ih hm hd.2 hi.2 g.d u hk
          simp only [lk] at this ⊢
          simpa using this
        · simp only [beq_ne h1, cond_false]
          by_cases h2 : x.d = k
          · subst h2; simpa using hk
          · simp only [beq_ne h2, cond_false] at hk ⊢
            have := ih hm hd.2 hi.2 k u hk
            simp only [lk, beq_ne h1, cond_false] at this
            exact this
  exact key G hg hd hi

section group
variable {C : Cx} {Q : XQ} {l : Env} {M J : Mem} {os : List Oper} {K : Nat → Prop} {n0 : Nat} {nd : List Nat} {plan : List (Nat × Nat)}
/-- Is an operation asked, in a state? -/
def Asked (os : List Oper) (l : Env) (o : Oper) : Prop := o.guard = none ∨ ∃ j t b oj, o.guard = some (j, b) ∧ nth os j = some oj ∧ oj.dst = some t ∧ lk l t = some (.bool b)
theorem Asked.wanted {o : Oper} (h : Asked os l o) {a : Act} (ha : Ag C.N l a) : Region.wanted o (yielded os.toArray a.tmps) = true := by
  rcases h with h | ⟨j, t, b, oj, h1, h2, h3, h4⟩
  · simp [Region.wanted, h]
  · have hj' : os.toArray[j]? = some oj := by rw [nth_eq] at h2; simpa using h2
    simp only [Region.wanted, h1, yielded, hj', Option.bind_some, h3, ha.slot _ _ h4]; simp
/-- What a member owes: with what those yield that it waits for. -/
def Owes (C : Cx) (os : List Oper) (l : Env) (M J : Mem) (G : List Gm) (g : Gm) : Prop :=
  ∃ o, nth os g.i = some o ∧ ∀ (vs : Nat → Value) (R : Mem) (w : World), (∀ x ∈ M ++ (J ++ C.A), x ∈ R) → (∀ g' ∈ G, anc os.toArray os.toArray.size g.i g'.i = true → g'.φ (vs g'.i) R) →
    Asked os (gEnv G vs ++ l) o ∧ OpL ⟨C.P, w, [], R, C.N⟩ o (gEnv G vs ++ l) [] [] (fun l' M' J' => ∃ v, l' = (g.d, v) :: (gEnv G vs ++ l) ∧ g.φ v (M' ++ (J' ++ R)))
def Grows (φ : Value → Mem → Prop) : Prop := ∀ v R R', (∀ x ∈ R, x ∈ R') → φ v R → φ v R'

theorem group_go {G : List Gm} (hmono : ∀ g ∈ G, Grows g.φ) (hd : (G.map (·.d)).Nodup) (hi : (G.map (·.i)).Nodup) (hdN : ∀ g ∈ G, g.d < C.N) (hob : ∀ g ∈ G, Owes C os l M J G g) {A B : Array Bool} (hok : GOk os.toArray A (G.map (·.i)) B)
    (hfin : ∀ (vs : Nat → Value) Jn a w, (∀ g ∈ G, g.φ (vs g.i) (M ++ ((Jn ++ J) ++ C.A))) → Ag C.N (gEnv G vs ++ l) a → St C M (Jn ++ J) w → n0 ≤ w.heap.size → wpAnyS C.P os.toArray (noPanicX (lift C Q)) (Sk K) nd.contains plan.length B a w) :
    ∀ (n : Nat) (X : List Nat) (vs : Nat → Value) (Jn : Mem) (a : Act) (w : World), X.Nodup → (∀ i ∈ X, i ∈ G.map (·.i)) → n + X.length = G.length → Closed os.toArray (mark A X) →
      (∀ g ∈ G, g.i ∈ X → g.φ (vs g.i) (M ++ ((Jn ++ J) ++ C.A))) → Ag C.N (gEnv G vs ++ l) a → St C M (Jn ++ J) w → n0 ≤ w.heap.size →
      wpAnyS C.P os.toArray (noPanicX (lift C Q)) (Sk K) nd.contains (n + plan.length) (mark A X) a w := by
  intro n
  induction n with
  | zero =>
    intro X vs Jn a w hnd hX hlen hcl hφ ha hw hn
    have hall : ∀ i, i ∈ X ↔ i ∈ G.map (·.i) := fun i => ⟨hX i, nodup_all hnd hX (by simp; omega) i⟩
    rw [Nat.zero_add, mark_eq hall, ← hok.mark]
    exact hfin vs Jn a w (fun g hg => hφ g hg ((hall _).2 (List.mem_map_of_mem (f := Gm.i) hg))) ha hw hn
  | succ n ih =>
    intro X vs Jn a w hnd hX hlen hcl hφ ha hw hn
    have hmiss : ∃ k ∈ G.map (·.i), k ∉ X := by
      apply Classical.byContradiction
      intro hno
      have hs : ∀ k ∈ G.map (·.i), k ∈ X := fun k hk => Classical.byContradiction fun h => hno ⟨k, hk, h⟩
      have := nodup_le hi hs
      simp at this; omega
    obtain ⟨k, hkG, hkX⟩ := hmiss
    have hun : ∀ i ∈ G.map (·.i), A.getD i true = false := by
      have : ∀ {is A B}, GOk os.toArray A is B → ∀ i ∈ is, A.getD i true = false := by
        intro is A B h
        induction h with
        | nil => intro i hi; cases hi
        | @cons A B i r hr ho h ih =>
          intro k hk
          rcases List.mem_cons.1 hk with rfl | hk
          · exact ready_un hr
          · have h2 := ih k hk
            by_cases e : i = k
            · subst e; exact ready_un hr
            · rwa [getD_set_ne true e] at h2
      exact this hok
    have hkun : (mark A X).getD k true = false := mark_getD_f.2 ⟨hun k hkG, fun h => hkX h.1⟩
    rw [show n + 1 + plan.length = (n + plan.length) + 1 by omega]
    refine ⟨fun h0 => ?_, fun i hir => ?_⟩
    · obtain ⟨i, hir⟩ := hok.first (mark_size A X) (fun j hj => mark_mono hj) hkG hkun
      rw [h0] at hir; cases hir
    · have hiG : i ∈ G.map (·.i) := by
        apply Classical.byContradiction
        intro hno
        have h1 := mark_getD_f.1 (ready_un hir)
        have h2 := hok.outer k hkG i (ready_lt hir) h1.1 hno
        exact not_both hkun (anc_ready hcl h2 hir)
      obtain ⟨g, hg, rfl⟩ := List.mem_map.1 hiG
      have hiX : g.i ∉ X := fun h => (mark_getD_f.1 (ready_un hir)).2 ⟨h, getD_f_lt (hun _ hiG)⟩
      obtain ⟨o, hget, howe⟩ := hob g hg
      have hi' : os.toArray[g.i]? = some o := by rw [nth_eq] at hget; simpa using hget
      obtain ⟨hask, hop⟩ := howe vs (M ++ ((Jn ++ J) ++ C.A)) w (fun x hx => by simp only [List.mem_append] at hx ⊢; rcases hx with h | h | h <;> simp [h]) (fun g' hg' hanc => hφ g' hg' (by
        have h3 := anc_ready hcl hanc hir
        rcases mark_getD_t h3 with h4 | h4
        · exact (not_both (hun _ (List.mem_map_of_mem (f := Gm.i) hg')) h4).elim
        · exact h4))
      unfold wpOp
      simp only [hi']
      rw [if_pos (hask.wanted ha)]
      have hcal := hw.callee (Mc := []) (R := M) (.refl _)
      refine .inl (Oper.wp_mono ?_ (hop _ a w ha hcal.cx))
      rintro a' w' ⟨l', M', J', ha', hs', v, rfl, hφv⟩
      have hsz : w.heap.size ≤ w'.heap.size := hs'.size
      have hb := hw.back (Mc := []) (R := M) (.refl _) hs'.cx
      have hfr := St.freezeAll hb
      have hfr2 : St C M ((M' ++ (J' ++ Jn)) ++ J) w' := hfr.drop (List.Sublist.refl _) fun x hx => by
        simp only [List.mem_append] at hx ⊢
        rcases hx with (h | h | h) | h <;> simp [h]
      refine ⟨fun _ b hb' hnk => hs'.frame b hb' (by simp), ?_⟩
      rw [← mark_snoc]
      refine ih (X ++ [g.i]) (fun k => if k = g.i then v else vs k) (M' ++ (J' ++ Jn)) a' w' ?_ ?_ (by simp; omega) ?_ ?_ (gEnv_set hg hd hi ha') hfr2 (Nat.le_trans hn hsz)
      · rw [List.nodup_append]; exact ⟨hnd, by simp, fun x hx y hy e => hiX (by simp at hy; subst hy; exact e ▸ hx)⟩
      · intro j hj
        rcases List.mem_append.1 hj with hj | hj
        · exact hX j hj
        · simp at hj; subst hj; exact hiG
      · rw [mark_snoc]; exact closed_set hcl hir
      · intro g' hg' hm
        by_cases e : g'.i = g.i
        · have : g' = g := gm_inj hi hg' hg e
          subst this
          simp only [if_true]
          exact hmono g' hg' _ _ _ (fun x hx => by simp only [List.mem_append] at hx ⊢; rcases hx with h | h | h | ((h | h) | h) <;> simp [h]) hφv
        · simp only [e, if_false]
          have hm' : g'.i ∈ X := by simpa [e] using hm
          exact hmono g' hg' _ _ _ (fun x hx => by simp only [List.mem_append] at hx ⊢; rcases hx with h | (h | h) | h <;> simp [h]) (hφ g' hg' hm')

theorem XK.group (G : List Gm) (hmono : ∀ g ∈ G, Grows g.φ) (hd : (G.map (·.d)).Nodup) (hi : (G.map (·.i)).Nodup) (hdN : ∀ g ∈ G, g.d < C.N) (hob : ∀ g ∈ G, Owes C os l M J G g)
    (h : ∀ (vs : Nat → Value) Jn, (∀ g ∈ G, g.φ (vs g.i) (M ++ ((Jn ++ J) ++ C.A))) → XK C os Q K n0 nd plan (gEnv G vs ++ l) M (Jn ++ J)) : XK C os Q K n0 nd (enc (G.map (·.i)) ++ plan) l M J := by
  intro listed hcl hp a w ha hw hn
  obtain ⟨B, hok, hp2⟩ := enc_ok hp
  have hBcl : Closed os.toArray B := by
    have : ∀ {A is B}, GOk os.toArray A is B → Closed os.toArray A → Closed os.toArray B := by
      intro A is B h
      induction h with
      | nil => exact id
      | cons hr _ _ ih => exact fun hc => ih (closed_set hc hr)
    exact this hok hcl
  have hlen : (enc (G.map (·.i)) ++ plan).length = G.length + plan.length := by
    have : ∀ is : List Nat, (enc is).length = is.length := by
      intro is
      induction is with
      | nil => rfl
      | cons i r ih => cases r with
        | nil => rfl
        | cons j r => simp only [enc, List.length_cons] at ih ⊢; rw [ih]
    simp [this]
  rw [hlen]
  -- the slots' own content, to begin with
  let vs : Nat → Value := fun k => match G.find? (fun g => g.i == k) with
    | some g => (a.tmps[g.d]?).getD undef
    | none => undef
  have hag : Ag C.N (gEnv G vs ++ l) a := by
    refine ⟨ha.defers, ha.size, ?_⟩
    intro k u hk
    have key : ∀ G' : List Gm, (∀ g ∈ G', g ∈ G) → lk (gEnv G' vs ++ l) k = some u → a.tmps[k]? = some u := by
      intro G'
      induction G' with
      | nil => intro _ h; exact ha.slot k u h
      | cons g G' ih =>
        intro hs h
        simp only [gEnv, List.map_cons, List.cons_append, lk] at h
        by_cases e : g.d = k
        · subst e
          simp at h
          have hf : G.find? (fun x => x.i == g.i) = some g := by
            have hgG := hs g List.mem_cons_self
            cases hq : G.find? (fun x => x.i == g.i) with
            | none => have := List.find?_eq_none.1 hq g hgG; simp at this
            | some x =>
              have h1 := List.find?_some hq
              have h2 := List.mem_of_find?_eq_some hq
              rw [gm_inj hi h2 hgG (by simpa using h1)]
          have hlt : g.d < a.tmps.size := by rw [ha.size]; exact hdN g (hs g List.mem_cons_self)
          rw [← h]
          show a.tmps[g.d]? = some (vs g.i)
          simp only [vs, hf, Array.getElem?_eq_getElem hlt, Option.getD_some]
        · simp only [beq_ne e, cond_false] at h
          exact ih (fun x hx => hs x (List.mem_cons_of_mem _ hx)) h
    exact key G (fun _ h => h) hk
  exact group_go (n0 := n0) (K := K) hmono hd hi hdN hob hok (fun vs Jn a w hφ ha hw hn => h vs Jn hφ B hBcl hp2 a w ha hw hn) G.length [] vs [] a w .nil (fun _ h => by cases h) (by simp) hcl (fun _ _ h => by cases h) hag hw hn
theorem XF.group (G : List Gm) (hmono : ∀ g ∈ G, Grows g.φ) (hd : (G.map (·.d)).Nodup) (hi : (G.map (·.i)).Nodup) (hdN : ∀ g ∈ G, g.d < C.N) (hob : ∀ g ∈ G, Owes C os l M J G g)
    (h : ∀ (vs : Nat → Value) Jn, (∀ g ∈ G, g.φ (vs g.i) (M ++ ((Jn ++ J) ++ C.A))) → XF C os Q nd plan (gEnv G vs ++ l) M (Jn ++ J)) : XF C os Q nd (enc (G.map (·.i)) ++ plan) l M J := XK.group G hmono hd hi hdN hob h
end group
/-- An append to a slice that has no room left: whose it is doesn't matter. -/
theorem run_append_full {P : Program} {t e ty : TypeId} {sz by_ n m : Nat} {p : Option Addr} {u : Value} {xs ys : List Value} {R : Mem} {w : World} (ht : elemT P t = some (e, sz, by_)) (hszp : 0 < sz)
    (hs : Rd R sz (.slice p n n) n xs) (hr : Rd R sz u m ys) (hw : Fx R w) (hm : 0 < m) (hmax : n + m ≤ maxLen) (hbytes : (n + m) * by_ ≤ 140737488355328) :
    ∃ v' o', (Builtin.append_ #[t, t] ty #[.slice p n n, u]).run P w = .ok v' (w.drew.alloc o') ∧ Sl sz v' (n + m) (xs ++ ys) [(w.heap.size, o')] := by
  obtain ⟨i, z, hu, hi, hz, hzs, his, hib⟩ := elemT_spec ht
  obtain ⟨pu, cu, rfl, hul, huc, hub⟩ := hr
  obtain ⟨p', c', e1, hxl, _, hsb⟩ := hs
  cases e1
  have hsmall : n + m ≤ 9223372036854775807 := by simp only [maxLen] at hmax; omega
  subst his; subst hib
  obtain ⟨bu, ou, csu, eu, fru, rfl, hbu, hxu⟩ : ∃ (b o : Nat) (cs : List Value) (e : TypeId) (fr : Nat × Nat), pu = some ⟨b, o, none⟩ ∧ (b, Obj.cells cs.toArray e fr) ∈ R ∧ ∀ j u, ys[j]? = some u → cs[o + j]? = some u := by
    rcases hub with h | h
    · omega
    · exact h
  have hnews : ∀ j u, ys[j]? = some u → w.cell? ((⟨bu, ou, none⟩ : Addr).add j) = some u := fun j u hj => by rw [Addr.add_mid, cell_fx hw hbu]; simpa using hxu j u hj
  have made : ∀ (r : Value) (cap' : Nat), r = .slice (some ⟨w.heap.size, 0, none⟩) (n + m) cap' → n + m ≤ cap' → cap' ≤ maxLen →
      Sl i.size r (n + m) (xs ++ ys) [(w.heap.size, .cells (xs.toArray ++ ys.toArray ++ Builtin.zeroCells z.cells (cap' - (n + m))) e (0, 0))] := by
    intro r cap' hr' hc1 hc2
    refine .inr ⟨w.heap.size, 0, cap', (xs.toArray ++ ys.toArray ++ Builtin.zeroCells z.cells (cap' - (n + m))).toList, e, hr', by simp [blk], hc1, hc2, ?_, ?_, ?_⟩
    · simp only [Array.length_toList, Array.size_append, List.size_toArray, size_zeroCells, hzs, hxl, hul, ← Nat.add_mul, Nat.zero_add]
      refine Nat.mul_le_mul_right _ ?_
      omega
    · simp [hxl, hul, Nat.add_mul]
    · intro j u hj
      have hlt : j < (xs ++ ys).length := (List.getElem?_eq_some_iff.1 hj).1
      rw [Nat.zero_add]
      simp only [Array.toList_append, List.append_assoc]
      rw [← List.append_assoc, List.getElem?_append_left (by simpa using hlt)]
      exact hj
  have hge := grownCap_ge w (n + m) n e
  have hcm : grownCap w (n + m) n e ≤ maxLen := grownCap_le_maxLen w (n + m) n e hmax
  cases p with
  | none =>
    obtain rfl : n = 0 := by
      rcases hsb with h | ⟨_, _, _, _, _, h, _⟩
      · exact h
      · cases h
    obtain rfl : xs = [] := List.eq_nil_of_length_eq_zero (by simpa using hxl)
    have hrn := run_append_nil (P := P) w t ty e i z hu hi hz ⟨bu, ou, none⟩ m cu ys hul hnews (by omega) (by omega) (by simp at hbytes; omega)
    rw [Nat.zero_add] at hge hcm
    refine ⟨_, _, hrn, ?_⟩
    have := made _ (grownCap w m 0 e) (by rw [Nat.zero_add]) (by omega) hcm
    simpa using this
  | some pa =>
    have hold : ∀ j q, xs[j]? = some q → w.cell? (pa.add j) = some q := by
      intro j q hj
      rcases hsb with h | ⟨b, o, cs, e', fr, h, hb, hx⟩
      · subst h
        have : xs = [] := List.eq_nil_of_length_eq_zero (by simpa using hxl)
        subst this; simp at hj
      · cases h
        rw [Addr.add_mid, cell_fx hw hb]; simpa using hx j q hj
    have hrg := run_append_grow (P := P) w t ty e i z hu hi hz pa n n xs hxl hold ⟨bu, ou, none⟩ m cu ys hul hnews (by omega) (by omega) (growslice_fits (by omega) hbytes)
    exact ⟨_, _, hrg, made _ _ rfl hge hcm⟩
theorem l_appendF {C : Cx} {l : Env} {M J : Mem} {K : Env → Mem → Mem → Prop} {d : Nat} {ty : TypeId} {pos : String} {af : Array Edge} {g : Option (Nat × Bool)} {x y : Operand} {t e : TypeId} {sz by_ n m : Nat} {p : Option Addr} {u : Value} {xs ys : List Value}
    (hx : ev l x = some (.slice p n n)) (hy : ev l y = some u) (ht : elemT C.P t = some (e, sz, by_)) (hsz : Nat.blt 0 sz = true)
    (hs : Rd (M ++ (J ++ C.A)) sz (.slice p n n) n xs) (hr : Rd (M ++ (J ++ C.A)) sz u m ys) (hmax : n + m ≤ maxLen) (hbytes : (n + m) * by_ ≤ 140737488355328) (hd : Nat.blt d C.N = true)
    (k : ∀ v' B', Rd (B' ++ (M ++ (J ++ C.A))) sz v' (n + m) (xs ++ ys) → (0 < m → Sl sz v' (n + m) (xs ++ ys) B') → K ((d, v') :: l) (B' ++ M) J) :
    OpL C ⟨some d, .call { callee := .builtin .append, args := #[x, y], argTypes := #[t, t] }, ty, pos, af, g⟩ l M J K := by
  intro Qp a w ha hw
  rcases Nat.eq_zero_or_pos m with hm | hm
  · subst hm
    obtain ⟨i, z, hu, hi, hz, hzs, his, hib⟩ := elemT_spec ht
    obtain ⟨pu, cu, rfl, hul, huc, hub⟩ := hr
    have hys : ys = [] := List.eq_nil_of_length_eq_zero (by simpa using hul)
    subst hys
    have hf := first_rd (P := C.P) (m := 0) (c2 := cu) (⟨pu, cu, rfl, hul, huc, hub⟩ : Rd (M ++ (J ++ C.A)) sz (.slice pu 0 cu) 0 []) hw.fx
    subst his
    have hexec : (execOp a.eval ⟨some d, .call { callee := .builtin .append, args := #[x, y], argTypes := #[t, t] }, ty, pos, af, g⟩).run C.P w = .ok (.value (.slice p n n)) w := by
      simp only [execOp, resolve, invoke, builtin, ha.ev hx, ha.ev hy]
      cases p <;> simp [ha.ev hx, ha.ev hy, Builtin.append_, run_underlying hu, sizeOf, typeInfo, hi, Builtin.lenOf, hf, storeCells]
      all_goals (rcases Nat.eq_zero_or_pos n with h0 | h0 <;> simp_all)
    unfold Oper.wp
    rw [hexec]
    exact ⟨_, M, J, ha.put (blt_lt hd) _, hw, k _ [] (by simpa using hs) (fun h => absurd h (by decide))⟩
  · obtain ⟨v', o', hrun, hsl⟩ := run_append_full (P := C.P) (ty := ty) ht (blt_lt hsz) hs hr hw.fx hm hmax hbytes
    have hexec : (execOp a.eval ⟨some d, .call { callee := .builtin .append, args := #[x, y], argTypes := #[t, t] }, ty, pos, af, g⟩).run C.P w = .ok (.value v') (w.drew.alloc o') := by
      simp [execOp, resolve, invoke, builtin, ha.ev hx, ha.ev hy, hrun]
    unfold Oper.wp
    rw [hexec]
    exact ⟨_, _, J, ha.put (blt_lt hd) v', St.alloc (w := w.drew) hw.drew o', k v' _ (hsl.rd fun _ h => List.mem_append_left _ h) (fun _ => hsl)⟩
theorem ln0 {α : Type} : ([] : List α).length = ([] : List α).length := rfl
theorem lnS {α : Type} {x y : α} {r s : List α} (h : r.length = s.length) : (x :: r).length = (y :: s).length := by rw [List.length_cons, List.length_cons, h]
theorem all0 {α : Type} {p : α → Prop} : ∀ x ∈ ([] : List α), p x := fun _ h => by cases h
theorem allS {α : Type} {p : α → Prop} {y : α} {r : List α} (h : p y) (hr : ∀ x ∈ r, p x) : ∀ x ∈ y :: r, p x := fun x hx => (List.mem_cons.1 hx).elim (fun e => e ▸ h) (hr x)
theorem ofH {α : Type} {p : α → Prop} {y : α} {r : List α} (h : ∀ x ∈ y :: r, p x) : p y := h y List.mem_cons_self
theorem ofT {α : Type} {p : α → Prop} {y : α} {r : List α} (h : ∀ x ∈ y :: r, p x) : ∀ x ∈ r, p x := fun x hx => h x (List.mem_cons_of_mem _ hx)
theorem growsRd {n : Nat} {xs : List Value} : Grows fun v R => Rd R 1 v n xs := fun _ _ _ h hp => hp.mono h
theorem growsEq {u : Value} : Grows fun v _ => v = u := fun _ _ _ _ hp => hp
end Go.Px
