/- Part 3 of the texts of this claim, one behind the other. -/
import Derived.Test.YtphcaiplgpmnnaaGreatDoorB2
import Derived.Laws.Externs
import Derived.Lib.ConvBytes
set_option linter.unusedVariables false
set_option linter.unusedSimpArgs false
set_option maxRecDepth 100000
namespace Go.Px
/-- A member: its number, its slot, what it yields (with the facts that are there). -/
structure Gm where
  i : Nat
  d : Nat
  φ : Value → Mem → Prop
def gEnv (G : List Gm) (vs : Nat → Value) : Env := G.map fun g => (g.d, vs g.i)
def enc : List Nat → List (Nat × Nat)
  | [] => []
  | [i] => [(i, 4)]
  | i :: j :: r => (i, 3) :: enc (j :: r)

inductive GOk (ops : Array Oper) : Array Bool → List Nat → Array Bool → Prop
  | nil {A : Array Bool} : GOk ops A [] A
  | cons {A B : Array Bool} {i : Nat} {r : List Nat} (hr : i ∈ Region.ready .any ops A) (ho : ∀ j, j < ops.size → A.getD j true = false → j ∉ i :: r → anc ops ops.size j i = true) (h : GOk ops (A.setIfInBounds i true) r B) : GOk ops A (i :: r) B
theorem grp_enc (i : Nat) (r : List Nat) (plan : List (Nat × Nat)) : grp (enc (i :: r) ++ plan) = i :: r := by
  induction r generalizing i with
  | nil => rfl
  | cons j r ih => simp only [enc, List.cons_append, grp]; rw [ih j]
theorem enc_ok {ops : Array Oper} {nd : List Nat} {plan : List (Nat × Nat)} : ∀ {is : List Nat} {A : Array Bool}, planOk ops nd (enc is ++ plan) A = true → ∃ B, GOk ops A is B ∧ planOk ops nd plan B = true
  | [], A, h => ⟨A, .nil, h⟩
  | [i], A, h => by
    simp only [enc, List.cons_append, List.nil_append, planOk, grpOk, Bool.and_eq_true, List.all_eq_true, List.mem_range, Bool.or_eq_true] at h
    refine ⟨_, .cons (by simpa using h.1.1) (fun j hj hu hn => ?_) .nil, h.2⟩
    rcases h.1.2 j hj with (h1 | h1) | h1
    · rw [hu] at h1; cases h1
    · exact absurd (by simpa using h1) hn
    · exact h1
  | i :: j :: r, A, h => by
    simp only [enc, List.cons_append, planOk, grpOk, Bool.and_eq_true, List.all_eq_true, List.mem_range, Bool.or_eq_true, grp_enc] at h
    obtain ⟨B, hB, hp⟩ := enc_ok (is := j :: r) h.2
    refine ⟨B, .cons (by simpa using h.1.1) (fun j hj hu hn => ?_) hB, hp⟩
    rcases h.1.2 j hj with (h1 | h1) | h1
    · rw [hu] at h1; cases h1
    · exact absurd (by simpa using h1) hn
    · exact h1

def mark (A : Array Bool) (X : List Nat) : Array Bool := X.foldl (fun B i => B.setIfInBounds i true) A
theorem mark_get (X : List Nat) : ∀ (A : Array Bool) (j : Nat), (mark A X)[j]? = if j ∈ X ∧ j < A.size then some true else A[j]? := by
  induction X with
  | nil => intro A j; simp [mark]
  | cons i X ih =>
    intro A j
    have := ih (A.setIfInBounds i true) j
    simp only [mark, List.foldl_cons] at this ⊢
    rw [this]
    simp only [Array.size_setIfInBounds, List.mem_cons]
    by_cases h1 : j < A.size
    · by_cases h2 : j ∈ X
      · simp [h1, h2]
      · by_cases h3 : i = j
        · subst h3; simp [h1, h2]
        · have h3' : j ≠ i := fun h => h3 h.symm
          simp [h1, h2, h3, h3', Array.getElem?_setIfInBounds]
    · simp [h1]
theorem mark_snoc (A : Array Bool) (X : List Nat) (i : Nat) : mark A (X ++ [i]) = (mark A X).setIfInBounds i true := by simp [mark]
theorem mark_eq {A : Array Bool} {X Y : List Nat} (h : ∀ j, j ∈ X ↔ j ∈ Y) : mark A X = mark A Y := by
  apply Array.ext_getElem?
  intro j; rw [mark_get, mark_get]; simp only [h]
theorem mark_getD_f {A : Array Bool} {X : List Nat} {j : Nat} : (mark A X).getD j true = false ↔ (A.getD j true = false ∧ ¬ (j ∈ X ∧ j < A.size)) := by
  have := mark_get X A j
  simp only [Array.getD_eq_getD_getElem?, this]
  split
  · simp_all
  · simp_all
theorem mark_getD_t {A : Array Bool} {X : List Nat} {j : Nat} (h : (mark A X).getD j false = true) : A.getD j false = true ∨ j ∈ X := by
  have := mark_get X A j
  simp only [Array.getD_eq_getD_getElem?, this] at h ⊢
  split at h
  · rename_i hh; exact .inr hh.1
  · exact .inl h
theorem GOk.mark {ops : Array Oper} {A B : Array Bool} {is : List Nat} (h : GOk ops A is B) : B = mark A is := by
  induction h with
  | nil => rfl
  | cons _ _ _ ih => rw [ih]; rfl
theorem ready_un {ops : Array Oper} {A : Array Bool} {i : Nat} (h : i ∈ Region.ready .any ops A) : A.getD i true = false := (mem_ready.1 h).1
theorem ready_lt {ops : Array Oper} {A : Array Bool} {i : Nat} (h : i ∈ Region.ready .any ops A) : i < ops.size := by
  obtain ⟨_, oj, hoj, _⟩ := mem_ready.1 h
  exact (Array.getElem?_eq_some_iff.1 hoj).1
/-- Whoever isn't of the group waits for all of it. -/
theorem GOk.outer {ops : Array Oper} {A B : Array Bool} {is : List Nat} (h : GOk ops A is B) : ∀ i ∈ is, ∀ j, j < ops.size → A.getD j true = false → j ∉ is → anc ops ops.size j i = true := by
  induction h with
  | nil => intro i hi; cases hi
  | @cons A B i r hr ho h ih =>
    intro k hk j hj hu hn
    rcases List.mem_cons.1 hk with rfl | hk
    · exact ho j hj hu hn
    · have hne : i ≠ j := fun e => hn (e ▸ List.mem_cons_self)
      exact ih k hk j hj (by rw [getD_set_ne true hne]; exact hu) (fun hm => hn (List.mem_cons_of_mem _ hm))
/-- Who is first of those that are missing is ready. -/
theorem ready_more {ops : Array Oper} {A A' : Array Bool} {i : Nat} (hr : i ∈ Region.ready .any ops A) (hu : A'.getD i true = false) (hm : ∀ j, A.getD j false = true → A'.getD j false = true) : i ∈ Region.ready .any ops A' := by
  obtain ⟨h1, oj, hoj, hall⟩ := mem_ready.1 hr
  exact mem_ready.2 ⟨hu, oj, hoj, fun e he hb => hm _ (hall e he hb)⟩
theorem getD_f_lt {A : Array Bool} {i : Nat} (h : A.getD i true = false) : i < A.size := by
  rcases Nat.lt_or_ge i A.size with h1 | h1
  · exact h1
  · simp [Array.getElem?_eq_none h1] at h
theorem GOk.first {ops : Array Oper} {A B : Array Bool} {is : List Nat} (h : GOk ops A is B) {A' : Array Bool} (hsz : A'.size = A.size) (hm : ∀ j, A.getD j false = true → A'.getD j false = true) {k : Nat} (hk : k ∈ is) (hk' : A'.getD k true = false) : ∃ i, i ∈ Region.ready .any ops A' := by
  induction h generalizing k with
  | nil => cases hk
  | @cons A B i r hr ho h ih =>
    by_cases hi : A'.getD i true = false
    · exact ⟨i, ready_more hr hi hm⟩
    · rcases List.mem_cons.1 hk with rfl | hk
      · exact absurd hk' hi
      · refine ih (by simpa using hsz) (fun j hj => ?_) hk hk'
        by_cases e : i = j
        · subst e
          have hlt := getD_f_lt (ready_un hr)
          have hlt' : i < A'.size := by omega
          simp [hlt'] at hi ⊢; exact hi
        · rw [getD_set_ne false e] at hj
          exact hm j hj
theorem mark_size (A : Array Bool) (X : List Nat) : (mark A X).size = A.size := by
  induction X generalizing A with
  | nil => rfl
  | cons i X ih => simp only [mark, List.foldl_cons] at ih ⊢; rw [ih]; simp
theorem mark_mono {A : Array Bool} {X : List Nat} {j : Nat} (h : A.getD j false = true) : (mark A X).getD j false = true := by
  have := mark_get X A j
  simp only [Array.getD_eq_getD_getElem?, this] at h ⊢
  split
  · rfl
  · exact h
theorem St.freezeAll {C : Cx} {M J : Mem} {w : World} : ∀ {B : Mem}, St C (B ++ M) J w → St C M (B ++ J) w
  | [], h => h
  | x :: B, h => by
    have h1 := St.freezeAll (B := B) (h.freeze)
    exact h1.drop (List.Sublist.refl _) fun y hy => by
      simp only [List.cons_append, List.mem_cons, List.mem_append] at hy ⊢
      rcases hy with hy | hy | hy <;> simp [hy]

theorem nodup_le {X : List Nat} : ∀ {Y : List Nat}, X.Nodup → (∀ x ∈ X, x ∈ Y) → X.length ≤ Y.length := by
  induction X with
  | nil => intros; simp
  | cons x X ih =>
    intro Y hn hs
    simp only [List.nodup_cons] at hn
    have h1 := ih (Y := Y.erase x) hn.2 fun z hz => (List.mem_erase_of_ne (fun e => hn.1 (by rw [← e]; exact hz))).2 (hs z (List.mem_cons_of_mem _ hz))
    have h2 := List.length_erase_of_mem (hs x List.mem_cons_self)
    have h3 : 0 < Y.length := List.length_pos_of_mem (hs x List.mem_cons_self)
    simp only [List.length_cons]; omega
theorem nodup_all {X Y : List Nat} (hn : X.Nodup) (hs : ∀ x ∈ X, x ∈ Y) (hl : Y.length ≤ X.length) : ∀ y ∈ Y, y ∈ X := by
  intro y hy
  apply Classical.byContradiction
  intro hno
  have := nodup_le (X := y :: X) (Y := Y) (List.nodup_cons.2 ⟨hno, hn⟩) (fun z hz => by
    rcases List.mem_cons.1 hz with rfl | hz
    · exact hy
    · exact hs z hz)
  simp at this; omega
theorem gm_inj {G : List Gm} (h : (G.map (·.i)).Nodup) {g g' : Gm} (hg : g ∈ G) (hg' : g' ∈ G) (e : g.i = g'.i) : g = g' := by
  induction G with
  | nil => cases hg
  | cons x G ih =>
    simp only [List.map_cons, List.nodup_cons] at h
    rcases List.mem_cons.1 hg with h1 | h1 <;> rcases List.mem_cons.1 hg' with h2 | h2
    · rw [h1, h2]
    · exact absurd (by rw [← h1, e]; exact List.mem_map_of_mem (f := Gm.i) h2) h.1
    · exact absurd (by rw [← h2, ← e]; exact List.mem_map_of_mem (f := Gm.i) h1) h.1
    · exact ih h.2 h1 h2

theorem gEnv_set {N : Nat} {G : List Gm} {l : Env} {vs : Nat → Value} {a : Act} {g : Gm} (hg : g ∈ G) (hd : (G.map (·.d)).Nodup) (hi : (G.map (·.i)).Nodup) {v : Value} (h : Ag N ((g.d, v) :: (gEnv G vs ++ l)) a) :
    Ag N (gEnv G (fun k => if k = g.i then v else vs k) ++ l) a := by
  refine h.sub ?_
  have key : ∀ (G : List Gm), g ∈ G → (G.map (·.d)).Nodup → (G.map (·.i)).Nodup → ∀ k u, lk (gEnv G (fun k => if k = g.i then v else vs k) ++ l) k = some u → lk ((g.d, v) :: (gEnv G vs ++ l)) k = some u := by
    intro G
    have step : ∀ (G : List Gm), (∀ x ∈ G, x.i ≠ g.i) → gEnv G (fun k => if k = g.i then v else vs k) = gEnv G vs := by
      intro G hG
      exact List.map_congr_left fun x hx => by simp [hG x hx]
    induction G with
    | nil => intro h; cases h
    | cons x G ih =>
      intro hm hd hi k u hk
      simp only [List.map_cons, List.nodup_cons] at hd hi
      rcases List.mem_cons.1 hm with rfl | hm
      · have e := step G fun x hx e => hi.1 (e ▸ List.mem_map_of_mem (f := Gm.i) hx)
        simp only [gEnv, List.map_cons, List.cons_append, lk] at hk ⊢
        by_cases h1 : g.d = k
        · subst h1; simpa using hk
        · simp only [beq_ne h1, cond_false] at hk ⊢
          rw [show List.map (fun g_1 => (g_1.d, if g_1.i = g.i then v else vs g_1.i)) G = gEnv G vs from e] at hk
          exact hk
      · have hne : x.i ≠ g.i := fun e => hi.1 (e ▸ List.mem_map_of_mem (f := Gm.i) hm)
        have hned : x.d ≠ g.d := fun e => hd.1 (e ▸ List.mem_map_of_mem (f := Gm.d) hm)
        simp only [gEnv, List.map_cons, List.cons_append, lk, hne, if_false] at hk ⊢
        by_cases h1 : g.d = k
        · subst h1
          simp only [beq_ne hned, cond_false] at hk
          have := ih hm hd.2 hi.2 g.d u hk
          simp only [lk] at this ⊢
          simpa using this
        · simp only [beq_ne h1, cond_false]
          by_cases h2 : x.d = k
          · subst h2; simpa using hk
          · simp only [beq_ne h2, cond_false] at hk ⊢
            have := ih hm hd.2 hi.2 k u hk
            simp only [lk, beq_ne h1, cond_false] at this
            exact this
  exact key G hg hd hi

section group
variable {C : Cx} {Q : XQ} {l : Env} {M J : Mem} {os : List Oper} {K : Nat → Prop} {n0 : Nat} {nd : List Nat} {plan : List (Nat × Nat)}
/-- Is an operation asked, in a state? -/
def Asked (os : List Oper) (l : Env) (o : Oper) : Prop := o.guard = none ∨ ∃ j t b oj, o.guard = some (j, b) ∧ nth os j = some oj ∧ oj.dst = some t ∧ lk l t = some (.bool b)
theorem Asked.wanted {o : Oper} (h : Asked os l o) {a : Act} (ha : Ag C.N l a) : Region.wanted o (yielded os.toArray a.tmps) = true := by
  rcases h with h | ⟨j, t, b, oj, h1, h2, h3, h4⟩
  · simp [Region.wanted, h]
  · have hj' : os.toArray[j]? = some oj := by rw [nth_eq] at h2; simpa using h2
    simp only [Region.wanted, h1, yielded, hj', Option.bind_some, h3, ha.slot _ _ h4]; simp
/-- What a member owes: with what those yield that it waits for. -/
def Owes (C : Cx) (os : List Oper) (l : Env) (M J : Mem) (G : List Gm) (g : Gm) : Prop :=
  ∃ o, nth os g.i = some o ∧ ∀ (vs : Nat → Value) (R : Mem) (w : World), (∀ x ∈ M ++ (J ++ C.A), x ∈ R) → (∀ g' ∈ G, anc os.toArray os.toArray.size g.i g'.i = true → g'.φ (vs g'.i) R) →
    Asked os (gEnv G vs ++ l) o ∧ OpL ⟨C.P, w, [], R, C.N⟩ o (gEnv G vs ++ l) [] [] (fun l' M' J' => ∃ v, l' = (g.d, v) :: (gEnv G vs ++ l) ∧ g.φ v (M' ++ (J' ++ R)))
def Grows (φ : Value → Mem → Prop) : Prop := ∀ v R R', (∀ x ∈ R, x ∈ R') → φ v R → φ v R'

theorem group_go {G : List Gm} (hmono : ∀ g ∈ G, Grows g.φ) (hd : (G.map (·.d)).Nodup) (hi : (G.map (·.i)).Nodup) (hdN : ∀ g ∈ G, g.d < C.N) (hob : ∀ g ∈ G, Owes C os l M J G g) {A B : Array Bool} (hok : GOk os.toArray A (G.map (·.i)) B)
    (hfin : ∀ (vs : Nat → Value) Jn a w, (∀ g ∈ G, g.φ (vs g.i) (M ++ ((Jn ++ J) ++ C.A))) → Ag C.N (gEnv G vs ++ l) a → St C M (Jn ++ J) w → n0 ≤ w.heap.size → wpAnyS C.P os.toArray (noPanicX (lift C Q)) (Sk K) nd.contains plan.length B a w) :
    ∀ (n : Nat) (X : List Nat) (vs : Nat → Value) (Jn : Mem) (a : Act) (w : World), X.Nodup → (∀ i ∈ X, i ∈ G.map (·.i)) → n + X.length = G.length → Closed os.toArray (mark A X) →
      (∀ g ∈ G, g.i ∈ X → g.φ (vs g.i) (M ++ ((Jn ++ J) ++ C.A))) → Ag C.N (gEnv G vs ++ l) a → St C M (Jn ++ J) w → n0 ≤ w.heap.size →
      wpAnyS C.P os.toArray (noPanicX (lift C Q)) (Sk K) nd.contains (n + plan.length) (mark A X) a w := by
  intro n
  induction n with
  | zero =>
    intro X vs Jn a w hnd hX hlen hcl hφ ha hw hn
    have hall : ∀ i, i ∈ X ↔ i ∈ G.map (·.i) := fun i => ⟨hX i, nodup_all hnd hX (by simp; omega) i⟩
    rw [Nat.zero_add, mark_eq hall, ← hok.mark]
    exact hfin vs Jn a w (fun g hg => hφ g hg ((hall _).2 (List.mem_map_of_mem (f := Gm.i) hg))) ha hw hn
  | succ n ih =>
    intro X vs Jn a w hnd hX hlen hcl hφ ha hw hn
    have hmiss : ∃ k ∈ G.map (·.i), k ∉ X := by
      apply Classical.byContradiction
      intro hno
      have hs : ∀ k ∈ G.map (·.i), k ∈ X := fun k hk => Classical.byContradiction fun h => hno ⟨k, hk, h⟩
      have := nodup_le hi hs
      simp at this; omega
    obtain ⟨k, hkG, hkX⟩ := hmiss
    have hun : ∀ i ∈ G.map (·.i), A.getD i true = false := by
      have : ∀ {is A B}, GOk os.toArray A is B → ∀ i ∈ is, A.getD i true = false := by
        intro is A B h
        induction h with
        | nil => intro i hi; cases hi
        | @cons A B i r hr ho h ih =>
          intro k hk
          rcases List.mem_cons.1 hk with rfl | hk
          · exact ready_un hr
          · have h2 := ih k hk
            by_cases e : i = k
            · subst e; exact ready_un hr
            · rwa [getD_set_ne true e] at h2
      exact this hok
    have hkun : (mark A X).getD k true = false := mark_getD_f.2 ⟨hun k hkG, fun h => hkX h.1⟩
    rw [show n + 1 + plan.length = (n + plan.length) + 1 by omega]
    refine ⟨fun h0 => ?_, fun i hir => ?_⟩
    · obtain ⟨i, hir⟩ := hok.first (mark_size A X) (fun j hj => mark_mono hj) hkG hkun
      rw [h0] at hir; cases hir
    · have hiG : i ∈ G.map (·.i) := by
        apply Classical.byContradiction
        intro hno
        have h1 := mark_getD_f.1 (ready_un hir)
        have h2 := hok.outer k hkG i (ready_lt hir) h1.1 hno
        exact not_both hkun (anc_ready hcl h2 hir)
      obtain ⟨g, hg, rfl⟩ := List.mem_map.1 hiG
      have hiX : g.i ∉ X := fun h => (mark_getD_f.1 (ready_un hir)).2 ⟨h, getD_f_lt (hun _ hiG)⟩
      obtain ⟨o, hget, howe⟩ := hob g hg
      have hi' : os.toArray[g.i]? = some o := by rw [nth_eq] at hget; simpa using hget
      obtain ⟨hask, hop⟩ := howe vs (M ++ ((Jn ++ J) ++ C.A)) w (fun x hx => by simp only [List.mem_append] at hx ⊢; rcases hx with h | h | h <;> simp [h]) (fun g' hg' hanc => hφ g' hg' (by
        have h3 := anc_ready hcl hanc hir
        rcases mark_getD_t h3 with h4 | h4
        · exact (not_both (hun _ (List.mem_map_of_mem (f := Gm.i) hg')) h4).elim
        · exact h4))
      unfold wpOp
      simp only [hi']
      rw [if_pos (hask.wanted ha)]
      have hcal := hw.callee (Mc := []) (R := M) (.refl _)
      refine .inl (Oper.wp_mono ?_ (hop _ a w ha hcal.cx))
      rintro a' w' ⟨l', M', J', ha', hs', v, rfl, hφv⟩
      have hsz : w.heap.size ≤ w'.heap.size := hs'.size
      have hb := hw.back (Mc := []) (R := M) (.refl _) hs'.cx
      have hfr := St.freezeAll hb
      have hfr2 : St C M ((M' ++ (J' ++ Jn)) ++ J) w' := hfr.drop (List.Sublist.refl _) fun x hx => by
        simp only [List.mem_append] at hx ⊢
        rcases hx with (h | h | h) | h <;> simp [h]
      refine ⟨fun _ b hb' hnk => hs'.frame b hb' (by simp), ?_⟩
      rw [← mark_snoc]
      refine ih (X ++ [g.i]) (fun k => if k = g.i then v else vs k) (M' ++ (J' ++ Jn)) a' w' ?_ ?_ (by simp; omega) ?_ ?_ (gEnv_set hg hd hi ha') hfr2 (Nat.le_trans hn hsz)
      · rw [List.nodup_append]; exact ⟨hnd, by simp, fun x hx y hy e => hiX (by simp at hy; subst hy; exact e ▸ hx)⟩
      · intro j hj
        rcases List.mem_append.1 hj with hj | hj
        · exact hX j hj
        · simp at hj; subst hj; exact hiG
      · rw [mark_snoc]; exact closed_set hcl hir
      · intro g' hg' hm
        by_cases e : g'.i = g.i
        · have : g' = g := gm_inj hi hg' hg e
          subst this
          simp only [if_true]
          exact hmono g' hg' _ _ _ (fun x hx => by simp only [List.mem_append] at hx ⊢; rcases hx with h | h | h | ((h | h) | h) <;> simp [h]) hφv
        · simp only [e, if_false]
          have hm' : g'.i ∈ X := by simpa [e] using hm
          exact hmono g' hg' _ _ _ (fun x hx => by simp only [List.mem_append] at hx ⊢; rcases hx with h | (h | h) | h <;> simp [h]) (hφ g' hg' hm')

theorem XK.group (G : List Gm) (hmono : ∀ g ∈ G, Grows g.φ) (hd : (G.map (·.d)).Nodup) (hi : (G.map (·.i)).Nodup) (hdN : ∀ g ∈ G, g.d < C.N) (hob : ∀ g ∈ G, Owes C os l M J G g)
    (h : ∀ (vs : Nat → Value) Jn, (∀ g ∈ G, g.φ (vs g.i) (M ++ ((Jn ++ J) ++ C.A))) → XK C os Q K n0 nd plan (gEnv G vs ++ l) M (Jn ++ J)) : XK C os Q K n0 nd (enc (G.map (·.i)) ++ plan) l M J := by
  intro listed hcl hp a w ha hw hn
  obtain ⟨B, hok, hp2⟩ := enc_ok hp
  have hBcl : Closed os.toArray B := by
    have : ∀ {A is B}, GOk os.toArray A is B → Closed os.toArray A → Closed os.toArray B := by
      intro A is B h
      induction h with
      | nil => exact id
      | cons hr _ _ ih => exact fun hc => ih (closed_set hc hr)
    exact this hok hcl
  have hlen : (enc (G.map (·.i)) ++ plan).length = G.length + plan.length := by
    have : ∀ is : List Nat, (enc is).length = is.length := by
      intro is
      induction is with
      | nil => rfl
      | cons i r ih => cases r with
        | nil => rfl
        | cons j r => simp only [enc, List.length_cons] at ih ⊢; rw [ih]
    simp [this]
  rw [hlen]
  -- the slots' own content, to begin with
  let vs : Nat → Value := fun k => match G.find? (fun g => g.i == k) with
    | some g => (a.tmps[g.d]?).getD undef
    | none => undef
  have hag : Ag C.N (gEnv G vs ++ l) a := by
    refine ⟨ha.defers, ha.size, ?_⟩
    intro k u hk
    have key : ∀ G' : List Gm, (∀ g ∈ G', g ∈ G) → lk (gEnv G' vs ++ l) k = some u → a.tmps[k]? = some u := by
      intro G'
      induction G' with
      | nil => intro _ h; exact ha.slot k u h
      | cons g G' ih =>
        intro hs h
        simp only [gEnv, List.map_cons, List.cons_append, lk] at h
        by_cases e : g.d = k
        · subst e
          simp at h
          have hf : G.find? (fun x => x.i == g.i) = some g := by
            have hgG := hs g List.mem_cons_self
            cases hq : G.find? (fun x => x.i == g.i) with
            | none => have := List.find?_eq_none.1 hq g hgG; simp at this
            | some x =>
              have h1 := List.find?_some hq
              have h2 := List.mem_of_find?_eq_some hq
              rw [gm_inj hi h2 hgG (by simpa using h1)]
          have hlt : g.d < a.tmps.size := by rw [ha.size]; exact hdN g (hs g List.mem_cons_self)
          rw [← h]
          show a.tmps[g.d]? = some (vs g.i)
          simp only [vs, hf, Array.getElem?_eq_getElem hlt, Option.getD_some]
        · simp only [beq_ne e, cond_false] at h
          exact ih (fun x hx => hs x (List.mem_cons_of_mem _ hx)) h
    exact key G (fun _ h => h) hk
  exact group_go (n0 := n0) (K := K) hmono hd hi hdN hob hok (fun vs Jn a w hφ ha hw hn => h vs Jn hφ B hBcl hp2 a w ha hw hn) G.length [] vs [] a w .nil (fun _ h => by cases h) (by simp) hcl (fun _ _ h => by cases h) hag hw hn
end group
theorem ln0 {α : Type} : ([] : List α).length = ([] : List α).length := rfl
theorem lnS {α : Type} {x y : α} {r s : List α} (h : r.length = s.length) : (x :: r).length = (y :: s).length := by rw [List.length_cons, List.length_cons, h]
theorem all0 {α : Type} {p : α → Prop} : ∀ x ∈ ([] : List α), p x := fun _ h => by cases h
theorem allS {α : Type} {p : α → Prop} {y : α} {r : List α} (h : p y) (hr : ∀ x ∈ r, p x) : ∀ x ∈ y :: r, p x := fun x hx => (List.mem_cons.1 hx).elim (fun e => e ▸ h) (hr x)
theorem ofH {α : Type} {p : α → Prop} {y : α} {r : List α} (h : ∀ x ∈ y :: r, p x) : p y := h y List.mem_cons_self
theorem ofT {α : Type} {p : α → Prop} {y : α} {r : List α} (h : ∀ x ∈ y :: r, p x) : ∀ x ∈ r, p x := fun x hx => h x (List.mem_cons_of_mem _ hx)
theorem growsEq {u : Value} : Grows fun v _ => v = u := fun _ _ _ _ hp => hp
end Go.Px

/-
  Unsigned arithmetic by numbers: each rule names its value outright. Constants of the text are handed in by (a := ..), (b := ..).
-/
namespace Go.Px
section rules
variable {P : Program} {R : Mem} {l : Env} {d : Option Nat} {ty t t' : TypeId} {pos : String} {af : Array Edge} {g : Option (Nat × Bool)} {x y : Operand} {k k' : IntKind} {i j : Int} {a b : Nat}
theorem q_addM (m : Nat) (hk : k.signed = false) (hm : 2 ^ k.bits = m) (hx : ev l x = some (.int k i)) (hy : ev l y = some (.int k j)) (hi : i = (a : Int)) (hj : j = (b : Int)) :
    OpQ P R ⟨d, .binOp .add t x y t', ty, pos, af, g⟩ l (.int k (((a + b) % m : Nat) : Int)) := by
  subst hi; subst hj; exact q_bin hx hy (addU hk _ (by rw [hm]))
theorem q_mulM (m : Nat) (hk : k.signed = false) (hm : 2 ^ k.bits = m) (hx : ev l x = some (.int k i)) (hy : ev l y = some (.int k j)) (hi : i = (a : Int)) (hj : j = (b : Int)) :
    OpQ P R ⟨d, .binOp .mul t x y t', ty, pos, af, g⟩ l (.int k (((a * b) % m : Nat) : Int)) := by
  subst hi; subst hj; exact q_bin hx hy (mulU hk _ (by rw [hm]))
theorem q_subM (m : Nat) (hk : k.signed = false) (hm : 2 ^ k.bits = m) (hx : ev l x = some (.int k i)) (hy : ev l y = some (.int k j)) (hi : i = (a : Int)) (hj : j = (b : Int)) (hb : b ≤ m) :
    OpQ P R ⟨d, .binOp .sub t x y t', ty, pos, af, g⟩ l (.int k (((a + (m - b)) % m : Nat) : Int)) := by
  subst hi; subst hj; subst hm; exact q_bin hx hy (subU hk _ hb rfl)
/-- .. that don't pass their bounds. -/
theorem q_addS (m : Nat) (hk : k.signed = false) (hm : 2 ^ k.bits = m) (hx : ev l x = some (.int k i)) (hy : ev l y = some (.int k j)) (hi : i = (a : Int)) (hj : j = (b : Int)) (h : a + b < m) :
    OpQ P R ⟨d, .binOp .add t x y t', ty, pos, af, g⟩ l (.int k ((a + b : Nat) : Int)) := by
  have := q_addM (P := P) (R := R) (d := d) (ty := ty) (pos := pos) (af := af) (g := g) (t := t) (t' := t') m hk hm hx hy hi hj
  rwa [Nat.mod_eq_of_lt h] at this
theorem q_subS (m : Nat) (hk : k.signed = false) (hm : 2 ^ k.bits = m) (hx : ev l x = some (.int k i)) (hy : ev l y = some (.int k j)) (hi : i = (a : Int)) (hj : j = (b : Int)) (ha : a < m) (h : b ≤ a) :
    OpQ P R ⟨d, .binOp .sub t x y t', ty, pos, af, g⟩ l (.int k ((a - b : Nat) : Int)) := by
  have := q_subM (P := P) (R := R) (d := d) (ty := ty) (pos := pos) (af := af) (g := g) (t := t) (t' := t') m hk hm hx hy hi hj (by omega)
  rwa [show a + (m - b) = (a - b) + m by omega, Nat.add_mod_right, Nat.mod_eq_of_lt (by omega)] at this
/-- Shifts by a constant; bits by a mask. -/
theorem q_shrD (s D : Nat) (hD : 2 ^ s = D) (hx : ev l x = some (.int k (a : Int))) (hy : ev l y = some (.int k' i)) (hi : i = s) (hs : s ≤ k.bits) : OpQ P R ⟨d, .binOp .shr t x y t', ty, pos, af, g⟩ l (.int k ((a / D : Nat) : Int)) := by
  have := q_shrN (P := P) (R := R) (d := d) (ty := ty) (pos := pos) (af := af) (g := g) (t := t) (t' := t') s hx hy hi hs
  rwa [Nat.shiftRight_eq_div_pow, hD] at this
theorem q_shlD (s D m : Nat) (hk : k.signed = false) (hD : 2 ^ s = D) (hm : 2 ^ k.bits = m) (hx : ev l x = some (.int k (a : Int))) (hy : ev l y = some (.int k' i)) (hi : i = s) (hs : s ≤ k.bits) : OpQ P R ⟨d, .binOp .shl t x y t', ty, pos, af, g⟩ l (.int k ((a * D % m : Nat) : Int)) := by
  have := q_shlN (P := P) (R := R) (d := d) (ty := ty) (pos := pos) (af := af) (g := g) (t := t) (t' := t') hk s hx hy hi hs
  rwa [Nat.shiftLeft_eq, hD, hm] at this
theorem q_andD (s D : Nat) (hk : k.signed = false) (hD : 2 ^ s = D) (hx : ev l x = some (.int k (a : Int))) (hy : ev l y = some (.int k j)) (hj : j = ((D - 1 : Nat) : Int)) (ha : a < 2 ^ k.bits) (hs : s ≤ k.bits) : OpQ P R ⟨d, .binOp .and t x y t', ty, pos, af, g⟩ l (.int k ((a % D : Nat) : Int)) := by
  subst hj; subst hD
  have h2 : 2 ^ s - 1 < 2 ^ k.bits := Nat.lt_of_lt_of_le (Nat.sub_lt (Nat.two_pow_pos _) (by decide)) (Nat.pow_le_pow_right (by decide) hs)
  have := q_and (P := P) (R := R) (d := d) (ty := ty) (pos := pos) (af := af) (g := g) (t := t) (t' := t') hk hx hy ha h2
  rwa [Nat.and_two_pow_sub_one_eq_mod] at this
theorem q_quoD (D : Nat) (hx : ev l x = some (.int k (a : Int))) (hy : ev l y = some (.int k j)) (hj : j = (D : Int)) (hD : D ≠ 0) (h : k.wrap ((a / D : Nat) : Int) = ((a / D : Nat) : Int)) : OpQ P R ⟨d, .binOp .quo t x y t', ty, pos, af, g⟩ l (.int k ((a / D : Nat) : Int)) := by
  subst hj; exact q_quoN hx hy hD h
theorem q_remD (D : Nat) (hx : ev l x = some (.int k (a : Int))) (hy : ev l y = some (.int k j)) (hj : j = (D : Int)) (hD : D ≠ 0) : OpQ P R ⟨d, .binOp .rem t x y t', ty, pos, af, g⟩ l (.int k ((a % D : Nat) : Int)) := by
  subst hj; exact q_remN hx hy hD
/-- The address of an element of an array, its place written out. -/
theorem q_idxAN (off : Nat) {t e : TypeId} {b o n i sz : Nat} {k : IntKind} {ii : Int} (hx : ev l x = some (.pointer (some ⟨b, o, none⟩))) (hy : ev l y = some (.int k ii))
    (hu : P.underlying t = some (.array n e)) (hs : sizeT P e = some sz) (hi : ii = i) (hlt : i < n) (ho : o + i * sz = off) :
    OpQ P R ⟨d, .indexAddr t x y, ty, pos, af, g⟩ l (.pointer (some ⟨b, off, none⟩)) := ho ▸ q_idxA hx hy hu hs hi hlt
end rules
/-- Some cells out of the middle. -/
class TakeC (cs : List Value) (o n : Nat) (vs : outParam (List Value)) : Prop where
  take : vs.length = n ∧ ∀ j v, vs[j]? = some v → cs[o + j]? = some v
instance TakeC.nil {cs : List Value} : TakeC cs 0 0 [] := ⟨rfl, fun j v h => by simp at h⟩
instance TakeC.put {x : Value} {r vs : List Value} {n : Nat} [h : TakeC r 0 n vs] : TakeC (x :: r) 0 (n + 1) (x :: vs) := ⟨by simp [h.take.1], fun j v hv => by
  cases j with
  | zero => simpa using hv
  | succ j => have := h.take.2 j v (by simpa using hv); rw [Nat.zero_add] at this ⊢; simpa using this⟩
instance TakeC.skip {x : Value} {r vs : List Value} {o n : Nat} [h : TakeC r o n vs] : TakeC (x :: r) (o + 1) n vs := ⟨h.take.1, fun j v hv => by
  have := h.take.2 j v hv
  rw [show o + 1 + j = (o + j) + 1 by omega]; simpa using this⟩
theorem q_loadT {P : Program} {R : Mem} {l : Env} {d : Option Nat} {ty t : TypeId} {pos : String} {af : Array Edge} {g : Option (Nat × Bool)} {x : Operand} {n b o : Nat} {cs vs : List Value} {e : TypeId} {fr : Nat × Nat} (hx : ev l x = some (.pointer (some ⟨b, o, none⟩))) (ht : rowT P t = some n)
    (hb : (b, Obj.cells cs.toArray e fr) ∈ R) (h : vs.length = n ∧ ∀ j v, vs[j]? = some v → cs[o + j]? = some v) : OpQ P R ⟨d, .load t x, ty, pos, af, g⟩ l (.agg vs.toArray) := q_loadR hx ht hb h.1 h.2
theorem l_storeS {C : Cx} {l : Env} {M J : Mem} {K : Env → Mem → Mem → Prop} {ty : TypeId} {pos : String} {af : Array Edge} {g : Option (Nat × Bool)} {x y : Operand} {t : TypeId} {b o : Nat} {cs vs cs' : List Value} {e : TypeId} {M' : Mem} (hx : ev l x = some (.pointer (some ⟨b, o, none⟩))) (hy : ev l y = some (.agg vs.toArray))
    (ht : sizeT C.P t = some vs.length) (h1 : ∀ u ∈ vs, u.oneCell' = true) [hs : SetR cs o vs cs'] (hu : Upd M b (blk cs e) (blk cs' e) M') (k : K l M' J) :
    OpL C ⟨none, .store t x y, ty, pos, af, g⟩ l M J K := l_storeR hx hy rfl ht hs.set.1 h1 hs.set.2.symm hu k
section tuples
variable {P : Program} {R : Mem} {l : Env} {d : Option Nat} {ty : TypeId} {pos : String} {af : Array Edge} {g : Option (Nat × Bool)} {x : Operand} {a b c e : Value} {r : List Value}
theorem q_x0 (hx : ev l x = some (.tuple (a :: r).toArray)) : OpQ P R ⟨d, .extract x 0, ty, pos, af, g⟩ l a := q_extract hx rfl
theorem q_x1 (hx : ev l x = some (.tuple (a :: b :: r).toArray)) : OpQ P R ⟨d, .extract x 1, ty, pos, af, g⟩ l b := q_extract hx rfl
theorem q_x2 (hx : ev l x = some (.tuple (a :: b :: c :: r).toArray)) : OpQ P R ⟨d, .extract x 2, ty, pos, af, g⟩ l c := q_extract hx rfl
theorem q_x3 (hx : ev l x = some (.tuple (a :: b :: c :: e :: r).toArray)) : OpQ P R ⟨d, .extract x 3, ty, pos, af, g⟩ l e := q_extract hx rfl
end tuples
/-- math/bits.Add64: the model stands in for it. -/
theorem q_bitsAdd {P : Program} {R : Mem} {l : Env} {d : Option Nat} {ty : TypeId} {pos : String} {af : Array Edge} {g : Option (Nat × Bool)} {x y z : Operand} {f : FuncId} {fn : Func} {ts : Array TypeId} {a b c : Nat} {i j k : Int} (hf : P.funcs[f]? = some fn)
    (h1 : fn.body.isNone = true) (h2 : (fn.name == "runtime.NumGoroutine") = false) (h3 : Extern.findNext fn = none) (h4 : Extern.find fn = some add64Entry)
    (hx : ev l x = some (.int .u64 i)) (hy : ev l y = some (.int .u64 j)) (hz : ev l z = some (.int .u64 k)) (hc : c ≤ 1) (hi : i = (a : Int) := by rfl) (hj : j = (b : Int) := by rfl) (hk : k = (c : Int) := by rfl) :
    OpQ P R ⟨d, .call { callee := .value (.func f), args := #[x, y, z], argTypes := ts }, ty, pos, af, g⟩ l (.tuple #[.int .u64 (((a + b + c) % 18446744073709551616 : Nat) : Int), .int .u64 (((a + b + c) / 18446744073709551616 : Nat) : Int)]) := fun N A w ha hw => by
  subst hi; subst hj; subst hk
  have hcall : (callFunc f #[.int .u64 (a : Int), .int .u64 (b : Int), .int .u64 (c : Int)]).run P w = .ok (.value (.tuple #[.int .u64 (((a + b + c) % 18446744073709551616 : Nat) : Int), .int .u64 (((a + b + c) / 18446744073709551616 : Nat) : Int)])) w := by
    rw [run_callFunc_extern hf h2 h1 h3 (e := add64Entry) h4, run_add64 a b c (by omega) (by omega) (by omega) (by omega)]
    simp only [Result.andThen]
    congr 5 <;> omega
  have e : (#[x, y, z] : Array Operand).map A.eval = #[.int .u64 (a : Int), .int .u64 (b : Int), .int .u64 (c : Int)] := by simp [ha.ev hx, ha.ev hy, ha.ev hz]
  simp only [execOp, resolve, e, Sem.run_bind]
  simp only [Act.eval, Deferred.ofValue, invoke, Sem.run_pure, Result.andThen_ok, Array.append_empty, Array.empty_append, hcall]
end Go.Px

namespace Go.Px
theorem qi_ {P : Program} {R : Mem} {l : Env} {d : Option Nat} {ty t : TypeId} {pos : String} {af : Array Edge} {g : Option (Nat × Bool)} {x y : Operand} {b o : Nat} {k : IntKind} {ii : Int} (off : Nat) (e : TypeId) (n sz i : Nat) (hx : ev l x = some (.pointer (some ⟨b, o, none⟩)) := by exact rfl) (hy : ev l y = some (.int k ii) := by exact rfl)
    (hu : P.underlying t = some (.array n e) := by kernel_rfl) (hs : sizeT P e = some sz := by kernel_rfl) (hi : ii = i := by exact rfl) (hlt : i < n := by decide) (ho : o + i * sz = off := by exact rfl) :
    OpQ P R ⟨d, .indexAddr t x y, ty, pos, af, g⟩ l (.pointer (some ⟨b, off, none⟩)) := q_idxAN off hx hy hu hs hi hlt ho
end Go.Px

/-
  Rules whose facts are found by their values: slices that read or are owned, blocks picked out of the owned ones.
-/
namespace Go.Px
/-- The blocks B are among the owned ones M; R are the others. -/
class PickC (M : Mem) (B : Mem) (R : outParam Mem) : Prop where
  perm : M.Perm (B ++ R)
instance (priority := low) PickC.nil {M : Mem} : PickC M [] M := ⟨.refl _⟩
instance (priority := high) PickC.here {B M : Mem} : PickC (B ++ M) B M := ⟨.refl _⟩
instance PickC.sing {x : Nat × Obj} {M : Mem} : PickC (x :: M) [x] M := ⟨.refl _⟩
instance (priority := low) PickC.cons {x : Nat × Obj} {M B R : Mem} [h : PickC M B R] : PickC (x :: M) B (x :: R) := ⟨(List.Perm.cons x h.perm).trans List.perm_middle.symm⟩
instance (priority := low) PickC.app {D M B R : Mem} [h : PickC M B R] : PickC (D ++ M) B (D ++ R) := ⟨(List.Perm.append_left D h.perm).trans (List.perm_append_comm_assoc D B R)⟩
instance PickC.whole {B : Mem} : PickC B B [] := ⟨by simp⟩
/-- The facts X are among Y. -/
class SubC (X Y : Mem) : Prop where
  sub : ∀ x, x ∈ X → x ∈ Y
instance (priority := high) SubC.same {X : Mem} : SubC X X := ⟨fun _ h => h⟩
instance (priority := high) SubC.here {X Y : Mem} : SubC X (X ++ Y) := ⟨fun _ h => List.mem_append_left _ h⟩
instance SubC.left {X Y Z : Mem} [h : SubC X Y] : SubC X (Y ++ Z) := ⟨fun _ hx => List.mem_append_left _ (h.sub _ hx)⟩
instance (priority := low) SubC.right {X Y Z : Mem} [h : SubC X Z] : SubC X (Y ++ Z) := ⟨fun _ hx => List.mem_append_right _ (h.sub _ hx)⟩
instance (priority := low) SubC.tail {X Y : Mem} {y : Nat × Obj} [h : SubC X Y] : SubC X (y :: Y) := ⟨fun _ hx => List.mem_cons_of_mem _ (h.sub _ hx)⟩
instance SubC.nil {Y : Mem} : SubC [] Y := ⟨fun _ h => by simp at h⟩
instance SubC.sing {x : Nat × Obj} {Y : Mem} : SubC [x] (x :: Y) := ⟨fun _ h => by simp at h; simp [h]⟩
theorem Fit.pick {M B R M' : Mem} (h : M.Perm (B ++ R)) (hr : Fit R M') : Fit M (B ++ M') := by
  obtain ⟨M1, h1, h2⟩ := hr
  exact ⟨B ++ M1, h.trans (h1.append_left B), List.Sublist.append (List.Sublist.refl _) h2⟩
theorem Fit.last {M B R : Mem} (h : M.Perm (B ++ R)) : Fit M B := ⟨_, h, List.sublist_append_left _ _⟩
section rules
variable {P : Program} {R R' : Mem} {l : Env} {d : Option Nat} {ty t t' : TypeId} {pos : String} {af : Array Edge} {g : Option (Nat × Bool)} {x y z : Operand} {k k' : IntKind} {i j i' : Int} {a b : Nat} {v : Value} {sz n : Nat} {xs : List Value}
theorem q_addI (hx : ev l x = some (.int .i64 i)) (hy : ev l y = some (.int .i64 j)) (hi : i = (a : Int)) (hj : j = (b : Int)) (h : a + b < 9223372036854775808) : OpQ P R ⟨d, .binOp .add t x y t', ty, pos, af, g⟩ l (.int .i64 ((a + b : Nat) : Int)) := by
  subst hi; subst hj; exact q_num _ hx hy (add64 (by omega) (by omega) (by omega))
theorem q_subI (hx : ev l x = some (.int .i64 i)) (hy : ev l y = some (.int .i64 j)) (hi : i = (a : Int)) (hj : j = (b : Int)) (h : b ≤ a) (h2 : a < 9223372036854775808) : OpQ P R ⟨d, .binOp .sub t x y t', ty, pos, af, g⟩ l (.int .i64 ((a - b : Nat) : Int)) := by
  subst hi; subst hj; exact q_num _ hx hy (sub64 (by omega) (by omega) (by omega))
theorem q_mulI (hx : ev l x = some (.int .i64 i)) (hy : ev l y = some (.int .i64 j)) (hi : i = (a : Int)) (hj : j = (b : Int)) (h : a * b < 9223372036854775808) : OpQ P R ⟨d, .binOp .mul t x y t', ty, pos, af, g⟩ l (.int .i64 ((a * b : Nat) : Int)) := by
  subst hi; subst hj; exact q_num _ hx hy (mul64 (by simp) (by omega) (by omega))
theorem q_remI (hx : ev l x = some (.int k i)) (hy : ev l y = some (.int k j)) (hi : i = (a : Int)) (hj : j = (b : Int)) (hb : 0 < b) : OpQ P R ⟨d, .binOp .rem t x y t', ty, pos, af, g⟩ l (.int k ((a % b : Nat) : Int)) := by
  subst hi; subst hj; exact q_remN hx hy (by omega)
theorem q_quoU {m : Nat} (hk : k.signed = false) (hm : 2 ^ k.bits = m) (hx : ev l x = some (.int k i)) (hy : ev l y = some (.int k j)) (hi : i = (a : Int)) (hj : j = (b : Int)) (hb : 0 < b) (h : a < m) : OpQ P R ⟨d, .binOp .quo t x y t', ty, pos, af, g⟩ l (.int k ((a / b : Nat) : Int)) := by
  subst hi; subst hj; exact q_quoN hx hy (by omega) (by rw [wrap_nat hk, hm, Nat.mod_eq_of_lt (Nat.lt_of_le_of_lt (Nat.div_le_self a b) h)])
/-- Shifts by a number that is known. -/
theorem q_shrI (hx : ev l x = some (.int k i)) (hy : ev l y = some (.int k' j)) (hi : i = (a : Int)) (hj : j = (b : Int)) (hs : b ≤ k.bits) : OpQ P R ⟨d, .binOp .shr t x y t', ty, pos, af, g⟩ l (.int k ((a / 2 ^ b : Nat) : Int)) := by
  subst hi; subst hj; rw [← Nat.shiftRight_eq_div_pow]; exact q_shrN b hx hy rfl hs
theorem q_shlI (m : Nat) (hk : k.signed = false) (hm : 2 ^ k.bits = m) (hx : ev l x = some (.int k i)) (hy : ev l y = some (.int k' j)) (hi : i = (a : Int)) (hj : j = (b : Int)) (hs : b ≤ k.bits) : OpQ P R ⟨d, .binOp .shl t x y t', ty, pos, af, g⟩ l (.int k ((a * 2 ^ b % m : Nat) : Int)) := by
  subst hi; subst hj; subst hm; rw [← Nat.shiftLeft_eq]; exact q_shlN hk b hx hy rfl hs
theorem q_lenV2 (hx : ev l x = some v) (hu : slE P t = some sz) (h : Rd R' sz v n xs) :
    OpQ P R ⟨d, .call { callee := .builtin .len, args := #[x], argTypes := #[t] }, ty, pos, af, g⟩ l (.int .i64 n) := q_lenV h hx hu
theorem q_hiV2 (hx : ev l x = some v) (hy : ev l y = some (.int k i)) (hu : slE P t = some sz) (hi : i = (a : Int)) (h : Rd R' sz v n xs) (hj : a ≤ n) :
    OpQ P R ⟨d, .slice t x none (some y) none, ty, pos, af, g⟩ l (vHi a v) := q_hiV h hx hy hu a hi hj
theorem q_loV2 (hx : ev l x = some v) (hy : ev l y = some (.int k i)) (hu : slE P t = some sz) (hi : i = (a : Int)) (h : Rd R' sz v n xs) (hj : a ≤ n) :
    OpQ P R ⟨d, .slice t x (some y) none none, ty, pos, af, g⟩ l (vLo a sz v) := q_loV h hx hy hu a hi hj
/-- An array is sliced. -/
theorem q_sliceA {e : TypeId} {b o n sz : Nat} {lo hi mx : Option Operand} {nl nh nm : Option Nat} (hx : ev l x = some (.pointer (some ⟨b, o, none⟩))) (hu : P.underlying t = some (.array n e)) (hs : sizeT P e = some sz)
    (h1 : EvO l lo nl) (h2 : EvO l hi nh) (h3 : EvO l mx nm) (hmh : nm.isSome = true → nh.isSome = true) (hm : nm.getD n ≤ n) (hh : nh.getD n ≤ nm.getD n) (hl : nl.getD 0 ≤ nh.getD n) :
    OpQ P R ⟨d, .slice t x lo hi mx, ty, pos, af, g⟩ l (.slice (some (if nm.getD n = nl.getD 0 then ⟨b, o, none⟩ else ⟨b, o + nl.getD 0 * sz, none⟩)) (nh.getD n - nl.getD 0) (nm.getD n - nl.getD 0)) := fun N a w ha hw => by
  unfold sizeT at hs
  cases hq : P.info? e with
  | none => simp [hq] at hs
  | some inf =>
    simp only [hq, Option.map_some, Option.some.injEq] at hs
    subst hs
    simp only [execOp, ha.ev hx, Instr.sliceAt, Sem.run_bind, run_underlying hu, Result.andThen_ok, Instr.sureAddr, Sem.run_pure, sliceBounds_run ha h1 h2 h3 false n n w hm hh hl hmh]
    simp [sizeOf, typeInfo, hq, Addr.add]
    by_cases h0 : nl.getD 0 * inf.size = 0 <;> simp [h0]
theorem q_slArr {e : TypeId} {b o n sz : Nat} (hx : ev l x = some (.pointer (some ⟨b, o, none⟩))) (hu : P.underlying t = some (.array n e)) (hs : sizeT P e = some sz) :
    OpQ P R ⟨d, .slice t x none none none, ty, pos, af, g⟩ l (.slice (some ⟨b, o, none⟩) n n) := by
  have := q_sliceA (R := R) (d := d) (ty := ty) (pos := pos) (af := af) (g := g) hx hu hs o0 o0 o0 (by simp) (by simp) (by simp) (by simp)
  simpa using this
theorem q_slALH (lo hi : Nat) {e : TypeId} {b o n sz : Nat} (hx : ev l x = some (.pointer (some ⟨b, o, none⟩))) (hu : P.underlying t = some (.array n e)) (hs : sizeT P e = some sz) (hy : ev l y = some (.int k i)) (hz : ev l z = some (.int k' i')) (hi1 : i = (lo : Int)) (hi2 : i' = (hi : Int)) (h0 : lo < n) (h1 : lo ≤ hi) (h2 : hi ≤ n) :
    OpQ P R ⟨d, .slice t x (some y) (some z) none, ty, pos, af, g⟩ l (.slice (some ⟨b, o + lo * sz, none⟩) (hi - lo) (n - lo)) := by
  have := q_sliceA (R := R) (d := d) (ty := ty) (pos := pos) (af := af) (g := g) hx hu hs (o1 lo hy hi1) (o1 hi hz hi2) o0 (by simp) (by simp) (by simpa using h2) (by simpa using h1)
  rw [if_neg (by simp; omega)] at this
  simpa using this
theorem q_slAHi (hi : Nat) {e : TypeId} {b o n sz : Nat} (hx : ev l x = some (.pointer (some ⟨b, o, none⟩))) (hu : P.underlying t = some (.array n e)) (hs : sizeT P e = some sz) (hz : ev l z = some (.int k' i')) (hi2 : i' = (hi : Int)) (h2 : hi ≤ n) :
    OpQ P R ⟨d, .slice t x none (some z) none, ty, pos, af, g⟩ l (.slice (some ⟨b, o, none⟩) hi n) := by
  have := q_sliceA (R := R) (d := d) (ty := ty) (pos := pos) (af := af) (g := g) hx hu hs o0 (o1 hi hz hi2) o0 (by simp) (by simp) (by simpa using h2) (by simp)
  simpa using this
/-- Some elements out of the middle of a block. -/
theorem Rd.mid {R : Mem} {b o n cap : Nat} {cs : List Value} {e : TypeId} {fr : Nat × Nat} (hb : (b, Obj.cells cs.toArray e fr) ∈ R) (h : o + n ≤ cs.length) (hc : n ≤ cap) : Rd R 1 (.slice (some ⟨b, o, none⟩) n cap) n ((cs.drop o).take n) := by
  refine ⟨_, cap, rfl, by simp; omega, hc, .inr ⟨b, o, cs, e, fr, rfl, hb, fun j u hj => ?_⟩⟩
  have hjn : j < n := by have := (List.getElem?_eq_some_iff.1 hj).1; simp at this; omega
  rw [List.getElem?_take_of_lt hjn, List.getElem?_drop] at hj
  exact hj
theorem q_atV2 (hx : ev l x = some v) (hy : ev l y = some (.int k i)) (hu : slE P t = some sz) (hi : i = (a : Int)) (h : Rd R' sz v n xs) (hj : a < n) :
    OpQ P R ⟨d, .indexAddr t x y, ty, pos, af, g⟩ l (vAt sz a v) := q_atV h hx hy hu a hi hj
theorem q_ldVN2 {ws : List Nat} (hx : ev l x = some (vAt 1 a v)) (ht : scalarT P t = true) (h : Rd R 1 v n (nums k ws)) (hj : a < n) : OpQ P R ⟨d, .load t x, ty, pos, af, g⟩ l (.int k ((ws.getD a 0 : Nat) : Int)) := q_ldVN h hx ht hj
theorem Rd.one {R : Mem} {v : Value} {n sz : Nat} {xs : List Value} (h : Rd R sz v n xs) : v.oneCell' = true := by
  obtain ⟨p, c, rfl, _⟩ := h; rfl
theorem Sl.one {B : Mem} {v : Value} {n sz : Nat} {xs : List Value} (h : Sl sz v n xs B) : v.oneCell' = true := by
  obtain ⟨p, c, rfl, _⟩ := h.val; rfl
/-- An element of several cells. -/
theorem q_ldVR {rows : List (List Value)} {r : List Value} (hx : ev l x = some (vAt sz a v)) (ht : rowT P t = some sz) (h : Rd R sz v n rows.flatten) (hl : ∀ r ∈ rows, r.length = sz) (hs : 0 < sz) (hr : rows[a]? = some r) : OpQ P R ⟨d, .load t x, ty, pos, af, g⟩ l (.agg r.toArray) := by
  obtain ⟨p, c, rfl, h2, h3, h4⟩ := h
  have hal := (List.getElem?_eq_some_iff.1 hr).1
  have hfl := flat_len hl
  rcases h4 with rfl | ⟨b, o, cs, e', fr, rfl, hb, hx'⟩
  · rw [h2, Nat.zero_mul] at hfl
    have := Nat.mul_pos (show 0 < rows.length by omega) hs
    omega
  · simp only [vAt, Addr.add_mid] at hx
    refine q_loadR hx ht hb (hl r (List.mem_of_getElem? hr)) fun j u hj => ?_
    have hjl : j < sz := by have := (List.getElem?_eq_some_iff.1 hj).1; rwa [hl r (List.mem_of_getElem? hr)] at this
    rw [Nat.add_assoc]
    exact hx' _ _ (by rw [flat_get hl hr j hjl]; exact hj)
theorem q_toStr2 {s : TypeId} {ws : List Nat} (hx : ev l x = some v) (hc : bytesT P s t = true) (h : Rd R 1 v n (nums .u8 ws)) : OpQ P R ⟨d, .convert s t x, ty, pos, af, g⟩ l (.string (txt ws)) := q_toStr h hx hc
end rules
section loud
variable {C : Cx} {l : Env} {M J : Mem} {K : Env → Mem → Mem → Prop} {d : Nat} {ty t e : TypeId} {pos : String} {af : Array Edge} {g : Option (Nat × Bool)} {x y : Operand} {k : IntKind}
theorem l_stV2 {v : Value} {ws : List Nat} {n a u : Nat} {B M0 : Mem} {i : Int} (hx : ev l x = some (vAt 1 a v)) (hy : ev l y = some (.int k i)) (hi : i = (u : Int)) (ht : sizeT C.P t = some 1) (h : Sl 1 v n (nums k ws) B) (hj : a < n) (hM : M.Perm (B ++ M0)) (h2 : ∀ B', Sl 1 v n (nums k (ws.set a u)) B' → K l (B' ++ M0) J) :
    OpL C ⟨none, .store t x y, ty, pos, af, g⟩ l M J K := l_stV h hx (hi ▸ hy) ht hj hM h2
theorem l_append2 {sz by_ n m : Nat} {v u : Value} {xs ys : List Value} {B M0 : Mem} (hx : ev l x = some v) (hy : ev l y = some u) (ht : elemT C.P t = some (e, sz, by_)) (hsz : Nat.blt 0 sz = true)
    (hs : Sl sz v n xs B) (hr : Rd (M ++ (J ++ C.A)) sz u m ys) (h1c : ∀ c ∈ ys, c.oneCell' = true) (hM : M.Perm (B ++ M0)) (hmax : n + m ≤ maxLen) (hbytes : (n + m) * by_ ≤ 140737488355328) (hd : Nat.blt d C.N = true)
    (k : ∀ v' B', Sl sz v' (n + m) (xs ++ ys) B' → K ((d, v') :: l) (B' ++ M0) J) :
    OpL C ⟨some d, .call { callee := .builtin .append, args := #[x, y], argTypes := #[t, t] }, ty, pos, af, g⟩ l M J K := l_append hx hy ht hsz hs hr h1c hM hmax hbytes hd k
theorem l_makeV {by_ : Nat} {kl kc : IntKind} {i j : Int} {a : Nat} (hx : ev l x = some (.int kl i)) (hy : ev l y = some (.int kc j)) (ht : mkT C.P t = some (e, k, by_)) (hi : i = (a : Int)) (hj : j = (a : Int))
    (hb : by_ * a ≤ 281474976710656) (hn : a ≤ 140737488355328) (hd : Nat.blt d C.N = true) (h : ∀ v B, Sl 1 v a (nums k (List.replicate a 0)) B → K ((d, v) :: l) (B ++ M) J) :
    OpL C ⟨some d, .makeSlice t x y, ty, pos, af, g⟩ l M J K := l_makeN a hx hy ht hi hj hb (by omega) hd fun b => h _ _ (Sl.fresh (by simp) (by unfold maxLen; omega))
/-- A call that gets blocks. -/
theorem l_callB {f : FuncId} {xs : List Operand} {vs : List Value} {ts : Array TypeId} {Mc R : Mem} {post : Value → Mem → Mem → Prop} (hx : Evs l xs vs) (hc : callable C.P f = true) (hf : FnX C.P f vs Mc (R ++ (J ++ C.A)) post) (hM : M.Perm (Mc ++ R)) (hd : Nat.blt d C.N = true)
    (k : ∀ r M' J', post r M' J' → K ((d, r) :: l) (M' ++ R) (J' ++ J)) : OpL C ⟨some d, .call { callee := .value (.func f), args := xs.toArray, argTypes := ts }, ty, pos, af, g⟩ l M J K := l_call hx hc hM hf hd k
end loud
end Go.Px

/-
  Texts as rows of bytes: lengths, bytes, parts, sums, sameness; a text as bytes.
-/
namespace Go.Px
theorem txt_size' (p : List Nat) : (txt p).size = p.length := by simp [txt, ByteArray.size]
theorem txt_get {ws : List Nat} (h : ∀ x ∈ ws, x < 256) {j : Nat} (hj : j < ws.length) : (txt ws)[j]? = some (UInt8.ofNat (ws.getD j 0)) := by
  have h2 : j < (txt ws).size := by rw [txt_size']; exact hj
  rw [getElem?_pos (txt ws) j h2]
  congr 1
  show ((ws.map UInt8.ofNat).toArray)[j]'_ = _
  simp only [List.getD, List.getElem?_eq_getElem hj, Option.getD_some]
  have : ∀ (l : List Nat) (h : j < l.length) (h' : j < (l.map UInt8.ofNat).toArray.size), (l.map UInt8.ofNat).toArray[j] = UInt8.ofNat l[j] := fun l h h' => by simp
  exact this ws hj _
theorem txt_beq {a b : List Nat} (ha : ∀ x ∈ a, x < 256) (hb : ∀ x ∈ b, x < 256) : ((txt a).toList == (txt b).toList) = decide (a = b) := by
  have e : ∀ w : List Nat, (txt w).toList = w.map UInt8.ofNat := fun w => by
    rw [ByteArray.toList_eq] <;> simp [txt]
  by_cases h : a = b
  · subst h; simp
  · rw [decide_eq_false h]
    rw [e, e, beq_eq_false_iff_ne]
    intro hc
    exact h (txt_inj ha hb (by unfold txt; rw [hc]))
theorem txt_extract (ws : List Nat) (lo hi : Nat) : (txt ws).extract lo hi = txt ((ws.take hi).drop lo) := by
  apply ByteArray.ext
  simp [txt, ByteArray.data_extract, List.map_take, List.map_drop, List.extract_eq_take_drop, List.drop_take]
section
variable {P : Program} {R : Mem} {l : Env} {d : Option Nat} {ty s t t' e : TypeId} {pos : String} {af : Array Edge} {g : Option (Nat × Bool)} {x y z : Operand} {v : Value} {n a b : Nat} {k k' : IntKind} {i i' : Int} {S S' : ByteArray} {ws ws' : List Nat}
theorem q_sAt (hx : ev l x = some (.string S)) (hS : S = txt ws) (h256 : ∀ x ∈ ws, x < 256) (hy : ev l y = some (.int k i)) (hu : P.underlying t = some .string) (hi : i = (a : Int)) (ha : a < ws.length) :
    OpQ P R ⟨d, .index t x y, ty, pos, af, g⟩ l (.int .u8 ((ws.getD a 0 : Nat) : Int)) := fun N A w hA hw => by
  subst hi; subst hS
  have h1 := getD_lt (i := a) h256 (by decide)
  simp only [execOp, hA.ev hx, hA.ev hy, Instr.index, asIntOf, Sem.run_bind, Sem.run_pure, run_underlying hu, Result.andThen_ok, Int.toNat_natCast, txt_get h256 ha, if_pos (Int.natCast_nonneg a)]
  have : (UInt8.ofNat (ws.getD a 0)).toNat = ws.getD a 0 := by
    generalize ws.getD a 0 = c at h1
    simp; omega
  simp only [this, Sem.run_pure]
theorem q_sSl {lo hi : Option Operand} {nl nh : Option Nat} (hx : ev l x = some (.string S)) (hS : S = txt ws) (hu : P.underlying t = some .string) (h1 : EvO l lo nl) (h2 : EvO l hi nh) (hh : nh.getD ws.length ≤ ws.length) (hl : nl.getD 0 ≤ nh.getD ws.length) :
    OpQ P R ⟨d, .slice t x lo hi none, ty, pos, af, g⟩ l (.string (txt ((ws.take (nh.getD ws.length)).drop (nl.getD 0)))) := fun N A w hA hw => by
  subst hS
  have hb := sliceBounds_run (P := P) (lo := lo) (hi := hi) (mx := none) hA h1 h2 o0 false ws.length ws.length w (by simp) (by simpa using hh) (by simpa using hl) (by simp)
  simp only [Option.map_none] at hb
  simp only [execOp, hA.ev hx, Instr.sliceAt, Sem.run_bind, run_underlying hu, Result.andThen_ok, Instr.slice, Option.map_none, Option.isSome_none, Bool.false_eq_true, if_false, txt_size', hb]
  simp [txt_extract]
theorem q_sLH (hx : ev l x = some (.string S)) (hS : S = txt ws) (hy : ev l y = some (.int k i)) (hz : ev l z = some (.int k' i')) (hu : P.underlying t = some .string) (hi : i = (a : Int)) (hi' : i' = (b : Int)) (hab : a ≤ b) (h : b ≤ ws.length) : OpQ P R ⟨d, .slice t x (some y) (some z) none, ty, pos, af, g⟩ l (.string (txt ((ws.take b).drop a))) := by
  have := q_sSl (P := P) (R := R) (d := d) (ty := ty) (pos := pos) (af := af) (g := g) hx hS hu (o1 a hy hi) (o1 b hz hi') (by simpa using h) (by simpa using hab)
  simpa using this
theorem q_sAdd (hx : ev l x = some (.string S)) (hy : ev l y = some (.string S')) (hS : S = txt ws) (hS' : S' = txt ws') (h : ws.length + ws'.length ≤ 9223372036854775807) : OpQ P R ⟨d, .binOp .add t x y t', ty, pos, af, g⟩ l (.string (txt (ws ++ ws'))) := by
  subst hS; subst hS'
  have := q_strAdd (P := P) (R := R) (d := d) (ty := ty) (pos := pos) (af := af) (g := g) (t := t) (t' := t') hx hy (by rw [txt_size', txt_size']; exact h)
  rwa [txt_append] at this
theorem q_sEq (hx : ev l x = some (.string S)) (hy : ev l y = some (.string S')) (hS : S = txt ws) (hS' : S' = txt ws') (h : ∀ x ∈ ws, x < 256) (h' : ∀ x ∈ ws', x < 256) : OpQ P R ⟨d, .binOp .eql t x y t', ty, pos, af, g⟩ l (.bool (decide (ws = ws'))) := by
  subst hS; subst hS'
  have := q_strEq (P := P) (R := R) (d := d) (ty := ty) (pos := pos) (af := af) (g := g) (t := t) (t' := t') hx hy
  rwa [txt_beq h h'] at this
theorem q_sNe (hx : ev l x = some (.string S)) (hy : ev l y = some (.string S')) (hS : S = txt ws) (hS' : S' = txt ws') (h : ∀ x ∈ ws, x < 256) (h' : ∀ x ∈ ws', x < 256) : OpQ P R ⟨d, .binOp .neq t x y t', ty, pos, af, g⟩ l (.bool !(decide (ws = ws'))) := by
  subst hS; subst hS'
  have := q_strNe (P := P) (R := R) (d := d) (ty := ty) (pos := pos) (af := af) (g := g) (t := t) (t' := t') hx hy
  rwa [txt_beq h h'] at this
end
/-! ### Bytes that are below 256, found by themselves -/
class B256 (ws : List Nat) : Prop where
  lt : ∀ x ∈ ws, x < 256
instance B256.nil : B256 [] := ⟨fun _ h => by cases h⟩
instance B256.app {a b : List Nat} [ha : B256 a] [hb : B256 b] : B256 (a ++ b) := ⟨fun x h => (List.mem_append.1 h).elim (ha.lt x) (hb.lt x)⟩
instance B256.take {a : List Nat} {n : Nat} [ha : B256 a] : B256 (a.take n) := ⟨fun x h => ha.lt x (List.mem_of_mem_take h)⟩
instance B256.drop {a : List Nat} {n : Nat} [ha : B256 a] : B256 (a.drop n) := ⟨fun x h => ha.lt x (List.mem_of_mem_drop h)⟩
theorem B256.cons {x : Nat} {a : List Nat} (hx : x < 256) (ha : B256 a) : B256 (x :: a) := ⟨fun y h => (List.mem_cons.1 h).elim (fun h => h ▸ hx) (ha.lt y)⟩
/-! ### Interfaces and slices against nil -/
def isNil : Value → Bool
  | .slice none _ _ => true
  | _ => false
section
variable {P : Program} {R R' : Mem} {l : Env} {d : Option Nat} {ty t t' e : TypeId} {pos : String} {af : Array Edge} {g : Option (Nat × Bool)} {x y : Operand} {v : Value} {n sz : Nat} {xs : List Value} {ms : Array (String × TypeId)}
def isIf (P : Program) (t : TypeId) : Bool :=
  match P.underlying t with
  | some (.interface _) => true
  | _ => false
theorem Rd.isNil {R : Mem} (h : Rd R sz v n xs) (hn : Px.isNil v = true) : n = 0 := by
  obtain ⟨p, c, rfl, _, _, h4⟩ := h
  rcases h4 with h4 | ⟨b, o, cs, e', fr, rfl, _⟩
  · exact h4
  · cases hn
theorem q_slEqNil (hx : ev l x = some v) (hu : P.underlying t = some (.slice e)) (h : Rd R' sz v n xs) : OpQ P R ⟨d, .binOp .eql t x (.const (.slice none 0 0)) t', ty, pos, af, g⟩ l (.bool (isNil v)) := fun N a w ha hw => by
  have hy : a.eval (.const (.slice none 0 0)) = .slice none 0 0 := rfl
  obtain ⟨p, c, rfl, _⟩ := h
  simp only [execOp, ha.ev hx, hy, Sem.run_bind]
  have : (Op.equal t (.slice p n c) (.slice none 0 0)).run P w = .ok p.isNone w := by
    show (Op.equalIn (9999 + 1) t (.slice p n c) (.slice none 0 0)).run P w = .ok p.isNone w
    rw [Op.equalIn]
    cases p <;> simp [run_underlying hu]
  simp [eqGuard, binOp, this]
  cases p <;> rfl
end
section
variable {C : Cx} {l : Env} {M J : Mem} {K : Env → Mem → Mem → Prop} {d : Nat} {s t e ty : TypeId} {pos : String} {af : Array Edge} {g : Option (Nat × Bool)} {x y : Operand} {ws : List Nat} {S : ByteArray}
end
end Go.Px

/-
  Slices of byte slices.
-/
namespace Go.Px
open Go.ChangeShapes Go.WideShapes Go.ChangeAt Go.RowKit
/-- The values 'vs' are slices of the bytes 'ls'. -/
structure Bys (R : Mem) (vs : List Value) (ls : List (List Nat)) : Prop where
  len : vs.length = ls.length
  get : ∀ (j : Nat) (w : List Nat), ls[j]? = some w → ∃ v, vs[j]? = some v ∧ Rd R 1 v w.length (nums .u8 w) ∧ (∀ x ∈ w, x < 256) ∧ w.length ≤ maxLen
theorem Bys.mono {R R' : Mem} {vs : List Value} {ls : List (List Nat)} (h : Bys R vs ls) (hR : ∀ x, x ∈ R → x ∈ R') : Bys R' vs ls := ⟨h.len, fun j w hj => by
  obtain ⟨v, h1, h2, h3, h4⟩ := h.get j w hj
  exact ⟨v, h1, h2.mono hR, h3, h4⟩⟩
theorem Bys.at {R : Mem} {vs : List Value} {ls : List (List Nat)} (h : Bys R vs ls) {j : Nat} (hj : j < ls.length) : ∃ v, vs[j]? = some v ∧ Rd R 1 v ls[j].length (nums .u8 ls[j]) ∧ B256 ls[j] ∧ ls[j].length ≤ maxLen := by
  obtain ⟨v, h1, h2, h3, h4⟩ := h.get j ls[j] (List.getElem?_eq_getElem hj)
  exact ⟨v, h1, h2, ⟨h3⟩, h4⟩
theorem Bys.nil {R : Mem} : Bys R [] [] := ⟨rfl, fun j w h => by simp at h⟩
theorem Bys.cons {R : Mem} {vs : List Value} {ls : List (List Nat)} (h : Bys R vs ls) {v : Value} {w : List Nat} (hv : Rd R 1 v w.length (nums .u8 w)) (hb : ∀ x ∈ w, x < 256) (hl : w.length ≤ maxLen) : Bys R (v :: vs) (w :: ls) := ⟨by simp [h.len], fun j u hj => by
  cases j with
  | zero => simp at hj; subst hj; exact ⟨v, rfl, hv, hb, hl⟩
  | succ j => exact h.get j u hj⟩
theorem Bys.one {R : Mem} {vs : List Value} {ls : List (List Nat)} (h : Bys R vs ls) : ∀ c ∈ vs, c.oneCell' = true := by
  intro c hc
  obtain ⟨j, hj⟩ := List.getElem?_of_mem hc
  have hlt := (List.getElem?_eq_some_iff.1 hj).1
  rw [h.len] at hlt
  obtain ⟨v, h1, h2, _⟩ := h.at hlt
  rw [hj] at h1
  cases h1
  obtain ⟨p, cap, rfl, _⟩ := h2
  rfl
section
variable {H : Type} {enc : TypeId × Value → H} {P : Program} {w : World} {spare : Nat → Bool} {held : Bool} {fuel : Nat} {t e e' : TypeId} {cs : List Value} {x : DataW H × List MemPlace} {v : Value} {d : DataW H} {p : List MemPlace} {r : Reach} {base : Nat}
end
end Go.Px

/-
  Owned blocks that are read alone from now on; byte slices to be read; copy of a part.
-/
namespace Go.Px
section
variable {C : Cx} {Q : XQ} {l : Env} {M J B R M' : Mem} {w : World}
theorem St.freezes (h : St C (B ++ M) J w) : St C M (B ++ J) w := by
  induction B generalizing J with
  | nil => exact h
  | cons x B ih =>
    have h1 := ih (J := x :: J) (St.freeze (by simpa using h))
    refine h1.drop (List.Sublist.refl _) fun y hy => ?_
    simp only [List.cons_append, List.mem_cons, List.mem_append] at hy ⊢
    rcases hy with h | h | h <;> simp [h]
theorem St.frz (hp : M.Perm (B ++ M')) (h : St C M J w) : St C M' (B ++ J) w := (h.perm hp).freezes
theorem XC.frz {c : Code} (hp : M.Perm (B ++ M')) (h : XC C c Q l M' (B ++ J)) : XC C c Q l M J := fun a w ha hw => h a w ha (hw.frz hp)
theorem XL.frz {ops : Array Oper} {rest : List Oper} (hp : M.Perm (B ++ M')) (h : XL C ops rest Q l M' (B ++ J)) : XL C ops rest Q l M J := fun a w ha hw => h a w ha (hw.frz hp)
theorem XK.frz {os : List Oper} {K : Nat → Prop} {n0 : Nat} {nd : List Nat} {plan : List (Nat × Nat)} (hp : M.Perm (B ++ M')) (h : XK C os Q K n0 nd plan l M' (B ++ J)) : XK C os Q K n0 nd plan l M J :=
  fun listed hcl hpl a w ha hw hn => h listed hcl hpl a w ha (hw.frz hp) hn
theorem XF.frz {os : List Oper} {nd : List Nat} {plan : List (Nat × Nat)} (hp : M.Perm (B ++ M')) (h : XF C os Q nd plan l M' (B ++ J)) : XF C os Q nd plan l M J := XK.frz hp h
end
/-- What was made is read alone from the return on. -/
theorem FnX.frz {P : Program} {f : FuncId} {args : List Value} {M A : Mem} {post : Value → Mem → Mem → Mem → Prop} (h : FnX P f args M A fun r M' J => ∃ B M1, M'.Perm (B ++ M1) ∧ post r B M1 J) : FnX P f args M A fun r M1 J1 => ∃ B J, J1 = B ++ J ∧ post r B M1 J := by
  intro w hw
  refine Calls.mono (h w hw) ?_
  rintro e w' ⟨v, M', J, rfl, ⟨B, M1, hp, hq⟩, hs⟩
  exact ⟨v, M1, B ++ J, rfl, ⟨B, J, rfl, hq⟩, hs.frz hp⟩
theorem FnX.frz0 {P : Program} {f : FuncId} {args : List Value} {A : Mem} {φ : Value → Mem → Prop} (h : FnX P f args [] A fun r M J => J = [] ∧ φ r M) : FnX P f args [] A fun r M J => M = [] ∧ φ r J := by
  intro w hw
  refine Calls.mono (h w hw) ?_
  rintro e w' ⟨v, M', J, rfl, ⟨rfl, hq⟩, hs⟩
  exact ⟨v, [], M', rfl, ⟨rfl, hq⟩, by have := St.frz (B := M') (M' := []) (by simp) hs; simpa using this⟩
/-- A slice of bytes, to be read. -/
structure By (R : Mem) (v : Value) (w : List Nat) : Prop where
  rd : Rd R 1 v w.length (nums .u8 w)
  lt : ∀ x ∈ w, x < 256
  len : w.length ≤ 16777216
theorem By.mono {R R' : Mem} {v : Value} {w : List Nat} (h : By R v w) (hR : ∀ x, x ∈ R → x ∈ R') : By R' v w := ⟨h.rd.mono hR, h.lt, h.len⟩
theorem By.one {R : Mem} {v : Value} {w : List Nat} (h : By R v w) : v.oneCell' = true := h.rd.one
theorem By.cel {R : Mem} {v : Value} {w : List Nat} (h : By R v w) : Cel v [v] := h.rd.cel
theorem By.nil {R : Mem} : By R (.slice none 0 0) [] := ⟨Rd.nil, (fun x h => by cases h), by decide⟩
theorem By.max {R : Mem} {v : Value} {w : List Nat} (h : By R v w) : w.length ≤ maxLen := Nat.le_trans h.len (by unfold maxLen; omega)
/-- Slices of bytes, to be read. -/
structure Lst (R : Mem) (vs : List Value) (ls : List (List Nat)) : Prop where
  len : vs.length = ls.length
  get : ∀ (j : Nat) (w : List Nat), ls[j]? = some w → ∃ v, vs[j]? = some v ∧ By R v w
theorem Lst.mono {R R' : Mem} {vs : List Value} {ls : List (List Nat)} (h : Lst R vs ls) (hR : ∀ x, x ∈ R → x ∈ R') : Lst R' vs ls := ⟨h.len, fun j w hj => by
  obtain ⟨v, h1, h2⟩ := h.get j w hj
  exact ⟨v, h1, h2.mono hR⟩⟩
theorem Lst.at {R : Mem} {vs : List Value} {ls : List (List Nat)} (h : Lst R vs ls) {j : Nat} (hj : j < ls.length) : ∃ v, vs[j]? = some v ∧ By R v ls[j] := h.get j ls[j] (List.getElem?_eq_getElem hj)
theorem Lst.nil {R : Mem} : Lst R [] [] := ⟨rfl, fun j w h => by simp at h⟩
theorem Lst.cons {R : Mem} {vs : List Value} {ls : List (List Nat)} {v : Value} {w : List Nat} (hv : By R v w) (h : Lst R vs ls) : Lst R (v :: vs) (w :: ls) := ⟨by simp [h.len], fun j u hj => by
  cases j with
  | zero => simp at hj; subst hj; exact ⟨v, rfl, hv⟩
  | succ j => exact h.get j u hj⟩
theorem Lst.snoc {R : Mem} {vs : List Value} {ls : List (List Nat)} (h : Lst R vs ls) {v : Value} {w : List Nat} (hv : By R v w) : Lst R (vs ++ [v]) (ls ++ [w]) := ⟨by simp [h.len], fun j u hj => by
  by_cases hlt : j < ls.length
  · rw [List.getElem?_append_left hlt] at hj
    obtain ⟨v', h1, h2⟩ := h.get j u hj
    exact ⟨v', by rw [List.getElem?_append_left (List.getElem?_eq_some_iff.1 h1).1]; exact h1, h2⟩
  · rw [List.getElem?_append_right (by omega)] at hj
    have hj0 : j = ls.length := by
      have := (List.getElem?_eq_some_iff.1 hj).1
      simp at this; omega
    subst hj0
    simp at hj
    subst hj
    exact ⟨v, by rw [List.getElem?_append_right (by rw [h.len]; omega), h.len]; simp, hv⟩⟩
theorem Lst.one {R : Mem} {vs : List Value} {ls : List (List Nat)} (h : Lst R vs ls) : ∀ c ∈ vs, c.oneCell' = true := by
  intro c hc
  obtain ⟨j, hj⟩ := List.getElem?_of_mem hc
  have hlt := (List.getElem?_eq_some_iff.1 hj).1
  rw [h.len] at hlt
  obtain ⟨v, h1, h2⟩ := h.at hlt
  rw [hj] at h1
  cases h1
  exact h2.one
/-- A slice of slices of bytes, to be read. -/
structure LsV (R : Mem) (v : Value) (ls : List (List Nat)) : Prop where
  ex : ∃ vs, Rd R 1 v ls.length vs ∧ Lst R vs ls
theorem LsV.mono {R R' : Mem} {v : Value} {ls : List (List Nat)} (h : LsV R v ls) (hR : ∀ x, x ∈ R → x ∈ R') : LsV R' v ls := by
  obtain ⟨vs, h1, h2⟩ := h.ex
  exact ⟨vs, h1.mono hR, h2.mono hR⟩
theorem LsV.nil {R : Mem} : LsV R (.slice none 0 0) [] := ⟨[], Rd.nil, Lst.nil⟩
section loud
variable {C : Cx} {l : Env} {M J : Mem} {K : Env → Mem → Mem → Prop} {d : Nat} {ty t e : TypeId} {pos : String} {af : Array Edge} {g : Option (Nat × Bool)} {x y : Operand}
/-- copy of a part, into the whole of an owned array of numbers. -/
theorem l_copyP {b m n : Nat} {u : Value} {k : IntKind} {ws us ws' : List Nat} {e' : TypeId} {by_ : Nat} {M' : Mem} (hx : ev l x = some (.slice (some ⟨b, 0, none⟩) m m)) (hy : ev l y = some u) (ht : elemT C.P t = some (e, 1, by_))
    (hr : Rd (M ++ (J ++ C.A)) 1 u n (nums k us)) (hm : ws.length = m) (hw' : ws' = us.take m ++ ws.drop n) (hu : Upd M b (blk (nums k ws) e') (blk (nums k ws') e') M') (hd : Nat.blt d C.N = true) (h : K ((d, .int .i64 ((min n m : Nat) : Int)) :: l) M' J) :
    OpL C ⟨some d, .call { callee := .builtin .copy, args := #[x, y], argTypes := #[t, t] }, ty, pos, af, g⟩ l M J K := by
  intro Qp a w ha hw
  obtain ⟨i, z, hut, hi, hz, hzs, his, hib⟩ := elemT_spec ht
  obtain ⟨pu, cu, rfl, hul, huc, hub⟩ := hr
  have hru : Rd (M ++ (J ++ C.A)) 1 (.slice pu n cu) n (nums k us) := ⟨pu, cu, rfl, hul, huc, hub⟩
  have hb := hw.mem _ _ (List.mem_append_left _ hu.mem)
  have hf := first_rd (P := C.P) (m := n) (c2 := cu) (hru.hi (min n m) (Nat.min_le_left _ _)) hw.fx
  have hus : us.length = n := by simpa using hul
  rw [Nat.mul_one, show (nums k us).take (min n m) = nums k (us.take (min n m)) by simp [nums]] at hf
  have hst := run_storeCells_at (P := C.P) b 0 e' (nums k (us.take (min n m))) 0 (nums k ws).toArray w hb (by simp [hus, hm]; omega) nums_one
  simp only [Nat.add_zero, Nat.zero_add, List.take_zero, List.nil_append, nums_len, List.length_take, hus] at hst
  rw [← nums_drop, ← nums_append] at hst
  have e1 : us.take (min n m) ++ ws.drop (min (min n m) n) = ws' := by
    rw [hw']
    rcases Nat.le_total m n with h | h
    · rw [Nat.min_eq_right h, Nat.min_eq_left h, List.drop_of_length_le (l := ws) (i := m) (by omega), List.drop_of_length_le (l := ws) (i := n) (by omega)]
    · rw [Nat.min_eq_left h, Nat.min_self, List.take_of_length_le (l := us) (i := n) (by omega), List.take_of_length_le (l := us) (i := m) (by omega)]
  rw [e1] at hst
  have hrun : (execOp a.eval ⟨some d, .call { callee := .builtin .copy, args := #[x, y], argTypes := #[t, t] }, ty, pos, af, g⟩).run C.P w = .ok (.value (.int .i64 ((min n m : Nat) : Int))) (w.setRow b (nums k ws').toArray) := by
    simp [execOp, resolve, invoke, builtin, ha.ev hx, ha.ev hy, Builtin.copy_, run_underlying hut, sizeOf, typeInfo, hi, his, Builtin.lenOf, hf, hst, goInt]
  unfold Oper.wp
  rw [hrun]
  exact ⟨_, M', J, ha.put (blt_lt hd) _, hw.setRow hu, h⟩
/-- An append behind a slice without room, of what is read alone: a new array. -/
theorem l_appendC {sz by_ n m b o : Nat} {u : Value} {xs ys : List Value} (hx : ev l x = some (.slice (some ⟨b, o, none⟩) n n)) (hy : ev l y = some u) (ht : elemT C.P t = some (e, sz, by_)) (hsz : Nat.blt 0 sz = true)
    (hs : Rd (M ++ (J ++ C.A)) sz (.slice (some ⟨b, o, none⟩) n n) n xs) (hr : Rd (M ++ (J ++ C.A)) sz u m ys) (hm : 0 < m) (hmax : n + m ≤ maxLen) (hbytes : (n + m) * by_ ≤ 140737488355328) (hd : Nat.blt d C.N = true)
    (k : ∀ v' B', Sl sz v' (n + m) (xs ++ ys) B' → K ((d, v') :: l) (B' ++ M) J) :
    OpL C ⟨some d, .call { callee := .builtin .append, args := #[x, y], argTypes := #[t, t] }, ty, pos, af, g⟩ l M J K := by
  intro Qp a w ha hw
  obtain ⟨i, z, hu, hi, hz, hzs, his, hib⟩ := elemT_spec ht
  obtain ⟨pu, cu, rfl, hul, huc, hub⟩ := hr
  obtain ⟨p', c', e', hxl, hcc, hxb⟩ := hs
  cases e'
  subst his; subst hib
  obtain ⟨bu, ou, csu, eu, fru, rfl, hbu, hxu⟩ : ∃ (b o : Nat) (cs : List Value) (e : TypeId) (fr : Nat × Nat), pu = some ⟨b, o, none⟩ ∧ (b, Obj.cells cs.toArray e fr) ∈ M ++ (J ++ C.A) ∧ ∀ j u, ys[j]? = some u → cs[o + j]? = some u := by
    rcases hub with h | h
    · omega
    · exact h
  have hnews : ∀ j u, ys[j]? = some u → w.cell? ((⟨bu, ou, none⟩ : Addr).add j) = some u := fun j u hj => by rw [Addr.add_mid, cell_fx hw.fx hbu]; simpa using hxu j u hj
  have holds : ∀ j u, xs[j]? = some u → w.cell? ((⟨b, o, none⟩ : Addr).add j) = some u := fun j u hj => by
    rcases hxb with h | ⟨b2, o2, cs2, e2, f2, h1, h2, h3⟩
    · subst h
      have : xs = [] := List.eq_nil_of_length_eq_zero (by simpa using hxl)
      subst this; simp at hj
    · cases h1
      rw [Addr.add_mid, cell_fx hw.fx h2]; simpa using h3 j u hj
  have hsmall : n + m ≤ 9223372036854775807 := by simp only [maxLen] at hmax; omega
  have hge := grownCap_ge w (n + m) n e
  have hcm : grownCap w (n + m) n e ≤ maxLen := grownCap_le_maxLen w (n + m) n e hmax
  have hrg := run_append_grow (P := C.P) w t ty e i z hu hi hz ⟨b, o, none⟩ n n xs hxl holds ⟨bu, ou, none⟩ m cu ys hul hnews (by omega) (by omega) (growslice_fits (by omega) hbytes)
  have hexec : (execOp a.eval ⟨some d, .call { callee := .builtin .append, args := #[x, y], argTypes := #[t, t] }, ty, pos, af, g⟩).run C.P w = .ok (.value (.slice (some ⟨w.heap.size, 0, none⟩) (n + m) (grownCap w (n + m) n e))) (w.drew.alloc (.cells (xs.toArray ++ ys.toArray ++ Builtin.zeroCells z.cells (grownCap w (n + m) n e - (n + m))) e (0, 0))) := by
    simp [execOp, resolve, invoke, builtin, ha.ev hx, ha.ev hy, hrg]
  unfold Oper.wp
  rw [hexec]
  have hsl : Sl i.size (.slice (some ⟨w.heap.size, 0, none⟩) (n + m) (grownCap w (n + m) n e)) (n + m) (xs ++ ys) [(w.heap.size, .cells (xs.toArray ++ ys.toArray ++ Builtin.zeroCells z.cells (grownCap w (n + m) n e - (n + m))) e (0, 0))] := by
    refine .inr ⟨w.heap.size, 0, _, (xs.toArray ++ ys.toArray ++ Builtin.zeroCells z.cells (grownCap w (n + m) n e - (n + m))).toList, e, rfl, by simp [blk], hge, hcm, ?_, ?_, ?_⟩
    · simp only [Array.length_toList, Array.size_append, List.size_toArray, size_zeroCells, hzs, hxl, hul, ← Nat.add_mul, Nat.zero_add]
      refine Nat.mul_le_mul_right _ ?_
      omega
    · simp [hxl, hul, Nat.add_mul]
    · intro j u hj
      have hlt : j < (xs ++ ys).length := (List.getElem?_eq_some_iff.1 hj).1
      rw [Nat.zero_add]
      simp only [Array.toList_append, List.append_assoc]
      rw [← List.append_assoc, List.getElem?_append_left (by simpa using hlt)]
      exact hj
  exact ⟨_, _, J, ha.put (blt_lt hd) _, St.alloc (w := w.drew) hw.drew _, k _ _ hsl⟩
end loud
/-- The return, in a free form: what is owned still, what is read alone from now on. -/
def retZ (P : Program) (fn : Func) (A : Mem) (post : Value → Mem → Mem → Prop) : XQ
  | .ret, l, M, J => ∃ v M' B, Res P fn l (M ++ (J ++ A)) v ∧ Fit M (B ++ M') ∧ post v M' (B ++ J)
  | .normal, l, M, J => ∃ v M' B, Res P fn l (M ++ (J ++ A)) v ∧ Fit M (B ++ M') ∧ post v M' (B ++ J)
  | _, _, _, _ => False
theorem FnX.enterZ {P : Program} {f : FuncId} {fn : Func} {c : Code} {N : Nat} {args : List Value} {M A : Mem} {post : Value → Mem → Mem → Prop}
    (hf : P.funcs[f]? = some fn) (hb : fn.body = some c) (hn : fn.ntmps = N) (hN : Nat.ble args.length N = true)
    (h : ∀ w, XC ⟨P, w, M.map Prod.fst, A, N⟩ c (retZ P fn A post) (argE args 0) M []) : FnX P f args M A post := by
  intro w hw
  refine calls_of_wp hf hb ?_
  have hle : args.length ≤ N := by simpa using hN
  refine Code.wp_mono ?_ (h w _ w ?_ hw.cx)
  · rintro e a' w' ⟨l, M', J, ha, hw', hq⟩
    cases e <;> first | exact hq.elim | skip
    all_goals
      obtain ⟨v, M2, B, hv, hM2, hp⟩ := hq
      exact ⟨ha.defers, v, hv N a' w' ha hw'.fx, v, M2, B ++ J, rfl, hp, (hw'.fit hM2 (fun _ h => h)).freezes.cx⟩
  · refine ⟨rfl, by simp [hn]; omega, ?_⟩
    intro i v hi
    obtain ⟨_, h2⟩ := argE_lk args 0 i v hi
    simp only [Nat.sub_zero] at h2
    have hlt : i < args.length := (List.getElem?_eq_some_iff.1 h2).1
    rw [Array.getElem?_append_left (by simpa using hlt)]
    simpa using h2
theorem Fit.nil {M : Mem} : Fit M ([] ++ []) := Fit.sub (List.nil_sublist _)
theorem Fit.none {M M' : Mem} (h : Fit M M') : Fit M ([] ++ M') := h
instance PickC.two {M X Y R1 R : Mem} [h1 : PickC M X R1] [h2 : PickC R1 Y R] : PickC M (X ++ Y) R := ⟨h1.perm.trans (by rw [List.append_assoc]; exact h2.perm.append_left X)⟩
instance (priority := 50) PickC.left {D M B R : Mem} [h : PickC D B R] : PickC (D ++ M) B (R ++ M) := ⟨(List.Perm.append_right M h.perm).trans (by rw [List.append_assoc])⟩
instance (priority := 60) PickC.consB {M B R1 R : Mem} {x : Nat × Obj} [h1 : PickC M [x] R1] [h2 : PickC R1 B R] : PickC M (x :: B) R := ⟨h1.perm.trans (List.Perm.cons x h2.perm)⟩
theorem uL {B B' r : Mem} {b : Nat} {o o' : Obj} (h : Upd B b o o' B') : Upd (B ++ r) b o o' (B' ++ r) := by
  induction h with
  | hd => exact .hd
  | tl _ ih => exact .tl ih
instance (priority := 50) UpC.lft {b : Nat} {o o' : Obj} {B B' r : Mem} [h : UpC B b o o' B'] : UpC (B ++ r) b o o' (B' ++ r) := ⟨uL h.upd⟩
end Go.Px

