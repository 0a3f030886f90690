/- Part 19 of the texts of this claim, one behind the other. -/
import Derived.Test.YthbhpfefdnffaaaGreatDoorB18
set_option linter.unusedVariables false
set_option linter.unusedSimpArgs false
set_option maxRecDepth 100000
namespace Go.Px
def A3O : List Nat → List (Nat × Nat)
  | [] => []
  | [q] => [(q, 10)]
  | q :: q' :: r => (q, 9) :: A3O (q' :: r)
def A9D (qs : List Nat) : List Nat → List (Nat × Nat)
  | [] => A3O qs
  | i :: r => (i, 8) :: A9D qs r
theorem B7B (plan : List (Nat × Nat)) : ∀ {qs : List Nat}, qs ≠ [] → grz (A3O qs ++ plan) = qs ∧ qsz (A3O qs ++ plan) = qs
  | [], h => absurd rfl h
  | [q], _ => ⟨rfl, rfl⟩
  | q :: q' :: r, _ => by
    obtain ⟨h1, h2⟩ := B7B plan (qs := q' :: r) (by simp)
    refine ⟨?_, ?_⟩
    · show q :: grz (A3O (q' :: r) ++ plan) = _; rw [h1]
    · show q :: qsz (A3O (q' :: r) ++ plan) = _; rw [h2]
theorem A7F {qs : List Nat} (plan : List (Nat × Nat)) (h : qs ≠ []) : ∀ r : List Nat, grz (A9D qs r ++ plan) = r ++ qs ∧ qsz (A9D qs r ++ plan) = qs
  | [] => B7B plan h
  | i :: r => by
    obtain ⟨h1, h2⟩ := A7F plan h r
    refine ⟨?_, ?_⟩
    · show i :: grz (A9D qs r ++ plan) = _; rw [h1]; rfl
    · show qsz (A9D qs r ++ plan) = _; rw [h2]
inductive GOz (ops : Array Oper) (qs : List Nat) : Array Bool → List Nat → Array Bool → Prop
  | nil {A : Array Bool} : GOz ops qs A [] A
  | cons {A B : Array Bool} {i : Nat} {r : List Nat} (hr : i ∈ Region.ready .any ops A) (ho : i ∉ qs → ∀ j, j < ops.size → A.getD j true = false → j ∉ i :: r → anc ops ops.size j i = true) (h : GOz ops qs (A.setIfInBounds i true) r B) : GOz ops qs A (i :: r) B
theorem A8L {ops : Array Oper} {nd : List Nat} {Q : List Nat} {plan : List (Nat × Nat)} : ∀ {qs : List Nat} {A : Array Bool}, qs ≠ [] → (∀ q ∈ qs, q ∈ Q) → I5 ops nd (A3O qs ++ plan) A = true → ∃ B, GOz ops Q A qs B ∧ (∀ q ∈ qs, A2x ops A q = true) ∧ I5 ops nd plan B = true
  | [], A, h, _, _ => absurd rfl h
  | [q], A, _, hQ, h => by
    simp only [A3O, List.cons_append, List.nil_append, I5, Bool.and_eq_true] at h
    exact ⟨_, .cons (by simpa using h.1.1) (fun hq => absurd (hQ q (by simp)) hq) .nil, (fun x hx => by rw [List.mem_singleton.1 hx]; exact h.1.2), h.2⟩
  | q :: q' :: r, A, _, hQ, h => by
    simp only [A3O, List.cons_append, I5, Bool.and_eq_true] at h
    obtain ⟨B, hB, -, hp⟩ := A8L (qs := q' :: r) (by simp) (fun x hx => hQ x (List.mem_cons_of_mem _ hx)) h.2
    refine ⟨B, .cons (by simpa using h.1.1) (fun hq => absurd (hQ q (by simp)) hq) hB, fun x hx => ?_, hp⟩
    have h2 := h.1.2
    rw [(B7B plan (qs := q' :: r) (by simp)).2] at h2
    exact List.all_eq_true.1 h2 x hx
theorem B1Z {ops : Array Oper} {nd : List Nat} {qs : List Nat} {plan : List (Nat × Nat)} (hne : qs ≠ []) : ∀ {is : List Nat} {A : Array Bool}, I5 ops nd (A9D qs is ++ plan) A = true → ∃ B, GOz ops qs A (is ++ qs) B ∧ (∀ q ∈ qs, A2x ops A q = true) ∧ I5 ops nd plan B = true
  | [], A, h => A8L hne (fun _ h => h) h
  | i :: r, A, h => by
    simp only [A9D, List.cons_append, I5, A5z, Bool.and_eq_true, List.all_eq_true, List.mem_range, Bool.or_eq_true, (A7F plan hne r).1, (A7F plan hne r).2] at h
    obtain ⟨B, hB, -, hp⟩ := B1Z hne (is := r) h.2
    refine ⟨B, .cons (by simpa using h.1.1.1) (fun _ j hj hu hn => ?_) hB, h.1.2, hp⟩
    rcases h.1.1.2 j hj with (h1 | h1) | h1
    · rw [hu] at h1; cases h1
    · exact absurd (by simpa using h1) hn
    · exact h1
theorem GOz.mark {ops : Array Oper} {q : List Nat} {A B : Array Bool} {is : List Nat} (h : GOz ops q A is B) : B = mark A is := by
  induction h with
  | nil => rfl
  | cons _ _ _ ih => rw [ih]; rfl
theorem GOz.un {ops : Array Oper} {q : List Nat} {A B : Array Bool} {is : List Nat} (h : GOz ops q A is B) : ∀ i ∈ is, A.getD i true = false := by
  induction h with
  | nil => intro i hi; cases hi
  | @cons A B i r hr ho h ih =>
    intro k hk
    rcases List.mem_cons.1 hk with rfl | hk
    · exact G7 hr
    · have h2 := ih k hk
      by_cases e : i = k
      · subst e; exact G7 hr
      · rwa [getD_set_ne true e] at h2
theorem GOz.outer {ops : Array Oper} {q : List Nat} {A B : Array Bool} {is : List Nat} (h : GOz ops q A is B) : ∀ i ∈ is, i ∉ q → ∀ j, j < ops.size → A.getD j true = false → j ∉ is → anc ops ops.size j i = true := by
  induction h with
  | nil => intro i hi; cases hi
  | @cons A B i r hr ho h ih =>
    intro k hk hq j hj hu hn
    rcases List.mem_cons.1 hk with rfl | hk
    · exact ho hq j hj hu hn
    · have hne : i ≠ j := fun e => hn (e ▸ List.mem_cons_self)
      exact ih k hk hq j hj (by rw [getD_set_ne true hne]; exact hu) (fun hm => hn (List.mem_cons_of_mem _ hm))
theorem GOz.first {ops : Array Oper} {q : List Nat} {A B : Array Bool} {is : List Nat} (h : GOz ops q A is B) {A' : Array Bool} (hsz : A'.size = A.size) (hm : ∀ j, A.getD j false = true → A'.getD j false = true) {k : Nat} (hk : k ∈ is) (hk' : A'.getD k true = false) : ∃ i, i ∈ is ∧ i ∈ Region.ready .any ops A' := by
  induction h generalizing k with
  | nil => cases hk
  | @cons A B i r hr ho h ih =>
    by_cases hi : A'.getD i true = false
    · exact ⟨i, List.mem_cons_self, A17 hr hi hm⟩
    · rcases List.mem_cons.1 hk with rfl | hk
      · exact absurd hk' hi
      · obtain ⟨x, hx1, hx2⟩ := ih (by simpa using hsz) (fun j hj => by
          by_cases e : i = j
          · subst e
            have hlt := N9 (G7 hr)
            have hlt' : i < A'.size := by omega
            simp [hlt'] at hi ⊢; exact hi
          · rw [getD_set_ne false e] at hj
            exact hm j hj) hk hk'
        exact ⟨x, List.mem_cons_of_mem _ hx1, hx2⟩
section group
variable {C : Cx} {Q : XQ} {l : Env} {M M0 J : Mem} {os : List Oper} {K : Nat → Prop} {n0 : Nat} {nd : List Nat} {plan : List (Nat × Nat)}
def B7C (C : Cx) (os : List Oper) (l : Env) (J : Mem) (G : List Gc) (g : Gc) : Prop :=
  g.s = none ∧ g.m = [] ∧ ∃ op ty pos af, nth os g.i = some ⟨some g.d, op, ty, pos, af, none⟩ ∧ ∀ (vs : Nat → Value) (bs : Nat → Mem) (Rj : Mem), (∀ x ∈ J ++ C.A, x ∈ Rj) → (∀ g' ∈ G, anc os.toArray os.toArray.size g.i g'.i = true → g'.φ (vs g'.i) (bs g'.i) Rj) →
    ∃ v, OpQ C.P [] ⟨some g.d, op, ty, pos, af, none⟩ (U2 G vs ++ l) v ∧ g.φ v [] Rj
theorem B2a {G : List Gc} (hmono : ∀ g ∈ G, A0d g.φ) (hd : (G.map (·.d)).Nodup) (hi : (G.map (·.i)).Nodup) (hc : ChainOk os.toArray G) (hKn : ∀ b, n0 ≤ b → K b) (hK : ∀ m ∈ A2l G, ∀ x ∈ m, K x.1) (hs : Region.noSelect os.toArray = true) (hdN : ∀ g ∈ G, g.d < C.N) {qs : List Nat} (hob : ∀ g ∈ G, g.i ∉ qs → B1N C os l M0 J G g) (hoq : ∀ g ∈ G, g.i ∈ qs → B7C C os l J G g) {A B : Array Bool} (hok : GOz os.toArray qs A (G.map (·.i)) B) (hfr : ∀ q ∈ qs, A2x os.toArray A q = true)
    (hfin : ∀ (vs : Nat → Value) (bs : Nat → Mem) Jn a w, (∀ g ∈ G, g.φ (vs g.i) (bs g.i) ((Jn ++ J) ++ C.A)) → (∀ g ∈ G, ∀ x ∈ bs g.i, K x.1) → Ag C.N (U2 G vs ++ l) a → St C ((A9v G bs).flatten ++ M0) (Jn ++ J) w → n0 ≤ w.heap.size → U3 C.P os.toArray (N0 (A3X C Q)) (Sk K) nd.contains plan.length B a w) :
    ∀ (n : Nat) (X : List Nat) (vs : Nat → Value) (bs : Nat → Mem) (Jn : Mem) (a : Act) (w : World), X.Nodup → (∀ i ∈ X, i ∈ G.map (·.i)) → n + X.length = G.length → L4 os.toArray (mark A X) → (∀ g ∈ G, g.i ∈ X → ∀ s, g.s = some s → s ∈ X) →
      (∀ g ∈ G, g.i ∈ X → g.φ (vs g.i) (bs g.i) ((Jn ++ J) ++ C.A)) → (∀ g ∈ G, g.i ∈ X → ∀ x ∈ bs g.i, K x.1) → Ag C.N (U2 G vs ++ l) a → St C (A7v X bs G ++ M0) (Jn ++ J) w → n0 ≤ w.heap.size →
      U3 C.P os.toArray (N0 (A3X C Q)) (Sk K) nd.contains (n + plan.length) (mark A X) a w := by
  intro n
  induction n with
  | zero =>
    intro X vs bs Jn a w hnd hX hlen hcl hXs hφ hN ha hw hn
    have hall : ∀ i, i ∈ X ↔ i ∈ G.map (·.i) := fun i => ⟨hX i, A0b hnd hX (by simp; omega) i⟩
    have hin : ∀ g ∈ G, g.i ∈ X := fun g hg => (hall _).2 (List.mem_map_of_mem (f := Gc.i) hg)
    have hcur := A8G (bs := bs) hin
    rw [hcur] at hw
    rw [Nat.zero_add, A16 hall, ← hok.mark]
    exact hfin vs bs Jn a w (fun g hg => hφ g hg (hin g hg)) (fun g hg => hN g hg (hin g hg)) ha hw hn
  | succ n ih =>
    intro X vs bs Jn a w hnd hX hlen hcl hXs hφ hN ha hw hn
    have hun : ∀ i ∈ G.map (·.i), A.getD i true = false := hok.un
    by_cases hqe : ∃ g ∈ G, g.i ∈ qs ∧ g.i ∈ Region.ready .any os.toArray (mark A X)
    · obtain ⟨g, hg, hgq, hqr⟩ := hqe
      obtain ⟨hsn, hmn, op, ty, pos, af, hget, howe⟩ := hoq g hg hgq
      have hi' : os.toArray[g.i]? = some ⟨some g.d, op, ty, pos, af, none⟩ := by rw [R6] at hget; simpa using hget
      have hiG : g.i ∈ G.map (·.i) := List.mem_map_of_mem (f := Gc.i) hg
      have hiX : g.i ∉ X := fun h => (E9.1 (G7 hqr)).2 ⟨h, N9 (hun _ hiG)⟩
      obtain ⟨v, hq, hφv⟩ := howe vs bs ((Jn ++ J) ++ C.A) (fun x hx => by simp only [List.mem_append] at hx ⊢; rcases hx with h | h <;> simp [h]) (fun g' hg' hanc => hφ g' hg' (by
        have h3 := K3 hcl hanc hqr
        rcases Q4 h3 with h4 | h4
        · exact (L5 (hun _ (List.mem_map_of_mem (f := Gc.i) hg')) h4).elim
        · exact h4))
      rw [show n + 1 + plan.length = (n + plan.length) + 1 by omega]
      refine S9 (S := Sk K) (T := fun _ => True) (N := 0) (v := v) hi' (Region.noSelect_spec hs) (fun _ _ _ h => h) (fun _ _ _ _ => rfl) _ (mark A X) a w hcl (fun j oj hj hne hun' hno => A30 hi' (hfr _ hgq) j oj hj hne (E9.1 hun').1 (by
        cases ha0 : anc os.toArray os.toArray.size g.i j with
        | false => rfl
        | true => exact (L5 hun' (K3 hcl ha0 hqr)).elim) hno) (fun _ _ _ _ => .inr fun _ _ _ _ => trivial) hqr (.inl ⟨rfl, fun w hw => hq C.N a w ha (fun _ _ hb => by cases hb)⟩) trivial ?_
      rw [← L0]
      have hsx : ∀ s, g.s = some s → s ∈ X := fun s hs' => by rw [hsn] at hs'; cases hs'
      obtain ⟨R0, hp0, hq0⟩ := A3L (bs := bs) hi hc hg hiX hXs hsx
      rw [Gc.inp_none hsn, hmn] at hp0
      let bs' : Nat → Mem := fun k => if k = g.i then [] else bs k
      have hperm : (A7v X bs G ++ M0).Perm (A7v (X ++ [g.i]) bs' G ++ M0) := List.Perm.append_right _ (hp0.trans (hq0 []))
      have ha' : Ag C.N ((g.d, v) :: (U2 G vs ++ l)) (a.put (some g.d) v) := ha.put (hdN g hg) v
      have henv := Y3 (N := C.N) (G := B4f G) (l := l) (vs := vs) (g := ⟨g.i, g.d, fun _ _ => True⟩) (a := a.put (some g.d) v) (v := v) (List.mem_map_of_mem (f := fun g : Gc => (⟨g.i, g.d, fun _ _ => True⟩ : Gm)) hg) (by rw [B1L]; exact hd) (by rw [B1K]; exact hi) (by rw [A07]; exact ha')
      rw [A07] at henv
      refine ih (X ++ [g.i]) (fun k => if k = g.i then v else vs k) bs' Jn (a.put (some g.d) v) w ?_ ?_ (by simp; omega) ?_ ?_ ?_ ?_ henv (hw.perm hperm) hn
      · rw [List.nodup_append]; exact ⟨hnd, by simp, fun x hx y hy e => hiX (by simp at hy; subst hy; exact e ▸ hx)⟩
      · intro j hj
        rcases List.mem_append.1 hj with hj | hj
        · exact hX j hj
        · simp at hj; subst hj; exact hiG
      · rw [L0]; exact G4 hcl hqr
      · intro g' hg' hm s hs'
        rcases List.mem_append.1 hm with h | h
        · exact List.mem_append_left _ (hXs g' hg' h s hs')
        · have h2 : g' = g := Z0 hi hg' hg (by simpa using h)
          subst h2
          exact List.mem_append_left _ (hsx s hs')
      · intro g' hg' hm
        by_cases e : g'.i = g.i
        · have : g' = g := Z0 hi hg' hg e
          subst this
          simp only [if_true, bs']
          exact hφv
        · simp only [e, if_false, bs']
          exact hφ g' hg' (by simpa [e] using hm)
      · intro g' hg' hk x hx
        by_cases e : g'.i = g.i
        · simp only [e, if_true, bs'] at hx
          cases hx
        · simp only [e, if_false, bs'] at hx
          exact hN g' hg' (by simpa [e] using hk) x hx
    have hmiss : ∃ k ∈ G.map (·.i), k ∉ X ∧ k ∉ qs := by
      apply Classical.byContradiction
      intro hno
      have hs' : ∀ k ∈ G.map (·.i), k ∉ qs → k ∈ X := fun k hk hne => Classical.byContradiction fun h => hno ⟨k, hk, h, hne⟩
      by_cases hall : ∀ k ∈ G.map (·.i), k ∈ X
      · have := A0n hi hall
        simp at this; omega
      · obtain ⟨k, hk⟩ := Classical.not_forall.1 hall
        obtain ⟨hkG, hkX⟩ := Classical.not_imp.1 hk
        obtain ⟨i, hiG, hir⟩ := hok.first (V1 A X) (fun j hj => V2 hj) hkG (E9.2 ⟨hun _ hkG, fun h => hkX h.1⟩)
        have hiX : i ∉ X := fun h => (E9.1 (G7 hir)).2 ⟨h, N9 (hun _ hiG)⟩
        by_cases e : i ∈ qs
        · obtain ⟨g, hg, rfl⟩ := List.mem_map.1 hiG
          exact hqe ⟨g, hg, e, hir⟩
        · exact hiX (hs' i hiG e)
    obtain ⟨k, hkG, hkX, hkq⟩ := hmiss
    have hkun : (mark A X).getD k true = false := E9.2 ⟨hun k hkG, fun h => hkX h.1⟩
    rw [show n + 1 + plan.length = (n + plan.length) + 1 by omega]
    refine ⟨fun h0 => ?_, fun i hir => ?_⟩
    · obtain ⟨i, -, hir⟩ := hok.first (V1 A X) (fun j hj => V2 hj) hkG hkun
      rw [h0] at hir; cases hir
    · have hiG : i ∈ G.map (·.i) := by
        apply Classical.byContradiction
        intro hno
        have h1 := E9.1 (G7 hir)
        have h2 := hok.outer k hkG hkq i (A00 hir) h1.1 hno
        exact L5 hkun (K3 hcl h2 hir)
      obtain ⟨g, hg, rfl⟩ := List.mem_map.1 hiG
      have hiX : g.i ∉ X := fun h => (E9.1 (G7 hir)).2 ⟨h, N9 (hun _ hiG)⟩
      have hin : ∀ j ∈ G.map (·.i), anc os.toArray os.toArray.size g.i j = true → j ∈ X := fun j hj hanc => by
        have h3 := K3 hcl hanc hir
        rcases Q4 h3 with h4 | h4
        · exact (L5 (hun _ hj) h4).elim
        · exact h4
      have hsx : ∀ s, g.s = some s → s ∈ X := fun s hs => hin s (hc.mem g hg s hs) (hc.anc g hg s hs)
      have hKi : ∀ x ∈ g.inp bs, K x.1 := by
        intro x hx
        cases hs : g.s with
        | none =>
          rw [Gc.inp_none hs] at hx
          exact hK g.m (List.mem_map.2 ⟨g, List.mem_filter.2 ⟨hg, by simp [hs]⟩, rfl⟩) x hx
        | some s =>
          rw [Gc.inp_some hs] at hx
          obtain ⟨gs, hgs, rfl⟩ := List.mem_map.1 (hc.mem g hg s hs)
          exact hN gs hgs (hsx _ hs) x hx
      obtain ⟨o, hget, howe⟩ := hob g hg (fun e => hqe ⟨g, hg, e, hir⟩)
      have hi' : os.toArray[g.i]? = some o := by rw [R6] at hget; simpa using hget
      obtain ⟨hask, hop⟩ := howe vs bs (M0 ++ ((Jn ++ J) ++ C.A)) ((Jn ++ J) ++ C.A) w (fun x hx => by simp only [List.mem_append] at hx ⊢; rcases hx with h | h | h <;> simp [h]) (fun x hx => by simp only [List.mem_append] at hx ⊢; rcases hx with h | h <;> simp [h]) (fun x hx => List.mem_append_right _ hx) (fun g' hg' hanc => hφ g' hg' (hin _ (List.mem_map_of_mem (f := Gc.i) hg') hanc))
      unfold wpOp
      simp only [hi']
      rw [if_pos (hask.wanted ha)]
      obtain ⟨R0, hp0, hq0⟩ := A3L (bs := bs) hi hc hg hiX hXs hsx
      have hpc : (A7v X bs G ++ M0).Perm (g.inp bs ++ (R0 ++ M0)) := by
        rw [← List.append_assoc]; exact List.Perm.append_right _ hp0
      have hcal := hw.callee hpc
      have hcal2 := St.less (A := M0 ++ ((Jn ++ J) ++ C.A)) hcal fun x hx => by
        simp only [List.mem_append] at hx ⊢
        rcases hx with h | h
        · exact .inl (.inr h)
        · exact .inr h
      refine .inl (Oper.wp_mono ?_ (hop _ a w ha hcal2.cx))
      rintro a' w' ⟨l', M', J', ha', hs', v, rfl, hφv⟩
      have hsz : w.heap.size ≤ w'.heap.size := hs'.size
      have hs2 := St.widen hcal.cx hs'
      have hb := hw.back hpc hs2.cx
      let bs' : Nat → Mem := fun k => if k = g.i then M' else bs k
      have hperm : (M' ++ (R0 ++ M0)).Perm (A7v (X ++ [g.i]) bs' G ++ M0) := by
        rw [← List.append_assoc]
        exact List.Perm.append_right _ (hq0 M')
      have hfr2 : St C (A7v (X ++ [g.i]) bs' G ++ M0) ((J' ++ Jn) ++ J) w' := (hb.perm hperm).drop (List.Sublist.refl _) fun x hx => by
        simp only [List.mem_append] at hx ⊢
        rcases hx with (h | h) | h <;> simp [h]
      refine ⟨fun _ b hb' hnk => hs'.frame b hb' fun hm => ?_, ?_⟩
      · obtain ⟨x, hx, e⟩ := List.mem_map.1 hm
        exact hnk (e ▸ hKi x hx)
      rw [← L0]
      have henv := Y3 (N := C.N) (G := B4f G) (l := l) (vs := vs) (g := ⟨g.i, g.d, fun _ _ => True⟩) (a := a') (v := v) (List.mem_map_of_mem (f := fun g : Gc => (⟨g.i, g.d, fun _ _ => True⟩ : Gm)) hg) (by rw [B1L]; exact hd) (by rw [B1K]; exact hi) (by rw [A07]; exact ha')
      rw [A07] at henv
      refine ih (X ++ [g.i]) (fun k => if k = g.i then v else vs k) bs' (J' ++ Jn) a' w' ?_ ?_ (by simp; omega) ?_ ?_ ?_ ?_ henv hfr2 (Nat.le_trans hn hsz)
      · rw [List.nodup_append]; exact ⟨hnd, by simp, fun x hx y hy e => hiX (by simp at hy; subst hy; exact e ▸ hx)⟩
      · intro j hj
        rcases List.mem_append.1 hj with hj | hj
        · exact hX j hj
        · simp at hj; subst hj; exact hiG
      · rw [L0]; exact G4 hcl hir
      · intro g' hg' hm s hs
        rcases List.mem_append.1 hm with h | h
        · exact List.mem_append_left _ (hXs g' hg' h s hs)
        · have h2 : g' = g := Z0 hi hg' hg (by simpa using h)
          subst h2
          exact List.mem_append_left _ (hsx s hs)
      · intro g' hg' hm
        by_cases e : g'.i = g.i
        · have : g' = g := Z0 hi hg' hg e
          subst this
          simp only [if_true, bs']
          exact hmono g' hg' _ _ _ _ (fun x hx => by simp only [List.mem_append] at hx ⊢; rcases hx with h | (h | h) | h <;> simp [h]) hφv
        · simp only [e, if_false, bs']
          have hm' : g'.i ∈ X := by simpa [e] using hm
          exact hmono g' hg' _ _ _ _ (fun x hx => by simp only [List.mem_append] at hx ⊢; rcases hx with (h | h) | h <;> simp [h]) (hφ g' hg' hm')
      · intro g' hg' hk x hx
        by_cases e : g'.i = g.i
        · have : g' = g := Z0 hi hg' hg e
          subst this
          simp only [if_true, bs'] at hx
          rcases hs'.own x.1 x.2 (by simp [hx]) with h6 | h6
          · obtain ⟨y, hy, e6⟩ := List.mem_map.1 h6
            exact e6 ▸ hKi y hy
          · exact hKn _ (Nat.le_trans hn h6)
        · simp only [e, if_false, bs'] at hx
          have hk' : g'.i ∈ X := by simpa [e] using hk
          exact hN g' hg' hk' x hx
theorem A6J (G0 Gq : List Gc) (M0 : Mem) (Lf : (Nat → Mem) → List Mem) (hKn : ∀ b, n0 ≤ b → K b) (hM : M.Perm (A1w (A2l (G0 ++ Gq)) M0)) (hK : ∀ m ∈ A2l (G0 ++ Gq), ∀ x ∈ m, K x.1) (hck : A7w os.toArray ((G0 ++ Gq).map fun g => (g.i, g.s)) = true) (hLf : ∀ bs, A9v (G0 ++ Gq) bs = Lf bs)
    (hmono : ∀ g ∈ G0 ++ Gq, A0d g.φ) (hd : ((G0 ++ Gq).map (·.d)).Nodup) (hi : ((G0 ++ Gq).map (·.i)).Nodup) (hdN : ∀ g ∈ G0 ++ Gq, g.d < C.N) (hs : Region.noSelect os.toArray = true) (hne : Gq.map (·.i) ≠ []) (hob0 : ∀ g ∈ G0, B1N C os l M0 J (G0 ++ Gq) g) (hoq0 : ∀ g ∈ Gq, B7C C os l J (G0 ++ Gq) g)
    (h : ∀ (vs : Nat → Value) (bs : Nat → Mem) Jn, (∀ g ∈ G0 ++ Gq, g.φ (vs g.i) (bs g.i) ((Jn ++ J) ++ C.A)) → (∀ g ∈ G0 ++ Gq, ∀ x ∈ bs g.i, K x.1) → XK C os Q K n0 nd plan (U2 (G0 ++ Gq) vs ++ l) (A1w (Lf bs) M0) (Jn ++ J)) : XK C os Q K n0 nd (A9D (Gq.map (·.i)) (G0.map (·.i)) ++ plan) l M J := by
  refine A0M hM ?_
  rw [A2U]
  intro listed hcl hp a w ha hw hn
  obtain ⟨B, hok, hfr, hp2⟩ := B1Z hne hp
  have hBcl : L4 os.toArray B := by
    have : ∀ {A is B}, GOz os.toArray (Gq.map (·.i)) A is B → L4 os.toArray A → L4 os.toArray B := by
      intro A is B h
      induction h with
      | nil => exact id
      | cons hr _ _ ih => exact fun hc => ih (G4 hc hr)
    exact this hok hcl
  rw [← List.map_append] at hok
  have hlen : (A9D (Gq.map (·.i)) (G0.map (·.i)) ++ plan).length = (G0 ++ Gq).length + plan.length := by
    have h1 : ∀ qs : List Nat, (A3O qs).length = qs.length := by
      intro qs
      induction qs with
      | nil => rfl
      | cons q r ih => cases r with
        | nil => rfl
        | cons q' r => simp only [A3O, List.length_cons] at ih ⊢; rw [ih]
    have h2 : ∀ (qs is : List Nat), (A9D qs is).length = is.length + qs.length := by
      intro qs is
      induction is with
      | nil => simp [A9D, h1]
      | cons i r ih => simp only [A9D, List.length_cons, ih]; omega
    simp [h2]
  have hob : ∀ g ∈ G0 ++ Gq, g.i ∉ Gq.map (·.i) → B1N C os l M0 J (G0 ++ Gq) g := fun g hg hq => by
    rcases List.mem_append.1 hg with h1 | h1
    · exact hob0 g h1
    · exact absurd (List.mem_map_of_mem (f := Gc.i) h1) hq
  have hoq : ∀ g ∈ G0 ++ Gq, g.i ∈ Gq.map (·.i) → B7C C os l J (G0 ++ Gq) g := fun g hg hq => by
    obtain ⟨g', hg', e⟩ := List.mem_map.1 hq
    have := Z0 hi (List.mem_append_right _ hg') hg e
    exact this ▸ hoq0 g' hg'
  rw [hlen]
  generalize Gq.map (·.i) = qs at *
  generalize G0 ++ Gq = G at *
  let vs : Nat → Value := fun k => match G.find? (fun g => g.i == k) with
    | some g => (a.tmps[g.d]?).getD undef
    | none => undef
  have hag : Ag C.N (U2 G vs ++ l) a := by
    refine ⟨ha.defers, ha.size, ?_⟩
    intro k u hk
    have key : ∀ G' : List Gc, (∀ g ∈ G', g ∈ G) → lk (U2 G' vs ++ l) k = some u → a.tmps[k]? = some u := by
      intro G'
      induction G' with
      | nil => intro _ h; exact ha.slot k u h
      | cons g G' ih =>
        intro hs h
        simp only [U2, List.map_cons, List.cons_append, lk] at h
        by_cases e : g.d = k
        · subst e
          simp at h
          have hf : G.find? (fun x => x.i == g.i) = some g := by
            have hgG := hs g List.mem_cons_self
            cases hq : G.find? (fun x => x.i == g.i) with
            | none => have := List.find?_eq_none.1 hq g hgG; simp at this
            | some x =>
              have h1 := List.find?_some hq
              have h2 := List.mem_of_find?_eq_some hq
              rw [Z0 hi h2 hgG (by simpa using h1)]
          have hlt : g.d < a.tmps.size := by rw [ha.size]; exact hdN g (hs g List.mem_cons_self)
          rw [← h]
          show a.tmps[g.d]? = some (vs g.i)
          simp only [vs, hf, Array.getElem?_eq_getElem hlt, Option.getD_some]
        · simp only [V0 e, cond_false] at h
          exact ih (fun x hx => hs x (List.mem_cons_of_mem _ hx)) h
    exact key G (fun _ h => h) hk
  refine B2a (n0 := n0) (K := K) hmono hd hi (A8E hck) hKn hK hs hdN hob hoq hok hfr (fun vs bs Jn a w hφ hN ha hw hn => h vs bs Jn hφ hN B hBcl hp2 a w ha (by rw [A2U, ← hLf]; exact hw) hn) G.length [] vs (fun _ => []) [] a w .nil (fun _ h => by cases h) (by simp) hcl (fun _ _ h => by cases h) (fun _ _ h => by cases h) (fun _ _ h => by cases h) hag (by rw [A8F]; exact hw) hn
end group
end Go.Px

namespace Go.Proofs.YthbhpfefdnffaaaGreatDoor
open Go.Px
theorem KyR.lt {R : Mem} {kb : Nat} {k : Ks} {va vg vs vo vm : Value} {rs ro rm : List (List Value)} (h : KyR R kb k va vg vs vo vm rs ro rm) : ∀ w ∈ B4i k, ∀ x ∈ w, x < 256 := by
  intro w hw
  rcases List.mem_cons.1 hw with rfl | hw
  · exact h.agree.lt
  rcases List.mem_cons.1 hw with rfl | hw
  · exact h.sign.lt
  obtain ⟨x, hx, rfl⟩ := List.mem_map.1 hw
  rcases List.mem_append.1 hx with hx | hx
  · obtain ⟨i, hi⟩ := List.getElem?_of_mem hx
    obtain ⟨r, hr, a, b, rfl, h1, -⟩ := h.signedR.get i x hi
    exact h1.lt
  · obtain ⟨i, hi⟩ := List.getElem?_of_mem hx
    obtain ⟨r, hr, a, b, rfl, h1, -⟩ := h.onceR.get i x hi
    exact h1.lt
theorem C0y {k : Ks} {x : Pr} (h : x ∈ k.signed) : x.sec ∈ B4i k := by simp only [B4i, List.mem_cons, List.mem_map, List.mem_append]; exact .inr (.inr ⟨x, .inl h, rfl⟩)
theorem C0z {k : Ks} {x : Pr} (h : x ∈ k.once) : x.sec ∈ B4i k := by simp only [B4i, List.mem_cons, List.mem_map, List.mem_append]; exact .inr (.inr ⟨x, .inr h, rfl⟩)
theorem B5w (u d : Int) (s : Ps) : Ext s (A6G u d s).2 :=
  (((Y8 s).trans (Y8 (D7 s))).trans (A7B (k0N u d s) (D7 (D7 s)))).trans (A8J _ _ _)
def ag0 (m : Nat) : Ps := ⟨m % 2 == 0, [97, 103, 114, 101, 101], 0, []⟩
noncomputable def oA (m : Nat) : Ks × Ps := A6G 0 1 (ag0 m)
noncomputable def oB (m : Nat) : Ks × Ps := A6G 1 1 (oA m).2
structure OpF (m : Nat) (a b : Ks) (s : Ps) : Prop where
  ba : BuI a s
  bb : BuI b s
  sg : ∃ x, b.signed = [x] ∧ x.n = 1 ∧ x.sec.length = 32
  on : onN b = [2, 3, 4, 5]
  nx : b.next = 6
  ts : s.ts.length ≤ 22
  n : s.n ≤ 14
  real : s.real = (m % 2 == 0)
theorem A9x (s : Ps) : (E8 s).length = 32 := by
  cases hr : s.real with
  | true => rw [A4Z hr]; unfold B4I; rw [A0Y]; decide
  | false => rw [A2R hr]; exact A0r _ (by decide)
theorem A9y (u d : Int) (s : Ps) : (A6G u d s).1.signed = [turnP (k0N u d s) (D7 (D7 s))] := by
  unfold A6G; rw [B1Q]; rfl
theorem A8M (m : Nat) : OpF m (oA m).1 (oB m).1 (oB m).2 := by
  have e1 : (ag0 m).ts.length = 0 := rfl
  have e2 : (ag0 m).n = 0 := rfl
  have h1 := A7y 0 1 (ag0 m)
  have h2 := A7y 1 1 (oA m).2
  change (oA m).2.ts.length ≤ _ ∧ (oA m).2.n ≤ _ ∧ _ at h1
  change (oB m).2.ts.length ≤ _ ∧ (oB m).2.n ≤ _ ∧ _ at h2
  have b1 : BuI (oA m).1 (oA m).2 := BuI.new (s := ag0 m) Tok.nil Ar.nil (by omega) (by omega)
  have b2 : BuI (oB m).1 (oB m).2 := BuI.new b1.tok b1.ar (by omega) (by omega)
  have e := B5w 1 1 (oA m).2
  have e' := B5w 0 1 (ag0 m)
  exact ⟨b1.ext e.p b2.tok b2.ar, b2, ⟨_, A9y 1 1 (oA m).2, rfl, A9x _⟩, B9l 1 1 (oA m).2, B4j 1 1 (oA m).2, by omega, by omega, e.p.real.trans e'.p.real⟩
theorem B2b {b : Bn} {l : List Pr} {s : Ps} : ∀ i, (A0F b l s i).2.n = s.n
  | 0 => rfl
  | i + 1 => by
    unfold A0F
    cases l[i]? with
    | none => exact B2b i
    | some o => show (I9 _ _).n = _; rw [A0T, B2b i]
theorem B5x {k : Ks} {s : Ps} : (K9 k s).2.n = s.n := by
  unfold K9
  cases k.signed with
  | nil => rfl
  | cons x l => show (A0F _ _ _ _).2.n = _; rw [B2b, A0T]; unfold idS; rw [A0T, A0T]
theorem B2c {k : Ks} {s : Ps} {x : Pr} {sl : List Pr} (hs : k.signed = x :: sl) {j : Nat} (hj : j < k.once.length + 1) : ∃ y xo, (K9 k s).1[j]? = some y ∧ y.user = k.user ∧ y.dev = k.dev ∧ y.ia = idA k s ∧ y.ig = idG k s ∧ y.signed = x.n ∧ y.key = N6 (idS k s) x.sec ∧ y.sig = x.sig ∧ y.has = xo.isSome ∧
    (∀ o, xo = some o → ∃ p, 0 < j ∧ k.once[j - 1]? = some p ∧ o = p.sec ∧ y.once = p.n ∧ y.oncek = N6 (A0F (A9w k x s) k.once (I9 (idS k s) x.sec) (j - 1)).2 p.sec) ∧ (xo = none ↔ j = 0) := by
  obtain ⟨g1, g2, g3, g4⟩ := A2m (s := s) hs
  cases j with
  | zero => exact ⟨_, none, g2, rfl, rfl, rfl, rfl, rfl, rfl, rfl, rfl, fun o h => (by cases h), by simp⟩
  | succ j =>
    obtain ⟨o, ho⟩ : ∃ o, k.once[j]? = some o := ⟨_, List.getElem?_eq_getElem (by omega)⟩
    exact ⟨_, some o.sec, g3 j o ho, rfl, rfl, rfl, rfl, rfl, rfl, rfl, rfl, fun o' h => (by cases h; exact ⟨o, by omega, ho, rfl, rfl, rfl⟩), by simp⟩
theorem A8N {ka kb : Ks} {s S : Ps} {x : Pr} {sl : List Pr} {y : Bn} {xo : Option (List Nat)} (hb : BuI kb s) (hs : kb.signed = x :: sl) (hl : s.ts.length + 200 ≤ 1048576) (ho4 : kb.once.length ≤ 10) (he : Pext (K9 kb s).2 S) (ha : BuI ka S) (l1 : ∀ w ∈ B4i ka, ∀ x ∈ w, x < 256) (l2 : ∀ w ∈ B4i kb, ∀ x ∈ w, x < 256) (hL : S.ts.length + 200 ≤ 1048576) (hn : S.n < 1000000000)
    (y3 : y.ia = idA kb s) (y4 : y.ig = idG kb s) (y5 : y.signed = x.n) (y6 : y.key = N6 (idS kb s) x.sec) (y7 : y.sig = x.sig) (y8 : y.has = xo.isSome) {j : Nat} (y9 : ∀ o, xo = some o → ∃ p, 0 < j ∧ kb.once[j - 1]? = some p ∧ o = p.sec ∧ y.once = p.n ∧ y.oncek = N6 (A0F (A9w kb x s) kb.once (I9 (idS kb s) x.sec) (j - 1)).2 p.sec) :
    ckB S y = true ∧ Agd (stS ka y S) ka.agree (E8 S) kb.agree x.sec xo (stH ka y S) (stK ka y S) ∧ BuI ka (stS ka y S) ∧ Ext S (stS ka y S) ∧ B1p (stS ka y S) ka.sign (stH ka y S).ig ∧ U1 S x.sec y.key := by
  obtain ⟨h1, h2, h3, h4, h5, h6, h7⟩ := hb.bundles hs hl ho4
  have hck : ckB S y = true := by
    unfold ckB
    rw [y6, y5, y7, y4, B87 (by omega) (h4.ext he) (h6.ext he), A3K]; rfl
  obtain ⟨g1, g2, g3, g4⟩ := B4m (b := y) (xo := xo) (kb := kb.agree) (xs := x.sec) ha (by rw [y6]; exact h5.ext he) (by rw [y3]; exact h3.ext he) y8 (fun o ho => by
    obtain ⟨p, q0, q1, q2, q3, q4⟩ := y9 o ho
    refine ⟨?_, q2 ▸ l2 _ (C0z (List.mem_of_getElem? q1))⟩
    rw [q4, q2]
    exact (h7 (j - 1) p q1).ext he) (l1 _ (by simp [B4i])) (l2 _ (C0y (by rw [hs]; simp))) (l2 _ (by simp [B4i])) hL hn
  exact ⟨hck, g1, g2, g3, g4, by rw [y6]; exact h5.ext he⟩
theorem A8O (m : Nat) (A : Mem) (hm : m < 256) (hG : Glb A) : FnX Tryz.prog 15 [.int .u8 ((m : Nat) : Int)] [] A fun q M J => ∃ tb pb ka kb MA MB MP, q = .pointer (some ⟨tb, 0, none⟩) ∧ M = (tb, blk [.pointer (some ⟨pb, 0, none⟩), .pointer (some ⟨ka, 0, none⟩), .pointer (some ⟨kb, 0, none⟩)] 37) :: (MA ++ (MB ++ MP)) ∧ Kys (J ++ A) ka (oA m).1 MA ∧ Kys (J ++ A) kb (oB m).1 MB ∧ Prm pb (oB m).2 MP := by
 refine FnX.enterZ (N := 24) Tryz.func15 rfl rfl rfl fun w_ => ?_
 refine C4 (D5 0) (A3 (as_ (A0 (D5 0) (A3 (mv_ ?_)))))
 refine A4 (A0P (a := m) (b := 2) rfl rfl rfl rfl (by decide)) rfl ?_
 rw [B9m m]
 refine A6 rfl (C7 (e := 5) (sz := 1) (z := [zu8, zu8, zu8, zu8, zu8]) kR (eS rfl (eS rfl (eS rfl (eS rfl (eS rfl e0))))) (bdS 0 1 rfl (by rfl) (bdS 1 1 rfl (by rfl) (bdS 2 1 rfl (by rfl) (bdS 3 1 rfl (by rfl) (bdS 4 1 rfl (by rfl) bd0))))) rfl fun b8 => ?_)
 refine A6 rfl (A35 rfl kR UpC.upd rfl ?_)
 refine A73 (B := [_]) (PickC.sing).perm ?_
 refine D0 (aS rfl (aS rfl a0)) kR (B0u (m % 2 == 0) _ [97, 103, 114, 101, 101] _ ⟨Rd.whole (n := 5) (At.mem) (by rfl), by decide, by decide⟩) rfl ?_
 rintro v10 MP J10 ⟨pb, rfl, hP⟩
 change Prm pb (ag0 m) MP at hP
 have q1 := A7y 0 1 (ag0 m)
 change (oA m).2.ts.length ≤ 11 ∧ (oA m).2.n ≤ 7 ∧ _ at q1
 refine mv_ ?_
 refine A4 (A2s rfl) rfl ?_
 refine A4 (A18 rfl) rfl ?_
 refine as_ (as_ (A0 (D4 3 4) (A5 (A3 (mv_ ?_)))))
 refine A4 (F9 false rfl rfl (neF rfl)) rfl ?_
 refine A0 (D4 3 14) ?_
 refine D3 rfl ?_
 refine A8 (nx (D5 3) (A3 (mv_ (mv_ ?_))))
 refine A4 (F8 (place := fun x => #[(0, 1), (1, 1)][x]?) (z := [.int .i64 0, .int .i64 0]) (fun _ => by kernel_rfl) (eS rfl (eS rfl e0)) (bdS 0 1 rfl (by rfl) (bdS 1 1 rfl (by rfl) bd0))) rfl ?_
 refine A6 rfl (D9 (Mc := MP) (R := _) (aS rfl (aS rfl (a0))) kR PickC.perm (B9k 0 1 pb (ag0 m) MP _ hP (show 0 + 200 ≤ 1048576 by decide) (show 0 + 100 < 1000000000 by decide) hG.up) rfl ?_)
 rintro v18 M18 J18 ⟨ka, MA, MP2, rfl, rfl, hKa, hP2⟩
 refine mv_ ?_
 refine A4 (F8 (place := fun x => #[(0, 1), (1, 1)][x]?) (z := [.int .i64 0, .int .i64 0]) (fun _ => by kernel_rfl) (eS rfl (eS rfl e0)) (bdS 0 1 rfl (by rfl) (bdS 1 1 rfl (by rfl) bd0))) rfl ?_
 refine A6 rfl (D9 (Mc := MP2) (R := _) (aS rfl (aS rfl (a0))) kR PickC.perm (FnX.amb SubC.sub (B9k 1 1 pb (oA m).2 MP2 A hP2 (by omega) (by omega) hG)) rfl ?_)
 rintro v21 M21 J21 ⟨kb, MB, MP3, rfl, rfl, hKb, hP3⟩
 refine A4 (F8 (place := fun x => #[(0, 1), (1, 1), (2, 1)][x]?) (z := [.pointer none, .pointer none, .pointer none]) (fun _ => by kernel_rfl) (eS rfl (eS rfl (eS rfl e0))) (bdS 0 1 rfl (by rfl) (bdS 1 1 rfl (by rfl) (bdS 2 1 rfl (by rfl) bd0)))) rfl ?_
 refine A6 rfl (bx_ fun b23 => ?_)
 refine as_ (A0 (D5 2) (C2 ?_))
 exact ⟨_, (b23, blk [.pointer (some ⟨pb, 0, none⟩), .pointer (some ⟨ka, 0, none⟩), .pointer (some ⟨kb, 0, none⟩)] 37) :: (MA ++ (MB ++ MP3)), [], I0 rfl rfl, Fit.none (Fit.pick (B := [_]) PickC.perm (Fit.pick PickC.perm (Fit.pick PickC.perm (Fit.last PickC.perm)))), b23, pb, ka, kb, MA, MB, MP3, rfl, rfl, hKa.mono SubC.sub, hKb.mono SubC.sub, hP3⟩
def StV (R : Mem) (v : Value) (K : List Nat) (H : He) : Prop := ∃ x p r u, v = .tuple #[x, .agg (heC p r u H).toArray, .int .i64 0] ∧ By R x K ∧ HeR R H p r u
theorem StV.mono {R R' : Mem} {v : Value} {K : List Nat} {H : He} (h : StV R v K H) (hR : ∀ x, x ∈ R → x ∈ R') : StV R' v K H := by
  obtain ⟨x, p, r, u, h1, h2, h3⟩ := h
  exact ⟨x, p, r, u, h1, h2.mono hR, h3.mono hR⟩
theorem B2d (A : Mem) (hG : Glb A) : FnV Tryz.prog 14 [] A (.bool true) := by
 refine FnX.enter (N := 84) Tryz.func14 rfl rfl rfl fun w_ => ?_
 refine C4 kn (A3 (as_ (A0 kn (A3 ?_))))
 refine D0 (aS rfl a0) kR (A8O 1 _ (by decide) hG.up) rfl ?_
 rintro v9 M9 J9 ⟨tb, pb, ka, kb, MA, MB, MP, rfl, rfl, hKa, hKb, hP⟩
 have hF := A8M (1)
 generalize (oA (1)).1 = ak at *
 generalize (oB (1)).1 = bk at *
 generalize (oB (1)).2 = s at *
 obtain ⟨x, hsg, hxn, hxl⟩ := hF.sg
 have hol := B5u bk
 rw [hF.on] at hol
 change 4 = _ at hol
 have hts := hF.ts
 have hsn := hF.n
 have hrise : B1C bk.once := A7A (by rw [show bk.once.map (·.n) = onN bk from rfl, hF.on]; decide)
 refine as_ (A0 (D5 1) (A5 (A3 (mv_ ?_))))
 refine A4 (F2 (e := 37) rfl rfl kR) rfl ?_
 refine mv_ ?_
 refine F4 rfl rfl (OpQ.opL qm_ rfl ?_)
 refine F4 rfl rfl (OpQ.opL (F5 rfl) rfl ?_)
 refine F4 rfl rfl (OpQ.opL (qf_ 2 2) rfl ?_)
 refine F4 rfl rfl (OpQ.opL ql_ rfl ?_)
 refine F4 rfl rfl (OpQ.opL (F2 (e := 114) rfl rfl kR) rfl ?_)
 refine A4 (E7 rfl rfl) rfl ?_
 refine A0 (D4 1 18) ?_
 refine D3 rfl ?_
 refine A8 (nx (D5 1) ?_)
 refine A1M (B := [(tb, blk [.pointer (some ⟨pb, 0, none⟩), .pointer (some ⟨ka, 0, none⟩), .pointer (some ⟨kb, 0, none⟩)] 37)]) PickC.perm ?_
 refine A1M (B := MA) PickC.perm ?_
 refine A1M (B := MB) PickC.perm ?_
 obtain ⟨va, vg, vq, vo, vm, rs, ro, rm, hra⟩ := hKa.r
 obtain ⟨ua, ug, uq, uo, um, ss, so, sm, hrb⟩ := hKb.r
 have hla := (hra _ (fun _ h => List.mem_append_left MA h) (fun _ h => List.mem_append_right _ h)).lt
 have hlb := (hrb _ (fun _ h => List.mem_append_left MB h) (fun _ h => List.mem_append_right _ h)).lt
 refine D2 [0, 1, 2, 3, 4, 5, 6, 7, 9] (zp 0 [0, 0, 0, 1, 0, 0, 0, 1, 2, 0]) kR kR fun hs => ?_
 refine fm_ hs ?_
 refine D1 hs rfl (F5 rfl) rfl ?_
 refine D1 hs rfl (qf_ 2 2) rfl ?_
 refine F6 hs rfl ql_ rfl ?_
 refine fm_ hs ?_
 refine D1 hs rfl (F5 rfl) rfl ?_
 refine D1 hs rfl (qf_ 0 0) rfl ?_
 refine F6 hs rfl ql_ rfl ?_
 refine G3 rfl rfl rfl (D9 (Mc := MP) (R := _) (aS rfl (aS rfl (a0))) kR PickC.perm (B1P pb s kb bk ua ug uq uo um ss so sm x [] MP _ (hrb _ SubC.sub SubC.sub) hsg hP (by omega) (by omega) hG.up) rfl ?_)
 rintro v27 M27 J27 ⟨hP27, rows, hrd, hrw⟩
 haveI := hrd.cel
 obtain ⟨hbl, -, -, hbt⟩ := A2m (s := s) hsg
 rw [← hol] at hbl
 obtain ⟨y, xo, hy, -, -, y3, y4, y5, y6, y7, y8, y9, y10⟩ := B2c (s := s) hsg (j := 1) (by omega)
 obtain ⟨r0, hr0, w1, w2, w3, w4, w5, rfl, gw1, gw2, gw3, gw4, gw5, gws, gwo⟩ := hrw.get 1 y hy
 haveI := gw1.cel
 haveI := gw2.cel
 haveI := gw3.cel
 haveI := gw4.cel
 haveI := gw5.cel
 obtain ⟨hb1, hb2, -⟩ := hF.bb.bundles hsg (by omega) (by omega)
 have hbn : (K9 bk s).2.n = s.n := B5x
 have ha2 := hF.ba.ext hb2 hb1.tok hb1.ar
 obtain ⟨hck, hag, hbi, hex, -, hpx⟩ := A8N hF.bb hsg (by omega) (by omega) (Pext.refl _) ha2 hla hlb (by omega) (by omega) y3 y4 y5 y6 y7 y8 y9
 have hst := A5r ak y (K9 bk s).2
 have hans := hag.ans (kb := bk) hbi.tok (by omega) (by rw [hsg]; show A0S [x] (stH ak y (K9 bk s).2).signed = _; rw [show (stH ak y (K9 bk s).2).signed = x.n from y5]; exact A3M) y8 (fun hh => by
  change y.has = true at hh
  rw [y8] at hh
  obtain ⟨o, rfl⟩ := Option.isSome_iff_exists.1 hh
  obtain ⟨q, q0, q1, q2, q3, -⟩ := y9 o rfl
  rw [show (stH ak y (K9 bk s).2).once = y.once from if_pos (y8.trans rfl), q3, q2]
  exact A7C hrise q1)
 have hKl := (A6I (stI ak y (K9 bk s).2) (stL ak.agree y (K9 bk s).2)).2
 change (stK ak y (K9 bk s).2).length = 32 at hKl
 have h2k := hex.n
 refine fa_ hs ?_
 refine E0 (D4 1 2) (A5 (A3 (mv_ ?_)))
 refine A4 (H7 (sz := 10) rfl kR hrd) rfl ?_
 rw [hbl]
 refine A4 (F9 false rfl rfl (neF (by rfl))) rfl ?_
 refine A0 (E1 1 2 30) ?_
 refine D3 rfl ?_
 refine A8 (nx (D4 1 2) ?_)
 refine I2 (M27) (_) true [0, 1, 2, 3, 4, 5, 6, 7, 8, 9, 10, 11, 12, 13, 14, 15, 16, 17, 19] [(0, 0), (1, 0), (2, 0), (3, 1), (4, 0), (5, 0), (6, 0), (7, 1), (8, 0), (9, 0), (10, 1), (11, 8), (12, 8), (13, 8), (16, 8), (14, 9), (15, 10), (17, 0), (18, 2), (19, 0)] kR kR PickC.perm fun hs K n0 hKm hKs hKn => ?_
 refine km_ hs ?_
 refine K6 hs rfl (F5 rfl) rfl ?_
 refine K6 hs rfl (qf_ 0 0) rfl ?_
 refine Q5 hs rfl hKs ql_ ?_
 refine km_ hs ?_
 refine K6 hs rfl (F5 rfl) rfl ?_
 refine K6 hs rfl (qf_ 1 1) rfl ?_
 refine Q5 hs rfl hKs ql_ ?_
 refine km_ hs ?_
 refine K6 hs rfl (I4 (sz := 10) (a := 1) rfl rfl kR rfl hrd (by rw [hbl]; decide)) rfl ?_
 refine Q5 hs rfl hKs (A0c rfl kR (hrd.mono SubC.sub) (hrw.lens bnT) (by decide) hr0) ?_
 refine A6J [⟨11, 43, none, M27, fun v B R => Prm pb (stS ak y (K9 bk s).2) B ∧ StV R v (stK ak y (K9 bk s).2) (stH ak y (K9 bk s).2)⟩, ⟨12, 31, none, [], fun v B R => B = [] ∧ StV R v (stK ak y (K9 bk s).2) (stH ak y (K9 bk s).2)⟩, ⟨13, 44, none, [], fun v B R => B = [] ∧ By R v (stK ak y (K9 bk s).2)⟩, ⟨16, 4, none, [], fun v B _ => ∃ b, v = .pointer (some ⟨b, 0, none⟩) ∧ B = [(b, blk [.slice none 0 0, .slice none 0 0, .slice none 0 0, .int .u32 0, .bool false, .int .u32 0] 43)]⟩] [⟨14, 45, none, [], fun v B R => B = [] ∧ ∃ p r u, v = .agg (heC p r u (stH ak y (K9 bk s).2)).toArray ∧ HeR R (stH ak y (K9 bk s).2) p r u⟩, ⟨15, 46, none, [], fun v B R => B = [] ∧ v = .int .i64 0⟩] ([]) (fun bs => [bs 11, bs 12, bs 13, bs 16, bs 14, bs 15]) (hKn rfl) (by simp [A1w, A2l]) (show ∀ m ∈ ([M27, [], [], [], [], []] : List Mem), ∀ x ∈ m, K x.1 from C1 (hKm) (C1 (fun _ h => by cases h) (C1 (fun _ h => by cases h) (C1 (fun _ h => by cases h) (C1 (fun _ h => by cases h) (C1 (fun _ h => by cases h) (K7))))))) kR (fun _ => by first | rfl | kernel_rfl)
  (C1 (fun _ _ _ _ h ⟨p1, p2⟩ => ⟨p1, p2.mono h⟩) (C1 (fun _ _ _ _ h ⟨p1, p2⟩ => ⟨p1, p2.mono h⟩) (C1 (fun _ _ _ _ h ⟨p1, p2⟩ => ⟨p1, p2.mono h⟩) (C1 (fun _ _ _ _ _ h => h) (C1 (fun _ _ _ _ h ⟨p1, p, r, u, e, p2⟩ => ⟨p1, p, r, u, e, p2.mono h⟩) (C1 (fun _ _ _ _ _ h => h) (K7))))))) (show List.Nodup [43, 31, 44, 4, 45, 46] by decide) (show List.Nodup [11, 12, 13, 16, 14, 15] by decide) (C1 (C8 rfl) (C1 (C8 rfl) (C1 (C8 rfl) (C1 (C8 rfl) (C1 (C8 rfl) (C1 (C8 rfl) (K7)))))))
  hs (List.cons_ne_nil _ _) (C1 ⟨_, rfl, fun vs bs R Rj wG hb hj hjr ha => ⟨.inl rfl, ?_⟩⟩ (C1 ⟨_, rfl, fun vs bs R Rj wG hb hj hjr ha => ⟨.inl rfl, ?_⟩⟩ (C1 ⟨_, rfl, fun vs bs R Rj wG hb hj hjr ha => ⟨.inl rfl, ?_⟩⟩ (C1 ⟨_, rfl, fun vs bs R Rj wG hb hj hjr ha => ⟨.inl rfl, ?_⟩⟩ (K7))))) (C1 ⟨rfl, rfl, _, _, _, _, rfl, fun vs bs Rj hj ha => ?_⟩ (C1 ⟨rfl, rfl, _, _, _, _, rfl, fun vs bs Rj hj ha => ?_⟩ (K7))) ?_
 ·
  dsimp only [Gc.inp]
  refine D9 (Mc := M27) (R := []) (aS rfl (aS rfl (aS rfl (a0)))) kR (by simp) (FnX.amb (A := Rj) (fun x hx => by have := hjr x hx; simp [this]) (B1Y pb (K9 bk s).2 ka ak va vg vq vo vm rs ro rm y w1 w2 w3 w4 w5 M27 Rj (hra _ (fun x hx => hj x (SubC.sub x hx)) (fun x hx => hj x (SubC.sub x hx))) hP27 hb1.ar (by omega) (by omega) (gw1.mono (fun x hx => hj x (SubC.sub x hx))) (gw2.mono (fun x hx => hj x (SubC.sub x hx))) (gw3.mono (fun x hx => hj x (SubC.sub x hx))) (gw4.mono (fun x hx => hj x (SubC.sub x hx))) (gw5.mono (fun x hx => hj x (SubC.sub x hx))) gws gwo (hG.sub (fun x hx => hj x (SubC.sub x hx))))) rfl ?_
  rintro v25 M25 J25 ⟨hh, -⟩
  obtain ⟨x, p, r, u, rfl, hP25, h25, hH25⟩ := hh hck
  exact ⟨_, rfl, by simpa using hP25, x, p, r, u, rfl, h25.mono fun x hx => by simp [hx], hH25.mono fun x hx => by simp [hx]⟩
 ·
  dsimp only [Gc.inp]
  have g11 := ha _ (List.mem_of_getElem? (i := 0) rfl) kR
  replace g11 : (fun v B R => Prm pb (stS ak y (K9 bk s).2) B ∧ StV R v (stK ak y (K9 bk s).2) (stH ak y (K9 bk s).2)) (vs 11) (bs 11) Rj := g11
  dsimp only at g11
  obtain ⟨-, k⟩ := g11
  exact OpQ.opL qm_ rfl ⟨_, rfl, rfl, k⟩
 ·
  dsimp only [Gc.inp]
  have g12 := ha _ (List.mem_of_getElem? (i := 1) rfl) kR
  replace g12 : (fun v B R => B = [] ∧ StV R v (stK ak y (K9 bk s).2) (stH ak y (K9 bk s).2)) (vs 12) (bs 12) Rj := g12
  dsimp only at g12
  obtain ⟨-, x, p, r, u, e, k1, k2⟩ := g12
  exact OpQ.opL (L9 (vs := #[x, .agg (heC p r u (stH ak y (K9 bk s).2)).toArray, .int .i64 0]) (by rw [← e]; rfl) rfl) rfl ⟨_, rfl, rfl, k1⟩
 ·
  dsimp only [Gc.inp]
  exact C5 (cs := [.slice none 0 0, .slice none 0 0, .slice none 0 0, .int .u32 0, .bool false, .int .u32 0]) kR rfl fun b => ⟨_, rfl, b, rfl, rfl⟩
 ·
  have g12 := ha _ (List.mem_of_getElem? (i := 1) rfl) kR
  replace g12 : (fun v B R => B = [] ∧ StV R v (stK ak y (K9 bk s).2) (stH ak y (K9 bk s).2)) (vs 12) (bs 12) Rj := g12
  dsimp only at g12
  obtain ⟨-, x, p, r, u, e, k1, k2⟩ := g12
  exact ⟨_, L9 (vs := #[x, .agg (heC p r u (stH ak y (K9 bk s).2)).toArray, .int .i64 0]) (by rw [← e]; rfl) rfl, rfl, p, r, u, rfl, k2⟩
 ·
  have g12 := ha _ (List.mem_of_getElem? (i := 1) rfl) kR
  replace g12 : (fun v B R => B = [] ∧ StV R v (stK ak y (K9 bk s).2) (stH ak y (K9 bk s).2)) (vs 12) (bs 12) Rj := g12
  dsimp only at g12
  obtain ⟨-, x, p, r, u, e, k1, k2⟩ := g12
  exact ⟨_, L9 (vs := #[x, .agg (heC p r u (stH ak y (K9 bk s).2)).toArray, .int .i64 0]) (by rw [← e]; rfl) rfl, rfl, rfl⟩
 intro vs bs Jn0 hφ hKK
 have kk11 := hKK _ (List.mem_of_getElem? (i := 0) rfl)
 dsimp only at kk11
 have kk12 := hKK _ (List.mem_of_getElem? (i := 1) rfl)
 dsimp only at kk12
 have kk13 := hKK _ (List.mem_of_getElem? (i := 2) rfl)
 dsimp only at kk13
 have kk16 := hKK _ (List.mem_of_getElem? (i := 3) rfl)
 dsimp only at kk16
 have kk14 := hKK _ (List.mem_of_getElem? (i := 4) rfl)
 dsimp only at kk14
 have kk15 := hKK _ (List.mem_of_getElem? (i := 5) rfl)
 dsimp only at kk15
 clear hKK
 have g11 := ofH hφ
 dsimp only at g11
 replace hφ := ofT hφ
 have g12 := ofH hφ
 dsimp only at g12
 replace hφ := ofT hφ
 have g13 := ofH hφ
 dsimp only at g13
 replace hφ := ofT hφ
 have g16 := ofH hφ
 dsimp only at g16
 replace hφ := ofT hφ
 have g14 := ofH hφ
 dsimp only at g14
 replace hφ := ofT hφ
 have g15 := ofH hφ
 dsimp only at g15
 clear hφ
 dsimp only [U2, A1w, List.foldr, List.map, List.cons_append, List.nil_append]
 generalize bs 11 = B43 at *
 generalize bs 12 = B31 at *
 generalize bs 13 = B44 at *
 generalize bs 16 = B4 at *
 generalize bs 14 = B45 at *
 generalize bs 15 = B46 at *
 generalize vs 11 = u43 at *
 generalize vs 12 = u31 at *
 generalize vs 13 = u44 at *
 generalize vs 16 = u4 at *
 generalize vs 14 = u45 at *
 generalize vs 15 = u46 at *
 obtain ⟨hP43, -⟩ := g11
 obtain ⟨rfl, -⟩ := g12
 obtain ⟨rfl, hK43⟩ := g13
 obtain ⟨rfl, p, r, u, rfl, hHe⟩ := g14
 obtain ⟨rfl, rfl⟩ := g15
 obtain ⟨b16, rfl, rfl⟩ := g16
 haveI := hK43.cel
 haveI := hHe.ia.cel
 haveI := hHe.ig.cel
 haveI := hHe.key.cel
 obtain ⟨H, hH⟩ : ∃ z, stH ak y (K9 bk s).2 = z := ⟨_, rfl⟩
 obtain ⟨K, hK⟩ : ∃ z, stK ak y (K9 bk s).2 = z := ⟨_, rfl⟩
 obtain ⟨s3, hs3⟩ : ∃ z, stS ak y (K9 bk s).2 = z := ⟨_, rfl⟩
 rw [hH] at hHe hag hans
 rw [hK] at hK43 hag hans hKl
 rw [hs3] at hP43 hag hbi hex hst hans
 rw [hH]
 dsimp only [heC]
 refine K6 hs rfl (I6 rfl) rfl ?_
 refine XK.tl rfl rfl rfl (A9 (vs := [p, r, u, .int .u32 ((H.signed : Nat) : Int), .bool H.has, .int .u32 ((H.once : Nat) : Int)]) rfl rfl rfl kR (by rfl) (C1 hHe.ia.one (C1 hHe.ig.one (C1 hHe.key.one al3))) UpC.upd ?_)
 refine K6 hs rfl (I6 rfl) rfl ?_
 refine P7 (E4 1 3 4 5) ?_
 refine D2 [0, 1, 2, 3, 4, 5, 6, 7, 8, 10, 11, 12, 13, 14, 15, 16] (zp 0 [0, 0, 0, 1, 0, 0, 0, 1, 1, 2, 0, 0, 0, 0, 0, 0, 0]) kR kR fun hs => ?_
 refine fm_ hs ?_
 refine D1 hs rfl (F5 rfl) rfl ?_
 refine D1 hs rfl (qf_ 0 0) rfl ?_
 refine F6 hs rfl ql_ rfl ?_
 refine fm_ hs ?_
 refine D1 hs rfl (F5 rfl) rfl ?_
 refine D1 hs rfl (qf_ 2 2) rfl ?_
 refine F6 hs rfl ql_ rfl ?_
 refine F6 hs rfl (qw_ 6) rfl ?_
 refine G3 rfl rfl rfl (D9 (Mc := B43) (R := _) (aS rfl (aS rfl (aS rfl (a0)))) kR PickC.perm (A11 pb s3 kb bk ua ug uq uo um ss so sm H p r u B43 _ (hrb _ SubC.sub SubC.sub) hrise hP43 (by omega) (hHe.mono SubC.sub) hG.up) rfl ?_)
 rintro v57 M57 J57 ⟨o1, o2, rfl, hP57, ho1, ho2⟩
 haveI := ho1.cel
 haveI := ho2.cel
 rw [hans] at hP57 ho1 ho2 ⊢
 change By _ o1 K at ho1
 change By _ o2 x.sec at ho2
 refine fm_ hs ?_
 refine D1 hs rfl (A2s rfl) rfl ?_
 refine D1 hs rfl (A18 rfl) rfl ?_
 refine D1 hs rfl (B5T rfl) rfl ?_
 refine fa_ hs ?_
 refine fa_ hs ?_
 refine fa_ hs ?_
 refine E0 (F7 3 5 6 7 8) (A3 (mv_ ?_))
 refine A4 (F9 true rfl rfl (eqT rfl)) rfl ?_
 refine mv_ ?_
 refine F4 rfl rfl (OpQ.opL qm_ rfl ?_)
 refine F4 rfl rfl (OpQ.opL (F9 true rfl rfl (eqT rfl)) rfl ?_)
 refine A4 (H5 rfl rfl) rfl ?_
 refine mv_ ?_
 refine F4 rfl rfl (OpQ.opL qm_ rfl ?_)
 refine F4 rfl rfl (OpQ.opL (H7 (sz := 1) rfl kR hK43.rd) rfl ?_)
 rw [hKl]
 refine F4 rfl rfl (OpQ.opL (F9 true rfl rfl (eqT rfl)) rfl ?_)
 refine A4 (H5 rfl rfl) rfl ?_
 refine mv_ ?_
 refine F4 rfl rfl (OpQ.opL qm_ rfl ?_)
 refine F4 rfl rfl (OpQ.opL (A0o rfl kR (hK43.rd.mono SubC.sub)) rfl ?_)
 refine F4 rfl rfl (OpQ.opL qm_ rfl ?_)
 refine F4 rfl rfl (OpQ.opL (A0o rfl kR (ho1.rd.mono SubC.sub)) rfl ?_)
 refine F4 rfl rfl (OpQ.opL ((show (decide (K = K)) = true by simp) ▸ B75 rfl rfl rfl rfl hK43.lt ho1.lt) rfl ?_)
 refine A4 (H5 rfl rfl) rfl ?_
 refine mv_ ?_
 refine F4 rfl rfl (OpQ.opL qm_ rfl ?_)
 refine F4 rfl rfl (OpQ.opL (H7 (sz := 1) rfl kR ho2.rd) rfl ?_)
 rw [hxl]
 refine F4 rfl rfl (OpQ.opL (F9 true rfl rfl (eqT rfl)) rfl ?_)
 refine A4 (H5 rfl rfl) rfl ?_
 refine as_ (A0 (D5 0) (C2 ?_))
 exact ⟨_, [], [], I0 rfl rfl, List.nil_sublist _, by simp, rfl, rfl, rfl⟩

theorem Kys.r2 {R : Mem} {kb : Nat} {k : Ks} {M : Mem} (h : Kys R kb k M) : ∃ va vg vs vo vm rs ro rm, RwL prR R rs k.signed ∧ ∀ R', (∀ x, x ∈ R → x ∈ R') → (∀ x, x ∈ M → x ∈ R') → KyR R' kb k va vg vs vo vm rs ro rm := by
  obtain ⟨va, vg, vs, vo, vm, rs, ro, rm, Bs, Bo, Bm, rfl, h2, h3, h4, h5, h6, h7, h8, h9, h10, h11, h12, h13⟩ := h.ex
  refine ⟨va, vg, vs, vo, vm, rs, ro, rm, h5, fun R' hR hM => ⟨hM _ List.mem_cons_self, h2.mono hR, h3.mono hR, h4.rd fun x hx => hM x (by simp [hx]), h5.mono prT hR, h6.rd fun x hx => hM x (by simp [hx]), h7.mono prT hR, h8.rd fun x hx => hM x (by simp [hx]), h9.mono nmT hR, by omega, by omega, by omega, by omega⟩⟩
theorem B2e (pb kb : Nat) (s : Ps) (k : Ks) (x : Pr) (sl : List Pr) (MK MP A : Mem) (hKs : Kys A kb k MK) (hsg : k.signed = x :: sl) (hP : Prm pb s MP) (hn : s.ts.length + 100 ≤ 1048576) (hol : k.once.length ≤ 10) (hG : Glb A) : FnX Tryz.prog 16 [.pointer (some ⟨kb, 0, none⟩), .pointer (some ⟨pb, 0, none⟩)] (MK ++ MP) A fun q M J => ∃ MP2, M = MK ++ MP2 ∧ Prm pb (K9 k s).2 MP2 ∧ ∃ rows, Rd J 10 q (K9 k s).1.length rows.flatten ∧ RwL bnR (J ++ A) rows (K9 k s).1 := by
 obtain ⟨va, vg, vq, vo, vm, rs, ro, rm, hsr, hkr⟩ := hKs.r2
 have hK := hkr (MK ++ A) (fun _ h => List.mem_append_right _ h) (fun _ h => List.mem_append_left _ h)
 have hkb := hK.blk_
 haveI := hK.agree.cel
 haveI := hK.sign.cel
 haveI := hK.signed.cel
 haveI := hK.once.cel
 haveI := hK.met.cel
 have il := A1x k s
 obtain ⟨r0, hr0, vs_, vg_, rfl, hs_, hg_, hxn⟩ := hsr.get 0 x (by rw [hsg]; rfl)
 haveI := hs_.cel
 haveI := hg_.cel
 refine FnX.enterZ (N := 62) Tryz.func16 rfl rfl rfl fun w_ => ?_
 refine C4 (D4 0 1) (A3 (as_ (A0 (D4 0 1) (A5 (A3 (mv_ ?_))))))
 refine A4 (F2 (e := 114) rfl rfl kR) rfl ?_
 refine A0 (E1 0 1 12) ?_
 refine D3 rfl ?_
 refine A8 (nx (D4 0 1) (A3 (mv_ ?_)))
 refine A4 (F5 rfl) rfl ?_
 refine A4 (qf_ 4 4) rfl ?_
 refine A4 (G8 rfl kR (SubC.sub _ hkb) (by rfl)) rfl ?_
 refine A4 (I4 (sz := 3) (a := 0) rfl rfl kR rfl hK.signed (by rw [hsg]; simp)) rfl ?_
 refine A4 (A0c rfl kR (hK.signed.mono SubC.sub) (hK.signedR.lens prT) (by decide) hr0) rfl ?_
 refine A6 rfl (C5 (cs := [.int .u32 0, .slice none 0 0, .slice none 0 0]) kR rfl fun b5 => ?_)
 refine A6 rfl (A9 (vs := [.int .u32 ((x.n : Nat) : Int), vs_, vg_]) rfl rfl rfl kR (by rfl) (C1 rfl (C1 hs_.one (C1 hg_.one K7))) UpC.upd ?_)
 refine A0 (E1 0 1 5) ?_
 refine I2 (MP) (_) true (.range 17) [(0, 0), (1, 0), (2, 0), (3, 1), (4, 0), (5, 0), (7, 0), (8, 1), (9, 0), (10, 0), (11, 1), (13, 0), (14, 1), (6, 3), (12, 3), (15, 3), (16, 4), (17, 2)] kR kR PickC.perm fun hs K n0 hKm hKs hKn => ?_
 refine km_ hs ?_
 refine K6 hs rfl (F5 rfl) rfl ?_
 refine K6 hs rfl (qf_ 0 0) rfl ?_
 refine Q5 hs rfl hKs (G9 (n := 2) rfl kR (SubC.sub _ hkb) TakeC.take) ?_
 refine km_ hs ?_
 refine km_ hs ?_
 refine K6 hs rfl (qf_ 0 0) rfl ?_
 refine Q5 hs rfl hKs ql_ ?_
 refine km_ hs ?_
 refine K6 hs rfl (qf_ 1 1) rfl ?_
 refine Q5 hs rfl hKs ql_ ?_
 refine K6 hs rfl (qf_ 2 2) rfl ?_
 refine Q5 hs rfl hKs ql_ ?_
 refine A1Z [⟨6, 25, none, MP, fun v B R => Prm pb (idS k s) B ∧ ∃ p q, v = .agg #[p, q] ∧ By R p (idA k s) ∧ By R q (idG k s)⟩, ⟨12, 31, some 6, [], fun v B R => Prm pb (I9 (idS k s) x.sec) B ∧ By R v (N6 (idS k s) x.sec)⟩, ⟨15, 34, none, [], fun v B R => B = [] ∧ ∃ p q u, v = .agg #[.int .i64 k.user, .int .i64 k.dev, p, q, .int .u32 ((x.n : Nat) : Int), u, vg_, .bool false, .int .u32 ((0 : Nat) : Int), .slice none 0 0] ∧ By R p (idA k s) ∧ By R q (idG k s) ∧ By R u (N6 (idS k s) x.sec)⟩, ⟨16, 6, none, [], fun v B _ => ∃ b, v = .pointer (some ⟨b, 0, none⟩) ∧ B = [(b, blk [.int .i64 0, .int .i64 0, .slice none 0 0, .slice none 0 0, .int .u32 0, .slice none 0 0, .slice none 0 0, .bool false, .int .u32 0, .slice none 0 0] 32)]⟩] (_) (fun bs => [bs 12, bs 15, bs 16]) (hKn rfl) (List.Perm.refl _) (show ∀ m ∈ ([MP, [], []] : List Mem), ∀ x ∈ m, K x.1 from C1 (hKm) (C1 (fun _ h => by cases h) (C1 (fun _ h => by cases h) (K7)))) kR (fun _ => by first | rfl | kernel_rfl)
  (C1 (fun _ _ _ _ h ⟨p1, p, q, e, p2, p3⟩ => ⟨p1, p, q, e, p2.mono h, p3.mono h⟩) (C1 (fun _ _ _ _ h ⟨p1, p2⟩ => ⟨p1, p2.mono h⟩) (C1 (fun _ _ _ _ h ⟨p1, p, q, u, e, p2, p3, p4⟩ => ⟨p1, p, q, u, e, p2.mono h, p3.mono h, p4.mono h⟩) (C1 (fun _ _ _ _ h hp => hp) (K7))))) (show List.Nodup [25, 31, 34, 6] by decide) (show List.Nodup [6, 12, 15, 16] by decide) (C1 (C8 rfl) (C1 (C8 rfl) (C1 (C8 rfl) (C1 (C8 rfl) (K7)))))
  (C1 ⟨_, rfl, fun vs bs R Rj wG hb hj hjr ha => ⟨.inl rfl, ?_⟩⟩ (C1 ⟨_, rfl, fun vs bs R Rj wG hb hj hjr ha => ⟨.inl rfl, ?_⟩⟩ (C1 ⟨_, rfl, fun vs bs R Rj wG hb hj hjr ha => ⟨.inl rfl, ?_⟩⟩ (C1 ⟨_, rfl, fun vs bs R Rj wG hb hj hjr ha => ⟨.inl rfl, ?_⟩⟩ (K7))))) ?_
 ·
  dsimp only [Gc.inp]
  refine D9 (Mc := MP) (R := []) (aS rfl (aS rfl (a0))) kR (by simp) (A7z pb s kb k va vg vq vo vm rs ro rm MP _ (hK.mono (fun x hx => by have := hb x (SubC.sub x hx); simp [this])) hP (by omega) (hG.sub (fun x hx => by have := hb x (SubC.sub x hx); simp [this]))) rfl ?_
  rintro v25 M25 J25 ⟨hP25, p, q, rfl, hp, hq⟩
  exact ⟨_, rfl, by simpa using hP25, p, q, rfl, hp.mono fun x hx => by simp [hx], hq.mono fun x hx => by simp [hx]⟩
 ·
  dsimp only [Gc.inp]
  have g6 := ha _ (List.mem_of_getElem? (i := 0) rfl) kR
  replace g6 : (fun v B R => Prm pb (idS k s) B ∧ ∃ p q, v = .agg #[p, q] ∧ By R p (idA k s) ∧ By R q (idG k s)) (vs 6) (bs 6) Rj := g6
  dsimp only at g6
  obtain ⟨hP25, -⟩ := g6
  refine D9 (Mc := bs 6) (R := []) (aS rfl (aS rfl (a0))) kR (by simp) (A0w pb (idS k s) vs_ x.sec (bs 6) _ hP25 (by omega) (hs_.mono (fun x hx => by have := hb x (SubC.sub x hx); simp [this])) (hG.sub (fun x hx => by have := hb x (SubC.sub x hx); simp [this]))) rfl ?_
  rintro v31 M31 J31 ⟨hP31, h31⟩
  exact ⟨_, rfl, by simpa using hP31, h31.mono fun x hx => by simp [hx]⟩
 ·
  dsimp only [Gc.inp]
  have g6 := ha _ (List.mem_of_getElem? (i := 0) rfl) kR
  replace g6 : (fun v B R => Prm pb (idS k s) B ∧ ∃ p q, v = .agg #[p, q] ∧ By R p (idA k s) ∧ By R q (idG k s)) (vs 6) (bs 6) Rj := g6
  dsimp only at g6
  have g12 := ha _ (List.mem_of_getElem? (i := 1) rfl) kR
  replace g12 : (fun v B R => Prm pb (I9 (idS k s) x.sec) B ∧ By R v (N6 (idS k s) x.sec)) (vs 12) (bs 12) Rj := g12
  dsimp only at g12
  obtain ⟨-, h31⟩ := g12
  obtain ⟨-, p, q, e25, hp, hq⟩ := g6
  haveI := h31.cel
  haveI := hp.cel
  haveI := hq.cel
  dsimp only [U2, List.map, List.cons_append, List.nil_append]
  rw [e25]
  exact OpQ.opL (F8 (place := fun x => #[(0, 2), (2, 2), (4, 1), (5, 1), (6, 1), (7, 1), (8, 1), (9, 1)][x]?) (z := [A2E, A2E, .slice none 0 0, .slice none 0 0, G6, .slice none 0 0, .slice none 0 0, .bool false, G6, .slice none 0 0]) (fun _ => by kernel_rfl) (eS rfl (eS rfl (eS rfl (eS rfl (eS rfl e0))))) (bdS 0 2 rfl (by rfl) (bdS 2 2 rfl (by rfl) (bdS 4 1 rfl (by rfl) (bdS 5 1 rfl (by rfl) (bdS 6 1 rfl (by rfl) bd0)))))) rfl ⟨_, rfl, rfl, p, q, _, rfl, hp, hq, h31⟩
 ·
  dsimp only [Gc.inp]
  exact C5 (cs := [A2E, A2E, .slice none 0 0, .slice none 0 0, G6, .slice none 0 0, .slice none 0 0, .bool false, G6, .slice none 0 0]) kR rfl fun b => ⟨_, rfl, b, rfl, rfl⟩
 intro vs bs Jn0 hφ hKK
 have kk6 := hKK _ (List.mem_of_getElem? (i := 0) rfl)
 dsimp only at kk6
 have kk12 := hKK _ (List.mem_of_getElem? (i := 1) rfl)
 dsimp only at kk12
 have kk15 := hKK _ (List.mem_of_getElem? (i := 2) rfl)
 dsimp only at kk15
 have kk16 := hKK _ (List.mem_of_getElem? (i := 3) rfl)
 dsimp only at kk16
 clear hKK
 have g6 := ofH hφ
 dsimp only at g6
 replace hφ := ofT hφ
 have g12 := ofH hφ
 dsimp only at g12
 replace hφ := ofT hφ
 have g15 := ofH hφ
 dsimp only at g15
 replace hφ := ofT hφ
 have g16 := ofH hφ
 dsimp only at g16
 clear hφ
 dsimp only [U2, A1w, List.foldr, List.map, List.cons_append, List.nil_append]
 generalize bs 6 = B25 at *
 generalize bs 12 = B31 at *
 generalize bs 15 = B34 at *
 generalize bs 16 = B6 at *
 generalize vs 6 = u25 at *
 generalize vs 12 = u31 at *
 generalize vs 15 = u34 at *
 generalize vs 16 = u6 at *
 obtain ⟨hP31, h31⟩ := g12
 clear g6
 obtain ⟨b6, rfl, rfl⟩ := g16
 obtain ⟨rfl, p, q, u, rfl, hp, hq, hu⟩ := g15
 haveI := hp.cel
 haveI := hq.cel
 haveI := hu.cel
 obtain ⟨bb, hbb⟩ : ∃ bb, A9w k x s = bb := ⟨_, rfl⟩
 obtain ⟨s2, hs2⟩ : ∃ s2, I9 (idS k s) x.sec = s2 := ⟨_, rfl⟩
 rw [hs2] at hP31
 have hs2l : s2.ts.length ≤ s.ts.length + 6 := by have := P3 (idS k s) x.sec; rw [hs2] at this; omega
 have hbun : K9 k s = A0F bb k.once s2 k.once.length := by unfold K9; rw [hsg, ← hbb, ← hs2]
 rw [hbun]
 have hbr : ∀ R, (∀ y, y ∈ Jn0 ++ [] ++ A → y ∈ R) → bnR R bb [.int .i64 k.user, .int .i64 k.dev, p, q, .int .u32 ((x.n : Nat) : Int), u, vg_, .bool false, .int .u32 ((0 : Nat) : Int), .slice none 0 0] := fun R hR => ⟨p, q, u, vg_, _, by rw [← hbb]; rfl, by rw [← hbb]; exact hp.mono hR, by rw [← hbb]; exact hq.mono hR, by rw [← hbb]; exact hu.mono hR, by rw [← hbb]; exact hg_.mono fun y hy => hR y (List.mem_append_right _ hy), by rw [← hbb]; exact By.nil, by rw [← hbb]; exact hxn, by rw [← hbb]; show 0 < 4294967296; decide⟩
 refine XK.tl rfl rfl rfl (A9 (vs := [.int .i64 k.user, .int .i64 k.dev, p, q, .int .u32 ((x.n : Nat) : Int), u, vg_, .bool false, .int .u32 ((0 : Nat) : Int), .slice none 0 0]) rfl rfl rfl kR (by rfl) (C1 rfl (C1 rfl (C1 hp.one (C1 hq.one (C1 rfl (C1 hu.one (C1 hg_.one al3))))))) UpC.upd ?_)
 refine P7 (E1 0 1 6) ?_
 refine A1M (B := [(b6, blk [.int .i64 k.user, .int .i64 k.dev, p, q, .int .u32 ((x.n : Nat) : Int), u, vg_, .bool false, .int .u32 ((0 : Nat) : Int), .slice none 0 0] 32)]) PickC.perm ?_
 refine A3 ?_
 refine A4 (qw_ 10) rfl ?_
 refine A6 rfl (C7 (e := 32) (sz := 10) (z := [A2E, A2E, .slice none 0 0, .slice none 0 0, G6, .slice none 0 0, .slice none 0 0, .bool false, G6, .slice none 0 0]) kR (eS rfl e0) (bdS 0 10 rfl (by rfl) bd0) rfl fun b36 => ?_)
 refine as_ (A0 (E4 0 1 6 7) (A5 (A3 (mv_ ?_))))
 refine A4 (F5 rfl) rfl ?_
 refine A4 (qf_ 5 5) rfl ?_
 refine A4 (G8 rfl kR (SubC.sub _ hkb) (by rfl)) rfl ?_
 refine A4 (H7 (sz := 3) rfl kR hK.once) rfl ?_
 refine mv_ (A0 (I1 1 6 7 40 41 42) (C0 ?_))
 refine F1 (α := Nat × (Value × List (List Value) × Mem) × Mem × Mem) (fun y => [(1, .pointer (some ⟨pb, 0, none⟩)), (6, .pointer (some ⟨b6, 0, none⟩)), (7, y.2.1.1), (40, vo), (41, .int .i64 ((k.once.length : Nat) : Int)), (42, .int .i64 ((y.1 : Nat) : Int))]) (fun y => y.2.1.2.2 ++ (y.2.2.1 ++ MK)) (fun y => y.2.2.2) (fun y => y.1 ≤ k.once.length ∧ Sl 10 y.2.1.1 (y.1 + 1) y.2.1.2.1.flatten y.2.1.2.2 ∧ RwL bnR (y.2.2.2 ++ A) y.2.1.2.1 (A0F bb k.once s2 y.1).1 ∧ Prm pb (A0F bb k.once s2 y.1).2 y.2.2.1 ∧ (b6, blk [.int .i64 k.user, .int .i64 k.dev, p, q, .int .u32 ((x.n : Nat) : Int), u, vg_, .bool false, .int .u32 ((0 : Nat) : Int), .slice none 0 0] 32) ∈ y.2.2.2 ∧ ∀ z, z ∈ Jn0 ++ [] ++ A → z ∈ y.2.2.2 ++ A) (fun y => k.once.length - y.1) (0, (.slice (some ⟨b36, 0, none⟩) 1 1, [[.int .i64 k.user, .int .i64 k.dev, p, q, .int .u32 ((x.n : Nat) : Int), u, vg_, .bool false, .int .u32 ((0 : Nat) : Int), .slice none 0 0]], [(b36, _)]), B31, _) ⟨Nat.zero_le _, Sl.fresh (n := 1) (cs := [.int .i64 k.user, .int .i64 k.dev, p, q, .int .u32 ((x.n : Nat) : Int), u, vg_, .bool false, .int .u32 ((0 : Nat) : Int), .slice none 0 0]) (e := 32) rfl (by decide), RwL.cons (hbr _ SubC.sub) RwL.nil, hP31, by simp, SubC.sub⟩ (I1 1 6 7 40 41 42) (Fit.pick (B := [_]) PickC.perm (Fit.pick PickC.perm (Fit.last PickC.perm))) (fun _ h => h) ?_
 rintro ⟨i, ⟨vi, ri, Bi⟩, MPi, Ji⟩ ⟨hi, hsi, hri, hPi, hJb, hJn⟩
 dsimp only at hi hsi hri hPi hJb hJn ⊢
 haveI := hsi.cel
 have hbl := A0x (b := bb) (s := s2) hi
 refine A3 ?_
 refine A4 (F3 rfl rfl rfl) rfl ?_
 refine A0 (V5 1 6 7 40 41 42 43) (A5 ?_)
 refine C6 rfl (fun hc => ?_) (fun hc => ?_)
 ·
  have hlt : i < k.once.length := by simp at hc; omega
  obtain ⟨o, ho⟩ : ∃ o, k.once[i]? = some o := ⟨_, List.getElem?_eq_getElem hlt⟩
  obtain ⟨r1, hr1, vo1, vo2, rfl, ho1, ho2, hon⟩ := hK.onceR.get i o ho
  haveI := ho1.cel
  haveI := ho2.cel
  have hbs := A0l (b := bb) (s := s2) ho
  refine A8 (nx (I1 1 6 7 40 41 42) (A5 (C0 (A3 ?_))))
  refine A4 (I4 (sz := 3) rfl rfl kR rfl hK.once hlt) rfl ?_
  refine A4 (A0c rfl kR (hK.once.mono SubC.sub) (hK.onceR.lens prT) (by decide) hr1) rfl ?_
  refine A6 rfl (C5 (cs := [.int .u32 0, .slice none 0 0, .slice none 0 0]) kR rfl fun b9 => ?_)
  refine A6 rfl (A9 (vs := [.int .u32 ((o.n : Nat) : Int), vo1, vo2]) rfl rfl rfl kR (by rfl) (C1 rfl (C1 ho1.one (C1 ho2.one K7))) UpC.upd ?_)
  refine A0 (V5 1 6 7 9 40 41 42) (A3 ?_)
  refine A4 (H6 (n := 10) rfl kR (List.mem_append_right _ (List.mem_append_left _ hJb)) (by rfl)) rfl ?_
  refine A6 rfl (C5 (cs := [A2E, A2E, .slice none 0 0, .slice none 0 0, G6, .slice none 0 0, .slice none 0 0, .bool false, G6, .slice none 0 0]) kR rfl fun b10 => ?_)
  refine A6 rfl (A9 (vs := [.int .i64 k.user, .int .i64 k.dev, p, q, .int .u32 ((x.n : Nat) : Int), u, vg_, .bool false, .int .u32 ((0 : Nat) : Int), .slice none 0 0]) rfl rfl rfl kR (by rfl) (C1 rfl (C1 rfl (C1 hp.one (C1 hq.one (C1 rfl (C1 hu.one (C1 hg_.one al3))))))) UpC.upd ?_)
  refine A0 (A12 1 6 7 9 10 40 41 42) ?_
  refine I2 (MPi ++ [(b10, blk [.int .i64 k.user, .int .i64 k.dev, p, q, .int .u32 ((x.n : Nat) : Int), u, vg_, .bool false, .int .u32 ((0 : Nat) : Int), .slice none 0 0] 32)]) (_) true [0, 1, 2, 3, 4, 5, 6, 7, 8, 10] [(0, 0), (1, 1), (2, 0), (3, 0), (4, 1), (6, 0), (5, 2), (7, 2), (8, 0), (9, 2), (10, 0), (11, 2)] kR kR PickC.perm fun hs K n0 hKm hKs hKn => ?_
  refine K6 hs rfl (qf_ 0 0) rfl ?_
  refine Q5 hs rfl hKs ql_ ?_
  refine km_ hs ?_
  refine K6 hs rfl (qf_ 1 1) rfl ?_
  refine Q5 hs rfl hKs ql_ ?_
  refine K6 hs rfl (qf_ 7 7) rfl ?_
  refine K8 MPi _ rfl rfl PickC.perm (fun y hy => hKm y (by simp [hy])) fun w0 => (D9 (Mc := MPi) (R := _) (aS rfl (aS rfl (a0))) kR PickC.perm (A0w pb _ vo1 o.sec MPi _ hPi (by omega) (ho1.mono SubC.sub) hG.up) rfl ?_)
  rintro v52 M52 J52 ⟨hP52, h52⟩ hKx52
  haveI := h52.cel
  refine K8 [(b10, blk [.int .i64 k.user, .int .i64 k.dev, p, q, .int .u32 ((x.n : Nat) : Int), u, vg_, .bool false, .int .u32 ((0 : Nat) : Int), .slice none 0 0] 32)] _ rfl rfl PickC.perm (fun y hy => hKm y (by simp at hy; simp [hy])) fun w0 => (D8 rfl rfl rfl kR SetC.set UpC.upd ?_)
  intro hkS
  dsimp only [List.cons_append, List.nil_append, List.append_eq]
  refine K6 hs rfl (qf_ 8 8) rfl ?_
  refine XK.tl rfl rfl rfl (D8 rfl rfl rfl kR SetC.set UpC.upd ?_)
  refine K6 hs rfl (qf_ 9 9) rfl ?_
  refine XK.tl rfl rfl rfl (D8 rfl rfl h52.one kR SetC.set UpC.upd ?_)
  refine P7 (V5 1 6 7 10 40 41 42) (C3 (mv_ ?_))
  refine A4 (qw_ 10) rfl ?_
  refine A6 rfl (C7 (e := 32) (sz := 10) (z := [A2E, A2E, .slice none 0 0, .slice none 0 0, G6, .slice none 0 0, .slice none 0 0, .bool false, G6, .slice none 0 0]) kR (eS rfl e0) (bdS 0 10 rfl (by rfl) bd0) rfl fun b58 => ?_)
  refine A6 rfl (I8 (e := 32) (sz := 10) (by_ := 152) rfl rfl kR rfl hsi (Rd.whole (n := 1) At.mem (by rfl)) (C1 rfl (C1 rfl (C1 hp.one (C1 hq.one (C1 rfl (C1 hu.one (C1 hg_.one (C1 rfl (C1 rfl (C1 h52.one K7)))))))))) PickC.perm (by unfold maxLen; omega) (by omega) rfl fun v59 B59 hs59 => ?_)
  refine as_ (C9 (nb (nx (I1 1 6 7 40 41 42) (C3 ?_))))
  refine A4 (E3 ((i + 1 : Nat) : Int) rfl rfl (G2 (by omega) (by omega) (by omega))) rfl ?_
  refine mv_ (C9 ?_)
  exact rn (i + 1, (v59, ri ++ [[.int .i64 k.user, .int .i64 k.dev, p, q, .int .u32 ((x.n : Nat) : Int), u, vg_, .bool true, .int .u32 ((o.n : Nat) : Int), v52]], B59), M52, _) ⟨by dsimp only; omega, by simpa using hs59, by dsimp only; rw [hbs]; exact (hri.mono bnT SubC.sub).snoc ⟨p, q, u, vg_, v52, by rw [← hbb]; rfl, by rw [← hbb]; exact hp.mono fun z hz => SubC.sub z (hJn z hz), by rw [← hbb]; exact hq.mono fun z hz => SubC.sub z (hJn z hz), by rw [← hbb]; exact hu.mono fun z hz => SubC.sub z (hJn z hz), by rw [← hbb]; exact hg_.mono SubC.sub, h52.mono SubC.sub, by rw [← hbb]; exact hxn, hon⟩, by dsimp only; rw [hbs]; exact hP52, List.mem_append_right _ hJb, fun z hz => SubC.sub z (hJn z hz)⟩ (by dsimp only; omega) (I1 1 6 7 40 41 42) (Fit.pick PickC.perm (Fit.pick PickC.perm (Fit.last PickC.perm))) (fun _ h => h)
 ·
  have hge : i = k.once.length := by simp at hc; omega
  subst hge
  refine E5 (te (re (be rfl (nx (D5 7) (A3 (mv_ (as_ (A0 (D5 4) ?_))))))))
  refine C2 ?_
  exact ⟨_, MK ++ MPi, Bi, I0 rfl rfl, Fit.pick PickC.perm (Fit.pick PickC.perm (Fit.last PickC.perm)), MPi, rfl, hPi, ri, by rw [hbl.1]; exact hsi.rd fun x hx => by simp [hx], hri.mono bnT SubC.sub⟩

end Go.Proofs.YthbhpfefdnffaaaGreatDoor
