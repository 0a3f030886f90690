/- Part 13 of the texts of this claim, one behind the other. -/
import Derived.Test.YtpemeceacdhacaaGreatDoorB12
import Derived.Lib.Overlaps
set_option linter.unusedVariables false
set_option linter.unusedSimpArgs false
set_option maxRecDepth 100000
namespace Go.Px
def A1H : List Nat → List (Nat × Nat)
  | [] => []
  | [q] => [(q, 10)]
  | q :: q' :: r => (q, 9) :: A1H (q' :: r)
def A5r (qs : List Nat) : List Nat → List (Nat × Nat)
  | [] => A1H qs
  | i :: r => (i, 8) :: A5r qs r
theorem B00 (plan : List (Nat × Nat)) : ∀ {qs : List Nat}, qs ≠ [] → grz (A1H qs ++ plan) = qs ∧ qsz (A1H qs ++ plan) = qs
  | [], h => absurd rfl h
  | [q], _ => ⟨rfl, rfl⟩
  | q :: q' :: r, _ => by
    obtain ⟨h1, h2⟩ := B00 plan (qs := q' :: r) (by simp)
    refine ⟨?_, ?_⟩
    · show q :: grz (A1H (q' :: r) ++ plan) = _; rw [h1]
    · show q :: qsz (A1H (q' :: r) ++ plan) = _; rw [h2]
theorem A3W {qs : List Nat} (plan : List (Nat × Nat)) (h : qs ≠ []) : ∀ r : List Nat, grz (A5r qs r ++ plan) = r ++ qs ∧ qsz (A5r qs r ++ plan) = qs
  | [] => B00 plan h
  | i :: r => by
    obtain ⟨h1, h2⟩ := A3W plan h r
    refine ⟨?_, ?_⟩
    · show i :: grz (A5r qs r ++ plan) = _; rw [h1]; rfl
    · show qsz (A5r qs r ++ plan) = _; rw [h2]
inductive GOz (ops : Array Oper) (qs : List Nat) : Array Bool → List Nat → Array Bool → Prop
  | nil {A : Array Bool} : GOz ops qs A [] A
  | cons {A B : Array Bool} {i : Nat} {r : List Nat} (hr : i ∈ Region.ready .any ops A) (ho : i ∉ qs → ∀ j, j < ops.size → A.getD j true = false → j ∉ i :: r → anc ops ops.size j i = true) (h : GOz ops qs (A.setIfInBounds i true) r B) : GOz ops qs A (i :: r) B
theorem A4L {ops : Array Oper} {nd : List Nat} {Q : List Nat} {plan : List (Nat × Nat)} : ∀ {qs : List Nat} {A : Array Bool}, qs ≠ [] → (∀ q ∈ qs, q ∈ Q) → H9 ops nd (A1H qs ++ plan) A = true → ∃ B, GOz ops Q A qs B ∧ (∀ q ∈ qs, A1K ops A q = true) ∧ H9 ops nd plan B = true
  | [], A, h, _, _ => absurd rfl h
  | [q], A, _, hQ, h => by
    simp only [A1H, List.cons_append, List.nil_append, H9, Bool.and_eq_true] at h
    exact ⟨_, .cons (by simpa using h.1.1) (fun hq => absurd (hQ q (by simp)) hq) .nil, (fun x hx => by rw [List.mem_singleton.1 hx]; exact h.1.2), h.2⟩
  | q :: q' :: r, A, _, hQ, h => by
    simp only [A1H, List.cons_append, H9, Bool.and_eq_true] at h
    obtain ⟨B, hB, -, hp⟩ := A4L (qs := q' :: r) (by simp) (fun x hx => hQ x (List.mem_cons_of_mem _ hx)) h.2
    refine ⟨B, .cons (by simpa using h.1.1) (fun hq => absurd (hQ q (by simp)) hq) hB, fun x hx => ?_, hp⟩
    have h2 := h.1.2
    rw [(B00 plan (qs := q' :: r) (by simp)).2] at h2
    exact List.all_eq_true.1 h2 x hx
theorem A7e {ops : Array Oper} {nd : List Nat} {qs : List Nat} {plan : List (Nat × Nat)} (hne : qs ≠ []) : ∀ {is : List Nat} {A : Array Bool}, H9 ops nd (A5r qs is ++ plan) A = true → ∃ B, GOz ops qs A (is ++ qs) B ∧ (∀ q ∈ qs, A1K ops A q = true) ∧ H9 ops nd plan B = true
  | [], A, h => A4L hne (fun _ h => h) h
  | i :: r, A, h => by
    simp only [A5r, List.cons_append, H9, A3q, Bool.and_eq_true, List.all_eq_true, List.mem_range, Bool.or_eq_true, (A3W plan hne r).1, (A3W plan hne r).2] at h
    obtain ⟨B, hB, -, hp⟩ := A7e hne (is := r) h.2
    refine ⟨B, .cons (by simpa using h.1.1.1) (fun _ j hj hu hn => ?_) hB, h.1.2, hp⟩
    rcases h.1.1.2 j hj with (h1 | h1) | h1
    · rw [hu] at h1; cases h1
    · exact absurd (by simpa using h1) hn
    · exact h1
theorem GOz.mark {ops : Array Oper} {q : List Nat} {A B : Array Bool} {is : List Nat} (h : GOz ops q A is B) : B = mark A is := by
  induction h with
  | nil => rfl
  | cons _ _ _ ih => rw [ih]; rfl
theorem GOz.un {ops : Array Oper} {q : List Nat} {A B : Array Bool} {is : List Nat} (h : GOz ops q A is B) : ∀ i ∈ is, A.getD i true = false := by
  induction h with
  | nil => intro i hi; cases hi
  | @cons A B i r hr ho h ih =>
    intro k hk
    rcases List.mem_cons.1 hk with rfl | hk
    · exact I0 hr
    · have h2 := ih k hk
      by_cases e : i = k
      · subst e; exact I0 hr
      · rwa [getD_set_ne true e] at h2
theorem GOz.outer {ops : Array Oper} {q : List Nat} {A B : Array Bool} {is : List Nat} (h : GOz ops q A is B) : ∀ i ∈ is, i ∉ q → ∀ j, j < ops.size → A.getD j true = false → j ∉ is → anc ops ops.size j i = true := by
  induction h with
  | nil => intro i hi; cases hi
  | @cons A B i r hr ho h ih =>
    intro k hk hq j hj hu hn
    rcases List.mem_cons.1 hk with rfl | hk
    · exact ho hq j hj hu hn
    · have hne : i ≠ j := fun e => hn (e ▸ List.mem_cons_self)
      exact ih k hk hq j hj (by rw [getD_set_ne true hne]; exact hu) (fun hm => hn (List.mem_cons_of_mem _ hm))
theorem GOz.first {ops : Array Oper} {q : List Nat} {A B : Array Bool} {is : List Nat} (h : GOz ops q A is B) {A' : Array Bool} (hsz : A'.size = A.size) (hm : ∀ j, A.getD j false = true → A'.getD j false = true) {k : Nat} (hk : k ∈ is) (hk' : A'.getD k true = false) : ∃ i, i ∈ is ∧ i ∈ Region.ready .any ops A' := by
  induction h generalizing k with
  | nil => cases hk
  | @cons A B i r hr ho h ih =>
    by_cases hi : A'.getD i true = false
    · exact ⟨i, List.mem_cons_self, A1Q hr hi hm⟩
    · rcases List.mem_cons.1 hk with rfl | hk
      · exact absurd hk' hi
      · obtain ⟨x, hx1, hx2⟩ := ih (by simpa using hsz) (fun j hj => by
          by_cases e : i = j
          · subst e
            have hlt := Q2 (I0 hr)
            have hlt' : i < A'.size := by omega
            simp [hlt'] at hi ⊢; exact hi
          · rw [getD_set_ne false e] at hj
            exact hm j hj) hk hk'
        exact ⟨x, List.mem_cons_of_mem _ hx1, hx2⟩
section group
variable {C : Cx} {Q : XQ} {l : Env} {M M0 J : Mem} {os : List Oper} {K : Nat → Prop} {n0 : Nat} {nd : List Nat} {plan : List (Nat × Nat)}
def B01 (C : Cx) (os : List Oper) (l : Env) (J : Mem) (G : List Gc) (g : Gc) : Prop :=
  g.s = none ∧ g.m = [] ∧ ∃ op ty pos af, nth os g.i = some ⟨some g.d, op, ty, pos, af, none⟩ ∧ ∀ (vs : Nat → Value) (bs : Nat → Mem) (Rj : Mem), (∀ x ∈ J ++ C.A, x ∈ Rj) → (∀ g' ∈ G, anc os.toArray os.toArray.size g.i g'.i = true → g'.φ (vs g'.i) (bs g'.i) Rj) →
    ∃ v, OpQ C.P [] ⟨some g.d, op, ty, pos, af, none⟩ (L5 G vs ++ l) v ∧ g.φ v [] Rj
theorem A7f {G : List Gc} (hmono : ∀ g ∈ G, A1m g.φ) (hd : (G.map (·.d)).Nodup) (hi : (G.map (·.i)).Nodup) (hc : ChainOk os.toArray G) (hKn : ∀ b, n0 ≤ b → K b) (hK : ∀ m ∈ U7 G, ∀ x ∈ m, K x.1) (hs : Region.noSelect os.toArray = true) (hdN : ∀ g ∈ G, g.d < C.N) {qs : List Nat} (hob : ∀ g ∈ G, g.i ∉ qs → A6v C os l M0 J G g) (hoq : ∀ g ∈ G, g.i ∈ qs → B01 C os l J G g) {A B : Array Bool} (hok : GOz os.toArray qs A (G.map (·.i)) B) (hfr : ∀ q ∈ qs, A1K os.toArray A q = true)
    (hfin : ∀ (vs : Nat → Value) (bs : Nat → Mem) Jn a w, (∀ g ∈ G, g.φ (vs g.i) (bs g.i) ((Jn ++ J) ++ C.A)) → (∀ g ∈ G, ∀ x ∈ bs g.i, K x.1) → Ag C.N (L5 G vs ++ l) a → St C ((A47 G bs).flatten ++ M0) (Jn ++ J) w → n0 ≤ w.heap.size → T7 C.P os.toArray (L4 (A3k C Q)) (Sk K) nd.contains plan.length B a w) :
    ∀ (n : Nat) (X : List Nat) (vs : Nat → Value) (bs : Nat → Mem) (Jn : Mem) (a : Act) (w : World), X.Nodup → (∀ i ∈ X, i ∈ G.map (·.i)) → n + X.length = G.length → K8 os.toArray (mark A X) → (∀ g ∈ G, g.i ∈ X → ∀ s, g.s = some s → s ∈ X) →
      (∀ g ∈ G, g.i ∈ X → g.φ (vs g.i) (bs g.i) ((Jn ++ J) ++ C.A)) → (∀ g ∈ G, g.i ∈ X → ∀ x ∈ bs g.i, K x.1) → Ag C.N (L5 G vs ++ l) a → St C (A3H X bs G ++ M0) (Jn ++ J) w → n0 ≤ w.heap.size →
      T7 C.P os.toArray (L4 (A3k C Q)) (Sk K) nd.contains (n + plan.length) (mark A X) a w := by
  intro n
  induction n with
  | zero =>
    intro X vs bs Jn a w hnd hX hlen hcl hXs hφ hN ha hw hn
    have hall : ∀ i, i ∈ X ↔ i ∈ G.map (·.i) := fun i => ⟨hX i, A0m hnd hX (by simp; omega) i⟩
    have hin : ∀ g ∈ G, g.i ∈ X := fun g hg => (hall _).2 (List.mem_map_of_mem (f := Gc.i) hg)
    have hcur := A4w (bs := bs) hin
    rw [hcur] at hw
    rw [Nat.zero_add, A2g hall, ← hok.mark]
    exact hfin vs bs Jn a w (fun g hg => hφ g hg (hin g hg)) (fun g hg => hN g hg (hin g hg)) ha hw hn
  | succ n ih =>
    intro X vs bs Jn a w hnd hX hlen hcl hXs hφ hN ha hw hn
    have hun : ∀ i ∈ G.map (·.i), A.getD i true = false := hok.un
    by_cases hqe : ∃ g ∈ G, g.i ∈ qs ∧ g.i ∈ Region.ready .any os.toArray (mark A X)
    · obtain ⟨g, hg, hgq, hqr⟩ := hqe
      obtain ⟨hsn, hmn, op, ty, pos, af, hget, howe⟩ := hoq g hg hgq
      have hi' : os.toArray[g.i]? = some ⟨some g.d, op, ty, pos, af, none⟩ := by rw [P1] at hget; simpa using hget
      have hiG : g.i ∈ G.map (·.i) := List.mem_map_of_mem (f := Gc.i) hg
      have hiX : g.i ∉ X := fun h => (G1.1 (I0 hqr)).2 ⟨h, Q2 (hun _ hiG)⟩
      obtain ⟨v, hq, hφv⟩ := howe vs bs ((Jn ++ J) ++ C.A) (fun x hx => by simp only [List.mem_append] at hx ⊢; rcases hx with h | h <;> simp [h]) (fun g' hg' hanc => hφ g' hg' (by
        have h3 := K9 hcl hanc hqr
        rcases S1 h3 with h4 | h4
        · exact (N4 (hun _ (List.mem_map_of_mem (f := Gc.i) hg')) h4).elim
        · exact h4))
      rw [show n + 1 + plan.length = (n + plan.length) + 1 by omega]
      refine Q1 (S := Sk K) (T := fun _ => True) (N := 0) (v := v) hi' (Region.noSelect_spec hs) (fun _ _ _ h => h) (fun _ _ _ _ => rfl) _ (mark A X) a w hcl (fun j oj hj hne hun' hno => A4P hi' (hfr _ hgq) j oj hj hne (G1.1 hun').1 (by
        cases ha0 : anc os.toArray os.toArray.size g.i j with
        | false => rfl
        | true => exact (N4 hun' (K9 hcl ha0 hqr)).elim) hno) (fun _ _ _ _ => .inr fun _ _ _ _ => trivial) hqr (.inl ⟨rfl, fun w hw => hq C.N a w ha (fun _ _ hb => by cases hb)⟩) trivial ?_
      rw [← N1]
      have hsx : ∀ s, g.s = some s → s ∈ X := fun s hs' => by rw [hsn] at hs'; cases hs'
      obtain ⟨R0, hp0, hq0⟩ := A1v (bs := bs) hi hc hg hiX hXs hsx
      rw [Gc.inp_none hsn, hmn] at hp0
      let bs' : Nat → Mem := fun k => if k = g.i then [] else bs k
      have hperm : (A3H X bs G ++ M0).Perm (A3H (X ++ [g.i]) bs' G ++ M0) := List.Perm.append_right _ (hp0.trans (hq0 []))
      have ha' : Ag C.N ((g.d, v) :: (L5 G vs ++ l)) (a.put (some g.d) v) := ha.put (hdN g hg) v
      have henv := A0n (N := C.N) (G := A8b G) (l := l) (vs := vs) (g := ⟨g.i, g.d, fun _ _ => True⟩) (a := a.put (some g.d) v) (v := v) (List.mem_map_of_mem (f := fun g : Gc => (⟨g.i, g.d, fun _ _ => True⟩ : Gm)) hg) (by rw [A6t]; exact hd) (by rw [A6s]; exact hi) (by rw [Y2]; exact ha')
      rw [Y2] at henv
      refine ih (X ++ [g.i]) (fun k => if k = g.i then v else vs k) bs' Jn (a.put (some g.d) v) w ?_ ?_ (by simp; omega) ?_ ?_ ?_ ?_ henv (hw.perm hperm) hn
      · rw [List.nodup_append]; exact ⟨hnd, by simp, fun x hx y hy e => hiX (by simp at hy; subst hy; exact e ▸ hx)⟩
      · intro j hj
        rcases List.mem_append.1 hj with hj | hj
        · exact hX j hj
        · simp at hj; subst hj; exact hiG
      · rw [N1]; exact G3 hcl hqr
      · intro g' hg' hm s hs'
        rcases List.mem_append.1 hm with h | h
        · exact List.mem_append_left _ (hXs g' hg' h s hs')
        · have h2 : g' = g := U4 hi hg' hg (by simpa using h)
          subst h2
          exact List.mem_append_left _ (hsx s hs')
      · intro g' hg' hm
        by_cases e : g'.i = g.i
        · have : g' = g := U4 hi hg' hg e
          subst this
          simp only [if_true, bs']
          exact hφv
        · simp only [e, if_false, bs']
          exact hφ g' hg' (by simpa [e] using hm)
      · intro g' hg' hk x hx
        by_cases e : g'.i = g.i
        · simp only [e, if_true, bs'] at hx
          cases hx
        · simp only [e, if_false, bs'] at hx
          exact hN g' hg' (by simpa [e] using hk) x hx
    have hmiss : ∃ k ∈ G.map (·.i), k ∉ X ∧ k ∉ qs := by
      apply Classical.byContradiction
      intro hno
      have hs' : ∀ k ∈ G.map (·.i), k ∉ qs → k ∈ X := fun k hk hne => Classical.byContradiction fun h => hno ⟨k, hk, h, hne⟩
      by_cases hall : ∀ k ∈ G.map (·.i), k ∈ X
      · have := A0l hi hall
        simp at this; omega
      · obtain ⟨k, hk⟩ := Classical.not_forall.1 hall
        obtain ⟨hkG, hkX⟩ := Classical.not_imp.1 hk
        obtain ⟨i, hiG, hir⟩ := hok.first (X3 A X) (fun j hj => X4 hj) hkG (G1.2 ⟨hun _ hkG, fun h => hkX h.1⟩)
        have hiX : i ∉ X := fun h => (G1.1 (I0 hir)).2 ⟨h, Q2 (hun _ hiG)⟩
        by_cases e : i ∈ qs
        · obtain ⟨g, hg, rfl⟩ := List.mem_map.1 hiG
          exact hqe ⟨g, hg, e, hir⟩
        · exact hiX (hs' i hiG e)
    obtain ⟨k, hkG, hkX, hkq⟩ := hmiss
    have hkun : (mark A X).getD k true = false := G1.2 ⟨hun k hkG, fun h => hkX h.1⟩
    rw [show n + 1 + plan.length = (n + plan.length) + 1 by omega]
    refine ⟨fun h0 => ?_, fun i hir => ?_⟩
    · obtain ⟨i, -, hir⟩ := hok.first (X3 A X) (fun j hj => X4 hj) hkG hkun
      rw [h0] at hir; cases hir
    · have hiG : i ∈ G.map (·.i) := by
        apply Classical.byContradiction
        intro hno
        have h1 := G1.1 (I0 hir)
        have h2 := hok.outer k hkG hkq i (A0Y hir) h1.1 hno
        exact N4 hkun (K9 hcl h2 hir)
      obtain ⟨g, hg, rfl⟩ := List.mem_map.1 hiG
      have hiX : g.i ∉ X := fun h => (G1.1 (I0 hir)).2 ⟨h, Q2 (hun _ hiG)⟩
      have hin : ∀ j ∈ G.map (·.i), anc os.toArray os.toArray.size g.i j = true → j ∈ X := fun j hj hanc => by
        have h3 := K9 hcl hanc hir
        rcases S1 h3 with h4 | h4
        · exact (N4 (hun _ hj) h4).elim
        · exact h4
      have hsx : ∀ s, g.s = some s → s ∈ X := fun s hs => hin s (hc.mem g hg s hs) (hc.anc g hg s hs)
      have hKi : ∀ x ∈ g.inp bs, K x.1 := by
        intro x hx
        cases hs : g.s with
        | none =>
          rw [Gc.inp_none hs] at hx
          exact hK g.m (List.mem_map.2 ⟨g, List.mem_filter.2 ⟨hg, by simp [hs]⟩, rfl⟩) x hx
        | some s =>
          rw [Gc.inp_some hs] at hx
          obtain ⟨gs, hgs, rfl⟩ := List.mem_map.1 (hc.mem g hg s hs)
          exact hN gs hgs (hsx _ hs) x hx
      obtain ⟨o, hget, howe⟩ := hob g hg (fun e => hqe ⟨g, hg, e, hir⟩)
      have hi' : os.toArray[g.i]? = some o := by rw [P1] at hget; simpa using hget
      obtain ⟨hask, hop⟩ := howe vs bs (M0 ++ ((Jn ++ J) ++ C.A)) ((Jn ++ J) ++ C.A) w (fun x hx => by simp only [List.mem_append] at hx ⊢; rcases hx with h | h | h <;> simp [h]) (fun x hx => by simp only [List.mem_append] at hx ⊢; rcases hx with h | h <;> simp [h]) (fun x hx => List.mem_append_right _ hx) (fun g' hg' hanc => hφ g' hg' (hin _ (List.mem_map_of_mem (f := Gc.i) hg') hanc))
      unfold wpOp
      simp only [hi']
      rw [if_pos (hask.wanted ha)]
      obtain ⟨R0, hp0, hq0⟩ := A1v (bs := bs) hi hc hg hiX hXs hsx
      have hpc : (A3H X bs G ++ M0).Perm (g.inp bs ++ (R0 ++ M0)) := by
        rw [← List.append_assoc]; exact List.Perm.append_right _ hp0
      have hcal := hw.callee hpc
      have hcal2 := St.less (A := M0 ++ ((Jn ++ J) ++ C.A)) hcal fun x hx => by
        simp only [List.mem_append] at hx ⊢
        rcases hx with h | h
        · exact .inl (.inr h)
        · exact .inr h
      refine .inl (Oper.wp_mono ?_ (hop _ a w ha hcal2.cx))
      rintro a' w' ⟨l', M', J', ha', hs', v, rfl, hφv⟩
      have hsz : w.heap.size ≤ w'.heap.size := hs'.size
      have hs2 := St.widen hcal.cx hs'
      have hb := hw.back hpc hs2.cx
      let bs' : Nat → Mem := fun k => if k = g.i then M' else bs k
      have hperm : (M' ++ (R0 ++ M0)).Perm (A3H (X ++ [g.i]) bs' G ++ M0) := by
        rw [← List.append_assoc]
        exact List.Perm.append_right _ (hq0 M')
      have hfr2 : St C (A3H (X ++ [g.i]) bs' G ++ M0) ((J' ++ Jn) ++ J) w' := (hb.perm hperm).drop (List.Sublist.refl _) fun x hx => by
        simp only [List.mem_append] at hx ⊢
        rcases hx with (h | h) | h <;> simp [h]
      refine ⟨fun _ b hb' hnk => hs'.frame b hb' fun hm => ?_, ?_⟩
      · obtain ⟨x, hx, e⟩ := List.mem_map.1 hm
        exact hnk (e ▸ hKi x hx)
      rw [← N1]
      have henv := A0n (N := C.N) (G := A8b G) (l := l) (vs := vs) (g := ⟨g.i, g.d, fun _ _ => True⟩) (a := a') (v := v) (List.mem_map_of_mem (f := fun g : Gc => (⟨g.i, g.d, fun _ _ => True⟩ : Gm)) hg) (by rw [A6t]; exact hd) (by rw [A6s]; exact hi) (by rw [Y2]; exact ha')
      rw [Y2] at henv
      refine ih (X ++ [g.i]) (fun k => if k = g.i then v else vs k) bs' (J' ++ Jn) a' w' ?_ ?_ (by simp; omega) ?_ ?_ ?_ ?_ henv hfr2 (Nat.le_trans hn hsz)
      · rw [List.nodup_append]; exact ⟨hnd, by simp, fun x hx y hy e => hiX (by simp at hy; subst hy; exact e ▸ hx)⟩
      · intro j hj
        rcases List.mem_append.1 hj with hj | hj
        · exact hX j hj
        · simp at hj; subst hj; exact hiG
      · rw [N1]; exact G3 hcl hir
      · intro g' hg' hm s hs
        rcases List.mem_append.1 hm with h | h
        · exact List.mem_append_left _ (hXs g' hg' h s hs)
        · have h2 : g' = g := U4 hi hg' hg (by simpa using h)
          subst h2
          exact List.mem_append_left _ (hsx s hs)
      · intro g' hg' hm
        by_cases e : g'.i = g.i
        · have : g' = g := U4 hi hg' hg e
          subst this
          simp only [if_true, bs']
          exact hmono g' hg' _ _ _ _ (fun x hx => by simp only [List.mem_append] at hx ⊢; rcases hx with h | (h | h) | h <;> simp [h]) hφv
        · simp only [e, if_false, bs']
          have hm' : g'.i ∈ X := by simpa [e] using hm
          exact hmono g' hg' _ _ _ _ (fun x hx => by simp only [List.mem_append] at hx ⊢; rcases hx with (h | h) | h <;> simp [h]) (hφ g' hg' hm')
      · intro g' hg' hk x hx
        by_cases e : g'.i = g.i
        · have : g' = g := U4 hi hg' hg e
          subst this
          simp only [if_true, bs'] at hx
          rcases hs'.own x.1 x.2 (by simp [hx]) with h6 | h6
          · obtain ⟨y, hy, e6⟩ := List.mem_map.1 h6
            exact e6 ▸ hKi y hy
          · exact hKn _ (Nat.le_trans hn h6)
        · simp only [e, if_false, bs'] at hx
          have hk' : g'.i ∈ X := by simpa [e] using hk
          exact hN g' hg' hk' x hx
theorem V9 (G0 Gq : List Gc) (M0 : Mem) (Lf : (Nat → Mem) → List Mem) (hKn : ∀ b, n0 ≤ b → K b) (hM : M.Perm (N9 (U7 (G0 ++ Gq)) M0)) (hK : ∀ m ∈ U7 (G0 ++ Gq), ∀ x ∈ m, K x.1) (hck : A3I os.toArray ((G0 ++ Gq).map fun g => (g.i, g.s)) = true) (hLf : ∀ bs, A47 (G0 ++ Gq) bs = Lf bs)
    (hmono : ∀ g ∈ G0 ++ Gq, A1m g.φ) (hd : ((G0 ++ Gq).map (·.d)).Nodup) (hi : ((G0 ++ Gq).map (·.i)).Nodup) (hdN : ∀ g ∈ G0 ++ Gq, g.d < C.N) (hs : Region.noSelect os.toArray = true) (hne : Gq.map (·.i) ≠ []) (hob0 : ∀ g ∈ G0, A6v C os l M0 J (G0 ++ Gq) g) (hoq0 : ∀ g ∈ Gq, B01 C os l J (G0 ++ Gq) g)
    (h : ∀ (vs : Nat → Value) (bs : Nat → Mem) Jn, (∀ g ∈ G0 ++ Gq, g.φ (vs g.i) (bs g.i) ((Jn ++ J) ++ C.A)) → (∀ g ∈ G0 ++ Gq, ∀ x ∈ bs g.i, K x.1) → XK C os Q K n0 nd plan (L5 (G0 ++ Gq) vs ++ l) (N9 (Lf bs) M0) (Jn ++ J)) : XK C os Q K n0 nd (A5r (Gq.map (·.i)) (G0.map (·.i)) ++ plan) l M J := by
  refine Z7 hM ?_
  rw [A03]
  intro listed hcl hp a w ha hw hn
  obtain ⟨B, hok, hfr, hp2⟩ := A7e hne hp
  have hBcl : K8 os.toArray B := by
    have : ∀ {A is B}, GOz os.toArray (Gq.map (·.i)) A is B → K8 os.toArray A → K8 os.toArray B := by
      intro A is B h
      induction h with
      | nil => exact id
      | cons hr _ _ ih => exact fun hc => ih (G3 hc hr)
    exact this hok hcl
  rw [← List.map_append] at hok
  have hlen : (A5r (Gq.map (·.i)) (G0.map (·.i)) ++ plan).length = (G0 ++ Gq).length + plan.length := by
    have h1 : ∀ qs : List Nat, (A1H qs).length = qs.length := by
      intro qs
      induction qs with
      | nil => rfl
      | cons q r ih => cases r with
        | nil => rfl
        | cons q' r => simp only [A1H, List.length_cons] at ih ⊢; rw [ih]
    have h2 : ∀ (qs is : List Nat), (A5r qs is).length = is.length + qs.length := by
      intro qs is
      induction is with
      | nil => simp [A5r, h1]
      | cons i r ih => simp only [A5r, List.length_cons, ih]; omega
    simp [h2]
  have hob : ∀ g ∈ G0 ++ Gq, g.i ∉ Gq.map (·.i) → A6v C os l M0 J (G0 ++ Gq) g := fun g hg hq => by
    rcases List.mem_append.1 hg with h1 | h1
    · exact hob0 g h1
    · exact absurd (List.mem_map_of_mem (f := Gc.i) h1) hq
  have hoq : ∀ g ∈ G0 ++ Gq, g.i ∈ Gq.map (·.i) → B01 C os l J (G0 ++ Gq) g := fun g hg hq => by
    obtain ⟨g', hg', e⟩ := List.mem_map.1 hq
    have := U4 hi (List.mem_append_right _ hg') hg e
    exact this ▸ hoq0 g' hg'
  rw [hlen]
  generalize Gq.map (·.i) = qs at *
  generalize G0 ++ Gq = G at *
  let vs : Nat → Value := fun k => match G.find? (fun g => g.i == k) with
    | some g => (a.tmps[g.d]?).getD undef
    | none => undef
  have hag : Ag C.N (L5 G vs ++ l) a := by
    refine ⟨ha.defers, ha.size, ?_⟩
    intro k u hk
    have key : ∀ G' : List Gc, (∀ g ∈ G', g ∈ G) → lk (L5 G' vs ++ l) k = some u → a.tmps[k]? = some u := by
      intro G'
      induction G' with
      | nil => intro _ h; exact ha.slot k u h
      | cons g G' ih =>
        intro hs h
        simp only [L5, List.map_cons, List.cons_append, lk] at h
        by_cases e : g.d = k
        · subst e
          simp at h
          have hf : G.find? (fun x => x.i == g.i) = some g := by
            have hgG := hs g List.mem_cons_self
            cases hq : G.find? (fun x => x.i == g.i) with
            | none => have := List.find?_eq_none.1 hq g hgG; simp at this
            | some x =>
              have h1 := List.find?_some hq
              have h2 := List.mem_of_find?_eq_some hq
              rw [U4 hi h2 hgG (by simpa using h1)]
          have hlt : g.d < a.tmps.size := by rw [ha.size]; exact hdN g (hs g List.mem_cons_self)
          rw [← h]
          show a.tmps[g.d]? = some (vs g.i)
          simp only [vs, hf, Array.getElem?_eq_getElem hlt, Option.getD_some]
        · simp only [R5 e, cond_false] at h
          exact ih (fun x hx => hs x (List.mem_cons_of_mem _ hx)) h
    exact key G (fun _ h => h) hk
  refine A7f (n0 := n0) (K := K) hmono hd hi (A4u hck) hKn hK hs hdN hob hoq hok hfr (fun vs bs Jn a w hφ hN ha hw hn => h vs bs Jn hφ hN B hBcl hp2 a w ha (by rw [A03, ← hLf]; exact hw) hn) G.length [] vs (fun _ => []) [] a w .nil (fun _ h => by cases h) (by simp) hcl (fun _ _ h => by cases h) (fun _ _ h => by cases h) (fun _ _ h => by cases h) hag (by rw [A4v]; exact hw) hn
end group
end Go.Px

namespace Go.Proofs.YtpemeceacdhacaaGreatDoor
open Go.Px
def he0 : He := ⟨[], [], [], 0, false, 0⟩
def A9E (x : Ses) (r2 : Rsd) : Ses := ⟨x.id, x.wi, he0, false, r2⟩
theorem A8N {R : Mem} : HeR R he0 (vS) (vS) (vS) := ⟨By.nil, By.nil.i, By.nil, by decide, by decide⟩
set_option maxHeartbeats 1000000 in
theorem A7g (pb : Nat) (s : Ps) (x : Ses) (vi vw p0 r0 u0 vo vt vr vk0 vl vst : Value) (e : Ev) (vz p r u vk vg : Value) (s2 : Ps) (r2 : Rsd) (tx : LN) (MP A : Mem) (hP : Prm pb s MP) (hn_ : s.ts.length + 500 ≤ 1000000) (hsn : s.n < 1000000000) (hx : SeR A x vi vw p0 r0 u0 vo vt vr vk0 vl vst) (he_ : EvR A e vz p r u vk vg) (hid : x.id = e.ses) (hwi : x.wi.length ≤ 1000000) (hel : e.ses.length + e.he.ia.length + e.he.ig.length + e.he.key.length ≤ 1000000) (hfl : (x.wi ++ frW [] e).length + e.hk.length ≤ 1000000) (hgl : e.g.length ≤ 10000000) (hO : OpnH s x.r e.hk e.hp e.hn) (hoz : U9 s x.r (x.wi ++ frW [] e) e.hk e.hp e.hn e.g = (s2, r2, 0, tx)) (hG : Glb A) : FnX Tryz.prog 23 [(vP pb), .agg (seC vi vw p0 r0 u0 vo vt vr vk0 vl vst x).toArray, .agg (evC vz p r u vk vg e).toArray] MP A fun q M J => ∃ wo wt wr wk wl wq q2, q = .tuple #[.agg (seC vi vw (vS) (vS) (vS) wo wt wr wk wl wq (A9E x r2)).toArray, q2, .int .i64 0] ∧ Prm pb s2 M ∧ SeR (J ++ A) (A9E x r2) vi vw (vS) (vS) (vS) wo wt wr wk wl wq ∧ By (J ++ A) q2 tx := by
 haveI := he_.ses.cel
 haveI := he_.he.ia.cel
 haveI := he_.he.ig.cel
 haveI := he_.he.key.cel
 haveI := he_.hk.cel
 haveI := he_.g.cel
 haveI := hx.id.cel
 haveI := hx.wi.cel
 haveI := hx.he.ia.cel
 haveI := hx.he.ig.cel
 haveI := hx.he.key.cel
 haveI := hx.r.own.cel
 haveI := hx.r.their.cel
 haveI := hx.r.root.cel
 haveI := hx.r.sk.cel
 haveI := hx.r.tk.cel
 haveI := hx.r.st.cel
 unfold seC evC
 refine FnX.enterZ (N := 45) Tryz.func23 rfl rfl rfl fun w_ => ?_
 refine A7 (E0 0 1 2) (A1 ?_)
 refine A4 rfl (bx_ fun b4 => ?_)
 refine A4 rfl (bx_ fun b5 => ?_)
 refine A4 rfl (C5 (cs := [vS, vS, vS, vS, vS, D3, .bool false, D3, .bool false, vS, vS, vS, vS, D3, vS, D3, D3, .pointer none]) kR rfl fun b6 => ?_)
 refine as_ (as_ (A0 (F2 0 4 5 6) (A6 (A1 ?_))))
 refine A3 (qf_ 0 0) rfl ?_
 refine A3 ql_ rfl ?_
 refine A3 (qf_ 4 4) rfl ?_
 refine A3 ql_ rfl ?_
 refine D6 (aS rfl (aS rfl a0)) kR (S7 vi vz x.id e.ses _ (hx.id.mono qS) (he_.ses.mono qS)) rfl ?_
 rw [decide_eq_true hid]
 refine A3 (P2 rfl) rfl ?_
 refine A0 (H5 0 4 5 6 17) ?_
 refine B0 rfl ?_
 refine A5 (nx (F2 0 4 5 6) ?_)
 refine D9 (MP) (_) true [0, 1, 2, 3, 4, 5, 6, 7, 8, 9, 10, 11, 12, 13, 14, 15, 17, 18] [(0, 0), (1, 0), (2, 1), (3, 1), (4, 1), (6, 0), (7, 1), (8, 0), (9, 1), (5, 8), (10, 8), (11, 8), (12, 8), (15, 8), (13, 9), (14, 10), (16, 2), (17, 0), (18, 0)] kR kR qP fun hs K n0 hKm hKs hKn => ?_
 refine km_ hs ?_
 refine E2 hs rfl (qf_ 9 9) rfl ?_
 refine H4 hs rfl hKs (D5 (n := 9) (vs := [vo, vt, vr, vk0, (vU x.r.sn), vl, (vU x.r.tn), (vU x.r.prev), vst]) rfl kR At.mem rfl (C2 [vi, vw, p0, r0, u0, (vU x.he.signed), .bool x.he.has, (vU x.he.once), .bool x.tell] [vo, vt, vr, vk0, (vU x.r.sn), vl, (vU x.r.tn), (vU x.r.prev), vst] [])) ?_
 refine H4 hs rfl hKs (D5 (n := 18) (vs := [vi, vw, p0, r0, u0, (vU x.he.signed), .bool x.he.has, (vU x.he.once), .bool x.tell, vo, vt, vr, vk0, (vU x.r.sn), vl, (vU x.r.tn), (vU x.r.prev), vst]) rfl kR At.mem rfl (C2 [] [vi, vw, p0, r0, u0, (vU x.he.signed), .bool x.he.has, (vU x.he.once), .bool x.tell, vo, vt, vr, vk0, (vU x.r.sn), vl, (vU x.r.tn), (vU x.r.prev), vst] [])) ?_
 refine H4 hs rfl hKs (D5 (n := 16) (vs := [.int .i64 e.fu, .int .i64 e.fd, .int .i64 e.tu, .int .i64 e.td, vz, .bool e.has, p, r, u, (vU e.he.signed), .bool e.he.has, (vU e.he.once), vk, (vU e.hp), (vU e.hn), vg]) rfl kR At.mem rfl (C2 [] [.int .i64 e.fu, .int .i64 e.fd, .int .i64 e.tu, .int .i64 e.td, vz, .bool e.has, p, r, u, (vU e.he.signed), .bool e.he.has, (vU e.he.once), vk, (vU e.hp), (vU e.hn), vg] [])) ?_
 refine E2 hs rfl (qf_ 12 12) rfl ?_
 refine H4 hs rfl hKs (D5 (n := 3) (vs := [vk, (vU e.hp), (vU e.hn)]) rfl kR At.mem rfl (C2 [.int .i64 e.fu, .int .i64 e.fd, .int .i64 e.tu, .int .i64 e.td, vz, .bool e.has, p, r, u, (vU e.he.signed), .bool e.he.has, (vU e.he.once)] [vk, (vU e.hp), (vU e.hn)] [vg])) ?_
 refine E2 hs rfl (qf_ 15 15) rfl ?_
 refine H4 hs rfl hKs ql_ ?_
 refine V9 [⟨5, 25, none, [], fun v B R => B = [] ∧ By R v (x.wi ++ frW [] e)⟩, ⟨10, 30, none, MP, fun v B R => ∃ q1 q2, v = .tuple #[q1, q2, .int .i64 0] ∧ Prm pb s2 B ∧ RsV R q1 r2 ∧ By R q2 tx⟩, ⟨11, 19, none, [], fun v B R => B = [] ∧ ∃ q1 q2, v = .tuple #[q1, q2, .int .i64 0] ∧ RsV R q1 r2 ∧ By R q2 tx⟩, ⟨12, 31, none, [], fun v B R => B = [] ∧ RsV R v r2⟩, ⟨15, 9, none, [], fun v B _ => ∃ b, v = (vP b) ∧ B = [(b, blk [vS, vS, vS, vS, .int .u32 0, vS, .int .u32 0, .int .u32 0, .pointer none] 38)]⟩] [⟨13, 32, none, [], fun v B R => B = [] ∧ By R v tx⟩, ⟨14, 33, none, [], fun v B R => B = [] ∧ v = .int .i64 0⟩] ([(b6, blk [vS, vS, vS, vS, vS, .int .u32 0, .bool false, .int .u32 0, .bool false, vS, vS, vS, vS, .int .u32 0, vS, .int .u32 0, .int .u32 0, .pointer none] 40), (b5, blk [.int .i64 e.fu, .int .i64 e.fd, .int .i64 e.tu, .int .i64 e.td, vz, .bool e.has, p, r, u, (vU e.he.signed), .bool e.he.has, (vU e.he.once), vk, (vU e.hp), (vU e.hn), vg] 61), (b4, blk [vi, vw, p0, r0, u0, (vU x.he.signed), .bool x.he.has, (vU x.he.once), .bool x.tell, vo, vt, vr, vk0, (vU x.r.sn), vl, (vU x.r.tn), (vU x.r.prev), vst] 40)]) (fun bs => [bs 5, bs 10, bs 11, bs 12, bs 15, bs 13, bs 14]) (hKn rfl) (by simp [N9, U7]) (show ∀ m ∈ ([[], MP, [], [], [], [], []] : List Mem), ∀ x ∈ m, K x.1 from A2 (fun _ h => by cases h) (A2 (hKm) (A2 (fun _ h => by cases h) (A2 (fun _ h => by cases h) (A2 (fun _ h => by cases h) (A2 (fun _ h => by cases h) (A2 (fun _ h => by cases h) (G9)))))))) kR (fun _ => by first | rfl | kernel_rfl)
  (A2 (fun _ _ _ _ h hp => ⟨hp.1, hp.2.mono h⟩) (A2 (fun _ _ _ _ h ⟨q1, q2, e_, p1, p2, p3⟩ => ⟨q1, q2, e_, p1, p2.mono h, p3.mono h⟩) (A2 (fun _ _ _ _ h ⟨e0, q1, q2, e_, p2, p3⟩ => ⟨e0, q1, q2, e_, p2.mono h, p3.mono h⟩) (A2 (fun _ _ _ _ h hp => ⟨hp.1, hp.2.mono h⟩) (A2 (fun _ _ _ _ _ h => h) (A2 (fun _ _ _ _ h hp => ⟨hp.1, hp.2.mono h⟩) (A2 (fun _ _ _ _ _ h => h) (G9)))))))) (show List.Nodup [25, 30, 19, 31, 9, 32, 33] by decide) (show List.Nodup [5, 10, 11, 12, 15, 13, 14] by decide) (A2 (C4 rfl) (A2 (C4 rfl) (A2 (C4 rfl) (A2 (C4 rfl) (A2 (C4 rfl) (A2 (C4 rfl) (A2 (C4 rfl) (G9))))))))
  hs (List.cons_ne_nil _ _) (A2 ⟨_, rfl, fun vs bs R Rj wG hb hj hjr ha => ⟨.inl rfl, ?_⟩⟩ (A2 ⟨_, rfl, fun vs bs R Rj wG hb hj hjr ha => ⟨.inl rfl, ?_⟩⟩ (A2 ⟨_, rfl, fun vs bs R Rj wG hb hj hjr ha => ⟨.inl rfl, ?_⟩⟩ (A2 ⟨_, rfl, fun vs bs R Rj wG hb hj hjr ha => ⟨.inl rfl, ?_⟩⟩ (A2 ⟨_, rfl, fun vs bs R Rj wG hb hj hjr ha => ⟨.inl rfl, ?_⟩⟩ (G9)))))) (A2 ⟨rfl, rfl, _, _, _, _, rfl, fun vs bs Rj hj ha => ?_⟩ (A2 ⟨rfl, rfl, _, _, _, _, rfl, fun vs bs Rj hj ha => ?_⟩ (G9))) ?_
 ·
  dsimp only [Gc.inp]
  refine I5 (aS rfl (aS rfl a0)) kR (FnX.amb (A := Rj) (fun x hx => by have := hjr x hx; simp [this]) (A2B x vi vw p0 r0 u0 vo vt vr vk0 vl vst e vz p r u vk vg Rj (hx.mono (fun x hx => hj x (qS x hx))) (he_.mono (fun x hx => hj x (qS x hx))) hwi hel)) rfl ?_
  rintro r M1 J1 ⟨rfl, hh⟩
  exact ⟨_, rfl, rfl, hh.mono fun x hx => by simp [hx]⟩
 ·
  dsimp only [Gc.inp]
  have g5 := ha _ (List.mem_of_getElem? (i := 0) rfl) kR
  replace g5 : (fun v B R => B = [] ∧ By R v (x.wi ++ frW [] e)) (vs 5) (bs 5) Rj := g5
  dsimp only at g5
  obtain ⟨-, h5⟩ := g5
  haveI := h5.cel
  refine B3 (Mc := MP) (R := []) (aS rfl (aS rfl (aS rfl (aS rfl (aS rfl (a0)))))) kR qM (FnX.amb (A := Rj) (fun x hx => by have := hjr x hx; simp [this]) (B0W pb s x.r vo vt vr vk0 vl vst _ vk vg (x.wi ++ frW [] e) e.hk e.g e.hp e.hn MP Rj hP hn_ hsn (hx.r.mono (fun x hx => hj x (qS x hx))) h5 (he_.hk.mono (fun x hx => hj x (qS x hx))) hfl he_.hp he_.hn (he_.g.mono (fun x hx => hj x (qS x hx))) hgl hO.sel hO.k1 hO.s2 hO.k2 (hG.sub (fun x hx => hj x (qS x hx))))) rfl ?_
  rintro v27 M27 J27 ⟨q1, q2, rfl, hP27, p2, p3⟩
  rw [hoz] at hP27 p2 p3 ⊢
  exact ⟨_, rfl, q1, q2, rfl, by simpa using hP27, p2.mono (fun x hx => by simpa using hx), p3.mono (fun x hx => by simpa using hx)⟩
 ·
  dsimp only [Gc.inp]
  have g10 := ha _ (List.mem_of_getElem? (i := 1) rfl) kR
  replace g10 : (fun v B R => ∃ q1 q2, v = .tuple #[q1, q2, .int .i64 0] ∧ Prm pb s2 B ∧ RsV R q1 r2 ∧ By R q2 tx) (vs 10) (bs 10) Rj := g10
  dsimp only at g10
  obtain ⟨q1, q2, e_, -, k⟩ := g10
  exact OpQ.opL qm_ rfl ⟨_, rfl, rfl, q1, q2, e_, k⟩
 ·
  dsimp only [Gc.inp]
  have g11 := ha _ (List.mem_of_getElem? (i := 2) rfl) kR
  replace g11 : (fun v B R => B = [] ∧ ∃ q1 q2, v = .tuple #[q1, q2, .int .i64 0] ∧ RsV R q1 r2 ∧ By R q2 tx) (vs 11) (bs 11) Rj := g11
  dsimp only at g11
  obtain ⟨-, q1, q2, e_, k, -⟩ := g11
  exact OpQ.opL (F8 (vs := #[q1, q2, .int .i64 0]) (by rw [← e_]; rfl) rfl) rfl ⟨_, rfl, rfl, k⟩
 ·
  dsimp only [Gc.inp]
  exact C5 (cs := [vS, vS, vS, vS, D3, vS, D3, D3, .pointer none]) kR rfl fun b => ⟨_, rfl, b, rfl, rfl⟩
 ·
  have g11 := ha _ (List.mem_of_getElem? (i := 2) rfl) kR
  replace g11 : (fun v B R => B = [] ∧ ∃ q1 q2, v = .tuple #[q1, q2, .int .i64 0] ∧ RsV R q1 r2 ∧ By R q2 tx) (vs 11) (bs 11) Rj := g11
  dsimp only at g11
  obtain ⟨-, q1, q2, e_, -, k⟩ := g11
  exact ⟨_, F8 (vs := #[q1, q2, .int .i64 0]) (by rw [← e_]; rfl) rfl, rfl, k⟩
 ·
  have g11 := ha _ (List.mem_of_getElem? (i := 2) rfl) kR
  replace g11 : (fun v B R => B = [] ∧ ∃ q1 q2, v = .tuple #[q1, q2, .int .i64 0] ∧ RsV R q1 r2 ∧ By R q2 tx) (vs 11) (bs 11) Rj := g11
  dsimp only at g11
  obtain ⟨-, q1, q2, e_, -⟩ := g11
  exact ⟨_, F8 (vs := #[q1, q2, .int .i64 0]) (by rw [← e_]; rfl) rfl, rfl, rfl⟩
 intro vs bs Jn0 hφ hKK
 have kk5 := hKK _ (List.mem_of_getElem? (i := 0) rfl)
 dsimp only at kk5
 have kk10 := hKK _ (List.mem_of_getElem? (i := 1) rfl)
 dsimp only at kk10
 have kk11 := hKK _ (List.mem_of_getElem? (i := 2) rfl)
 dsimp only at kk11
 have kk12 := hKK _ (List.mem_of_getElem? (i := 3) rfl)
 dsimp only at kk12
 have kk15 := hKK _ (List.mem_of_getElem? (i := 4) rfl)
 dsimp only at kk15
 have kk13 := hKK _ (List.mem_of_getElem? (i := 5) rfl)
 dsimp only at kk13
 have kk14 := hKK _ (List.mem_of_getElem? (i := 6) rfl)
 dsimp only at kk14
 clear hKK
 have g5 := ofH hφ
 dsimp only at g5
 replace hφ := ofT hφ
 have g10 := ofH hφ
 dsimp only at g10
 replace hφ := ofT hφ
 have g11 := ofH hφ
 dsimp only at g11
 replace hφ := ofT hφ
 have g12 := ofH hφ
 dsimp only at g12
 replace hφ := ofT hφ
 have g15 := ofH hφ
 dsimp only at g15
 replace hφ := ofT hφ
 have g13 := ofH hφ
 dsimp only at g13
 replace hφ := ofT hφ
 have g14 := ofH hφ
 dsimp only at g14
 clear hφ
 dsimp only [L5, N9, List.foldr, List.map, List.cons_append, List.nil_append]
 generalize bs 5 = B25 at *
 generalize bs 10 = B30 at *
 generalize bs 11 = B19 at *
 generalize bs 12 = B31 at *
 generalize bs 15 = B9 at *
 generalize bs 13 = B32 at *
 generalize bs 14 = B33 at *
 generalize vs 5 = u25 at *
 generalize vs 10 = u30 at *
 generalize vs 11 = u19 at *
 generalize vs 12 = u31 at *
 generalize vs 15 = u9 at *
 generalize vs 13 = u32 at *
 generalize vs 14 = u33 at *
 obtain ⟨-, -, -, hP27, -⟩ := g10
 clear g11
 obtain ⟨rfl, h25⟩ := g5
 obtain ⟨rfl, wo, wt, wr, wk, wl, wq, rfl, hn1⟩ := g12
 obtain ⟨rfl, h29⟩ := g13
 obtain ⟨rfl, rfl⟩ := g14
 obtain ⟨b9, rfl, rfl⟩ := g15
 haveI := hn1.own.cel
 haveI := hn1.their.cel
 haveI := hn1.root.cel
 haveI := hn1.sk.cel
 haveI := hn1.tk.cel
 haveI := hn1.st.cel
 haveI := h29.cel
 unfold rsC
 refine I4 rfl rfl rfl (A9 (vs := [wo, wt, wr, wk, (vU r2.sn), wl, (vU r2.tn), (vU r2.prev), wq]) rfl rfl rfl kR qR (A2 hn1.own.one (A2 hn1.their.one (A2 hn1.root.one (A2 hn1.sk.one (A2 rfl (A2 hn1.tk.one (A2 rfl (A2 rfl (A2 hn1.st.one G9))))))))) UpC.upd ?_)
 refine E2 hs rfl (E8 rfl) rfl ?_
 refine E2 hs rfl (E8 rfl) rfl ?_
 refine G2 (H5 4 6 9 10 11) (A6 (A1 (mv_ ?_)))
 refine A3 (E7 false rfl rfl (neF rfl)) rfl ?_
 refine A0 (I8 4 6 9 10 11 35) ?_
 refine B0 rfl ?_
 refine A5 (nx (F2 4 6 9 10) (A1 ?_))
 refine A3 (D5 (n := 9) (vs := [wo, wt, wr, wk, (vU r2.sn), wl, (vU r2.tn), (vU r2.prev), wq]) rfl kR At.mem rfl (C2 [] [wo, wt, wr, wk, (vU r2.sn), wl, (vU r2.tn), (vU r2.prev), wq] [])) rfl ?_
 refine A3 (D7 (place := fun x => #[(0, 2), (2, 1), (3, 1), (4, 1), (5, 1)][x]?) (z := [vS, vS, vS, .int .u32 0, .bool false, .int .u32 0]) (fun _ => by kernel_rfl) e0 bd0) rfl ?_
 refine A3 (qf_ 9 9) rfl ?_
 refine A4 rfl (I1 (vs := [wo, wt, wr, wk, (vU r2.sn), wl, (vU r2.tn), (vU r2.prev), wq]) (cs' := [vi, vw, p0, r0, u0, (vU x.he.signed), .bool x.he.has, (vU x.he.once), .bool x.tell, wo, wt, wr, wk, (vU r2.sn), wl, (vU r2.tn), (vU r2.prev), wq]) rfl rfl rfl kR (by exact (show 9 + 9 ≤ 18 by decide)) (A2 hn1.own.one (A2 hn1.their.one (A2 hn1.root.one (A2 hn1.sk.one (A2 rfl (A2 hn1.tk.one (A2 rfl (A2 rfl (A2 hn1.st.one G9))))))))) rfl UpC.upd ?_)
 refine A3 (qf_ 8 8) rfl ?_
 refine A4 rfl (F0 rfl rfl rfl kR SetC.set UpC.upd ?_)
 refine A3 (qf_ 2 2) rfl ?_
 refine A4 rfl (I1 (vs := [vS, vS, vS, .int .u32 0, .bool false, .int .u32 0]) (cs' := [vi, vw, vS, vS, vS, .int .u32 0, .bool false, .int .u32 0, .bool false, wo, wt, wr, wk, (vU r2.sn), wl, (vU r2.tn), (vU r2.prev), wq]) rfl rfl rfl kR (by exact (show 2 + 6 ≤ 18 by decide)) al6 rfl UpC.upd ?_)
 refine A0 (E0 4 6 10) (A1 ?_)
 refine A3 (D5 (n := 18) (vs := [vi, vw, vS, vS, vS, .int .u32 0, .bool false, .int .u32 0, .bool false, wo, wt, wr, wk, (vU r2.sn), wl, (vU r2.tn), (vU r2.prev), wq]) rfl kR At.mem rfl (C2 [] [vi, vw, vS, vS, vS, .int .u32 0, .bool false, .int .u32 0, .bool false, wo, wt, wr, wk, (vU r2.sn), wl, (vU r2.tn), (vU r2.prev), wq] [])) rfl ?_
 refine mv_ ?_
 refine A4 rfl (A9 (vs := [vi, vw, vS, vS, vS, .int .u32 0, .bool false, .int .u32 0, .bool false, wo, wt, wr, wk, (vU r2.sn), wl, (vU r2.tn), (vU r2.prev), wq]) rfl rfl rfl kR qR (A2 hx.id.one (A2 hx.wi.one (A2 rfl (A2 rfl (A2 rfl (A2 rfl (A2 rfl (A2 rfl (A2 rfl (A2 hn1.own.one (A2 hn1.their.one (A2 hn1.root.one (A2 hn1.sk.one (A2 rfl (A2 hn1.tk.one (A2 rfl (A2 rfl (A2 hn1.st.one G9)))))))))))))))))) UpC.upd ?_)
 refine as_ (as_ (A0 (E0 6 7 8) (A8 ?_)))
 exact ⟨_, B30, [], A0O (n := 18) rfl rfl rfl rfl kR At.mem qR, Fit.none (Fit.last qP), wo, wt, wr, wk, wl, wq, _, rfl, hP27, ⟨hx.id.mono qS, hx.wi.mono qS, A8N, (show 0 ≤ 1000000 by decide), hn1.mono qS⟩, h29.mono qS⟩

end Go.Proofs.YtpemeceacdhacaaGreatDoor
namespace Go.Px
section ins
variable {C : Cx} {l : Env} {M J : Mem} {K : Env → Mem → Mem → Prop} {d : Nat} {od : Option Nat} {ty t tn e : TypeId} {pos : String} {af : Array Edge} {g : Option (Nat × Bool)} {x y : Operand}
theorem A2C {sz by_ n m j : Nat} {v u : Value} {xs ys : List Value} {B M0 : Mem} (hx : ev l x = some (vLo j sz v)) (hy : ev l y = some u) (ht : A0Q C.P t = some (e, sz, by_))
    (hs : Sl sz v n xs B) (hr : Rd (M ++ (J ++ C.A)) sz u m ys) (h1 : ∀ c ∈ ys.take (min m (n - j) * sz), c.oneCell' = true) (hj : j < n) (hM : M.Perm (B ++ M0)) (hd : Nat.blt d C.N = true)
    (k : ∀ B', Sl sz v n (xs.take (j * sz) ++ ys.take (min m (n - j) * sz) ++ xs.drop (j * sz + min m (n - j) * sz)) B' → K ((d, .int .i64 ((min m (n - j) : Nat) : Int)) :: l) (B' ++ M0) J) :
    OpL C ⟨some d, .call { callee := .builtin .copy, args := #[x, y], argTypes := #[t, t] }, ty, pos, af, g⟩ l M J K := by
  intro Qp a w ha hw
  obtain ⟨i, z, hut, hi, hz, hzs, his, hib⟩ := P3 ht
  subst his
  obtain ⟨pu, cu, rfl, hul, huc, hub⟩ := hr
  have hru : Rd (M ++ (J ++ C.A)) i.size (.slice pu m cu) m ys := ⟨pu, cu, rfl, hul, huc, hub⟩
  rcases hs with ⟨p, rfl, rfl, rfl, rfl⟩ | ⟨b, o, cap, cs, e', rfl, rfl, h3, h4, h5, h6, h7⟩
  · omega
  · have hw2 := hw.fit (Fit.perm hM) fun _ h => h
    have hb := hw2.mem b (blk cs e') (by simp)
    have hf := A0U (P := C.P) (m := m) (c2 := cu) (hru.hi (min m (n - j)) (Nat.min_le_left _ _)) hw.fx
    have hyl : (ys.take (min m (n - j) * i.size)).length = min m (n - j) * i.size := by
      rw [List.length_take, hul]
      exact Nat.min_eq_left (Nat.mul_le_mul_right _ (Nat.min_le_left _ _))
    have hle : j * i.size + min m (n - j) * i.size ≤ n * i.size := by
      rw [← Nat.add_mul]; exact Nat.mul_le_mul_right _ (by omega)
    have hcm : n * i.size ≤ cap * i.size := Nat.mul_le_mul_right _ h3
    have hst := run_storeCells_at (P := C.P) b (o + j * i.size) e' (ys.take (min m (n - j) * i.size)) 0 cs.toArray w hb (by rw [hyl]; simp; omega) h1
    simp only [Nat.add_zero] at hst
    have hxv : vLo j i.size (.slice (some ⟨b, o, none⟩) n cap) = .slice (some ⟨b, o + j * i.size, none⟩) (n - j) (cap - j) := by
      simp only [vLo, if_neg (show ¬ cap = j by omega), Option.map_some, Addr.add_mid]
    rw [hxv] at hx
    generalize hyt : ys.take (min m (n - j) * i.size) = yt at *
    have hrun : (execOp a.eval ⟨some d, .call { callee := .builtin .copy, args := #[x, y], argTypes := #[t, t] }, ty, pos, af, g⟩).run C.P w = .ok (.value (.int .i64 ((min m (n - j) : Nat) : Int))) (w.setRow b (cs.take (o + j * i.size) ++ yt ++ cs.drop (o + j * i.size + yt.length)).toArray) := by
      simp [execOp, resolve, invoke, builtin, ha.ev hx, ha.ev hy, Builtin.copy_, run_underlying hut, sizeOf, typeInfo, hi, Builtin.lenOf, hf, hst, goInt]
    unfold Oper.wp
    rw [hrun]
    refine ⟨_, [(b, blk (cs.take (o + j * i.size) ++ yt ++ cs.drop (o + j * i.size + yt.length)) e')] ++ M0, J, ha.put (C4 hd) _, hw2.setRow (M' := [(b, blk _ e')] ++ M0) Upd.hd, k _ (.inr ⟨b, o, cap, _, e', rfl, rfl, h3, h4, ?_, ?_, ?_⟩)⟩
    · rw [P5 (by omega)]; exact h5
    · rw [← hyl, P5 (by omega)]; exact h6
    · intro q u hq
      have hlt := (List.getElem?_eq_some_iff.1 hq).1
      rw [← hyl] at hq hlt
      rw [P5 (by omega)] at hlt
      by_cases hq1 : q < j * i.size
      · rw [N8 (by omega) hq1] at hq
        rw [N8 (by omega) (by omega)]
        exact h7 q u hq
      · by_cases hq2 : q < j * i.size + yt.length
        · rw [P4 (by omega) (by omega) hq2] at hq
          rw [P4 (by omega) (by omega) (by omega), ← hq]
          congr 1; omega
        · rw [A0h (by omega) (by omega)] at hq
          rw [A0h (by omega) (by omega)]
          exact h7 q u hq
theorem A2D {P : Program} {m by_ c : Nat} {p : Option Addr} {zs : List Value} {w : World} (ht : B3v P t tn = some (e, zs, by_)) (hc : c < m) (hmax : m ≤ maxLen) (hbytes : m * by_ ≤ 140737488355328) :
    ∃ v' o', (Builtin.append_ #[t, tn] ty #[.slice p 0 c, .int .i64 (m : Int)]).run P w = .ok v' (w.drew.alloc o') ∧ Sl zs.length v' m (Builtin.zeroCells zs.toArray m).toList [(w.heap.size, o')] := by
  unfold B3v at ht
  split at ht <;> try cases ht
  rename_i kn htn
  split at ht <;> try cases ht
  rename_i e' hu
  split at ht <;> try cases ht
  rename_i i hi
  split at ht <;> try cases ht
  rename_i z hz
  split at ht <;> simp only [Option.some.injEq, Prod.mk.injEq, reduceCtorEq] at ht
  rename_i his0
  obtain ⟨his, hs0⟩ := his0
  obtain ⟨rfl, rfl, rfl⟩ := ht
  have hwm : IntKind.i64.wrap (m : Int) = m := by rw [IntKind.wrap_i64]; simp only [maxLen] at hmax; omega
  have hneg : ¬ ((m : Int) < 0) := by omega
  have h48i : ¬ (281474976710656 < (m : Int) * (i.bytes : Int)) := by
    rw [← Int.natCast_mul]; omega
  have hm : ¬ m = 0 := by omega
  have hcn : ¬ m ≤ c := by omega
  have hge := grownCap_ge w (0 + m) c e'
  have hcm : grownCap w (0 + m) c e' ≤ maxLen := grownCap_le_maxLen w (0 + m) c e' (by simpa using hmax)
  have hfit : Builtin.nextslicecap (0 + m) c * i.bytes ≤ 281474976710656 := growslice_fits (by omega) (by simpa using hbytes)
  have h48' : ¬ (281474976710656 < Builtin.nextslicecap (0 + m) c * i.bytes) := by omega
  simp only [Nat.zero_add] at *
  have h63'' : ¬ (9223372036854775807 < (m : Int)) := by simp only [maxLen] at hmax; omega
  have hms : ¬ (m * i.size = 0) := Nat.mul_ne_zero hm (by omega)
  refine ⟨.slice (some ⟨w.heap.size, 0, none⟩) m (grownCap w m c e'), .cells (Builtin.zeroCells z.cells m ++ Builtin.zeroCells z.cells (grownCap w m c e' - m)) e' (0, 0), ?_, ?_⟩
  · cases p <;> simp [Builtin.append_, run_underlying hu, run_underlying htn, sizeOf, typeInfo, zeroValue, hi, hz, asInt, asIntOf, hwm, hm, hcn, hneg, h63'', h48', h48i, Question.forced, newRow, grownCap, Builtin.firstCells, loadCells, loadCellsFrom] <;> (intro h; exact absurd h hms)
  · refine .inr ⟨w.heap.size, 0, grownCap w m c e', (Builtin.zeroCells z.cells m ++ Builtin.zeroCells z.cells (grownCap w m c e' - m)).toList, e', rfl, by simp [blk], hge, hcm, ?_, ?_, ?_⟩
    · simp [Z3, Nat.sub_mul]
      have := Nat.mul_le_mul_right z.cells.size hge
      omega
    · simp [Z3]
    · intro j u hj
      have hlt := (List.getElem?_eq_some_iff.1 hj).1
      simp only [Array.toList_append, Nat.zero_add]
      simp only [Array.toArray_toList] at hj hlt
      rw [List.getElem?_append_left hlt]
      exact hj
theorem A5l {m by_ c : Nat} {p : Option Addr} {j : Int} {zs : List Value} (hx : ev l x = some (.slice p 0 c)) (hy : ev l y = some (.int .i64 j)) (hj : j = (m : Int)) (ht : B3v C.P t tn = some (e, zs, by_))
    (hc : c < m) (hmax : m ≤ maxLen) (hbytes : m * by_ ≤ 140737488355328) (hd : Nat.blt d C.N = true)
    (k : ∀ v' B', Sl zs.length v' m (Builtin.zeroCells zs.toArray m).toList B' → K ((d, v') :: l) (B' ++ M) J) :
    OpL C ⟨some d, .call { callee := .builtin .append, args := #[x, y], argTypes := #[t, tn] }, ty, pos, af, g⟩ l M J K := by
  intro Qp a w ha hw
  subst hj
  obtain ⟨v', o', hrun, hsl⟩ := A2D (P := C.P) (ty := ty) (p := p) (w := w) ht hc hmax hbytes
  have hexec : (execOp a.eval ⟨some d, .call { callee := .builtin .append, args := #[x, y], argTypes := #[t, tn] }, ty, pos, af, g⟩).run C.P w = .ok (.value v') (w.drew.alloc o') := by
    simp [execOp, resolve, invoke, builtin, ha.ev hx, ha.ev hy, hrun]
  unfold Oper.wp
  rw [hexec]
  exact ⟨_, (w.heap.size, o') :: M, J, ha.put (C4 hd) v', St.alloc (w := w.drew) hw.drew o', k v' [_] hsl⟩
theorem A5m {f : FuncId} {fn : Func} {tS tR : TypeId} {ts : Array TypeId} {b1 o1 n1 c1 b2 o2 n2 c2 size : Nat} {x1 x2 : List Value} {e1 e2 : TypeId} {M0 : Mem}
    (hx : ev l x = some (.slice (some ⟨b1, o1, none⟩) n1 c1)) (hy : ev l y = some (.slice (some ⟨b2, o2, none⟩) n2 c2))
    (hf : C.P.funcs[f]? = some fn) (hname : (fn.name == "runtime.NumGoroutine") = false) (hb : fn.body.isNone = true) (hn : Extern.findNext fn = none) (he : Extern.find fn = some (Extern.SlicesOverlaps.overlaps #[tS, tS] #[tR]))
    (ht : C.P.underlying tS = some (.slice e)) (hsz : L8 C.P e = some size)
    (hM : M.Perm ((b1, blk x1 e1) :: (b2, blk x2 e2) :: M0)) (h0 : 0 < x2.length) (hd : Nat.blt d C.N = true) (k : K ((d, .bool false) :: l) M J) :
    OpL C ⟨some d, .call { callee := .value (.func f), args := #[x, y], argTypes := ts }, ty, pos, af, g⟩ l M J K := by
  intro Qp a w ha hw
  have hw2 := hw.fit (Fit.perm hM) fun _ h => h
  have hne : b1 ≠ b2 := by
    have h := hw2.nodup
    simp only [List.map_cons, List.nodup_cons, List.mem_cons, not_or] at h
    exact h.1.1
  have k1 := hw2.mem b1 (blk x1 e1) (by simp)
  have k2 := hw2.mem b2 (blk x2 e2) (by simp)
  have hz : ∀ w, (Go.sizeOf e).run C.P w = .ok size w := by
    intro w
    unfold L8 at hsz
    obtain ⟨i, hi, rfl⟩ := Option.map_eq_some_iff.1 hsz
    simp [sizeOf, typeInfo, hi]
  have hrun : (execOp a.eval ⟨some d, .call { callee := .value (.func f), args := #[x, y], argTypes := ts }, ty, pos, af, g⟩).run C.P w = .ok (.value (.bool false)) w := by
    have hc : (callFunc f #[.slice (some ⟨b1, o1, none⟩) n1 c1, .slice (some ⟨b2, o2, none⟩) n2 c2]).run C.P w = .ok (.value (.bool false)) w := by
      rw [run_callFunc_extern hf hname hb hn he, Lib.run_overlaps_apart w tS tR e ht size hz ⟨b1, o1, none⟩ ⟨b2, o2, none⟩ n1 c1 n2 c2 hne e1 e2 x1.length x2.length (by simp [World.shape?, k1, blk]) (by simp [World.shape?, k2, blk]) (by omega) (by simp [World.frozen?, k1, blk]) (by simp [World.frozen?, k1, blk])]
      rfl
    have e : (#[x, y] : Array Operand).map a.eval = #[.slice (some ⟨b1, o1, none⟩) n1 c1, .slice (some ⟨b2, o2, none⟩) n2 c2] := by simp [ha.ev hx, ha.ev hy]
    simp only [execOp, resolve, e, Sem.run_bind]
    simp [Act.eval, Deferred.ofValue, invoke, hc]
  unfold Oper.wp
  rw [hrun]
  exact ⟨_, M, J, ha.put (C4 hd) _, hw, k⟩
end ins
end Go.Px

namespace Go.Proofs.YtpemeceacdhacaaGreatDoor
open Go.Px
def quN (id : Nat) (m : LN) : LN := (id :: m.filter (· != id)).take 4
def quL (x : Nat × Nat) (L : List (Nat × Nat)) : List (Nat × Nat) := (x :: L.filter (fun y => y.1 != x.1)).take 4
theorem B02 (x : Nat × Nat) (L : List (Nat × Nat)) : (quL x L).map (·.1) = quN x.1 (L.map (·.1)) := by
  unfold quL quN
  rw [List.map_take, List.map_cons, List.filter_map]
  rfl
theorem A7h {id : Nat} {m : LN} (h : m.Nodup) : (quN id m).Nodup := by
  unfold quN
  refine List.Nodup.sublist (List.take_sublist _ _) (List.nodup_cons.2 ⟨fun hm => ?_, h.sublist List.filter_sublist⟩)
  have := (List.mem_filter.1 hm).2
  simp at this
theorem B03 (id : Nat) (m : LN) : (quN id m).length ≤ 4 ∧ 0 < (quN id m).length := by
  unfold quN
  rw [List.length_take, List.length_cons]; omega
theorem A3i {L : List (Nat × Nat)} {id : Nat} (h : ∀ y ∈ L, y.1 ≠ id) : L.filter (fun y => y.1 != id) = L := List.filter_eq_self.2 fun y hy => by simpa using h y hy
theorem A4M : ∀ {L : List (Nat × Nat)} {k : Nat} {x : Nat × Nat}, (L.map (·.1)).Nodup → L[k]? = some x → L.eraseIdx k = L.filter (fun y => y.1 != x.1)
  | [], _, _, _, h => by simp at h
  | y :: L, 0, x, hn, h => by
    obtain rfl : y = x := by simpa using h
    rw [List.map_cons, List.nodup_cons] at hn
    rw [List.eraseIdx_cons_zero, List.filter_cons_of_neg qM, A3i fun z hz e => hn.1 (List.mem_map.2 ⟨z, hz, e⟩)]
  | y :: L, k + 1, x, hn, h => by
    rw [List.map_cons, List.nodup_cons] at hn
    have h' : L[k]? = some x := by simpa using h
    have hne : y.1 ≠ x.1 := fun e => hn.1 (List.mem_map.2 ⟨x, List.mem_of_getElem? h', e.symm⟩)
    rw [List.eraseIdx_cons_succ, List.filter_cons_of_pos (by simpa using hne), A4M hn.2 h']
theorem A8O {id : Nat} {m : LN} {k x : Nat} (h : m[k]? = some x) : quN id (m.take (k + 1)) = if x ≠ id ∧ (quN id (m.take k)).length < 4 then quN id (m.take k) ++ [x] else quN id (m.take k) := by
  have e : m.take (k + 1) = m.take k ++ [x] := by rw [List.take_add_one, h]; rfl
  unfold quN
  rw [e, List.filter_append]
  by_cases hx : x = id
  · subst hx
    rw [if_neg qM]
    simp
  · rw [List.filter_cons_of_pos (by simpa using hx), List.filter_nil]
    rw [List.length_take, List.length_cons]
    by_cases hl : (List.filter (fun x => x != id) (m.take k)).length + 1 < 4
    · rw [if_pos ⟨hx, by omega⟩, ← List.cons_append, List.take_of_length_le (l := (id :: (m.take k).filter (· != id)) ++ [x]) (by simp only [List.length_append, List.length_cons, List.length_nil]; omega), List.take_of_length_le (l := id :: (m.take k).filter (· != id)) (by simp only [List.length_cons]; omega)]
    · rw [if_neg (fun h => hl (by have := h.2; omega)), ← List.cons_append, List.take_append_of_le_length (by simp; omega)]
theorem B04 {L : List (Nat × Nat)} (hn : (L.map (·.1)).Nodup) {k : Nat} {x : Nat × Nat} (h : L[k]? = some x) : ∀ j, j < k → ∀ y, L[j]? = some y → y.1 ≠ x.1 := by
  intro j hj y hy e
  have h1 : (L.map (·.1))[j]? = some x.1 := by rw [List.getElem?_map, hy, ← e]; rfl
  have h2 : (L.map (·.1))[k]? = some x.1 := by rw [List.getElem?_map, h]; rfl
  obtain ⟨l1, e1⟩ := List.getElem?_eq_some_iff.1 h1
  obtain ⟨l2, e2⟩ := List.getElem?_eq_some_iff.1 h2
  exact List.pairwise_iff_getElem.1 hn j k l1 l2 hj (e1.trans e2.symm)
def quZ : List Value := [vS, vS, vS, .int .u32 0, .bool false, .int .u32 0, .bool false, vS, vS, vS, vS, .int .u32 0, vS, .int .u32 0, .int .u32 0, .pointer none]
theorem A7i : ∀ c ∈ quZ, c.oneCell' = true := by decide
def quR (R : Mem) (x : Nat × Nat) (r : List Value) : Prop := ∃ vi vw, r = vi :: vw :: quZ ∧ By R vi [x.1] ∧ By R vw [x.2]
theorem quT : RowT 18 quR := ⟨fun R R' x r hR ⟨vi, vw, h1, h2, h3⟩ => ⟨vi, vw, h1, h2.mono hR, h3.mono hR⟩, fun R x r ⟨vi, vw, h1, _⟩ => by rw [h1]; rfl, fun R x r ⟨vi, vw, h1, h2, h3⟩ => by
  rw [h1]
  intro c hc
  rcases List.mem_cons.1 hc with rfl | hc
  · exact h2.one
  rcases List.mem_cons.1 hc with rfl | hc
  · exact h3.one
  exact A7i c hc⟩
structure Que (R : Mem) (qb : Nat) (L : List (Nat × Nat)) (M : Mem) : Prop where
  ex : ∃ v rows B, M = (qb, blk [v] 27) :: B ∧ Sl 18 v L.length rows.flatten B ∧ RwL quR R rows L
theorem Que.mono {R R' : Mem} {qb : Nat} {L : List (Nat × Nat)} {M : Mem} (h : Que R qb L M) (hR : ∀ x, x ∈ R → x ∈ R') : Que R' qb L M := by
  obtain ⟨v, rows, B, h1, h2, h3⟩ := h.ex
  exact ⟨v, rows, B, h1, h2, h3.mono quT hR⟩

theorem B2C {α : Type} {row Z : List α} {n : Nat} (hr : row.length = 18) : Z.take (0 * 18) ++ row.take (min 1 (n + 1 - 0) * 18) ++ Z.drop (0 * 18 + min 1 (n + 1 - 0) * 18) = row ++ Z.drop 18 := by
  rw [show min 1 (n + 1 - 0) = 1 by omega, List.take_of_length_le (l := row) qO]; simp
theorem B3E {α : Type} {row Z xs : List α} {n : Nat} (hr : row.length = 18) (hz : Z.length = n * 18) (hx : xs.length = n * 18) : (row ++ Z).take (1 * 18) ++ (xs.drop (0 * 18)).take (min (n - 0) (n + 1 - 1) * 18) ++ (row ++ Z).drop (1 * 18 + min (n - 0) (n + 1 - 1) * 18) = row ++ xs := by
  rw [show min (n - 0) (n + 1 - 1) = n by omega, Nat.zero_mul, List.drop_zero, List.take_left' qO, List.take_of_length_le qO, List.drop_of_length_le (by rw [List.length_append]; omega), List.append_nil]
theorem B3F {α : Type} {xs ex : List α} {n : Nat} (hx : xs.length = n * 18) (he : ex.length = 18) : (xs ++ ex).take (1 * 18) ++ ((xs ++ ex).drop (0 * 18)).take (min (n + 1 - 0) (n + 1 - 1) * 18) ++ (xs ++ ex).drop (1 * 18 + min (n + 1 - 0) (n + 1 - 1) * 18) = (xs ++ ex).take 18 ++ xs := by
  rw [show min (n + 1 - 0) (n + 1 - 1) = n by omega, Nat.zero_mul, List.drop_zero, Nat.one_mul, show (xs ++ ex).take (n * 18) = xs from List.take_left' hx, List.drop_of_length_le (by rw [List.length_append]; omega), List.append_nil]
theorem B3G {α : Type} {row xs ex : List α} {n : Nat} (hr : row.length = 18) (he : ex.length = 18) : ((xs ++ ex).take 18 ++ xs).take (0 * 18) ++ row.take (min 1 (n + 1 - 0) * 18) ++ ((xs ++ ex).take 18 ++ xs).drop (0 * 18 + min 1 (n + 1 - 0) * 18) = row ++ xs := by
  rw [B2C hr, List.drop_left' (by rw [List.length_take, List.length_append]; omega)]
theorem Sl.castQ {sz n n' : Nat} {v : Value} {xs xs' : List Value} {B : Mem} (h : Sl sz v n xs B) (h1 : n = n') (h2 : xs = xs') : Sl sz v n' xs' B := by subst h1; subst h2; exact h
theorem A7j (v : Value) (rows : List (List Value)) (f : FuncId) (cs : List Value) (p : Nat → Bool) (A : Mem) (hv : Rd A 18 v rows.length rows.flatten) (hl : ∀ r ∈ rows, r.length = 18) (hn : rows.length ≤ 1099511627776) (hc_ : H3 Tryz.prog f = true) (hf : ∀ (j : Nat) (r : List Value), rows[j]? = some r → FnV Tryz.prog f (.agg r.toArray :: cs) A (.bool (p j))) : FnV Tryz.prog 24 [v, .func (.func f) #[] cs.toArray] A (.int .i64 (A2F p rows.length)) := by
 haveI := hv.cel
 refine FnX.enter (N := 19) Tryz.func24 rfl rfl rfl fun w => ?_
 refine A7 (C7 0 1) (A1 (as_ (A0 (C7 0 1) (A6 (A1 (mv_ ?_))))))
 refine A3 (E5 (sz := 18) rfl kR hv) rfl ?_
 refine mv_ (A0 (F2 0 1 7 8) (C3 ?_))
 refine H1 (α := Nat) (fun i => [(0, v), (1, .func (.func f) #[] cs.toArray), (7, (vI rows.length)), (8, .int .i64 (i : Int))]) (fun _ => []) (fun _ => []) (fun i => i ≤ rows.length ∧ ∀ j, j < i → p j = false) (fun i => rows.length - i) 0 ⟨Nat.zero_le _, fun j h => absurd h (Nat.not_lt_zero j)⟩ (F2 0 1 7 8) .rfl qI ?_
 rintro i ⟨hi, hp⟩
 refine A1 ?_
 refine A3 (E9 rfl rfl rfl) rfl ?_
 refine A0 (H5 0 1 7 8 9) (A6 ?_)
 refine C1 rfl ?_ ?_ <;> intro hc
 ·
  have hlt : i < rows.length := by simp at hc; omega
  obtain ⟨r, hr⟩ : ∃ r, rows[i]? = some r := ⟨_, List.getElem?_eq_getElem hlt⟩
  refine A5 (nx (F2 0 1 7 8) (A6 (C3 (A1 (mv_ (as_ (A0 (H5 0 1 5 7 8) (A1 ?_))))))))
  refine mv_ (mv_ (mv_ ?_))
  refine A3 (F1 (sz := 18) rfl rfl kR rfl hv hlt) rfl ?_
  refine A3 (U1 rfl kR (hv.mono qS) hl qD hr) rfl ?_
  refine A4 rfl (W8 rfl (aS rfl a0) hc_ (hf i r hr) rfl ?_)
  refine A0 (I8 0 1 5 7 8 16) ?_
  refine C1 rfl ?_ ?_ <;> intro hc
  ·
   refine A1 (mv_ (as_ (A0 (C9 4) (A8 (br (tr (rr (br ?_))))))))
   refine tr ?_
   exact ⟨_, [], [], G5 rfl rfl, List.nil_sublist _, by simp, by rw [S5 hlt hp hc], rfl, rfl⟩
  ·
   refine A5 (nb (nx (F2 0 1 7 8) (C8 ?_)))
   refine A3 (H6 (b := 1) rfl rfl rfl rfl qO) rfl ?_
   refine mv_ (E3 ?_)
   exact rn (i + 1) ⟨hlt, fun j hj => by rcases Nat.lt_succ_iff_lt_or_eq.1 hj with h | h; exact hp j h; rw [h]; exact hc⟩ qO (F2 0 1 7 8) .rfl qI
 ·
  have hge : i = rows.length := by simp at hc; omega
  subst hge
  refine H0 (te (re (be rfl (nx kn (A1 (as_ (A0 (C9 4) ?_)))))))
  refine A8 ?_
  exact ⟨_, [], [], G5 rfl rfl, List.nil_sublist _, by simp, by rw [S6 hp], rfl, rfl⟩
theorem A5n (b o cap n i j : Nat) (cs xs : List Value) (e : TypeId) (A : Mem) (hn : n ≤ cap) (hcap : cap ≤ maxLen) (hfit : o + cap * 18 ≤ cs.length) (hl : xs.length = n * 18) (hx : ∀ j u, xs[j]? = some u → cs[o + j]? = some u)
    (h1 : ∀ c ∈ xs, c.oneCell' = true) (hij : i < j) (hjn : j ≤ n) :
    FnX Tryz.prog 14 [.slice (some ⟨b, o, none⟩) n cap, .int .i64 i, .int .i64 j] [(b, blk cs e)] A
      fun v M J => J = [] ∧ Sl 18 v (n - (j - i)) (xs.take (i * 18) ++ xs.drop (j * 18)) M := by
  refine FnX.enter (N := 33) Tryz.func14 rfl rfl rfl fun w => ?_
  refine A7 (E0 0 1 2) (A1 (as_ (A0 (E0 0 1 2) (A1 (mv_ (mv_ (mv_ (mv_ ?_))))))))
  refine A3 (V1 (e := 40) rfl kR) rfl ?_
  refine A3 (A1a (e := 40) (sz := 18) rfl kR kR (o1 i rfl rfl) (o1 j rfl rfl) (o1 n rfl rfl) qM (by simp; omega) (by simp; omega) (by simp; omega)) rfl ?_
  refine A0 (E0 0 1 2) (A6 (A1 (mv_ (mv_ ?_))))
  refine A3 (E9 rfl rfl rfl) rfl ?_
  refine A0 (F2 0 1 2 16) ?_
  refine C1 rfl ?_ ?_ <;> intro hc
  ·
    simp at hc; omega
  ·
    refine A5 (nx (E0 0 1 2) (A1 (mv_ ?_)))
    refine A3 (V1 (e := 40) rfl kR) rfl ?_
    refine as_ (A0 (F2 0 1 2 7) ?_)
    refine A5v ([]) [] [(0, 0), (1, 0), (2, 0), (3, 0), (4, 0), (5, 0), (6, 2), (7, 0)] kR kR qM fun hs => ?_
    refine A32 hs rfl qm_ rfl ?_
    refine A32 hs rfl qm_ rfl ?_
    refine A32 hs rfl (A2L (h := i) (e := 40) (sz := 18) rfl rfl kR kR rfl qO) rfl ?_
    refine A32 hs rfl qm_ rfl ?_
    refine A32 hs rfl qm_ rfl ?_
    refine A32 hs rfl (A33 (h := j) (e := 40) (sz := 18) rfl rfl kR kR rfl qO qO) rfl ?_
    refine B1n rfl rfl rfl (A2K (e := 40) (sz := 18) (by_ := 296) (m := n - j) (cs := cs) rfl rfl kR ((Rd.lo ⟨_, cap, rfl, hl, hn, .inr ⟨b, o, cs, e, (0, 0), rfl, m0, hx⟩⟩ j hjn)) (fun c hc => h1 c (List.mem_of_mem_drop hc)) qO hfit rfl UpC.upd rfl ?_)
    refine A32 hs rfl (E8 rfl) rfl ?_
    refine A80 (C7 0 7) ?_
    refine A1 (mv_ (mv_ ?_))
    refine A3 (V1 (e := 40) rfl kR) rfl ?_
    refine mv_ ?_
    refine A3 (A5y (lo := i + (n - j)) (hi := n) (e := 40) (sz := 18) rfl rfl rfl kR kR rfl rfl qO qO qO) rfl ?_
    refine A4 rfl (A3s (e := 40) (sz := 18) (by_ := 296) (zs := (Builtin.zeroCells #[vS, vS, vS, vS, vS, .int .u32 0, .bool false, .int .u32 0, .bool false, vS, vS, vS, vS, .int .u32 0, vS, .int .u32 0, .int .u32 0, .pointer none] (n - (i + (n - j)))).toList) rfl kR kR (W1 (by simp [Value.oneCell']) qM _) ?h1 rfl UpC.upd ?_)
    case h1 => simp [hl]; omega
    refine A0 (C9 0) (A1 (mv_ (as_ (A0 (C9 6) (A8 ?_)))))
    refine ⟨_, _, [], G5 rfl rfl, List.Sublist.refl _, by simp, rfl, ?_⟩
    show Sl 18 _ (n - (j - i)) _ _
    rw [show n - (j - i) = i + (n - j) from by omega]
    have hd : (xs.drop (j * 18)).length = (n - j) * 18 := by simp [hl]; omega
    refine .inr ⟨b, o, cap, _, e, rfl, rfl, by omega, hcap, ?_, ?_, ?_⟩
    · simp [hl, Builtin.zeroCells]; omega
    · simp [hl]; omega
    · intro q u hq
      have hlt : q < (i + (n - j)) * 18 := by have := (List.getElem?_eq_some_iff.1 hq).1; simp [hl] at this; omega
      rw [N8 (by simp [hl]; omega) qO]
      by_cases hqi : q < i * 18
      · rw [N8 qO qO]
        rw [List.getElem?_append_left (by simp [hl]; omega), List.getElem?_take_of_lt hqi] at hq
        exact hx q u hq
      · rw [P4 qO qO qO]
        rw [List.getElem?_append_right (by simp [hl]; omega)] at hq
        rw [← hq]
        congr 1
        simp [hl]; omega
theorem A7k (v : Value) (n : Nat) (xs : List Value) (A : Mem) (h : Rd A 18 v n xs) (h1 : ∀ c ∈ xs, c.oneCell' = true) (hn : n ≤ 100000) : FnX Tryz.prog 16 [v] [] A fun r M J => Sl 18 r n xs M := by
 haveI := h.cel
 refine FnX.enterZ (N := 8) Tryz.func16 rfl rfl rfl fun w_ => ?_
 refine A7 (C9 0) (A1 (as_ (A0 (C9 0) (A6 (A1 (mv_ ?_))))))
 refine A3 (V4 (e := 40) rfl kR (by first | assumption | exact Sl.rd (by assumption) qI | exact By.rd (by assumption))) rfl ?_
 refine A0 (C7 0 4) ?_
 refine C1 rfl ?_ ?_ <;> intro hc
 ·
  have h0 := h.isNil hc
  subst h0
  obtain rfl : xs = [] := List.eq_nil_of_length_eq_zero (by have := h.len; omega)
  refine A1 (as_ (A0 (C9 2) (A8 (tr ?_))))
  exact ⟨_, [], [], G5 rfl rfl, qZ, Sl.nil⟩
 ·
  refine A5 (nx (C9 0) (A1 ?_))
  refine A4 rfl (C0 (e := 40) (sz := 18) (z := []) kR e0 bd0 rfl fun b5 => ?_)
  refine mv_ ?_
  refine A4 rfl (F9 (e := 40) (sz := 18) (by_ := 296) rfl rfl kR rfl (Sl.fresh (n := 0) (cs := []) (e := 40) rfl qD) (Rd.mono h qS) h1 qP (by unfold maxLen; omega) qO rfl fun v7 B7 hs7 => ?_)
  refine as_ (A0 (C9 2) (A8 ?_))
  exact ⟨_, B7, [], G5 rfl rfl, Fit.none (Fit.last qP), by simpa using hs7⟩
theorem A5o (v : Value) (n vb : Nat) (row xs : List Value) (B A : Mem) (hs : Sl 18 v n xs B) (hr : row.length = 18) (h1 : ∀ c ∈ row, c.oneCell' = true) (h2 : ∀ c ∈ xs, c.oneCell' = true) (hn : n ≤ 1000) : FnX Tryz.prog 15 [v, .int .i64 0, .slice (some ⟨vb, 0, none⟩) 1 1] ((vb, blk row 40) :: B) A fun q M J => Sl 18 q (n + 1) (row ++ xs) M := by
  haveI := hs.cel
  refine FnX.enterZ (N := 95) Tryz.func15 rfl rfl rfl fun w_ => ?_
  refine A7 (E0 0 1 2) (A1 (as_ (A0 (E0 0 1 2) (A1 (mv_ (mv_ ?_))))))
  refine A3 (Y9 (sz := 18) (a := 0) rfl rfl kR rfl (hs.rd (R := B) fun _ h => h) qO) rfl ?_
  refine A0 (E0 0 1 2) (A1 (mv_ ?_))
  refine A3 (V1 (e := 40) rfl kR) rfl ?_
  refine as_ (A0 (F2 0 1 2 7) (A6 (A1 (mv_ ?_))))
  refine A3 (E7 false rfl rfl (eqF qD)) rfl ?_
  refine A0 (H5 0 1 2 7 16) ?_
  refine B0 rfl ?_
  refine A5 (nx (F2 0 1 2 7) (A1 (mv_ ?_)))
  refine A3 (E5 (sz := 18) rfl kR (hs.rd (R := B) fun _ h => h)) rfl ?_
  refine as_ (A0 (H5 0 1 2 7 8) (A6 (A1 (mv_ (mv_ ?_)))))
  refine A3 (E9 rfl rfl rfl) rfl ?_
  refine A0 (I8 0 1 2 7 8 22) ?_
  refine C1 rfl ?_ ?_ <;> intro hc
  ·
    have h0 : n = 0 := by simp at hc; omega
    subst h0
    obtain rfl : xs = [] := List.eq_nil_of_length_eq_zero (by have := hs.len; omega)
    refine A1 (mv_ (mv_ ?_))
    refine A4 rfl (F9 (e := 40) (sz := 18) (by_ := 296) rfl rfl kR rfl hs (Rd.whole (n := 1) At.mem (by rw [hr])) h1 qP (by unfold maxLen; omega) qO rfl fun v25 B25 hs25 => ?_)
    haveI := hs25.cel
    refine as_ (A0 (C9 6) (A8 (tr ?_)))
    exact ⟨_, B25, [], G5 rfl rfl, Fit.none (Fit.last qP), Sl.castQ hs25 qO qM⟩
  ·
    have h0 : n ≠ 0 := by intro h0; subst h0; simp at hc
    obtain ⟨p, rfl, h00, _, _⟩ | ⟨b, o, cap, cs, e, rfl, rfl, g1, g2, g3, g4, g5⟩ := hs
    · omega
    have hs0 : Sl 18 (.slice (some ⟨b, o, none⟩) n cap) n xs [(b, blk cs e)] := .inr ⟨b, o, cap, cs, e, rfl, rfl, g1, g2, g3, g4, g5⟩
    have hcap : cap * 18 ≤ cs.length := by omega
    refine A5 (nx (H5 0 1 2 7 8) (A6 (A1 (mv_ (mv_ ?_)))))
    refine A3 (K7 ((n + 1 : Nat) : Int) rfl rfl (T4 qO qO qO)) rfl ?_
    refine mv_ ?_
    refine A3 (B2o (e := 40) rfl kR) rfl ?_
    refine A3 (E9 rfl rfl rfl) rfl ?_
    refine A0 (I8 0 1 2 7 8 31) ?_
    refine C1 rfl ?_ ?_ <;> intro hc
    ·
      have hg : cap < n + 1 := by simp at hc; omega
      refine A1 (mv_ (mv_ ?_))
      refine A3 (A2L (h := 0) (e := 40) (sz := 18) rfl rfl kR kR rfl qO) rfl ?_
      refine mv_ (mv_ ?_)
      refine A3 (K7 ((n + 1 : Nat) : Int) rfl rfl (T4 qO qO qO)) rfl ?_
      refine mv_ ?_
      refine A3 (K7 (((n + 1 : Nat) : Int) - 0) rfl rfl (A5A qO qO qO)) rfl ?_
      refine A4 rfl (A5l (e := 40) (m := n + 1) (by_ := 296) (zs := [vS, vS, vS, vS, vS, .int .u32 0, .bool false, .int .u32 0, .bool false, vS, vS, vS, vS, .int .u32 0, vS, .int .u32 0, .int .u32 0, .pointer none]) rfl rfl qO kR qO (by unfold maxLen; omega) qO rfl fun v40 B40 hs40 => ?_)
      haveI := hs40.cel
      change Sl 18 _ _ _ _ at hs40
      have hzl := hs40.len
      generalize (Builtin.zeroCells _ (n + 1)).toList = Zs at hs40 hzl
      refine as_ (A0 (H5 0 1 2 7 9) (A1 (mv_ (mv_ ?_))))
      refine A3 (Y9 (sz := 18) (a := 0) rfl rfl kR rfl (hs40.rd (R := B40) fun _ h => h) qO) rfl ?_
      refine mv_ ?_
      refine A4 rfl (A2C (e := 40) (sz := 18) (by_ := 296) (j := 0) rfl rfl kR hs40 (Rd.whole (n := 1) At.mem (by rw [hr])) (fun c hc => h1 c (List.mem_of_mem_take hc)) qO qP rfl fun B45 hs45 => ?_)
      rw [B2C hr] at hs45
      refine A0 (F2 0 1 7 9) ?_
      refine F4 (.range 8) (zp 0 [0, 0, 0, 0, 0, 0, 0, 0, 2]) kR kR fun hs => ?_
      refine fm_ hs ?_
      refine fm_ hs ?_
      refine fm_ hs ?_
      refine D4 hs rfl (K7 1 rfl rfl qR) rfl ?_
      refine D4 hs rfl (Y9 (sz := 18) (a := 1) rfl rfl kR rfl (hs45.rd (R := B45) fun _ h => h) qO) rfl ?_
      refine fm_ hs ?_
      refine fm_ hs ?_
      refine D4 hs rfl (Y9 (sz := 18) (a := 0) rfl rfl kR rfl (hs0.rd (R := [(b, blk cs e)]) fun _ h => h) qO) rfl ?_
      refine I3 rfl rfl rfl (A2C (e := 40) (sz := 18) (by_ := 296) (j := 1) rfl rfl kR hs45 ((hs0.rd qS).loV 0 qO) (fun c hc => h2 c (List.mem_of_mem_drop (List.mem_of_mem_take hc))) qO qP rfl fun B54 hs54 => ?_)
      rw [B3E hr (by rw [List.length_drop]; omega) g4] at hs54
      refine G8 (C9 9) (A1 (mv_ (as_ (A0 (C9 6) (A8 (tr ?_))))))
      exact ⟨_, B54, [], G5 rfl rfl, Fit.none (Fit.last qP), hs54⟩
    ·
      have hg : n + 1 ≤ cap := by simp at hc; omega
      have hs60 : Sl 18 (.slice (some ⟨b, o, none⟩) (n + 1) cap) (n + 1) (xs ++ (cs.drop (o + n * 18)).take 18) [(b, blk cs e)] := .inr ⟨b, o, cap, cs, e, rfl, rfl, hg, g2, g3, by rw [List.length_append, List.length_take, List.length_drop, g4]; omega, fun j u hj => by
        by_cases hlt : j < xs.length
        · rw [List.getElem?_append_left hlt] at hj; exact g5 j u hj
        · rw [List.getElem?_append_right qO] at hj
          have h18 := (List.getElem?_eq_some_iff.1 hj).1
          rw [List.length_take] at h18
          rw [List.getElem?_take_of_lt qO, List.getElem?_drop] at hj
          rw [← hj]; congr 1; omega⟩
      have hex : ((cs.drop (o + n * 18)).take 18).length = 18 := by rw [List.length_take, List.length_drop]; omega
      generalize (cs.drop (o + n * 18)).take 18 = ex at hs60 hex
      refine A5 (nx (H5 0 1 2 7 8) (A1 (mv_ (mv_ (mv_ ?_)))))
      refine A3 (K7 ((n + 1 : Nat) : Int) rfl rfl (T4 qO qO qO)) rfl ?_
      refine A3 (A2L (h := n + 1) (e := 40) (sz := 18) rfl rfl kR kR rfl qO) rfl ?_
      refine as_ (A0 (H5 0 1 2 7 8) (A6 (A1 (mv_ (mv_ (mv_ (mv_ ?_)))))))
      refine A3 (K7 1 rfl rfl qR) rfl ?_
      refine A3 (A9L (h := 1) (e := 40) (sz := 18) rfl rfl kR kR rfl qO qO qO) rfl ?_
      refine A4 rfl (A5m (e := 40) (fn := Tryz.f27) (tS := 25) (tR := 4) (size := 18) rfl rfl Tryz.func27 kR kR kR kR kR kR (List.Perm.refl _) qO rfl ?_)
      refine A3 (P2 rfl) rfl ?_
      refine A0 (I8 0 1 2 7 8 68) ?_
      refine F3 rfl ?_
      refine F4 (.range 8) (zp 0 [0, 0, 0, 0, 0, 0, 0, 0, 2]) kR kR fun hs => ?_
      refine fm_ hs ?_
      refine fm_ hs ?_
      refine fm_ hs ?_
      refine D4 hs rfl (K7 1 rfl rfl qR) rfl ?_
      refine D4 hs rfl (Y9 (sz := 18) (a := 1) rfl rfl kR rfl (hs60.rd (R := [(b, blk cs e)]) fun _ h => h) qO) rfl ?_
      refine fm_ hs ?_
      refine fm_ hs ?_
      refine D4 hs rfl (Y9 (sz := 18) (a := 0) rfl rfl kR rfl (hs60.rd (R := [(b, blk cs e)]) fun _ h => h) qO) rfl ?_
      refine I3 rfl rfl rfl (A2C (e := 40) (sz := 18) (by_ := 296) (j := 1) rfl rfl kR hs60 ((hs60.rd qS).loV 0 qO) (by rw [Nat.zero_mul, List.drop_zero, show min (n + 1 - 0) (n + 1 - 1) = n by omega, List.take_left' g4]; exact h2) qO qP rfl fun B77 hs77 => ?_)
      rw [B3F g4 hex] at hs77
      refine G8 (E0 0 1 2) (A1 (mv_ (mv_ ?_)))
      refine A3 (Y9 (sz := 18) (a := 0) rfl rfl kR rfl (hs77.rd (R := B77) fun _ h => h) qO) rfl ?_
      refine mv_ ?_
      refine A4 rfl (A2C (e := 40) (sz := 18) (by_ := 296) (j := 0) rfl rfl kR hs77 (Rd.whole (n := 1) At.mem (by rw [hr])) (fun c hc => h1 c (List.mem_of_mem_take hc)) qO qP rfl fun B82 hs82 => ?_)
      rw [B3G hr hex] at hs82
      refine A0 (C9 0) (A1 (mv_ (as_ (A0 (C9 6) (A8 (tr ?_))))))
      exact ⟨_, B82, [], G5 rfl rfl, Fit.none (Fit.last qP), hs82⟩

end Go.Proofs.YtpemeceacdhacaaGreatDoor
