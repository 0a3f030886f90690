/- Part 12 of the texts of this claim, one behind the other. -/
import Derived.Test.YtphcaiplgpmnnaaGreatDoorB11
set_option linter.unusedVariables false
set_option linter.unusedSimpArgs false
set_option maxRecDepth 100000
namespace Go.Px
def encQ (q : Nat) : List Nat → List (Nat × Nat)
  | [] => [(q, 7)]
  | i :: r => (i, 6) :: encQ q r
theorem grq_enc (q : Nat) (plan : List (Nat × Nat)) : ∀ r : List Nat, grq (encQ q r ++ plan) = r ++ [q]
  | [] => rfl
  | i :: r => by simp only [encQ, List.cons_append, grq]; rw [grq_enc q plan r]
theorem lsq_enc (q : Nat) (plan : List (Nat × Nat)) : ∀ r : List Nat, lsq (encQ q r ++ plan) = q
  | [] => rfl
  | i :: r => by simp only [encQ, List.cons_append, lsq]; exact lsq_enc q plan r
inductive GOq (ops : Array Oper) (q : Nat) : Array Bool → List Nat → Array Bool → Prop
  | nil {A : Array Bool} : GOq ops q A [] A
  | cons {A B : Array Bool} {i : Nat} {r : List Nat} (hr : i ∈ Region.ready .any ops A) (ho : i ≠ q → ∀ j, j < ops.size → A.getD j true = false → j ∉ i :: r → anc ops ops.size j i = true) (h : GOq ops q (A.setIfInBounds i true) r B) : GOq ops q A (i :: r) B
theorem encQ_ok {ops : Array Oper} {nd : List Nat} {q : Nat} {plan : List (Nat × Nat)} : ∀ {is : List Nat} {A : Array Bool}, planOk ops nd (encQ q is ++ plan) A = true → ∃ B, GOq ops q A (is ++ [q]) B ∧ freeQ ops A q = true ∧ planOk ops nd plan B = true
  | [], A, h => by
    simp only [encQ, List.cons_append, List.nil_append, planOk, Bool.and_eq_true] at h
    exact ⟨_, .cons (by simpa using h.1.1) (fun hq => absurd rfl hq) .nil, h.1.2, h.2⟩
  | i :: r, A, h => by
    simp only [encQ, List.cons_append, planOk, grpOk, Bool.and_eq_true, List.all_eq_true, List.mem_range, Bool.or_eq_true, grq_enc, lsq_enc] at h
    obtain ⟨B, hB, -, hp⟩ := encQ_ok (is := r) h.2
    refine ⟨B, .cons (by simpa using h.1.1.1) (fun _ j hj hu hn => ?_) hB, h.1.2, hp⟩
    rcases h.1.1.2 j hj with (h1 | h1) | h1
    · rw [hu] at h1; cases h1
    · exact absurd (by simpa using h1) hn
    · exact h1
theorem GOq.mark {ops : Array Oper} {q : Nat} {A B : Array Bool} {is : List Nat} (h : GOq ops q A is B) : B = mark A is := by
  induction h with
  | nil => rfl
  | cons _ _ _ ih => rw [ih]; rfl
theorem GOq.un {ops : Array Oper} {q : Nat} {A B : Array Bool} {is : List Nat} (h : GOq ops q A is B) : ∀ i ∈ is, A.getD i true = false := by
  induction h with
  | nil => intro i hi; cases hi
  | @cons A B i r hr ho h ih =>
    intro k hk
    rcases List.mem_cons.1 hk with rfl | hk
    · exact ready_un hr
    · have h2 := ih k hk
      by_cases e : i = k
      · subst e; exact ready_un hr
      · rwa [getD_set_ne true e] at h2
theorem GOq.outer {ops : Array Oper} {q : Nat} {A B : Array Bool} {is : List Nat} (h : GOq ops q A is B) : ∀ i ∈ is, i ≠ q → ∀ j, j < ops.size → A.getD j true = false → j ∉ is → anc ops ops.size j i = true := by
  induction h with
  | nil => intro i hi; cases hi
  | @cons A B i r hr ho h ih =>
    intro k hk hq j hj hu hn
    rcases List.mem_cons.1 hk with rfl | hk
    · exact ho hq j hj hu hn
    · have hne : i ≠ j := fun e => hn (e ▸ List.mem_cons_self)
      exact ih k hk hq j hj (by rw [getD_set_ne true hne]; exact hu) (fun hm => hn (List.mem_cons_of_mem _ hm))
theorem GOq.first {ops : Array Oper} {q : Nat} {A B : Array Bool} {is : List Nat} (h : GOq ops q A is B) {A' : Array Bool} (hsz : A'.size = A.size) (hm : ∀ j, A.getD j false = true → A'.getD j false = true) {k : Nat} (hk : k ∈ is) (hk' : A'.getD k true = false) : ∃ i, i ∈ is ∧ i ∈ Region.ready .any ops A' := by
  induction h generalizing k with
  | nil => cases hk
  | @cons A B i r hr ho h ih =>
    by_cases hi : A'.getD i true = false
    · exact ⟨i, List.mem_cons_self, ready_more hr hi hm⟩
    · rcases List.mem_cons.1 hk with rfl | hk
      · exact absurd hk' hi
      · obtain ⟨x, hx1, hx2⟩ := ih (by simpa using hsz) (fun j hj => by
          by_cases e : i = j
          · subst e
            have hlt := getD_f_lt (ready_un hr)
            have hlt' : i < A'.size := by omega
            simp [hlt'] at hi ⊢; exact hi
          · rw [getD_set_ne false e] at hj
            exact hm j hj) hk hk'
        exact ⟨x, List.mem_cons_of_mem _ hx1, hx2⟩
section group
variable {C : Cx} {Q : XQ} {l : Env} {M J : Mem} {os : List Oper} {K : Nat → Prop} {n0 : Nat} {nd : List Nat} {plan : List (Nat × Nat)}
/-- What is to be shown of the one that only computes. -/
def OwesQ (C : Cx) (os : List Oper) (l : Env) (M J : Mem) (G : List Gw) (g : Gw) : Prop :=
  ∃ op ty pos af, nth os g.i = some ⟨some g.d, op, ty, pos, af, none⟩ ∧ ∀ (vs : Nat → Value) (bs : Nat → Mem) (R : Mem), (∀ x ∈ M ++ (J ++ C.A), x ∈ R) → (∀ g' ∈ G, anc os.toArray os.toArray.size g.i g'.i = true → g'.φ (vs g'.i) (bs g'.i) R) →
    ∃ v, OpQ C.P [] ⟨some g.d, op, ty, pos, af, none⟩ (gEnvO G vs ++ l) v ∧ g.φ v [] R
theorem groupQ_go {G : List Gw} (hmono : ∀ g ∈ G, GrowsO g.φ) (hd : (G.map (·.d)).Nodup) (hi : (G.map (·.i)).Nodup) (hs : Region.noSelect os.toArray = true) {gq : Gw} (hgq : gq ∈ G) (hdN : ∀ g ∈ G, g.d < C.N) (hob : ∀ g ∈ G, g.i ≠ gq.i → OwesO C os l M J G g) (hoq : OwesQ C os l M J G gq) {A B : Array Bool} (hok : GOq os.toArray gq.i A (G.map (·.i)) B) (hfr : freeQ os.toArray A gq.i = true)
    (hfin : ∀ (vs : Nat → Value) (bs : Nat → Mem) Jn a w, (∀ g ∈ G, g.φ (vs g.i) (bs g.i) ((ownOf (G.map (·.i)) bs ++ M) ++ ((Jn ++ J) ++ C.A))) → Ag C.N (gEnvO G vs ++ l) a → St C (ownOf (G.map (·.i)) bs ++ M) (Jn ++ J) w → n0 ≤ w.heap.size → wpAnyS C.P os.toArray (noPanicX (lift C Q)) (Sk K) nd.contains plan.length B a w) :
    ∀ (n : Nat) (X : List Nat) (vs : Nat → Value) (bs : Nat → Mem) (Jn : Mem) (a : Act) (w : World), X.Nodup → (∀ i ∈ X, i ∈ G.map (·.i)) → n + X.length = G.length → Closed os.toArray (mark A X) →
      (∀ g ∈ G, g.i ∈ X → g.φ (vs g.i) (bs g.i) ((ownOf X bs ++ M) ++ ((Jn ++ J) ++ C.A))) → Ag C.N (gEnvO G vs ++ l) a → St C (ownOf X bs ++ M) (Jn ++ J) w → n0 ≤ w.heap.size →
      wpAnyS C.P os.toArray (noPanicX (lift C Q)) (Sk K) nd.contains (n + plan.length) (mark A X) a w := by
  intro n
  induction n with
  | zero =>
    intro X vs bs Jn a w hnd hX hlen hcl hφ ha hw hn
    have hall : ∀ i, i ∈ X ↔ i ∈ G.map (·.i) := fun i => ⟨hX i, nodup_all hnd hX (by simp; omega) i⟩
    have hperm : (ownOf X bs ++ M).Perm (ownOf (G.map (·.i)) bs ++ M) := List.Perm.append_right _ (List.Perm.flatten ((perm_of_nodup hnd hi hall).map bs))
    rw [Nat.zero_add, mark_eq hall, ← hok.mark]
    refine hfin vs bs Jn a w (fun g hg => hmono g hg _ _ _ _ (fun x hx => ?_) (hφ g hg ((hall _).2 (List.mem_map_of_mem (f := Gw.i) hg)))) ha (hw.perm hperm) hn
    rcases List.mem_append.1 hx with h | h
    · exact List.mem_append_left _ (hperm.mem_iff.1 h)
    · exact List.mem_append_right _ h
  | succ n ih =>
    intro X vs bs Jn a w hnd hX hlen hcl hφ ha hw hn
    have hun : ∀ i ∈ G.map (·.i), A.getD i true = false := hok.un
    by_cases hqr : gq.i ∈ Region.ready .any os.toArray (mark A X)
    · obtain ⟨op, ty, pos, af, hget, howe⟩ := hoq
      have hi' : os.toArray[gq.i]? = some ⟨some gq.d, op, ty, pos, af, none⟩ := by rw [nth_eq] at hget; simpa using hget
      have hqX : gq.i ∉ X := fun h => (mark_getD_f.1 (ready_un hqr)).2 ⟨h, getD_f_lt (hun _ (List.mem_map_of_mem (f := Gw.i) hgq))⟩
      obtain ⟨v, hq, hφv⟩ := howe vs bs ((ownOf X bs ++ M) ++ ((Jn ++ J) ++ C.A)) (fun x hx => by simp only [List.mem_append] at hx ⊢; rcases hx with h | h | h <;> simp [h]) (fun g' hg' hanc => hφ g' hg' (by
        have h3 := anc_ready hcl hanc hqr
        rcases mark_getD_t h3 with h4 | h4
        · exact (not_both (hun _ (List.mem_map_of_mem (f := Gw.i) hg')) h4).elim
        · exact h4))
      have hpa := hq C.N a
      rw [show n + 1 + plan.length = (n + plan.length) + 1 by omega]
      refine wpAnyS_first (S := Sk K) (T := fun _ => True) (N := 0) (v := v) hi' (Region.noSelect_spec hs) (fun _ _ _ h => h) (fun _ _ _ _ => rfl) _ (mark A X) a w hcl (fun j oj hj hne hun' hno => freeQ_spec hi' hfr j oj hj hne (mark_getD_f.1 hun').1 (by
        cases ha0 : anc os.toArray os.toArray.size gq.i j with
        | false => rfl
        | true => exact (not_both hun' (anc_ready hcl ha0 hqr)).elim) hno) (fun _ _ _ _ => .inr fun _ _ _ _ => trivial) hqr (.inl ⟨rfl, fun w hw => hq C.N a w ha (fun _ _ hb => by cases hb)⟩) trivial ?_
      rw [← mark_snoc]
      let bs' : Nat → Mem := fun k => if k = gq.i then [] else bs k
      have hown : ownOf (X ++ [gq.i]) bs' = ownOf X bs := by
        have e1 : X.map bs' = X.map bs := List.map_congr_left fun x hx => by
          have : x ≠ gq.i := fun e => hqX (e ▸ hx)
          simp [bs', this]
        simp [ownOf, List.map_append, e1, bs']
      have ha' : Ag C.N ((gq.d, v) :: (gEnvO G vs ++ l)) (a.put (some gq.d) v) := ha.put (hdN gq hgq) v
      have henv := gEnv_set (N := C.N) (G := toG G) (l := l) (vs := vs) (g := ⟨gq.i, gq.d, fun _ _ => True⟩) (a := a.put (some gq.d) v) (v := v) (List.mem_map_of_mem (f := fun g : Gw => (⟨g.i, g.d, fun _ _ => True⟩ : Gm)) hgq) (by rw [toG_d]; exact hd) (by rw [toG_i]; exact hi) (by rw [toG_env]; exact ha')
      rw [toG_env] at henv
      refine ih (X ++ [gq.i]) (fun k => if k = gq.i then v else vs k) bs' Jn (a.put (some gq.d) v) w ?_ ?_ (by simp; omega) ?_ ?_ henv (by rw [hown]; exact hw) hn
      · rw [List.nodup_append]; exact ⟨hnd, by simp, fun x hx y hy e => hqX (by simp at hy; subst hy; exact e ▸ hx)⟩
      · intro j hj
        rcases List.mem_append.1 hj with hj | hj
        · exact hX j hj
        · simp at hj; subst hj; exact List.mem_map_of_mem (f := Gw.i) hgq
      · rw [mark_snoc]; exact closed_set hcl hqr
      · intro g' hg' hm
        rw [hown]
        by_cases e : g'.i = gq.i
        · have : g' = gq := gw_inj hi hg' hgq e
          subst this
          simp only [if_true, bs']
          exact hφv
        · simp only [e, if_false, bs']
          have hm' : g'.i ∈ X := by simpa [e] using hm
          exact hφ g' hg' hm'
    have hmiss : ∃ k ∈ G.map (·.i), k ∉ X ∧ k ≠ gq.i := by
      apply Classical.byContradiction
      intro hno
      have hs' : ∀ k ∈ G.map (·.i), k ≠ gq.i → k ∈ X := fun k hk hne => Classical.byContradiction fun h => hno ⟨k, hk, h, hne⟩
      by_cases hqX : gq.i ∈ X
      · have hs : ∀ k ∈ G.map (·.i), k ∈ X := fun k hk => by
          by_cases e : k = gq.i
          · rw [e]; exact hqX
          · exact hs' k hk e
        have := nodup_le hi hs
        simp at this; omega
      · have hqG := List.mem_map_of_mem (f := Gw.i) hgq
        obtain ⟨i, hiG, hir⟩ := hok.first (mark_size A X) (fun j hj => mark_mono hj) hqG (mark_getD_f.2 ⟨hun _ hqG, fun h => hqX h.1⟩)
        have hiX : i ∉ X := fun h => (mark_getD_f.1 (ready_un hir)).2 ⟨h, getD_f_lt (hun _ hiG)⟩
        by_cases e : i = gq.i
        · rw [e] at hir; exact hqr hir
        · exact hiX (hs' i hiG e)
    obtain ⟨k, hkG, hkX, hkq⟩ := hmiss
    have hkun : (mark A X).getD k true = false := mark_getD_f.2 ⟨hun k hkG, fun h => hkX h.1⟩
    rw [show n + 1 + plan.length = (n + plan.length) + 1 by omega]
    refine ⟨fun h0 => ?_, fun i hir => ?_⟩
    · obtain ⟨i, -, hir⟩ := hok.first (mark_size A X) (fun j hj => mark_mono hj) hkG hkun
      rw [h0] at hir; cases hir
    · have hiG : i ∈ G.map (·.i) := by
        apply Classical.byContradiction
        intro hno
        have h1 := mark_getD_f.1 (ready_un hir)
        have h2 := hok.outer k hkG hkq i (ready_lt hir) h1.1 hno
        exact not_both hkun (anc_ready hcl h2 hir)
      obtain ⟨g, hg, rfl⟩ := List.mem_map.1 hiG
      have hiX : g.i ∉ X := fun h => (mark_getD_f.1 (ready_un hir)).2 ⟨h, getD_f_lt (hun _ hiG)⟩
      obtain ⟨o, hget, howe⟩ := hob g hg (fun e => hqr (e ▸ hir))
      have hi' : os.toArray[g.i]? = some o := by rw [nth_eq] at hget; simpa using hget
      obtain ⟨hask, hop⟩ := howe vs bs ((ownOf X bs ++ M) ++ ((Jn ++ J) ++ C.A)) w (fun x hx => by simp only [List.mem_append] at hx ⊢; rcases hx with h | h | h <;> simp [h]) (fun g' hg' hanc => hφ g' hg' (by
        have h3 := anc_ready hcl hanc hir
        rcases mark_getD_t h3 with h4 | h4
        · exact (not_both (hun _ (List.mem_map_of_mem (f := Gw.i) hg')) h4).elim
        · exact h4))
      unfold wpOp
      simp only [hi']
      rw [if_pos (hask.wanted ha)]
      have hcal := hw.callee (Mc := []) (R := ownOf X bs ++ M) (.refl _)
      refine .inl (Oper.wp_mono ?_ (hop _ a w ha hcal.cx))
      rintro a' w' ⟨l', M', J', ha', hs', v, rfl, hφv⟩
      have hsz : w.heap.size ≤ w'.heap.size := hs'.size
      have hb := hw.back (Mc := []) (R := ownOf X bs ++ M) (.refl _) hs'.cx
      let bs' : Nat → Mem := fun k => if k = g.i then M' else bs k
      have hown : ownOf (X ++ [g.i]) bs' = ownOf X bs ++ M' := by
        have e1 : X.map bs' = X.map bs := List.map_congr_left fun x hx => by
          have : x ≠ g.i := fun e => hiX (e ▸ hx)
          simp [bs', this]
        simp [ownOf, List.map_append, e1, bs']
      have hperm : (M' ++ (ownOf X bs ++ M)).Perm (ownOf (X ++ [g.i]) bs' ++ M) := by
        rw [hown, ← List.append_assoc]
        exact List.Perm.append_right _ List.perm_append_comm
      have hfr2 : St C (ownOf (X ++ [g.i]) bs' ++ M) ((J' ++ Jn) ++ J) w' := (hb.perm hperm).drop (List.Sublist.refl _) fun x hx => by
        simp only [List.mem_append] at hx ⊢
        rcases hx with (h | h) | h <;> simp [h]
      refine ⟨fun _ b hb' hnk => hs'.frame b hb' (by simp), ?_⟩
      rw [← mark_snoc]
      have henv := gEnv_set (N := C.N) (G := toG G) (l := l) (vs := vs) (g := ⟨g.i, g.d, fun _ _ => True⟩) (a := a') (v := v) (List.mem_map_of_mem (f := fun g : Gw => (⟨g.i, g.d, fun _ _ => True⟩ : Gm)) hg) (by rw [toG_d]; exact hd) (by rw [toG_i]; exact hi) (by rw [toG_env]; exact ha')
      rw [toG_env] at henv
      refine ih (X ++ [g.i]) (fun k => if k = g.i then v else vs k) bs' (J' ++ Jn) a' w' ?_ ?_ (by simp; omega) ?_ ?_ henv hfr2 (Nat.le_trans hn hsz)
      · rw [List.nodup_append]; exact ⟨hnd, by simp, fun x hx y hy e => hiX (by simp at hy; subst hy; exact e ▸ hx)⟩
      · intro j hj
        rcases List.mem_append.1 hj with hj | hj
        · exact hX j hj
        · simp at hj; subst hj; exact hiG
      · rw [mark_snoc]; exact closed_set hcl hir
      · intro g' hg' hm
        rw [hown]
        by_cases e : g'.i = g.i
        · have : g' = g := gw_inj hi hg' hg e
          subst this
          simp only [if_true, bs']
          exact hmono g' hg' _ _ _ _ (fun x hx => by simp only [List.mem_append] at hx ⊢; rcases hx with h | h | (h | h) | (h | h) | h <;> simp [h]) hφv
        · simp only [e, if_false, bs']
          have hm' : g'.i ∈ X := by simpa [e] using hm
          exact hmono g' hg' _ _ _ _ (fun x hx => by simp only [List.mem_append] at hx ⊢; rcases hx with (h | h) | (h | h) | h <;> simp [h]) (hφ g' hg' hm')
theorem XK.groupQ (G0 : List Gw) (gq : Gw) (hs : Region.noSelect os.toArray = true) (hmono : ∀ g ∈ G0 ++ [gq], GrowsO g.φ) (hd : ((G0 ++ [gq]).map (·.d)).Nodup) (hi : ((G0 ++ [gq]).map (·.i)).Nodup) (hdN : ∀ g ∈ G0 ++ [gq], g.d < C.N) (hob0 : ∀ g ∈ G0, OwesO C os l M J (G0 ++ [gq]) g) (hoq : OwesQ C os l M J (G0 ++ [gq]) gq)
    (h : ∀ (vs : Nat → Value) (bs : Nat → Mem) Jn, (∀ g ∈ G0 ++ [gq], g.φ (vs g.i) (bs g.i) ((ownOf ((G0 ++ [gq]).map (·.i)) bs ++ M) ++ ((Jn ++ J) ++ C.A))) → XK C os Q K n0 nd plan (gEnvO (G0 ++ [gq]) vs ++ l) (ownOf ((G0 ++ [gq]).map (·.i)) bs ++ M) (Jn ++ J)) : XK C os Q K n0 nd (encQ gq.i (G0.map (·.i)) ++ plan) l M J := by
  intro listed hcl hp a w ha hw hn
  obtain ⟨B, hok, hfr, hp2⟩ := encQ_ok hp
  have hBcl : Closed os.toArray B := by
    have : ∀ {A is B}, GOq os.toArray gq.i A is B → Closed os.toArray A → Closed os.toArray B := by
      intro A is B h
      induction h with
      | nil => exact id
      | cons hr _ _ ih => exact fun hc => ih (closed_set hc hr)
    exact this hok hcl
  rw [show G0.map (·.i) ++ [gq.i] = (G0 ++ [gq]).map (·.i) by simp] at hok
  have hlen : (encQ gq.i (G0.map (·.i)) ++ plan).length = (G0 ++ [gq]).length + plan.length := by
    have : ∀ is : List Nat, (encQ gq.i is).length = is.length + 1 := by
      intro is
      induction is with
      | nil => rfl
      | cons i r ih => simp only [encQ, List.length_cons, ih]
    simp [this]
  have hob : ∀ g ∈ G0 ++ [gq], g.i ≠ gq.i → OwesO C os l M J (G0 ++ [gq]) g := fun g hg hne => by
    rcases List.mem_append.1 hg with h1 | h1
    · exact hob0 g h1
    · rw [List.mem_singleton.1 h1] at hne; exact absurd rfl hne
  have hgq : gq ∈ G0 ++ [gq] := by simp
  rw [hlen]
  generalize G0 ++ [gq] = G at *
  let vs : Nat → Value := fun k => match G.find? (fun g => g.i == k) with
    | some g => (a.tmps[g.d]?).getD undef
    | none => undef
  have hag : Ag C.N (gEnvO G vs ++ l) a := by
    refine ⟨ha.defers, ha.size, ?_⟩
    intro k u hk
    have key : ∀ G' : List Gw, (∀ g ∈ G', g ∈ G) → lk (gEnvO G' vs ++ l) k = some u → a.tmps[k]? = some u := by
      intro G'
      induction G' with
      | nil => intro _ h; exact ha.slot k u h
      | cons g G' ih =>
        intro hs h
        simp only [gEnvO, List.map_cons, List.cons_append, lk] at h
        by_cases e : g.d = k
        · subst e
          simp at h
          have hf : G.find? (fun x => x.i == g.i) = some g := by
            have hgG := hs g List.mem_cons_self
            cases hq : G.find? (fun x => x.i == g.i) with
            | none => have := List.find?_eq_none.1 hq g hgG; simp at this
            | some x =>
              have h1 := List.find?_some hq
              have h2 := List.mem_of_find?_eq_some hq
              rw [gw_inj hi h2 hgG (by simpa using h1)]
          have hlt : g.d < a.tmps.size := by rw [ha.size]; exact hdN g (hs g List.mem_cons_self)
          rw [← h]
          show a.tmps[g.d]? = some (vs g.i)
          simp only [vs, hf, Array.getElem?_eq_getElem hlt, Option.getD_some]
        · simp only [beq_ne e, cond_false] at h
          exact ih (fun x hx => hs x (List.mem_cons_of_mem _ hx)) h
    exact key G (fun _ h => h) hk
  exact groupQ_go (n0 := n0) (K := K) hmono hd hi hs hgq hdN hob hoq hok hfr (fun vs bs Jn a w hφ ha hw hn => h vs bs Jn hφ B hBcl hp2 a w ha hw hn) G.length [] vs (fun _ => []) [] a w .nil (fun _ h => by cases h) (by simp) hcl (fun _ _ h => by cases h) hag hw hn
theorem XF.groupQ (G0 : List Gw) (gq : Gw) (hs : Region.noSelect os.toArray = true) (hmono : ∀ g ∈ G0 ++ [gq], GrowsO g.φ) (hd : ((G0 ++ [gq]).map (·.d)).Nodup) (hi : ((G0 ++ [gq]).map (·.i)).Nodup) (hdN : ∀ g ∈ G0 ++ [gq], g.d < C.N) (hob0 : ∀ g ∈ G0, OwesO C os l M J (G0 ++ [gq]) g) (hoq : OwesQ C os l M J (G0 ++ [gq]) gq)
    (h : ∀ (vs : Nat → Value) (bs : Nat → Mem) Jn, (∀ g ∈ G0 ++ [gq], g.φ (vs g.i) (bs g.i) ((ownOf ((G0 ++ [gq]).map (·.i)) bs ++ M) ++ ((Jn ++ J) ++ C.A))) → XF C os Q nd plan (gEnvO (G0 ++ [gq]) vs ++ l) (ownOf ((G0 ++ [gq]).map (·.i)) bs ++ M) (Jn ++ J)) : XF C os Q nd (encQ gq.i (G0.map (·.i)) ++ plan) l M J := XK.groupQ G0 gq hs hmono hd hi hdN hob0 hoq h
end group
end Go.Px

/- The walks of package curve: At, Start. -/
namespace Go.Proofs.YtphcaiplgpmnnaaGreatDoor
open Go.Px
def rtN0 (x : Nat) : Option Nat := if rt1 x * rt1 x % p25 = x then some (rt1 x) else if rt2 x * rt2 x % p25 = x then some (rt2 x) else none
theorem rtN_ex (x : Nat) : ∃ y, y = rtN0 x := ⟨_, rfl⟩
noncomputable def rtN (x : Nat) : Option Nat := Classical.choose (rtN_ex x)
theorem rtN_eq (x : Nat) : rtN x = rtN0 x := Classical.choose_spec (rtN_ex x)
theorem rt_cases {r : Value} {x : Nat} (h : Rt r x) : ∃ u b n, r = .tuple #[u, .bool b] ∧ Fe u n ∧ ((rtN x = some n ∧ b = true) ∨ (rtN x = none ∧ b = false)) := by
  obtain ⟨u, b, rfl, h⟩ := h
  rw [rtN_eq]
  unfold rtN0
  rcases h with ⟨h1, rfl, h2⟩ | ⟨h1, h2, rfl, h3⟩ | ⟨h1, h2, rfl, h3⟩
  · exact ⟨_, _, _, rfl, h2, .inl ⟨by rw [if_pos h1], rfl⟩⟩
  · exact ⟨_, _, _, rfl, h3, .inl ⟨by rw [if_neg h1, if_pos h2], rfl⟩⟩
  · exact ⟨_, _, _, rfl, h3, .inr ⟨by rw [if_neg h1, if_neg h2], rfl⟩⟩
/-- What the square of the x of a y is. -/
noncomputable def xxN (y : Nat) : Nat := fM (fS (fM y y) 1) (fI (fA (fM dN (fM y y)) 1))
def atO (o : Option Nat) (odd : Bool) : Option Nat := match o with
  | none => none
  | some x => if odd && decide (x = 0) then none else some (if !(decide (x % 2 = 1) == odd) then fN x else x)
noncomputable def atN (y : Nat) (odd : Bool) : Option Nat := atO (rtN (xxN y)) odd
theorem at_of {y : Nat} {odd : Bool} {o : Option Nat} (h : rtN (xxN y) = o) : atN y odd = atO o odd := congrArg (fun o => atO o odd) h
theorem at_none {y : Nat} {odd : Bool} (h : rtN (xxN y) = none) : atN y odd = none := at_of h
theorem ao_zero {x : Nat} (hx : x = 0) : atO (some x) true = none := by subst hx; rfl
theorem at_zero {y x : Nat} (h : rtN (xxN y) = some x) (hx : x = 0) : atN y true = none := (at_of h).trans (ao_zero hx)
theorem ao_some {x : Nat} {odd : Bool} (hx : (odd && decide (x = 0)) = false) {b : Bool} (hb : (!(decide (x % 2 = 1) == odd)) = b) : atO (some x) odd = some (if b then fN x else x) := by unfold atO; simp only [hx, hb]; rfl
theorem at_some {y x : Nat} {odd : Bool} (h : rtN (xxN y) = some x) (hx : (odd && decide (x = 0)) = false) {b : Bool} (hb : (!(decide (x % 2 = 1) == odd)) = b) : atN y odd = some (if b then fN x else x) := (at_of h).trans (ao_some hx hb)
def pZ : Pt := ⟨0, 0, 0, 0⟩
def pAt (x y : Nat) : Pt := ⟨x, y, 1, fM x y⟩
def AtR (r : Value) (y : Nat) (odd : Bool) : Prop := ∃ V b, r = .tuple #[V, .bool b] ∧ ((∃ x, atN y odd = some x ∧ b = true ∧ FeP V (pAt x y)) ∨ (atN y odd = none ∧ b = false ∧ FeP V pZ))
def s45 : Nat := 46316835694926478169428394003475163141307993866256225615783033603165251855960
theorem s45_eq : fM 4 (fI 5) = s45 := by
  rw [fI_eq, rtp_pm (by decide)]
  decide +kernel
def bxN : Nat := 15112221349535400772501151409588531511454012693041857206046113283949847762202
def pS : Pt := pAt bxN s45
theorem xx_pm {y : Nat} : xxN y = fM (fS (fM y y) 1) (pm p25 256 (fA (fM dN (fM y y)) 1) (p25 - 2) 1) := by
  unfold xxN
  rw [fI_eq, rtp_pm (by decide)]
theorem rt1_pm {x : Nat} : rt1 x = pm p25 256 x (2 ^ 252 - 2) 1 := by
  unfold rt1
  rw [rtp_pm (by decide)]
theorem i_pm : rtp 2 (2 ^ 253 - 5) = pm p25 256 2 (2 ^ 253 - 5) 1 := rtp_pm (by decide)
theorem rt2_pm {x : Nat} : rt2 x = pm p25 256 x (2 ^ 252 - 2) 1 * pm p25 256 2 (2 ^ 253 - 5) 1 % p25 := by
  unfold rt2
  rw [rt1_pm, i_pm]
def rtK (x : Nat) : Option Nat := if pm p25 256 x (2 ^ 252 - 2) 1 * pm p25 256 x (2 ^ 252 - 2) 1 % p25 = x then some (pm p25 256 x (2 ^ 252 - 2) 1) else if (pm p25 256 x (2 ^ 252 - 2) 1 * pm p25 256 2 (2 ^ 253 - 5) 1 % p25) * (pm p25 256 x (2 ^ 252 - 2) 1 * pm p25 256 2 (2 ^ 253 - 5) 1 % p25) % p25 = x then some (pm p25 256 x (2 ^ 252 - 2) 1 * pm p25 256 2 (2 ^ 253 - 5) 1 % p25) else none
theorem rt_K {x : Nat} : rtN x = rtK x := by
  rw [rtN_eq]
  unfold rtN0 rtK
  rw [rt2_pm, rt1_pm]
theorem xx45 : xxN s45 = 26187595835145689230469591415084376402084551887632582719101735842039498021991 := by
  rw [xx_pm]
  decide +kernel
theorem at45 : atN s45 false = some bxN := by
  refine (at_of ((congrArg rtN xx45).trans (rt_K.trans (Eq.refl (rtK 26187595835145689230469591415084376402084551887632582719101735842039498021991))))).trans ?_
  decide +kernel

theorem at_f (v : Value) (y : Nat) (odd : Bool) (hv : Fe v y) (A : Mem) : FnX Tryz.prog 140 [v, .bool odd] [] A fun r M J => M = [] ∧ J = [] ∧ AtR r y odd := by
 have hy := hv
 obtain ⟨y0, y1, y2, y3, y4, rfl, -⟩ := hv
 refine FnX.enter (N := 48) Tryz.func140 rfl rfl rfl fun w => ?_
 refine XC.keep (kq 0 (kq 1 kn)) ?_
 refine XC.reg ?_
 refine XL.lo rfl (bx_ fun b2 => ?_)
 refine XL.lo rfl (l_alloc (cs := [.int .u64 0, .int .u64 0, .int .u64 0, .int .u64 0, .int .u64 0, .int .u64 0, .int .u64 0, .int .u64 0, .int .u64 0, .int .u64 0, .int .u64 0, .int .u64 0, .int .u64 0, .int .u64 0, .int .u64 0, .int .u64 0, .int .u64 0, .int .u64 0, .int .u64 0, .int .u64 0]) (by kernel_rfl) rfl fun b4 => ?_)
 refine as_ ?_
 refine XL.fin (kq 1 (kq 2 (kq 4 kn))) ?_
 refine XC.reg ?_
 refine XL.q (qw_ 5) rfl ?_
 refine XL.call (aS rfl a0) (by kernel_rfl) (sq_f hy _) rfl ?_
 rintro r10 M10 J10 ⟨rfl, rfl, k10⟩
 have h10 := k10
 obtain ⟨a10, b10, c10, d10, e10, rfl, -⟩ := k10
 refine XL.lo rfl (l_alloc (cs := [.int .u64 0, .int .u64 0, .int .u64 0, .int .u64 0, .int .u64 0]) (by kernel_rfl) rfl fun b6 => ?_)
 refine XL.lo rfl (l_storeW rfl rfl Cel.cel (by kernel_rfl) (lnS (lnS (lnS (lnS (lnS (ln0)))))) (allS rfl (allS rfl (allS rfl (allS rfl (allS rfl (all0)))))) UpC.upd ?_)
 refine XL.fin (kq 1 (kq 2 (kq 4 (kq 6 kn)))) ?_
 refine XC.drawF [0, 1, 2, 3, 4, 5, 6, 7, 8, 9, 10, 11, 12, 13, 14, 16] [(0, 1), (4, 1), (1, 6), (2, 6), (3, 6), (5, 6), (6, 6), (7, 6), (8, 6), (9, 6), (10, 6), (11, 6), (12, 6), (14, 6), (13, 7), (15, 2), (16, 0)] (by kernel_rfl) (by kernel_rfl) fun hs => ?_
 refine XF.r hs rfl (qw_ 5) rfl ?_
 refine XF.r hs rfl (qw_ 5) rfl ?_
 refine XF.groupQ [⟨1, 13, fun v B _ => B = [] ∧ Fe v (1)⟩, ⟨2, 14, fun v B _ => B = [] ∧ Fe v (fS (fM y y) 1)⟩, ⟨3, 15, fun v B _ => B = [] ∧ Fe v (dN)⟩, ⟨5, 17, fun v B _ => B = [] ∧ Fe v (fM dN (fM y y))⟩, ⟨6, 18, fun v B _ => B = [] ∧ Fe v (1)⟩, ⟨7, 19, fun v B _ => B = [] ∧ Fe v (fA (fM dN (fM y y)) 1)⟩, ⟨8, 20, fun v B _ => B = [] ∧ Fe v (fI (fA (fM dN (fM y y)) 1))⟩, ⟨9, 21, fun v B _ => B = [] ∧ Fe v (xxN y)⟩, ⟨10, 22, fun v B _ => B = [] ∧ Rt v (xxN y)⟩, ⟨11, 11, fun v B _ => B = [] ∧ Rt v (xxN y)⟩, ⟨12, 23, fun v B _ => B = [] ∧ ∃ n, Fe v n ∧ ∀ m, rtN (xxN y) = some m → n = m⟩, ⟨14, 7, fun v B _ => ∃ b, v = .pointer (some ⟨b, 0, none⟩) ∧ B = [(b, blk [.int .u64 0, .int .u64 0, .int .u64 0, .int .u64 0, .int .u64 0] 152)]⟩] ⟨13, 24, fun v B _ => B = [] ∧ v = .bool (rtN (xxN y)).isSome⟩ hs
  (allS (fun _ _ _ _ _ h => h) (allS (fun _ _ _ _ _ h => h) (allS (fun _ _ _ _ _ h => h) (allS (fun _ _ _ _ _ h => h) (allS (fun _ _ _ _ _ h => h) (allS (fun _ _ _ _ _ h => h) (allS (fun _ _ _ _ _ h => h) (allS (fun _ _ _ _ _ h => h) (allS (fun _ _ _ _ _ h => h) (allS (fun _ _ _ _ _ h => h) (allS (fun _ _ _ _ _ h => h) (allS (fun _ _ _ _ _ h => h) (allS (fun _ _ _ _ _ h => h) (all0)))))))))))))) (show List.Nodup [13, 14, 15, 17, 18, 19, 20, 21, 22, 11, 23, 7, 24] by decide) (show List.Nodup [1, 2, 3, 5, 6, 7, 8, 9, 10, 11, 12, 14, 13] by decide) (allS (blt_lt rfl) (allS (blt_lt rfl) (allS (blt_lt rfl) (allS (blt_lt rfl) (allS (blt_lt rfl) (allS (blt_lt rfl) (allS (blt_lt rfl) (allS (blt_lt rfl) (allS (blt_lt rfl) (allS (blt_lt rfl) (allS (blt_lt rfl) (allS (blt_lt rfl) (allS (blt_lt rfl) (all0))))))))))))))
  (allS ⟨_, rfl, fun vs bs R w hb ha => ⟨.inl rfl, ?_⟩⟩ (allS ⟨_, rfl, fun vs bs R w hb ha => ⟨.inl rfl, ?_⟩⟩ (allS ⟨_, rfl, fun vs bs R w hb ha => ⟨.inl rfl, ?_⟩⟩ (allS ⟨_, rfl, fun vs bs R w hb ha => ⟨.inl rfl, ?_⟩⟩ (allS ⟨_, rfl, fun vs bs R w hb ha => ⟨.inl rfl, ?_⟩⟩ (allS ⟨_, rfl, fun vs bs R w hb ha => ⟨.inl rfl, ?_⟩⟩ (allS ⟨_, rfl, fun vs bs R w hb ha => ⟨.inl rfl, ?_⟩⟩ (allS ⟨_, rfl, fun vs bs R w hb ha => ⟨.inl rfl, ?_⟩⟩ (allS ⟨_, rfl, fun vs bs R w hb ha => ⟨.inl rfl, ?_⟩⟩ (allS ⟨_, rfl, fun vs bs R w hb ha => ⟨.inl rfl, ?_⟩⟩ (allS ⟨_, rfl, fun vs bs R w hb ha => ⟨.inl rfl, ?_⟩⟩ (allS ⟨_, rfl, fun vs bs R w hb ha => ⟨.inl rfl, ?_⟩⟩ (all0))))))))))))) ⟨_, _, _, _, rfl, fun vs bs R hb ha => ?_⟩ ?_
 ·
  refine l_call0 (aS rfl (a0)) (by kernel_rfl) (num_f 1 (by decide) _) rfl ?_
  rintro r M1 J1 ⟨rfl, rfl, hh⟩
  exact ⟨_, rfl, rfl, hh⟩
 ·
  have g1 := ha _ (List.mem_of_getElem? (i := 0) rfl) (by kernel_rfl)
  replace g1 : (fun v B _ => B = [] ∧ Fe v (1)) (vs 1) (bs 1) R := g1
  dsimp only at g1
  obtain ⟨-, k1⟩ := g1
  refine l_call0 (aS rfl (aS rfl (a0))) (by kernel_rfl) (sub_f h10 k1 _) rfl ?_
  rintro r M1 J1 ⟨rfl, rfl, hh⟩
  exact ⟨_, rfl, rfl, hh⟩
 ·
  have g1 := ha _ (List.mem_of_getElem? (i := 0) rfl) (by kernel_rfl)
  replace g1 : (fun v B _ => B = [] ∧ Fe v (1)) (vs 1) (bs 1) R := g1
  dsimp only at g1
  have g2 := ha _ (List.mem_of_getElem? (i := 1) rfl) (by kernel_rfl)
  replace g2 : (fun v B _ => B = [] ∧ Fe v (fS (fM y y) 1)) (vs 2) (bs 2) R := g2
  dsimp only at g2
  refine l_call0 (a0) (by kernel_rfl) (curve_f _) rfl ?_
  rintro r M1 J1 ⟨rfl, rfl, hh⟩
  exact ⟨_, rfl, rfl, hh⟩
 ·
  have g1 := ha _ (List.mem_of_getElem? (i := 0) rfl) (by kernel_rfl)
  replace g1 : (fun v B _ => B = [] ∧ Fe v (1)) (vs 1) (bs 1) R := g1
  dsimp only at g1
  have g2 := ha _ (List.mem_of_getElem? (i := 1) rfl) (by kernel_rfl)
  replace g2 : (fun v B _ => B = [] ∧ Fe v (fS (fM y y) 1)) (vs 2) (bs 2) R := g2
  dsimp only at g2
  have g3 := ha _ (List.mem_of_getElem? (i := 2) rfl) (by kernel_rfl)
  replace g3 : (fun v B _ => B = [] ∧ Fe v (dN)) (vs 3) (bs 3) R := g3
  dsimp only at g3
  obtain ⟨-, k3⟩ := g3
  refine l_call0 (aS rfl (aS rfl (a0))) (by kernel_rfl) (mul_f k3 h10 _) rfl ?_
  rintro r M1 J1 ⟨rfl, rfl, hh⟩
  exact ⟨_, rfl, rfl, hh⟩
 ·
  have g1 := ha _ (List.mem_of_getElem? (i := 0) rfl) (by kernel_rfl)
  replace g1 : (fun v B _ => B = [] ∧ Fe v (1)) (vs 1) (bs 1) R := g1
  dsimp only at g1
  have g2 := ha _ (List.mem_of_getElem? (i := 1) rfl) (by kernel_rfl)
  replace g2 : (fun v B _ => B = [] ∧ Fe v (fS (fM y y) 1)) (vs 2) (bs 2) R := g2
  dsimp only at g2
  have g3 := ha _ (List.mem_of_getElem? (i := 2) rfl) (by kernel_rfl)
  replace g3 : (fun v B _ => B = [] ∧ Fe v (dN)) (vs 3) (bs 3) R := g3
  dsimp only at g3
  have g5 := ha _ (List.mem_of_getElem? (i := 3) rfl) (by kernel_rfl)
  replace g5 : (fun v B _ => B = [] ∧ Fe v (fM dN (fM y y))) (vs 5) (bs 5) R := g5
  dsimp only at g5
  refine l_call0 (aS rfl (a0)) (by kernel_rfl) (num_f 1 (by decide) _) rfl ?_
  rintro r M1 J1 ⟨rfl, rfl, hh⟩
  exact ⟨_, rfl, rfl, hh⟩
 ·
  have g1 := ha _ (List.mem_of_getElem? (i := 0) rfl) (by kernel_rfl)
  replace g1 : (fun v B _ => B = [] ∧ Fe v (1)) (vs 1) (bs 1) R := g1
  dsimp only at g1
  have g2 := ha _ (List.mem_of_getElem? (i := 1) rfl) (by kernel_rfl)
  replace g2 : (fun v B _ => B = [] ∧ Fe v (fS (fM y y) 1)) (vs 2) (bs 2) R := g2
  dsimp only at g2
  have g3 := ha _ (List.mem_of_getElem? (i := 2) rfl) (by kernel_rfl)
  replace g3 : (fun v B _ => B = [] ∧ Fe v (dN)) (vs 3) (bs 3) R := g3
  dsimp only at g3
  have g5 := ha _ (List.mem_of_getElem? (i := 3) rfl) (by kernel_rfl)
  replace g5 : (fun v B _ => B = [] ∧ Fe v (fM dN (fM y y))) (vs 5) (bs 5) R := g5
  dsimp only at g5
  have g6 := ha _ (List.mem_of_getElem? (i := 4) rfl) (by kernel_rfl)
  replace g6 : (fun v B _ => B = [] ∧ Fe v (1)) (vs 6) (bs 6) R := g6
  dsimp only at g6
  obtain ⟨-, k5⟩ := g5
  obtain ⟨-, k6⟩ := g6
  refine l_call0 (aS rfl (aS rfl (a0))) (by kernel_rfl) (add_f k5 k6 _) rfl ?_
  rintro r M1 J1 ⟨rfl, rfl, hh⟩
  exact ⟨_, rfl, rfl, hh⟩
 ·
  have g1 := ha _ (List.mem_of_getElem? (i := 0) rfl) (by kernel_rfl)
  replace g1 : (fun v B _ => B = [] ∧ Fe v (1)) (vs 1) (bs 1) R := g1
  dsimp only at g1
  have g2 := ha _ (List.mem_of_getElem? (i := 1) rfl) (by kernel_rfl)
  replace g2 : (fun v B _ => B = [] ∧ Fe v (fS (fM y y) 1)) (vs 2) (bs 2) R := g2
  dsimp only at g2
  have g3 := ha _ (List.mem_of_getElem? (i := 2) rfl) (by kernel_rfl)
  replace g3 : (fun v B _ => B = [] ∧ Fe v (dN)) (vs 3) (bs 3) R := g3
  dsimp only at g3
  have g5 := ha _ (List.mem_of_getElem? (i := 3) rfl) (by kernel_rfl)
  replace g5 : (fun v B _ => B = [] ∧ Fe v (fM dN (fM y y))) (vs 5) (bs 5) R := g5
  dsimp only at g5
  have g6 := ha _ (List.mem_of_getElem? (i := 4) rfl) (by kernel_rfl)
  replace g6 : (fun v B _ => B = [] ∧ Fe v (1)) (vs 6) (bs 6) R := g6
  dsimp only at g6
  have g7 := ha _ (List.mem_of_getElem? (i := 5) rfl) (by kernel_rfl)
  replace g7 : (fun v B _ => B = [] ∧ Fe v (fA (fM dN (fM y y)) 1)) (vs 7) (bs 7) R := g7
  dsimp only at g7
  obtain ⟨-, k7⟩ := g7
  refine l_call0 (aS rfl (a0)) (by kernel_rfl) (inv_f k7 _) rfl ?_
  rintro r M1 J1 ⟨rfl, rfl, hh⟩
  exact ⟨_, rfl, rfl, hh⟩
 ·
  have g1 := ha _ (List.mem_of_getElem? (i := 0) rfl) (by kernel_rfl)
  replace g1 : (fun v B _ => B = [] ∧ Fe v (1)) (vs 1) (bs 1) R := g1
  dsimp only at g1
  have g2 := ha _ (List.mem_of_getElem? (i := 1) rfl) (by kernel_rfl)
  replace g2 : (fun v B _ => B = [] ∧ Fe v (fS (fM y y) 1)) (vs 2) (bs 2) R := g2
  dsimp only at g2
  have g3 := ha _ (List.mem_of_getElem? (i := 2) rfl) (by kernel_rfl)
  replace g3 : (fun v B _ => B = [] ∧ Fe v (dN)) (vs 3) (bs 3) R := g3
  dsimp only at g3
  have g5 := ha _ (List.mem_of_getElem? (i := 3) rfl) (by kernel_rfl)
  replace g5 : (fun v B _ => B = [] ∧ Fe v (fM dN (fM y y))) (vs 5) (bs 5) R := g5
  dsimp only at g5
  have g6 := ha _ (List.mem_of_getElem? (i := 4) rfl) (by kernel_rfl)
  replace g6 : (fun v B _ => B = [] ∧ Fe v (1)) (vs 6) (bs 6) R := g6
  dsimp only at g6
  have g7 := ha _ (List.mem_of_getElem? (i := 5) rfl) (by kernel_rfl)
  replace g7 : (fun v B _ => B = [] ∧ Fe v (fA (fM dN (fM y y)) 1)) (vs 7) (bs 7) R := g7
  dsimp only at g7
  have g8 := ha _ (List.mem_of_getElem? (i := 6) rfl) (by kernel_rfl)
  replace g8 : (fun v B _ => B = [] ∧ Fe v (fI (fA (fM dN (fM y y)) 1))) (vs 8) (bs 8) R := g8
  dsimp only at g8
  obtain ⟨-, k2⟩ := g2
  obtain ⟨-, k8⟩ := g8
  refine l_call0 (aS rfl (aS rfl (a0))) (by kernel_rfl) (mul_f k2 k8 _) rfl ?_
  rintro r M1 J1 ⟨rfl, rfl, hh⟩
  exact ⟨_, rfl, rfl, hh⟩
 ·
  have g1 := ha _ (List.mem_of_getElem? (i := 0) rfl) (by kernel_rfl)
  replace g1 : (fun v B _ => B = [] ∧ Fe v (1)) (vs 1) (bs 1) R := g1
  dsimp only at g1
  have g2 := ha _ (List.mem_of_getElem? (i := 1) rfl) (by kernel_rfl)
  replace g2 : (fun v B _ => B = [] ∧ Fe v (fS (fM y y) 1)) (vs 2) (bs 2) R := g2
  dsimp only at g2
  have g3 := ha _ (List.mem_of_getElem? (i := 2) rfl) (by kernel_rfl)
  replace g3 : (fun v B _ => B = [] ∧ Fe v (dN)) (vs 3) (bs 3) R := g3
  dsimp only at g3
  have g5 := ha _ (List.mem_of_getElem? (i := 3) rfl) (by kernel_rfl)
  replace g5 : (fun v B _ => B = [] ∧ Fe v (fM dN (fM y y))) (vs 5) (bs 5) R := g5
  dsimp only at g5
  have g6 := ha _ (List.mem_of_getElem? (i := 4) rfl) (by kernel_rfl)
  replace g6 : (fun v B _ => B = [] ∧ Fe v (1)) (vs 6) (bs 6) R := g6
  dsimp only at g6
  have g7 := ha _ (List.mem_of_getElem? (i := 5) rfl) (by kernel_rfl)
  replace g7 : (fun v B _ => B = [] ∧ Fe v (fA (fM dN (fM y y)) 1)) (vs 7) (bs 7) R := g7
  dsimp only at g7
  have g8 := ha _ (List.mem_of_getElem? (i := 6) rfl) (by kernel_rfl)
  replace g8 : (fun v B _ => B = [] ∧ Fe v (fI (fA (fM dN (fM y y)) 1))) (vs 8) (bs 8) R := g8
  dsimp only at g8
  have g9 := ha _ (List.mem_of_getElem? (i := 7) rfl) (by kernel_rfl)
  replace g9 : (fun v B _ => B = [] ∧ Fe v (xxN y)) (vs 9) (bs 9) R := g9
  dsimp only at g9
  obtain ⟨-, k9⟩ := g9
  refine l_call0 (aS rfl a0) (by kernel_rfl) (froot_spec _ _ k9 _) rfl ?_
  rintro r M1 J1 ⟨rfl, rfl, hh⟩
  exact ⟨_, rfl, rfl, hh⟩
 ·
  have g1 := ha _ (List.mem_of_getElem? (i := 0) rfl) (by kernel_rfl)
  replace g1 : (fun v B _ => B = [] ∧ Fe v (1)) (vs 1) (bs 1) R := g1
  dsimp only at g1
  have g2 := ha _ (List.mem_of_getElem? (i := 1) rfl) (by kernel_rfl)
  replace g2 : (fun v B _ => B = [] ∧ Fe v (fS (fM y y) 1)) (vs 2) (bs 2) R := g2
  dsimp only at g2
  have g3 := ha _ (List.mem_of_getElem? (i := 2) rfl) (by kernel_rfl)
  replace g3 : (fun v B _ => B = [] ∧ Fe v (dN)) (vs 3) (bs 3) R := g3
  dsimp only at g3
  have g5 := ha _ (List.mem_of_getElem? (i := 3) rfl) (by kernel_rfl)
  replace g5 : (fun v B _ => B = [] ∧ Fe v (fM dN (fM y y))) (vs 5) (bs 5) R := g5
  dsimp only at g5
  have g6 := ha _ (List.mem_of_getElem? (i := 4) rfl) (by kernel_rfl)
  replace g6 : (fun v B _ => B = [] ∧ Fe v (1)) (vs 6) (bs 6) R := g6
  dsimp only at g6
  have g7 := ha _ (List.mem_of_getElem? (i := 5) rfl) (by kernel_rfl)
  replace g7 : (fun v B _ => B = [] ∧ Fe v (fA (fM dN (fM y y)) 1)) (vs 7) (bs 7) R := g7
  dsimp only at g7
  have g8 := ha _ (List.mem_of_getElem? (i := 6) rfl) (by kernel_rfl)
  replace g8 : (fun v B _ => B = [] ∧ Fe v (fI (fA (fM dN (fM y y)) 1))) (vs 8) (bs 8) R := g8
  dsimp only at g8
  have g9 := ha _ (List.mem_of_getElem? (i := 7) rfl) (by kernel_rfl)
  replace g9 : (fun v B _ => B = [] ∧ Fe v (xxN y)) (vs 9) (bs 9) R := g9
  dsimp only at g9
  have g10 := ha _ (List.mem_of_getElem? (i := 8) rfl) (by kernel_rfl)
  replace g10 : (fun v B _ => B = [] ∧ Rt v (xxN y)) (vs 10) (bs 10) R := g10
  dsimp only at g10
  obtain ⟨-, k10⟩ := g10
  exact OpQ.opL qm_ rfl ⟨_, rfl, rfl, k10⟩
 ·
  have g1 := ha _ (List.mem_of_getElem? (i := 0) rfl) (by kernel_rfl)
  replace g1 : (fun v B _ => B = [] ∧ Fe v (1)) (vs 1) (bs 1) R := g1
  dsimp only at g1
  have g2 := ha _ (List.mem_of_getElem? (i := 1) rfl) (by kernel_rfl)
  replace g2 : (fun v B _ => B = [] ∧ Fe v (fS (fM y y) 1)) (vs 2) (bs 2) R := g2
  dsimp only at g2
  have g3 := ha _ (List.mem_of_getElem? (i := 2) rfl) (by kernel_rfl)
  replace g3 : (fun v B _ => B = [] ∧ Fe v (dN)) (vs 3) (bs 3) R := g3
  dsimp only at g3
  have g5 := ha _ (List.mem_of_getElem? (i := 3) rfl) (by kernel_rfl)
  replace g5 : (fun v B _ => B = [] ∧ Fe v (fM dN (fM y y))) (vs 5) (bs 5) R := g5
  dsimp only at g5
  have g6 := ha _ (List.mem_of_getElem? (i := 4) rfl) (by kernel_rfl)
  replace g6 : (fun v B _ => B = [] ∧ Fe v (1)) (vs 6) (bs 6) R := g6
  dsimp only at g6
  have g7 := ha _ (List.mem_of_getElem? (i := 5) rfl) (by kernel_rfl)
  replace g7 : (fun v B _ => B = [] ∧ Fe v (fA (fM dN (fM y y)) 1)) (vs 7) (bs 7) R := g7
  dsimp only at g7
  have g8 := ha _ (List.mem_of_getElem? (i := 6) rfl) (by kernel_rfl)
  replace g8 : (fun v B _ => B = [] ∧ Fe v (fI (fA (fM dN (fM y y)) 1))) (vs 8) (bs 8) R := g8
  dsimp only at g8
  have g9 := ha _ (List.mem_of_getElem? (i := 7) rfl) (by kernel_rfl)
  replace g9 : (fun v B _ => B = [] ∧ Fe v (xxN y)) (vs 9) (bs 9) R := g9
  dsimp only at g9
  have g10 := ha _ (List.mem_of_getElem? (i := 8) rfl) (by kernel_rfl)
  replace g10 : (fun v B _ => B = [] ∧ Rt v (xxN y)) (vs 10) (bs 10) R := g10
  dsimp only at g10
  have g11 := ha _ (List.mem_of_getElem? (i := 9) rfl) (by kernel_rfl)
  replace g11 : (fun v B _ => B = [] ∧ Rt v (xxN y)) (vs 11) (bs 11) R := g11
  dsimp only at g11
  obtain ⟨-, k11⟩ := g11
  obtain ⟨w, ok, n, hw, hn, hrt⟩ := rt_cases k11
  exact OpQ.opL (q_extract (vs := #[w, .bool ok]) (by rw [← hw]; rfl) rfl) rfl ⟨_, rfl, rfl, n, hn, fun m hm => by rcases hrt with ⟨h1, -⟩ | ⟨h1, -⟩ <;> rw [hm] at h1 <;> cases h1; rfl⟩
 ·
  exact l_alloc (cs := [.int .u64 0, .int .u64 0, .int .u64 0, .int .u64 0, .int .u64 0]) (by kernel_rfl) rfl fun b => ⟨_, rfl, b, rfl, rfl⟩
 ·
  have g1 := ha _ (List.mem_of_getElem? (i := 0) rfl) (by kernel_rfl)
  replace g1 : (fun v B _ => B = [] ∧ Fe v (1)) (vs 1) (bs 1) R := g1
  dsimp only at g1
  have g2 := ha _ (List.mem_of_getElem? (i := 1) rfl) (by kernel_rfl)
  replace g2 : (fun v B _ => B = [] ∧ Fe v (fS (fM y y) 1)) (vs 2) (bs 2) R := g2
  dsimp only at g2
  have g3 := ha _ (List.mem_of_getElem? (i := 2) rfl) (by kernel_rfl)
  replace g3 : (fun v B _ => B = [] ∧ Fe v (dN)) (vs 3) (bs 3) R := g3
  dsimp only at g3
  have g5 := ha _ (List.mem_of_getElem? (i := 3) rfl) (by kernel_rfl)
  replace g5 : (fun v B _ => B = [] ∧ Fe v (fM dN (fM y y))) (vs 5) (bs 5) R := g5
  dsimp only at g5
  have g6 := ha _ (List.mem_of_getElem? (i := 4) rfl) (by kernel_rfl)
  replace g6 : (fun v B _ => B = [] ∧ Fe v (1)) (vs 6) (bs 6) R := g6
  dsimp only at g6
  have g7 := ha _ (List.mem_of_getElem? (i := 5) rfl) (by kernel_rfl)
  replace g7 : (fun v B _ => B = [] ∧ Fe v (fA (fM dN (fM y y)) 1)) (vs 7) (bs 7) R := g7
  dsimp only at g7
  have g8 := ha _ (List.mem_of_getElem? (i := 6) rfl) (by kernel_rfl)
  replace g8 : (fun v B _ => B = [] ∧ Fe v (fI (fA (fM dN (fM y y)) 1))) (vs 8) (bs 8) R := g8
  dsimp only at g8
  have g9 := ha _ (List.mem_of_getElem? (i := 7) rfl) (by kernel_rfl)
  replace g9 : (fun v B _ => B = [] ∧ Fe v (xxN y)) (vs 9) (bs 9) R := g9
  dsimp only at g9
  have g10 := ha _ (List.mem_of_getElem? (i := 8) rfl) (by kernel_rfl)
  replace g10 : (fun v B _ => B = [] ∧ Rt v (xxN y)) (vs 10) (bs 10) R := g10
  dsimp only at g10
  have g11 := ha _ (List.mem_of_getElem? (i := 9) rfl) (by kernel_rfl)
  replace g11 : (fun v B _ => B = [] ∧ Rt v (xxN y)) (vs 11) (bs 11) R := g11
  dsimp only at g11
  obtain ⟨-, k11⟩ := g11
  obtain ⟨w, ok, n, hw, hn, hrt⟩ := rt_cases k11
  exact ⟨.bool ok, q_extract (vs := #[w, .bool ok]) (by rw [← hw]; rfl) rfl, rfl, by rcases hrt with ⟨h1, rfl⟩ | ⟨h1, rfl⟩ <;> rw [h1] <;> rfl⟩
 intro vs bs Jn0 hφ
 have g1 := ofH hφ
 dsimp only at g1
 replace hφ := ofT hφ
 have g2 := ofH hφ
 dsimp only at g2
 replace hφ := ofT hφ
 have g3 := ofH hφ
 dsimp only at g3
 replace hφ := ofT hφ
 have g5 := ofH hφ
 dsimp only at g5
 replace hφ := ofT hφ
 have g6 := ofH hφ
 dsimp only at g6
 replace hφ := ofT hφ
 have g7 := ofH hφ
 dsimp only at g7
 replace hφ := ofT hφ
 have g8 := ofH hφ
 dsimp only at g8
 replace hφ := ofT hφ
 have g9 := ofH hφ
 dsimp only at g9
 replace hφ := ofT hφ
 have g10 := ofH hφ
 dsimp only at g10
 replace hφ := ofT hφ
 have g11 := ofH hφ
 dsimp only at g11
 replace hφ := ofT hφ
 have g12 := ofH hφ
 dsimp only at g12
 replace hφ := ofT hφ
 have g14 := ofH hφ
 dsimp only at g14
 replace hφ := ofT hφ
 have g13 := ofH hφ
 dsimp only at g13
 clear hφ
 dsimp only [gEnvO, ownOf, List.map, List.flatten, List.cons_append, List.nil_append]
 generalize bs 1 = B13 at *
 generalize bs 2 = B14 at *
 generalize bs 3 = B15 at *
 generalize bs 5 = B17 at *
 generalize bs 6 = B18 at *
 generalize bs 7 = B19 at *
 generalize bs 8 = B20 at *
 generalize bs 9 = B21 at *
 generalize bs 10 = B22 at *
 generalize bs 11 = B11 at *
 generalize bs 12 = B23 at *
 generalize bs 14 = B7 at *
 generalize bs 13 = B24 at *
 generalize vs 1 = u13 at *
 generalize vs 2 = u14 at *
 generalize vs 3 = u15 at *
 generalize vs 5 = u17 at *
 generalize vs 6 = u18 at *
 generalize vs 7 = u19 at *
 generalize vs 8 = u20 at *
 generalize vs 9 = u21 at *
 generalize vs 10 = u22 at *
 generalize vs 11 = u11 at *
 generalize vs 12 = u23 at *
 generalize vs 14 = u7 at *
 generalize vs 13 = u24 at *
 obtain ⟨rfl, -⟩ := g10
 obtain ⟨rfl, -⟩ := g11
 obtain ⟨rfl, n, hn, hnm⟩ := g12
 have hn0 := hn
 obtain ⟨n0, n1, n2, n3, n4, rfl, -⟩ := hn
 obtain ⟨ok, hrt, hok⟩ : ∃ ok, ((rtN (xxN y) = some n ∧ ok = true) ∨ (rtN (xxN y) = none ∧ ok = false)) ∧ (rtN (xxN y)).isSome = ok := by
  cases hq : rtN (xxN y) with
  | none => exact ⟨false, .inr ⟨rfl, rfl⟩, rfl⟩
  | some m => exact ⟨true, .inl ⟨by rw [hnm m hq], rfl⟩, rfl⟩
 obtain ⟨rfl, h13⟩ := g13
 rw [hok] at h13
 subst h13
 obtain ⟨b14, rfl, rfl⟩ := g14
 obtain ⟨rfl, -⟩ := g1
 obtain ⟨rfl, -⟩ := g2
 obtain ⟨rfl, -⟩ := g3
 obtain ⟨rfl, -⟩ := g5
 obtain ⟨rfl, -⟩ := g6
 obtain ⟨rfl, -⟩ := g7
 obtain ⟨rfl, -⟩ := g8
 obtain ⟨rfl, -⟩ := g9
 dsimp only [List.append_eq, List.nil_append, List.cons_append]
 refine XF.tl rfl rfl rfl (l_storeW rfl rfl Cel.cel (by kernel_rfl) (lnS (lnS (lnS (lnS (lnS (ln0)))))) (allS rfl (allS rfl (allS rfl (allS rfl (allS rfl (all0)))))) UpC.upd ?_)
 refine XF.q hs rfl (q_assign rfl) rfl ?_
 refine XF.fin (kq 1 (kq 2 (kq 4 (kq 7 (kq 8 kn))))) ?_
 refine XC.seq ?_
 rcases hrt with ⟨hrt, rfl⟩ | ⟨hrt, rfl⟩
 ·
  refine XC.reg ?_
  refine mv_ ?_
  refine XL.q (q_not rfl) rfl ?_
  refine mv_ ?_
  refine XL.gy rfl rfl (OpQ.opL qm_ rfl ?_)
  refine XL.gy rfl rfl (OpQ.opL qm_ rfl ?_)
  refine XL.split (t := 29) rfl (fun hb => ?_) (fun hb => ?_)
  ·
   have ho : odd = true := hb
   refine XL.gy rfl rfl (OpQ.opL (qw_ 5) rfl ?_)
   refine XL.callVg rfl rfl (aS rfl a0) (by kernel_rfl) (fzero_spec _ n hn0 _) rfl ?_
   refine XL.gy rfl rfl (OpQ.opL (q_pickT rfl rfl) rfl ?_)
   refine XL.q (q_pickF rfl rfl) rfl ?_
   refine XL.fin (kq 1 (kq 2 (kq 4 (kq 7 (kq 33 kn))))) ?_
   refine XC.cond rfl (fun hc => ?_) (fun hc => ?_)
   ·
    have hz : n = 0 := by simpa using hc
    refine XC.reg ?_
    refine XL.q (q_build (place := fun x => #[(0, 5), (5, 5), (10, 5), (15, 5)][x]?) (z := [.int .u64 0, .int .u64 0, .int .u64 0, .int .u64 0, .int .u64 0, .int .u64 0, .int .u64 0, .int .u64 0, .int .u64 0, .int .u64 0, .int .u64 0, .int .u64 0, .int .u64 0, .int .u64 0, .int .u64 0, .int .u64 0, .int .u64 0, .int .u64 0, .int .u64 0, .int .u64 0]) (fun _ => by kernel_rfl) e0 bd0) rfl ?_
    refine XL.lo rfl (l_storeW rfl rfl Cel.cel (by kernel_rfl) (lnS (lnS (lnS (lnS (lnS (lnS (lnS (lnS (lnS (lnS (lnS (lnS (lnS (lnS (lnS (lnS (lnS (lnS (lnS (lnS (ln0))))))))))))))))))))) (allS rfl (allS rfl (allS rfl (allS rfl (allS rfl (allS rfl (allS rfl (allS rfl (allS rfl (allS rfl (allS rfl (allS rfl (allS rfl (allS rfl (allS rfl (allS rfl (allS rfl (allS rfl (allS rfl (allS rfl (all0))))))))))))))))))))) UpC.upd ?_)
    refine as_ ?_
    refine XL.fin (kq 4 (kq 5 kn)) ?_
    refine XC.ret ?_
    refine tr ?_
    refine ⟨_, [], [], resC1 rfl rfl rfl (by kernel_rfl) At.mem (by rfl), List.nil_sublist _, by simp, rfl, rfl, _, _, rfl, .inr ⟨?_, rfl, ⟨_, rfl, _, _, _, _, _, _, _, _, _, _, _, _, _, _, _, _, _, _, _, _, rfl, fe_zero, fe_zero, fe_zero, fe_zero⟩⟩⟩
    rw [ho]; exact at_zero hrt hz
   ·
    have hz : ¬ n = 0 := by simpa using hc
    refine XC.skip ?_
    refine nx (kq 1 (kq 2 (kq 4 (kq 7 kn)))) ?_
    refine XC.seq ?_
    refine XC.reg ?_
    refine XL.q (qw_ 5) rfl ?_
    refine XL.callV (aS rfl a0) (by kernel_rfl) (fodd_spec _ n hn0 _) rfl ?_
    refine mv_ ?_
    refine XL.q (q_boolNe rfl rfl (by kernel_rfl)) rfl ?_
    refine XL.fin (kq 2 (kq 4 (kq 7 (kq 38 kn)))) ?_
    refine XC.cond rfl (fun hc => ?_) (fun hc => ?_)
    ·
     have hodd := hc
     refine XC.reg1 ?_
     refine XL.q (qw_ 5) rfl ?_
     refine XL.call (aS rfl a0) (by kernel_rfl) (neg_f hn0 _) rfl ?_
     rintro r40 M40 J40 ⟨rfl, rfl, k40⟩
     have h40 := k40
     obtain ⟨a40, b40, c40, d40, e40, rfl, -⟩ := k40
     refine XL.lo rfl (l_storeW rfl rfl Cel.cel (by kernel_rfl) (lnS (lnS (lnS (lnS (lnS (ln0)))))) (allS rfl (allS rfl (allS rfl (allS rfl (allS rfl (all0)))))) UpC.upd ?_)
     refine XL.fin (kq 2 (kq 4 (kq 7 kn))) ?_
     refine XC.drawF [0, 1, 2, 3, 4, 5, 6, 8] [(0, 1), (1, 1), (3, 1), (4, 1), (2, 2), (5, 2), (6, 0), (7, 2), (8, 0)] (by kernel_rfl) (by kernel_rfl) fun hs => ?_
     refine XF.r hs rfl (qw_ 5) rfl ?_
     refine XF.r hs rfl (qw_ 5) rfl ?_
     refine XF.r hs rfl (qw_ 5) rfl ?_
     refine XF.r hs rfl (qw_ 5) rfl ?_
     refine XF.call rfl (aS rfl a0) (by kernel_rfl) (num_f 1 (by decide) _) rfl ?_
     rintro r43 M43 J43 ⟨rfl, rfl, k43⟩
     have h43 := k43
     obtain ⟨a43, b43, c43, d43, e43, rfl, -⟩ := k43
     refine XF.call rfl (aS rfl (aS rfl a0)) (by kernel_rfl) (mul_f h40 hy _) rfl ?_
     rintro r46 M46 J46 ⟨rfl, rfl, k46⟩
     have h46 := k46
     obtain ⟨a46, b46, c46, d46, e46, rfl, -⟩ := k46
     refine XF.q hs rfl (q_build (place := fun x => #[(0, 5), (5, 5), (10, 5), (15, 5)][x]?) (z := [.int .u64 0, .int .u64 0, .int .u64 0, .int .u64 0, .int .u64 0, .int .u64 0, .int .u64 0, .int .u64 0, .int .u64 0, .int .u64 0, .int .u64 0, .int .u64 0, .int .u64 0, .int .u64 0, .int .u64 0, .int .u64 0, .int .u64 0, .int .u64 0, .int .u64 0, .int .u64 0]) (fun _ => by kernel_rfl) (eS rfl (eS rfl (eS rfl (eS rfl e0)))) (bdS 0 5 rfl (by rfl) (bdS 5 5 rfl (by rfl) (bdS 10 5 rfl (by rfl) (bdS 15 5 rfl (by rfl) bd0))))) rfl ?_
     refine XF.tl rfl rfl rfl (l_storeW rfl rfl Cel.cel (by kernel_rfl) (lnS (lnS (lnS (lnS (lnS (lnS (lnS (lnS (lnS (lnS (lnS (lnS (lnS (lnS (lnS (lnS (lnS (lnS (lnS (lnS (ln0))))))))))))))))))))) (allS rfl (allS rfl (allS rfl (allS rfl (allS rfl (allS rfl (allS rfl (allS rfl (allS rfl (allS rfl (allS rfl (allS rfl (allS rfl (allS rfl (allS rfl (allS rfl (allS rfl (allS rfl (allS rfl (allS rfl (all0))))))))))))))))))))) UpC.upd ?_)
     refine XF.q hs rfl (q_assign rfl) rfl ?_
     refine XF.fin (kq 4 (kq 5 kn)) ?_
     refine XC.ret ?_
     refine ⟨_, [], [], resC1 rfl rfl rfl (by kernel_rfl) At.mem (by rfl), List.nil_sublist _, by simp, rfl, rfl, _, _, rfl, .inl ⟨fN n, ?_, rfl, ⟨_, rfl, _, _, _, _, _, _, _, _, _, _, _, _, _, _, _, _, _, _, _, _, rfl, h40, hy, h43, h46⟩⟩⟩
     exact at_some hrt (by rw [ho, decide_eq_false hz]; rfl) hodd
    ·
     have hodd := hc
     refine XC.skip ?_
     refine nx (kq 2 (kq 4 (kq 7 kn))) ?_
     refine XC.drawF [0, 1, 2, 3, 4, 5, 6, 8] [(0, 1), (1, 1), (3, 1), (4, 1), (2, 2), (5, 2), (6, 0), (7, 2), (8, 0)] (by kernel_rfl) (by kernel_rfl) fun hs => ?_
     refine XF.r hs rfl (qw_ 5) rfl ?_
     refine XF.r hs rfl (qw_ 5) rfl ?_
     refine XF.r hs rfl (qw_ 5) rfl ?_
     refine XF.r hs rfl (qw_ 5) rfl ?_
     refine XF.call rfl (aS rfl a0) (by kernel_rfl) (num_f 1 (by decide) _) rfl ?_
     rintro r43 M43 J43 ⟨rfl, rfl, k43⟩
     have h43 := k43
     obtain ⟨a43, b43, c43, d43, e43, rfl, -⟩ := k43
     refine XF.call rfl (aS rfl (aS rfl a0)) (by kernel_rfl) (mul_f hn0 hy _) rfl ?_
     rintro r46 M46 J46 ⟨rfl, rfl, k46⟩
     have h46 := k46
     obtain ⟨a46, b46, c46, d46, e46, rfl, -⟩ := k46
     refine XF.q hs rfl (q_build (place := fun x => #[(0, 5), (5, 5), (10, 5), (15, 5)][x]?) (z := [.int .u64 0, .int .u64 0, .int .u64 0, .int .u64 0, .int .u64 0, .int .u64 0, .int .u64 0, .int .u64 0, .int .u64 0, .int .u64 0, .int .u64 0, .int .u64 0, .int .u64 0, .int .u64 0, .int .u64 0, .int .u64 0, .int .u64 0, .int .u64 0, .int .u64 0, .int .u64 0]) (fun _ => by kernel_rfl) (eS rfl (eS rfl (eS rfl (eS rfl e0)))) (bdS 0 5 rfl (by rfl) (bdS 5 5 rfl (by rfl) (bdS 10 5 rfl (by rfl) (bdS 15 5 rfl (by rfl) bd0))))) rfl ?_
     refine XF.tl rfl rfl rfl (l_storeW rfl rfl Cel.cel (by kernel_rfl) (lnS (lnS (lnS (lnS (lnS (lnS (lnS (lnS (lnS (lnS (lnS (lnS (lnS (lnS (lnS (lnS (lnS (lnS (lnS (lnS (ln0))))))))))))))))))))) (allS rfl (allS rfl (allS rfl (allS rfl (allS rfl (allS rfl (allS rfl (allS rfl (allS rfl (allS rfl (allS rfl (allS rfl (allS rfl (allS rfl (allS rfl (allS rfl (allS rfl (allS rfl (allS rfl (allS rfl (all0))))))))))))))))))))) UpC.upd ?_)
     refine XF.q hs rfl (q_assign rfl) rfl ?_
     refine XF.fin (kq 4 (kq 5 kn)) ?_
     refine XC.ret ?_
     refine ⟨_, [], [], resC1 rfl rfl rfl (by kernel_rfl) At.mem (by rfl), List.nil_sublist _, by simp, rfl, rfl, _, _, rfl, .inl ⟨n, ?_, rfl, ⟨_, rfl, _, _, _, _, _, _, _, _, _, _, _, _, _, _, _, _, _, _, _, _, rfl, hn0, hy, h43, h46⟩⟩⟩
     exact at_some hrt (by rw [ho, decide_eq_false hz]; rfl) hodd
  ·
   have ho : odd = false := hb
   refine XL.gn rfl rfl rfl rfl ?_
   refine XL.gn rfl rfl rfl rfl ?_
   refine XL.gy rfl rfl (OpQ.opL (q_pickF rfl rfl) rfl ?_)
   refine XL.q (q_pickF rfl rfl) rfl ?_
   refine XL.fin (kq 1 (kq 2 (kq 4 (kq 7 (kq 33 kn))))) ?_
   refine XC.condF rfl ?_
   refine XC.skip ?_
   refine nx (kq 1 (kq 2 (kq 4 (kq 7 kn)))) ?_
   refine XC.seq ?_
   refine XC.reg ?_
   refine XL.q (qw_ 5) rfl ?_
   refine XL.callV (aS rfl a0) (by kernel_rfl) (fodd_spec _ n hn0 _) rfl ?_
   refine mv_ ?_
   refine XL.q (q_boolNe rfl rfl (by kernel_rfl)) rfl ?_
   refine XL.fin (kq 2 (kq 4 (kq 7 (kq 38 kn)))) ?_
   refine XC.cond rfl (fun hc => ?_) (fun hc => ?_)
   ·
    have hodd := hc
    refine XC.reg1 ?_
    refine XL.q (qw_ 5) rfl ?_
    refine XL.call (aS rfl a0) (by kernel_rfl) (neg_f hn0 _) rfl ?_
    rintro r40 M40 J40 ⟨rfl, rfl, k40⟩
    have h40 := k40
    obtain ⟨a40, b40, c40, d40, e40, rfl, -⟩ := k40
    refine XL.lo rfl (l_storeW rfl rfl Cel.cel (by kernel_rfl) (lnS (lnS (lnS (lnS (lnS (ln0)))))) (allS rfl (allS rfl (allS rfl (allS rfl (allS rfl (all0)))))) UpC.upd ?_)
    refine XL.fin (kq 2 (kq 4 (kq 7 kn))) ?_
    refine XC.drawF [0, 1, 2, 3, 4, 5, 6, 8] [(0, 1), (1, 1), (3, 1), (4, 1), (2, 2), (5, 2), (6, 0), (7, 2), (8, 0)] (by kernel_rfl) (by kernel_rfl) fun hs => ?_
    refine XF.r hs rfl (qw_ 5) rfl ?_
    refine XF.r hs rfl (qw_ 5) rfl ?_
    refine XF.r hs rfl (qw_ 5) rfl ?_
    refine XF.r hs rfl (qw_ 5) rfl ?_
    refine XF.call rfl (aS rfl a0) (by kernel_rfl) (num_f 1 (by decide) _) rfl ?_
    rintro r43 M43 J43 ⟨rfl, rfl, k43⟩
    have h43 := k43
    obtain ⟨a43, b43, c43, d43, e43, rfl, -⟩ := k43
    refine XF.call rfl (aS rfl (aS rfl a0)) (by kernel_rfl) (mul_f h40 hy _) rfl ?_
    rintro r46 M46 J46 ⟨rfl, rfl, k46⟩
    have h46 := k46
    obtain ⟨a46, b46, c46, d46, e46, rfl, -⟩ := k46
    refine XF.q hs rfl (q_build (place := fun x => #[(0, 5), (5, 5), (10, 5), (15, 5)][x]?) (z := [.int .u64 0, .int .u64 0, .int .u64 0, .int .u64 0, .int .u64 0, .int .u64 0, .int .u64 0, .int .u64 0, .int .u64 0, .int .u64 0, .int .u64 0, .int .u64 0, .int .u64 0, .int .u64 0, .int .u64 0, .int .u64 0, .int .u64 0, .int .u64 0, .int .u64 0, .int .u64 0]) (fun _ => by kernel_rfl) (eS rfl (eS rfl (eS rfl (eS rfl e0)))) (bdS 0 5 rfl (by rfl) (bdS 5 5 rfl (by rfl) (bdS 10 5 rfl (by rfl) (bdS 15 5 rfl (by rfl) bd0))))) rfl ?_
    refine XF.tl rfl rfl rfl (l_storeW rfl rfl Cel.cel (by kernel_rfl) (lnS (lnS (lnS (lnS (lnS (lnS (lnS (lnS (lnS (lnS (lnS (lnS (lnS (lnS (lnS (lnS (lnS (lnS (lnS (lnS (ln0))))))))))))))))))))) (allS rfl (allS rfl (allS rfl (allS rfl (allS rfl (allS rfl (allS rfl (allS rfl (allS rfl (allS rfl (allS rfl (allS rfl (allS rfl (allS rfl (allS rfl (allS rfl (allS rfl (allS rfl (allS rfl (allS rfl (all0))))))))))))))))))))) UpC.upd ?_)
    refine XF.q hs rfl (q_assign rfl) rfl ?_
    refine XF.fin (kq 4 (kq 5 kn)) ?_
    refine XC.ret ?_
    refine ⟨_, [], [], resC1 rfl rfl rfl (by kernel_rfl) At.mem (by rfl), List.nil_sublist _, by simp, rfl, rfl, _, _, rfl, .inl ⟨fN n, ?_, rfl, ⟨_, rfl, _, _, _, _, _, _, _, _, _, _, _, _, _, _, _, _, _, _, _, _, rfl, h40, hy, h43, h46⟩⟩⟩
    exact at_some hrt (by rw [ho]; rfl) hodd
   ·
    have hodd := hc
    refine XC.skip ?_
    refine nx (kq 2 (kq 4 (kq 7 kn))) ?_
    refine XC.drawF [0, 1, 2, 3, 4, 5, 6, 8] [(0, 1), (1, 1), (3, 1), (4, 1), (2, 2), (5, 2), (6, 0), (7, 2), (8, 0)] (by kernel_rfl) (by kernel_rfl) fun hs => ?_
    refine XF.r hs rfl (qw_ 5) rfl ?_
    refine XF.r hs rfl (qw_ 5) rfl ?_
    refine XF.r hs rfl (qw_ 5) rfl ?_
    refine XF.r hs rfl (qw_ 5) rfl ?_
    refine XF.call rfl (aS rfl a0) (by kernel_rfl) (num_f 1 (by decide) _) rfl ?_
    rintro r43 M43 J43 ⟨rfl, rfl, k43⟩
    have h43 := k43
    obtain ⟨a43, b43, c43, d43, e43, rfl, -⟩ := k43
    refine XF.call rfl (aS rfl (aS rfl a0)) (by kernel_rfl) (mul_f hn0 hy _) rfl ?_
    rintro r46 M46 J46 ⟨rfl, rfl, k46⟩
    have h46 := k46
    obtain ⟨a46, b46, c46, d46, e46, rfl, -⟩ := k46
    refine XF.q hs rfl (q_build (place := fun x => #[(0, 5), (5, 5), (10, 5), (15, 5)][x]?) (z := [.int .u64 0, .int .u64 0, .int .u64 0, .int .u64 0, .int .u64 0, .int .u64 0, .int .u64 0, .int .u64 0, .int .u64 0, .int .u64 0, .int .u64 0, .int .u64 0, .int .u64 0, .int .u64 0, .int .u64 0, .int .u64 0, .int .u64 0, .int .u64 0, .int .u64 0, .int .u64 0]) (fun _ => by kernel_rfl) (eS rfl (eS rfl (eS rfl (eS rfl e0)))) (bdS 0 5 rfl (by rfl) (bdS 5 5 rfl (by rfl) (bdS 10 5 rfl (by rfl) (bdS 15 5 rfl (by rfl) bd0))))) rfl ?_
    refine XF.tl rfl rfl rfl (l_storeW rfl rfl Cel.cel (by kernel_rfl) (lnS (lnS (lnS (lnS (lnS (lnS (lnS (lnS (lnS (lnS (lnS (lnS (lnS (lnS (lnS (lnS (lnS (lnS (lnS (lnS (ln0))))))))))))))))))))) (allS rfl (allS rfl (allS rfl (allS rfl (allS rfl (allS rfl (allS rfl (allS rfl (allS rfl (allS rfl (allS rfl (allS rfl (allS rfl (allS rfl (allS rfl (allS rfl (allS rfl (allS rfl (allS rfl (allS rfl (all0))))))))))))))))))))) UpC.upd ?_)
    refine XF.q hs rfl (q_assign rfl) rfl ?_
    refine XF.fin (kq 4 (kq 5 kn)) ?_
    refine XC.ret ?_
    refine ⟨_, [], [], resC1 rfl rfl rfl (by kernel_rfl) At.mem (by rfl), List.nil_sublist _, by simp, rfl, rfl, _, _, rfl, .inl ⟨n, ?_, rfl, ⟨_, rfl, _, _, _, _, _, _, _, _, _, _, _, _, _, _, _, _, _, _, _, _, rfl, hn0, hy, h43, h46⟩⟩⟩
    exact at_some hrt (by rw [ho]; rfl) hodd
 ·
  refine XC.reg ?_
  refine mv_ ?_
  refine XL.q (q_not rfl) rfl ?_
  refine mv_ ?_
  refine XL.gn rfl rfl rfl rfl ?_
  refine XL.gn rfl rfl rfl rfl ?_
  refine XL.gu rfl rfl rfl ?_
  refine XL.gu rfl rfl rfl ?_
  refine XL.gn rfl rfl rfl rfl ?_
  refine XL.q (q_pickT rfl rfl) rfl ?_
  refine XL.fin (kq 1 (kq 2 (kq 4 (kq 7 (kq 33 kn))))) ?_
  refine XC.condT rfl ?_
  refine XC.reg ?_
  refine XL.q (q_build (place := fun x => #[(0, 5), (5, 5), (10, 5), (15, 5)][x]?) (z := [.int .u64 0, .int .u64 0, .int .u64 0, .int .u64 0, .int .u64 0, .int .u64 0, .int .u64 0, .int .u64 0, .int .u64 0, .int .u64 0, .int .u64 0, .int .u64 0, .int .u64 0, .int .u64 0, .int .u64 0, .int .u64 0, .int .u64 0, .int .u64 0, .int .u64 0, .int .u64 0]) (fun _ => by kernel_rfl) e0 bd0) rfl ?_
  refine XL.lo rfl (l_storeW rfl rfl Cel.cel (by kernel_rfl) (lnS (lnS (lnS (lnS (lnS (lnS (lnS (lnS (lnS (lnS (lnS (lnS (lnS (lnS (lnS (lnS (lnS (lnS (lnS (lnS (ln0))))))))))))))))))))) (allS rfl (allS rfl (allS rfl (allS rfl (allS rfl (allS rfl (allS rfl (allS rfl (allS rfl (allS rfl (allS rfl (allS rfl (allS rfl (allS rfl (allS rfl (allS rfl (allS rfl (allS rfl (allS rfl (allS rfl (all0))))))))))))))))))))) UpC.upd ?_)
  refine as_ ?_
  refine XL.fin (kq 4 (kq 5 kn)) ?_
  refine XC.ret ?_
  refine tr ?_
  exact ⟨_, [], [], resC1 rfl rfl rfl (by kernel_rfl) At.mem (by rfl), List.nil_sublist _, by simp, rfl, rfl, _, _, rfl, .inr ⟨at_none hrt, rfl, ⟨_, rfl, _, _, _, _, _, _, _, _, _, _, _, _, _, _, _, _, _, _, _, _, rfl, fe_zero, fe_zero, fe_zero, fe_zero⟩⟩⟩

theorem start_f (A : Mem) : FnX Tryz.prog 110 [] [] A fun r M J => M = [] ∧ J = [] ∧ FeP r pS := by
 refine FnX.enter (N := 12) Tryz.func110 rfl rfl rfl fun w => ?_
 refine XC.keep kn ?_
 refine XC.reg ?_
 refine XL.lo rfl (l_alloc (cs := [.int .u64 0, .int .u64 0, .int .u64 0, .int .u64 0, .int .u64 0, .int .u64 0, .int .u64 0, .int .u64 0, .int .u64 0, .int .u64 0, .int .u64 0, .int .u64 0, .int .u64 0, .int .u64 0, .int .u64 0, .int .u64 0, .int .u64 0, .int .u64 0, .int .u64 0, .int .u64 0]) (by kernel_rfl) rfl fun b0 => ?_)
 refine XL.fin (kq 0 kn) ?_
 refine XC.reg ?_
 refine XL.call (aS rfl a0) (by kernel_rfl) (num_f 4 (by decide) _) rfl ?_
 rintro r4 M4 J4 ⟨rfl, rfl, k4⟩
 have h4 := k4
 obtain ⟨a4, b4, c4, d4, e4, rfl, -⟩ := k4
 refine XL.call (aS rfl a0) (by kernel_rfl) (num_f 5 (by decide) _) rfl ?_
 rintro r5 M5 J5 ⟨rfl, rfl, k5⟩
 have h5 := k5
 obtain ⟨a5, b5, c5, d5, e5, rfl, -⟩ := k5
 refine XL.call (aS rfl a0) (by kernel_rfl) (inv_f h5 _) rfl ?_
 rintro r6 M6 J6 ⟨rfl, rfl, k6⟩
 have h6 := k6
 obtain ⟨a6, b6, c6, d6, e6, rfl, -⟩ := k6
 refine XL.call (aS rfl (aS rfl a0)) (by kernel_rfl) (mul_f h4 h6 _) rfl ?_
 rintro r7 M7 J7 ⟨rfl, rfl, k7⟩
 rw [s45_eq] at k7
 have h7 := k7
 obtain ⟨a7, b7, c7, d7, e7, rfl, -⟩ := k7
 refine XL.call (aS rfl (aS rfl a0)) (by kernel_rfl) (at_f _ s45 false h7 _) rfl ?_
 rintro r8 M8 J8 ⟨rfl, rfl, V, ok, rfl, hat⟩
 have hP : FeP V pS := by
  rw [at45] at hat
  rcases hat with ⟨x, h1, _, h2⟩ | ⟨h1, _, h2⟩
  · obtain rfl := Option.some.inj h1; exact h2
  · cases h1
 have hP0 := hP
 obtain ⟨xsp, rfl, p0, p1, p2, p3, p4, p5, p6, p7, p8, p9, p10, p11, p12, p13, p14, p15, p16, p17, p18, p19, rfl, hpX, hpY, hpZ, hpT⟩ := hP
 dsimp only [nums, List.map]
 refine mv_ ?_
 refine XL.q (q_x0 rfl) rfl ?_
 refine XL.q (q_x1 rfl) rfl ?_
 refine XL.lo rfl (l_alloc (cs := [.int .u64 0, .int .u64 0, .int .u64 0, .int .u64 0, .int .u64 0, .int .u64 0, .int .u64 0, .int .u64 0, .int .u64 0, .int .u64 0, .int .u64 0, .int .u64 0, .int .u64 0, .int .u64 0, .int .u64 0, .int .u64 0, .int .u64 0, .int .u64 0, .int .u64 0, .int .u64 0]) (by kernel_rfl) rfl fun b1 => ?_)
 refine XL.lo rfl (l_storeW rfl rfl Cel.cel (by kernel_rfl) (lnS (lnS (lnS (lnS (lnS (lnS (lnS (lnS (lnS (lnS (lnS (lnS (lnS (lnS (lnS (lnS (lnS (lnS (lnS (lnS (ln0))))))))))))))))))))) (allS rfl (allS rfl (allS rfl (allS rfl (allS rfl (allS rfl (allS rfl (allS rfl (allS rfl (allS rfl (allS rfl (allS rfl (allS rfl (allS rfl (allS rfl (allS rfl (allS rfl (allS rfl (allS rfl (allS rfl (all0))))))))))))))))))))) UpC.upd ?_)
 refine as_ ?_
 refine XL.fin (kq 0 (kq 1 kn)) ?_
 refine XC.reg ?_
 refine XL.q (qw_ 20) rfl ?_
 refine XL.lo rfl (l_storeW rfl rfl Cel.cel (by kernel_rfl) (lnS (lnS (lnS (lnS (lnS (lnS (lnS (lnS (lnS (lnS (lnS (lnS (lnS (lnS (lnS (lnS (lnS (lnS (lnS (lnS (ln0))))))))))))))))))))) (allS rfl (allS rfl (allS rfl (allS rfl (allS rfl (allS rfl (allS rfl (allS rfl (allS rfl (allS rfl (allS rfl (allS rfl (allS rfl (allS rfl (allS rfl (allS rfl (allS rfl (allS rfl (allS rfl (allS rfl (all0))))))))))))))))))))) UpC.upd ?_)
 refine XL.fin (kq 0 kn) ?_
 refine XC.ret ?_
 exact ⟨_, [], [], resC rfl rfl (by kernel_rfl) At.mem (by rfl), List.nil_sublist _, by simp, rfl, rfl, hP0⟩

end Go.Proofs.YtphcaiplgpmnnaaGreatDoor
/-
  Function values: a closure is made, called. The first index of a predicate.
-/
namespace Go.Px
section call
variable {C : Cx} {l : Env} {M J : Mem} {K : Env → Mem → Mem → Prop} {d : Nat} {ty : TypeId} {pos : String} {af : Array Edge} {g : Option (Nat × Bool)} {x : Operand} {f : FuncId} {xs : List Operand} {vs cs : List Value} {ts : Array TypeId}
end call
/-- The first index for which something holds; -1: there is none. -/
def fidx (p : Nat → Bool) (n : Nat) : Int := match (List.range n).find? p with
  | some i => (i : Int)
  | none => -1
/-! ### Slices of structs -/
/-- What a kind of rows is: so many cells, each one value, told of facts that stay. -/
structure RowT {α : Type} (sz : Nat) (φ : Mem → α → List Value → Prop) : Prop where
  mono : ∀ R R' x r, (∀ q, q ∈ R → q ∈ R') → φ R x r → φ R' x r
  len : ∀ R x r, φ R x r → r.length = sz
  one : ∀ R x r, φ R x r → ∀ c ∈ r, c.oneCell' = true
structure RwL {α : Type} (φ : Mem → α → List Value → Prop) (R : Mem) (rows : List (List Value)) (xs : List α) : Prop where
  len : rows.length = xs.length
  get : ∀ (j : Nat) (x : α), xs[j]? = some x → ∃ r, rows[j]? = some r ∧ φ R x r
section rows
variable {α : Type} {sz : Nat} {φ : Mem → α → List Value → Prop} {R R' : Mem} {rows : List (List Value)} {xs : List α} {x : α} {r : List Value}
theorem RwL.mono (hφ : RowT sz φ) (h : RwL φ R rows xs) (hR : ∀ q, q ∈ R → q ∈ R') : RwL φ R' rows xs := ⟨h.len, fun j x hj => by
  obtain ⟨r, h1, h2⟩ := h.get j x hj
  exact ⟨r, h1, hφ.mono _ _ _ _ hR h2⟩⟩
theorem RwL.nil : RwL φ R [] [] := ⟨rfl, fun j x h => by simp at h⟩
theorem RwL.of (h : RwL φ R rows xs) {j : Nat} (hr : rows[j]? = some r) : ∃ x, xs[j]? = some x ∧ φ R x r := by
  have hj : j < xs.length := by rw [← h.len]; exact (List.getElem?_eq_some_iff.1 hr).1
  obtain ⟨r', h1, h2⟩ := h.get j xs[j] (List.getElem?_eq_getElem hj)
  rw [hr] at h1
  cases h1
  exact ⟨_, List.getElem?_eq_getElem hj, h2⟩
theorem RwL.app {rows' : List (List Value)} {xs' : List α} (h : RwL φ R rows xs) (h' : RwL φ R rows' xs') : RwL φ R (rows ++ rows') (xs ++ xs') := ⟨by simp [h.len, h'.len], fun j y hj => by
  by_cases hlt : j < xs.length
  · rw [List.getElem?_append_left hlt] at hj
    obtain ⟨r', h1, h2⟩ := h.get j y hj
    exact ⟨r', by rw [List.getElem?_append_left (List.getElem?_eq_some_iff.1 h1).1]; exact h1, h2⟩
  · rw [List.getElem?_append_right (by omega)] at hj
    obtain ⟨r', h1, h2⟩ := h'.get _ y hj
    exact ⟨r', by rw [List.getElem?_append_right (by rw [h.len]; omega), h.len]; exact h1, h2⟩⟩
theorem RwL.cons (hx : φ R x r) (h : RwL φ R rows xs) : RwL φ R (r :: rows) (x :: xs) := ⟨by simp [h.len], fun j y hj => by
  cases j with
  | zero => simp at hj; subst hj; exact ⟨r, rfl, hx⟩
  | succ j => exact h.get j y hj⟩
theorem RwL.take (h : RwL φ R rows xs) (k : Nat) : RwL φ R (rows.take k) (xs.take k) := ⟨by simp [h.len], fun j y hj => by
  have hk : j < k := by
    rcases Nat.lt_or_ge j k with h | h
    · exact h
    · rw [List.getElem?_eq_none (by simp; omega)] at hj; cases hj
  rw [List.getElem?_take_of_lt hk] at hj ⊢
  exact h.get j y hj⟩
theorem RwL.drop (h : RwL φ R rows xs) (k : Nat) : RwL φ R (rows.drop k) (xs.drop k) := ⟨by simp [h.len], fun j y hj => by
  rw [List.getElem?_drop] at hj ⊢
  exact h.get _ y hj⟩
end rows
/-- The first index of a list's element with a property. -/
def fidxL {α : Type} (q : α → Bool) (xs : List α) : Int := fidx (fun j => (xs[j]?.map q).getD false) xs.length
end Go.Px

/-
  Slices of one-cell values, as bools: make, a store into an element; a call with values ahead; the index of a predicate over one-cell elements.
-/
namespace Go.Px
/-- What make of a row of bools asks of the type. -/
def mkB (P : Program) (t : TypeId) : Option (TypeId × Nat) :=
  match P.underlying t with
  | some (.slice e) => match P.info? e with
    | some i => match i.zero with
      | some (.bool false) => if i.size = 1 then some (e, i.bytes) else none
      | _ => none
    | none => none
  | _ => none
def bools (h : List Bool) : List Value := h.map .bool
@[simp] theorem bools_len (h : List Bool) : (bools h).length = h.length := by simp [bools]
/-- What an append of a row of noughts, of which the translation hands over the number alone, asks of the types. -/
def appB (P : Program) (t tn : TypeId) : Option (TypeId × Nat) :=
  match P.underlying tn with
  | some (.int _) => mkB P t
  | _ => none
section zb
variable {C : Cx} {l : Env} {M J : Mem} {K : Env → Mem → Mem → Prop} {d : Nat} {ty t tn e : TypeId} {pos : String} {af : Array Edge} {g : Option (Nat × Bool)} {x y : Operand}
end zb
/-- A store into an element of an owned slice of one-cell values. -/
theorem l_stE {C : Cx} {l : Env} {M J : Mem} {K : Env → Mem → Mem → Prop} {ty t : TypeId} {pos : String} {af : Array Edge} {g : Option (Nat × Bool)} {x y : Operand} {v u : Value} {xs : List Value} {n j : Nat} {B M0 : Mem} (h : Sl 1 v n xs B) (hx : ev l x = some (vAt 1 j v)) (hy : ev l y = some u) (h1 : u.oneCell' = true)
    (ht : sizeT C.P t = some 1) (hj : j < n) (hM : M.Perm (B ++ M0)) (h2 : ∀ B', Sl 1 v n (xs.set j u) B' → K l (B' ++ M0) J) :
    OpL C ⟨none, .store t x y, ty, pos, af, g⟩ l M J K := by
  suffices hh : OpL C ⟨none, .store t x y, ty, pos, af, g⟩ l (B ++ M0) J K from fun Qp a w ha hw => hh Qp a w ha (hw.fit (Fit.perm hM) fun _ h => h)
  clear hM
  rcases h with ⟨p, rfl, rfl, hx2, rfl⟩ | ⟨b, o, cap, cs, e, rfl, rfl, h3, h4, h5, h6, h7⟩
  · omega
  · simp only [vAt, Addr.add_mid, Nat.mul_one] at hx
    refine l_store hx hy h1 ht (setL_set (by omega)) .hd (h2 [_] (.inr ⟨b, o, cap, _, e, rfl, rfl, h3, h4, by simpa using h5, by simpa using h6, ?_⟩))
    intro i w hi
    rw [List.getElem?_set] at hi ⊢
    by_cases hij : j = i
    · subst hij
      simp only [if_true] at hi ⊢
      simp at hi h6
      rw [if_pos (by omega)]
      rw [← hi.2]
    · rw [if_neg hij] at hi
      rw [if_neg (by omega)]
      exact h7 i w hi
section call
variable {C : Cx} {l : Env} {M J : Mem} {K : Env → Mem → Mem → Prop} {d : Nat} {ty : TypeId} {pos : String} {af : Array Edge} {g : Option (Nat × Bool)} {x : Operand} {f : FuncId} {xs : List Operand} {us vs cs : List Value} {ts : Array TypeId}
end call
end Go.Px

