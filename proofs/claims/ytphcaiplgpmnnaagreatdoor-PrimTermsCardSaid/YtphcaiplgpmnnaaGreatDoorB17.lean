/- Part 17 of the texts of this claim, one behind the other. -/
import Derived.Test.YtphcaiplgpmnnaaGreatDoorB16
set_option linter.unusedVariables false
set_option linter.unusedSimpArgs false
set_option maxRecDepth 100000
namespace Go.Px
structure Gc where
  i : Nat
  d : Nat
  s : Option Nat
  m : Mem
  φ : Value → Mem → Mem → Prop
def Gc.inp (g : Gc) (bs : Nat → Mem) : Mem := match g.s with
  | none => g.m
  | some s => bs s
theorem Gc.inp_none {g : Gc} {bs : Nat → Mem} (h : g.s = none) : g.inp bs = g.m := by unfold Gc.inp; rw [h]
theorem Gc.inp_some {g : Gc} {bs : Nat → Mem} {s : Nat} (h : g.s = some s) : g.inp bs = bs s := by unfold Gc.inp; rw [h]
def gEnvC (G : List Gc) (vs : Nat → Value) : Env := G.map fun g => (g.d, vs g.i)
def toGC (G : List Gc) : List Gm := G.map fun g => ⟨g.i, g.d, fun _ _ => True⟩
theorem toGC_i (G : List Gc) : (toGC G).map (·.i) = G.map (·.i) := by simp [toGC]
theorem toGC_d (G : List Gc) : (toGC G).map (·.d) = G.map (·.d) := by simp [toGC]
theorem toGC_env (G : List Gc) (vs : Nat → Value) : gEnv (toGC G) vs = gEnvC G vs := by simp [gEnv, gEnvC, toGC]
theorem gc_inj {G : List Gc} (h : (G.map (·.i)).Nodup) {g g' : Gc} (hg : g ∈ G) (hg' : g' ∈ G) (e : g.i = g'.i) : g = g' := by
  induction G with
  | nil => cases hg
  | cons x G ih =>
    simp only [List.map_cons, List.nodup_cons] at h
    rcases List.mem_cons.1 hg with h1 | h1 <;> rcases List.mem_cons.1 hg' with h2 | h2
    · rw [h1, h2]
    · exact absurd (by rw [← h1, e]; exact List.mem_map_of_mem (f := Gc.i) h2) h.1
    · exact absurd (by rw [← h2, ← e]; exact List.mem_map_of_mem (f := Gc.i) h1) h.1
    · exact ih h.2 h1 h2
/-- What a member's entry owns, when X have come up. -/
def entC (G : List Gc) (X : List Nat) (bs : Nat → Mem) (g : Gc) : Mem :=
  if g.i ∈ X then (if ∃ g' ∈ G, g'.s = some g.i ∧ g'.i ∈ X then [] else bs g.i) else (if g.s = none then g.m else [])
def curC (X : List Nat) (bs : Nat → Mem) (G : List Gc) : Mem := (G.map (entC G X bs)).flatten
def usedC (l : List (Nat × Option Nat)) (i : Nat) : Bool := l.any fun p => p.2 == some i
def lastC (G : List Gc) (bs : Nat → Mem) : List Mem := (G.filter fun g => !usedC (G.map fun g => (g.i, g.s)) g.i).map fun g => bs g.i
def joinC (l : List Mem) (M : Mem) : Mem := l.foldr (· ++ ·) M
def rootC (G : List Gc) : List Mem := (G.filter fun g => g.s.isNone).map (·.m)
def chainOk (ops : Array Oper) (l : List (Nat × Option Nat)) : Bool :=
  l.all fun p => match p.2 with
    | none => true
    | some s => (l.map Prod.fst).contains s && anc ops ops.size p.1 s && l.all fun q => q.2 != some s || q.1 == p.1
structure ChainOk (ops : Array Oper) (G : List Gc) : Prop where
  anc : ∀ g ∈ G, ∀ s, g.s = some s → anc ops ops.size g.i s = true
  mem : ∀ g ∈ G, ∀ s, g.s = some s → s ∈ G.map (·.i)
  one : ∀ g ∈ G, ∀ g' ∈ G, ∀ s, g.s = some s → g'.s = some s → g'.i = g.i
theorem chain_ok {ops : Array Oper} {G : List Gc} (h : chainOk ops (G.map fun g => (g.i, g.s)) = true) : ChainOk ops G := by
  have key : ∀ g ∈ G, ∀ s, g.s = some s → s ∈ G.map (·.i) ∧ Px.anc ops ops.size g.i s = true ∧ ∀ g' ∈ G, g'.s = some s → g'.i = g.i := by
    intro g hg s hs
    have h1 := List.all_eq_true.1 h (g.i, g.s) (List.mem_map_of_mem (f := fun g : Gc => (g.i, g.s)) hg)
    simp only [hs, Bool.and_eq_true, List.contains_iff_mem, List.map_map] at h1
    obtain ⟨⟨h2, h3⟩, h4⟩ := h1
    refine ⟨by simpa [Function.comp_def] using h2, h3, fun g' hg' hs' => ?_⟩
    have h5 := List.all_eq_true.1 h4 (g'.i, g'.s) (List.mem_map_of_mem (f := fun g : Gc => (g.i, g.s)) hg')
    simp [hs'] at h5
    exact h5
  exact ⟨fun g hg s hs => (key g hg s hs).2.1, fun g hg s hs => (key g hg s hs).1, fun g hg g' hg' s hs hs' => (key g hg s hs).2.2 g' hg' hs'⟩
theorem flat_at {G : List Gc} (hi : (G.map (·.i)).Nodup) {g : Gc} (hg : g ∈ G) (f : Gc → Mem) :
    ∃ R, ∀ f' : Gc → Mem, (∀ x ∈ G, x.i ≠ g.i → f' x = f x) → (G.map f').flatten.Perm (f' g ++ R) := by
  obtain ⟨s, t, rfl⟩ := List.append_of_mem hg
  have hne : ∀ x ∈ s ++ t, x.i ≠ g.i := by
    intro x hx e
    simp only [List.map_append, List.map_cons, List.nodup_append, List.nodup_cons] at hi
    rcases List.mem_append.1 hx with h | h
    · exact hi.2.2 _ (List.mem_map_of_mem (f := Gc.i) h) _ List.mem_cons_self e
    · exact hi.2.1.1 (e ▸ List.mem_map_of_mem (f := Gc.i) h)
  refine ⟨(s.map f).flatten ++ (t.map f).flatten, fun f' h => ?_⟩
  have es : s.map f' = s.map f := List.map_congr_left fun x hx => h x (by simp [hx]) (hne x (List.mem_append_left _ hx))
  have et : t.map f' = t.map f := List.map_congr_left fun x hx => h x (by simp [hx]) (hne x (List.mem_append_right _ hx))
  simp only [List.map_append, List.map_cons, List.flatten_append, List.flatten_cons, es, et]
  exact List.perm_append_comm_assoc _ _ _
theorem curC_step {ops : Array Oper} {X : List Nat} {bs : Nat → Mem} {G : List Gc} {g : Gc} (hi : (G.map (·.i)).Nodup) (hc : ChainOk ops G) (hg : g ∈ G) (hX : g.i ∉ X) (hcl : ∀ g' ∈ G, g'.i ∈ X → ∀ s, g'.s = some s → s ∈ X) (hsx : ∀ s, g.s = some s → s ∈ X) :
    ∃ R, (curC X bs G).Perm (g.inp bs ++ R) ∧ ∀ M', (M' ++ R).Perm (curC (X ++ [g.i]) (fun k => if k = g.i then M' else bs k) G) := by
  have hmem : ∀ x : Gc, x.i ≠ g.i → (x.i ∈ X ++ [g.i] ↔ x.i ∈ X) := fun x h => by simp [h]
  have hself : ∀ M' : Mem, entC G (X ++ [g.i]) (fun k => if k = g.i then M' else bs k) g = M' := by
    intro M'
    have hno : ¬ ∃ g' ∈ G, g'.s = some g.i ∧ g'.i ∈ X ++ [g.i] := by
      rintro ⟨g', hg', hs', hx'⟩
      rcases List.mem_append.1 hx' with h | h
      · exact hX (hcl g' hg' h _ hs')
      · have h2 : g' = g := gc_inj hi hg' hg (by simpa using h)
        subst h2
        exact hX (hsx _ hs')
    unfold entC
    rw [if_pos (by simp), if_neg hno]
    exact if_pos rfl
  cases hs : g.s with
  | none =>
    obtain ⟨R, hR⟩ := flat_at hi hg (entC G X bs)
    refine ⟨R, ?_, fun M' => ?_⟩
    · have h1 := hR (entC G X bs) fun _ _ _ => rfl
      have h2 : entC G X bs g = g.inp bs := by unfold entC; rw [if_neg hX, if_pos hs, Gc.inp_none hs]
      rw [h2] at h1
      exact h1
    · have h1 := hR (entC G (X ++ [g.i]) fun k => if k = g.i then M' else bs k) fun x hx hne => by
        unfold entC
        by_cases hxX : x.i ∈ X
        · rw [if_pos ((hmem x hne).2 hxX), if_pos hxX]
          have hiff : (∃ g' ∈ G, g'.s = some x.i ∧ g'.i ∈ X ++ [g.i]) ↔ (∃ g' ∈ G, g'.s = some x.i ∧ g'.i ∈ X) := by
            constructor
            · rintro ⟨g', h1, h2, h3⟩
              rcases List.mem_append.1 h3 with h4 | h4
              · exact ⟨g', h1, h2, h4⟩
              · have h5 : g' = g := gc_inj hi h1 hg (by simpa using h4)
                subst h5; rw [hs] at h2; cases h2
            · rintro ⟨g', h1, h2, h3⟩; exact ⟨g', h1, h2, List.mem_append_left _ h3⟩
          simp only [hiff, if_neg hne]
        · rw [if_neg (fun h => hxX ((hmem x hne).1 h)), if_neg hxX]
      rw [hself M'] at h1
      exact h1.symm
  | some s =>
    have hsX := hsx s hs
    obtain ⟨gs, hgs, rfl⟩ := List.mem_map.1 (hc.mem g hg s hs)
    have hne0 : gs.i ≠ g.i := fun h => hX (h ▸ hsX)
    obtain ⟨R1, hR1⟩ := flat_at hi hgs (entC G X bs)
    have h1 := hR1 (entC G X bs) fun _ _ _ => rfl
    have e1 : entC G X bs gs = bs gs.i := by
      unfold entC
      rw [if_pos hsX, if_neg]
      rintro ⟨g', hg', hs', hx'⟩
      exact hX (hc.one g hg g' hg' _ hs hs' ▸ hx')
    rw [e1] at h1
    have h2 := hR1 (fun x => if x.i = gs.i then [] else entC G X bs x) fun x _ hne => if_neg hne
    simp only [if_true, List.nil_append] at h2
    obtain ⟨R2, hR2⟩ := flat_at hi hg (fun x => if x.i = gs.i then [] else entC G X bs x)
    have h3 := hR2 (fun x => if x.i = gs.i then [] else entC G X bs x) fun _ _ _ => rfl
    have e3 : (if g.i = gs.i then [] else entC G X bs g) = ([] : Mem) := by
      rw [if_neg (Ne.symm hne0)]
      unfold entC
      rw [if_neg hX, if_neg (by rw [hs]; exact fun h => by cases h)]
    simp only [e3, List.nil_append] at h3
    refine ⟨R2, ?_, fun M' => ?_⟩
    · rw [Gc.inp_some hs]
      exact h1.trans (List.Perm.append_left _ (h2.symm.trans h3))
    · have h4 := hR2 (entC G (X ++ [g.i]) fun k => if k = g.i then M' else bs k) fun x hx hne => by
        by_cases hxs : x.i = gs.i
        · rw [if_pos hxs]
          unfold entC
          rw [if_pos ((hmem x hne).2 (hxs ▸ hsX)), if_pos ⟨g, hg, by rw [hs, hxs], by simp⟩]
        · rw [if_neg hxs]
          unfold entC
          by_cases hxX : x.i ∈ X
          · rw [if_pos ((hmem x hne).2 hxX), if_pos hxX]
            have hiff : (∃ g' ∈ G, g'.s = some x.i ∧ g'.i ∈ X ++ [g.i]) ↔ (∃ g' ∈ G, g'.s = some x.i ∧ g'.i ∈ X) := by
              constructor
              · rintro ⟨g', h1, h2, h3⟩
                rcases List.mem_append.1 h3 with h4 | h4
                · exact ⟨g', h1, h2, h4⟩
                · have h5 : g' = g := gc_inj hi h1 hg (by simpa using h4)
                  subst h5; rw [hs] at h2; exact absurd (Option.some.inj h2).symm hxs
              · rintro ⟨g', h1, h2, h3⟩; exact ⟨g', h1, h2, List.mem_append_left _ h3⟩
            simp only [hiff, if_neg hne]
          · rw [if_neg (fun h => hxX ((hmem x hne).1 h)), if_neg hxX]
      rw [hself M'] at h4
      exact h4.symm
theorem curC_nil {bs : Nat → Mem} {G : List Gc} : curC [] bs G = (rootC G).flatten := by
  have : ∀ G' : List Gc, (G'.map (entC G [] bs)).flatten = (rootC G').flatten := by
    intro G'
    induction G' with
    | nil => rfl
    | cons g G' ih =>
      rw [List.map_cons, List.flatten_cons, ih]
      have e : entC G [] bs g = if g.s = none then g.m else [] := by unfold entC; rw [if_neg (by simp)]
      rw [e]
      cases hs : g.s with
      | none => simp [rootC, hs]
      | some s => simp [rootC, hs]
  exact this G
theorem curC_all {X : List Nat} {bs : Nat → Mem} {G : List Gc} (h : ∀ g ∈ G, g.i ∈ X) : curC X bs G = (lastC G bs).flatten := by
  have he : ∀ g ∈ G, entC G X bs g = if usedC (G.map fun g => (g.i, g.s)) g.i = true then [] else bs g.i := by
    intro g hg
    unfold entC
    rw [if_pos (h g hg)]
    have : (∃ g' ∈ G, g'.s = some g.i ∧ g'.i ∈ X) ↔ usedC (G.map fun g => (g.i, g.s)) g.i = true := by
      unfold usedC
      simp only [List.any_eq_true, List.mem_map]
      constructor
      · rintro ⟨g', h1, h2, _⟩; exact ⟨_, ⟨g', h1, rfl⟩, by simp [h2]⟩
      · rintro ⟨_, ⟨g', h1, rfl⟩, h2⟩; exact ⟨g', h1, by simpa using h2, h g' h1⟩
    simp only [this]
  unfold curC lastC
  rw [List.map_congr_left he]
  have : ∀ (G' : List Gc) (p : Gc → Bool), (G'.map fun g => if p g = true then ([] : Mem) else bs g.i).flatten = ((G'.filter fun g => !p g).map fun g => bs g.i).flatten := by
    intro G' p
    induction G' with
    | nil => rfl
    | cons g G' ih =>
      rw [List.map_cons, List.flatten_cons, ih]
      cases hp : p g <;> simp [hp]
  exact this G fun g => usedC (G.map fun g => (g.i, g.s)) g.i
theorem joinC_eq (l : List Mem) (M : Mem) : joinC l M = l.flatten ++ M := by
  induction l with
  | nil => rfl
  | cons a l ih => show a ++ joinC l M = _; rw [ih, List.flatten_cons, List.append_assoc]
section group
variable {C : Cx} {Q : XQ} {l : Env} {M M0 J : Mem} {os : List Oper} {K : Nat → Prop} {n0 : Nat} {nd : List Nat} {plan : List (Nat × Nat)}
def OwesC (C : Cx) (os : List Oper) (l : Env) (M0 J : Mem) (G : List Gc) (g : Gc) : Prop :=
  ∃ o, nth os g.i = some o ∧ ∀ (vs : Nat → Value) (bs : Nat → Mem) (R Rj : Mem) (w : World), (∀ x ∈ M0 ++ (J ++ C.A), x ∈ R) → (∀ x ∈ J ++ C.A, x ∈ Rj) → (∀ x ∈ Rj, x ∈ R) → (∀ g' ∈ G, anc os.toArray os.toArray.size g.i g'.i = true → g'.φ (vs g'.i) (bs g'.i) Rj) →
    Asked os (gEnvC G vs ++ l) o ∧ OpL ⟨C.P, w, (g.inp bs).map Prod.fst, R, C.N⟩ o (gEnvC G vs ++ l) (g.inp bs) [] (fun l' M' J' => ∃ v, l' = (g.d, v) :: (gEnvC G vs ++ l) ∧ g.φ v M' (J' ++ Rj))
theorem groupC_go {G : List Gc} (hmono : ∀ g ∈ G, GrowsO g.φ) (hd : (G.map (·.d)).Nodup) (hi : (G.map (·.i)).Nodup) (hc : ChainOk os.toArray G) (hKn : ∀ b, n0 ≤ b → K b) (hK : ∀ m ∈ rootC G, ∀ x ∈ m, K x.1) (hob : ∀ g ∈ G, OwesC C os l M0 J G g) {A B : Array Bool} (hok : GOk os.toArray A (G.map (·.i)) B)
    (hfin : ∀ (vs : Nat → Value) (bs : Nat → Mem) Jn a w, (∀ g ∈ G, g.φ (vs g.i) (bs g.i) ((Jn ++ J) ++ C.A)) → (∀ g ∈ G, ∀ x ∈ bs g.i, K x.1) → Ag C.N (gEnvC G vs ++ l) a → St C ((lastC G bs).flatten ++ M0) (Jn ++ J) w → n0 ≤ w.heap.size → wpAnyS C.P os.toArray (noPanicX (lift C Q)) (Sk K) nd.contains plan.length B a w) :
    ∀ (n : Nat) (X : List Nat) (vs : Nat → Value) (bs : Nat → Mem) (Jn : Mem) (a : Act) (w : World), X.Nodup → (∀ i ∈ X, i ∈ G.map (·.i)) → n + X.length = G.length → Closed os.toArray (mark A X) → (∀ g ∈ G, g.i ∈ X → ∀ s, g.s = some s → s ∈ X) →
      (∀ g ∈ G, g.i ∈ X → g.φ (vs g.i) (bs g.i) ((Jn ++ J) ++ C.A)) → (∀ g ∈ G, g.i ∈ X → ∀ x ∈ bs g.i, K x.1) → Ag C.N (gEnvC G vs ++ l) a → St C (curC X bs G ++ M0) (Jn ++ J) w → n0 ≤ w.heap.size →
      wpAnyS C.P os.toArray (noPanicX (lift C Q)) (Sk K) nd.contains (n + plan.length) (mark A X) a w := by
  intro n
  induction n with
  | zero =>
    intro X vs bs Jn a w hnd hX hlen hcl hXs hφ hN ha hw hn
    have hall : ∀ i, i ∈ X ↔ i ∈ G.map (·.i) := fun i => ⟨hX i, nodup_all hnd hX (by simp; omega) i⟩
    have hin : ∀ g ∈ G, g.i ∈ X := fun g hg => (hall _).2 (List.mem_map_of_mem (f := Gc.i) hg)
    have hcur := curC_all (bs := bs) hin
    rw [hcur] at hw
    rw [Nat.zero_add, mark_eq hall, ← hok.mark]
    exact hfin vs bs Jn a w (fun g hg => hφ g hg (hin g hg)) (fun g hg => hN g hg (hin g hg)) ha hw hn
  | succ n ih =>
    intro X vs bs Jn a w hnd hX hlen hcl hXs hφ hN ha hw hn
    have hmiss : ∃ k ∈ G.map (·.i), k ∉ X := by
      apply Classical.byContradiction
      intro hno
      have hs : ∀ k ∈ G.map (·.i), k ∈ X := fun k hk => Classical.byContradiction fun h => hno ⟨k, hk, h⟩
      have := nodup_le hi hs
      simp at this; omega
    obtain ⟨k, hkG, hkX⟩ := hmiss
    have hun : ∀ i ∈ G.map (·.i), A.getD i true = false := by
      have : ∀ {is A B}, GOk os.toArray A is B → ∀ i ∈ is, A.getD i true = false := by
        intro is A B h
        induction h with
        | nil => intro i hi; cases hi
        | @cons A B i r hr ho h ih =>
          intro k hk
          rcases List.mem_cons.1 hk with rfl | hk
          · exact ready_un hr
          · have h2 := ih k hk
            by_cases e : i = k
            · subst e; exact ready_un hr
            · rwa [getD_set_ne true e] at h2
      exact this hok
    have hkun : (mark A X).getD k true = false := mark_getD_f.2 ⟨hun k hkG, fun h => hkX h.1⟩
    rw [show n + 1 + plan.length = (n + plan.length) + 1 by omega]
    refine ⟨fun h0 => ?_, fun i hir => ?_⟩
    · obtain ⟨i, hir⟩ := hok.first (mark_size A X) (fun j hj => mark_mono hj) hkG hkun
      rw [h0] at hir; cases hir
    · have hiG : i ∈ G.map (·.i) := by
        apply Classical.byContradiction
        intro hno
        have h1 := mark_getD_f.1 (ready_un hir)
        have h2 := hok.outer k hkG i (ready_lt hir) h1.1 hno
        exact not_both hkun (anc_ready hcl h2 hir)
      obtain ⟨g, hg, rfl⟩ := List.mem_map.1 hiG
      have hiX : g.i ∉ X := fun h => (mark_getD_f.1 (ready_un hir)).2 ⟨h, getD_f_lt (hun _ hiG)⟩
      have hin : ∀ j ∈ G.map (·.i), anc os.toArray os.toArray.size g.i j = true → j ∈ X := fun j hj hanc => by
        have h3 := anc_ready hcl hanc hir
        rcases mark_getD_t h3 with h4 | h4
        · exact (not_both (hun _ hj) h4).elim
        · exact h4
      have hsx : ∀ s, g.s = some s → s ∈ X := fun s hs => hin s (hc.mem g hg s hs) (hc.anc g hg s hs)
      have hKi : ∀ x ∈ g.inp bs, K x.1 := by
        intro x hx
        cases hs : g.s with
        | none =>
          rw [Gc.inp_none hs] at hx
          exact hK g.m (List.mem_map.2 ⟨g, List.mem_filter.2 ⟨hg, by simp [hs]⟩, rfl⟩) x hx
        | some s =>
          rw [Gc.inp_some hs] at hx
          obtain ⟨gs, hgs, rfl⟩ := List.mem_map.1 (hc.mem g hg s hs)
          exact hN gs hgs (hsx _ hs) x hx
      obtain ⟨o, hget, howe⟩ := hob g hg
      have hi' : os.toArray[g.i]? = some o := by rw [nth_eq] at hget; simpa using hget
      obtain ⟨hask, hop⟩ := howe vs bs (M0 ++ ((Jn ++ J) ++ C.A)) ((Jn ++ J) ++ C.A) w (fun x hx => by simp only [List.mem_append] at hx ⊢; rcases hx with h | h | h <;> simp [h]) (fun x hx => by simp only [List.mem_append] at hx ⊢; rcases hx with h | h <;> simp [h]) (fun x hx => List.mem_append_right _ hx) (fun g' hg' hanc => hφ g' hg' (hin _ (List.mem_map_of_mem (f := Gc.i) hg') hanc))
      unfold wpOp
      simp only [hi']
      rw [if_pos (hask.wanted ha)]
      obtain ⟨R0, hp0, hq0⟩ := curC_step (bs := bs) hi hc hg hiX hXs hsx
      have hpc : (curC X bs G ++ M0).Perm (g.inp bs ++ (R0 ++ M0)) := by
        rw [← List.append_assoc]; exact List.Perm.append_right _ hp0
      have hcal := hw.callee hpc
      have hcal2 := St.less (A := M0 ++ ((Jn ++ J) ++ C.A)) hcal fun x hx => by
        simp only [List.mem_append] at hx ⊢
        rcases hx with h | h
        · exact .inl (.inr h)
        · exact .inr h
      refine .inl (Oper.wp_mono ?_ (hop _ a w ha hcal2.cx))
      rintro a' w' ⟨l', M', J', ha', hs', v, rfl, hφv⟩
      have hsz : w.heap.size ≤ w'.heap.size := hs'.size
      have hs2 := St.widen hcal.cx hs'
      have hb := hw.back hpc hs2.cx
      let bs' : Nat → Mem := fun k => if k = g.i then M' else bs k
      have hperm : (M' ++ (R0 ++ M0)).Perm (curC (X ++ [g.i]) bs' G ++ M0) := by
        rw [← List.append_assoc]
        exact List.Perm.append_right _ (hq0 M')
      have hfr2 : St C (curC (X ++ [g.i]) bs' G ++ M0) ((J' ++ Jn) ++ J) w' := (hb.perm hperm).drop (List.Sublist.refl _) fun x hx => by
        simp only [List.mem_append] at hx ⊢
        rcases hx with (h | h) | h <;> simp [h]
      refine ⟨fun _ b hb' hnk => hs'.frame b hb' fun hm => ?_, ?_⟩
      · obtain ⟨x, hx, e⟩ := List.mem_map.1 hm
        exact hnk (e ▸ hKi x hx)
      rw [← mark_snoc]
      have henv := gEnv_set (N := C.N) (G := toGC G) (l := l) (vs := vs) (g := ⟨g.i, g.d, fun _ _ => True⟩) (a := a') (v := v) (List.mem_map_of_mem (f := fun g : Gc => (⟨g.i, g.d, fun _ _ => True⟩ : Gm)) hg) (by rw [toGC_d]; exact hd) (by rw [toGC_i]; exact hi) (by rw [toGC_env]; exact ha')
      rw [toGC_env] at henv
      refine ih (X ++ [g.i]) (fun k => if k = g.i then v else vs k) bs' (J' ++ Jn) a' w' ?_ ?_ (by simp; omega) ?_ ?_ ?_ ?_ henv hfr2 (Nat.le_trans hn hsz)
      · rw [List.nodup_append]; exact ⟨hnd, by simp, fun x hx y hy e => hiX (by simp at hy; subst hy; exact e ▸ hx)⟩
      · intro j hj
        rcases List.mem_append.1 hj with hj | hj
        · exact hX j hj
        · simp at hj; subst hj; exact hiG
      · rw [mark_snoc]; exact closed_set hcl hir
      · intro g' hg' hm s hs
        rcases List.mem_append.1 hm with h | h
        · exact List.mem_append_left _ (hXs g' hg' h s hs)
        · have h2 : g' = g := gc_inj hi hg' hg (by simpa using h)
          subst h2
          exact List.mem_append_left _ (hsx s hs)
      · intro g' hg' hm
        by_cases e : g'.i = g.i
        · have : g' = g := gc_inj hi hg' hg e
          subst this
          simp only [if_true, bs']
          exact hmono g' hg' _ _ _ _ (fun x hx => by simp only [List.mem_append] at hx ⊢; rcases hx with h | (h | h) | h <;> simp [h]) hφv
        · simp only [e, if_false, bs']
          have hm' : g'.i ∈ X := by simpa [e] using hm
          exact hmono g' hg' _ _ _ _ (fun x hx => by simp only [List.mem_append] at hx ⊢; rcases hx with (h | h) | h <;> simp [h]) (hφ g' hg' hm')
      · intro g' hg' hk x hx
        by_cases e : g'.i = g.i
        · have : g' = g := gc_inj hi hg' hg e
          subst this
          simp only [if_true, bs'] at hx
          rcases hs'.own x.1 x.2 (by simp [hx]) with h6 | h6
          · obtain ⟨y, hy, e6⟩ := List.mem_map.1 h6
            exact e6 ▸ hKi y hy
          · exact hKn _ (Nat.le_trans hn h6)
        · simp only [e, if_false, bs'] at hx
          have hk' : g'.i ∈ X := by simpa [e] using hk
          exact hN g' hg' hk' x hx
theorem XK.groupC (G : List Gc) (M0 : Mem) (Lf : (Nat → Mem) → List Mem) (hKn : ∀ b, n0 ≤ b → K b) (hM : M.Perm (joinC (rootC G) M0)) (hK : ∀ m ∈ rootC G, ∀ x ∈ m, K x.1) (hck : chainOk os.toArray (G.map fun g => (g.i, g.s)) = true) (hLf : ∀ bs, lastC G bs = Lf bs)
    (hmono : ∀ g ∈ G, GrowsO g.φ) (hd : (G.map (·.d)).Nodup) (hi : (G.map (·.i)).Nodup) (hdN : ∀ g ∈ G, g.d < C.N) (hob : ∀ g ∈ G, OwesC C os l M0 J G g)
    (h : ∀ (vs : Nat → Value) (bs : Nat → Mem) Jn, (∀ g ∈ G, g.φ (vs g.i) (bs g.i) ((Jn ++ J) ++ C.A)) → (∀ g ∈ G, ∀ x ∈ bs g.i, K x.1) → XK C os Q K n0 nd plan (gEnvC G vs ++ l) (joinC (Lf bs) M0) (Jn ++ J)) : XK C os Q K n0 nd (enc (G.map (·.i)) ++ plan) l M J := by
  refine XK.perm hM ?_
  rw [joinC_eq]
  intro listed hcl hp a w ha hw hn
  obtain ⟨B, hok, hp2⟩ := enc_ok hp
  have hBcl : Closed os.toArray B := by
    have : ∀ {A is B}, GOk os.toArray A is B → Closed os.toArray A → Closed os.toArray B := by
      intro A is B h
      induction h with
      | nil => exact id
      | cons hr _ _ ih => exact fun hc => ih (closed_set hc hr)
    exact this hok hcl
  have hlen : (enc (G.map (·.i)) ++ plan).length = G.length + plan.length := by
    have : ∀ is : List Nat, (enc is).length = is.length := by
      intro is
      induction is with
      | nil => rfl
      | cons i r ih => cases r with
        | nil => rfl
        | cons j r => simp only [enc, List.length_cons] at ih ⊢; rw [ih]
    simp [this]
  rw [hlen]
  let vs : Nat → Value := fun k => match G.find? (fun g => g.i == k) with
    | some g => (a.tmps[g.d]?).getD undef
    | none => undef
  have hag : Ag C.N (gEnvC G vs ++ l) a := by
    refine ⟨ha.defers, ha.size, ?_⟩
    intro k u hk
    have key : ∀ G' : List Gc, (∀ g ∈ G', g ∈ G) → lk (gEnvC G' vs ++ l) k = some u → a.tmps[k]? = some u := by
      intro G'
      induction G' with
      | nil => intro _ h; exact ha.slot k u h
      | cons g G' ih =>
        intro hs h
        simp only [gEnvC, List.map_cons, List.cons_append, lk] at h
        by_cases e : g.d = k
        · subst e
          simp at h
          have hf : G.find? (fun x => x.i == g.i) = some g := by
            have hgG := hs g List.mem_cons_self
            cases hq : G.find? (fun x => x.i == g.i) with
            | none => have := List.find?_eq_none.1 hq g hgG; simp at this
            | some x =>
              have h1 := List.find?_some hq
              have h2 := List.mem_of_find?_eq_some hq
              rw [gc_inj hi h2 hgG (by simpa using h1)]
          have hlt : g.d < a.tmps.size := by rw [ha.size]; exact hdN g (hs g List.mem_cons_self)
          rw [← h]
          show a.tmps[g.d]? = some (vs g.i)
          simp only [vs, hf, Array.getElem?_eq_getElem hlt, Option.getD_some]
        · simp only [beq_ne e, cond_false] at h
          exact ih (fun x hx => hs x (List.mem_cons_of_mem _ hx)) h
    exact key G (fun _ h => h) hk
  refine groupC_go (n0 := n0) (K := K) hmono hd hi (chain_ok hck) hKn hK hob hok (fun vs bs Jn a w hφ hN ha hw hn => h vs bs Jn hφ hN B hBcl hp2 a w ha (by rw [joinC_eq, ← hLf]; exact hw) hn) G.length [] vs (fun _ => []) [] a w .nil (fun _ h => by cases h) (by simp) hcl (fun _ _ h => by cases h) (fun _ _ h => by cases h) (fun _ _ h => by cases h) hag (by rw [curC_nil]; exact hw) hn
end group
end Go.Px

/- The walks of prim's Made; the law's example (awake of pawllaw08). -/
namespace Go.Proofs.YtphcaiplgpmnnaaGreatDoor
open Go.Px
theorem freshS_l8 (s : Ps) : (freshS s).ts.length ≤ s.ts.length + 1 ∧ (freshS s).n = s.n + 1 := by
  cases hr : s.real with
  | true => rw [freshS_t hr]; exact ⟨Nat.le_succ _, rfl⟩
  | false => rw [freshS_f hr]; exact ⟨add_len, rfl⟩
theorem aw_facts (r : Bool) : Kok (aw2 r) (freshK (aw0 r)) ∧ Kok (aw2 r) (freshK (freshS (aw0 r))) ∧ Tok (aw2 r).ts ∧ (aw2 r).ts.length ≤ 2 ∧ (aw2 r).n = 2 ∧ (aw2 r).real = r := by
  have f1 := freshS_l8 (aw0 r)
  have f2 := freshS_l8 (freshS (aw0 r))
  have e1 : (aw0 r).ts.length = 0 := rfl
  have e2 : (aw0 r).n = 0 := rfl
  have t0 : Tok (aw0 r).ts := Tok.nil
  have k1 := (fresh_kok t0 (by omega)).1
  have t1 : Tok (freshS (aw0 r)).ts := by
    cases r with
    | true => exact t0
    | false => exact (fresh_kok t0 (by omega)).2 rfl
  have k2 := (fresh_kok t1 (by omega)).1
  have t2 : Tok (freshS (freshS (aw0 r))).ts := by
    cases r with
    | true => exact t0
    | false => exact (fresh_kok t1 (by omega)).2 rfl
  exact ⟨k1.ext (fresh_ext _), k2, t2, by unfold aw2; omega, by unfold aw2; omega, by unfold aw2; rw [(fresh_ext _).real, (fresh_ext _).real]; rfl⟩
theorem pubS2_len' (s : Ps) (w : List Nat) : (pubS2 s w).ts.length ≤ s.ts.length + 2 := by
  unfold pubS2
  split
  · omega
  · have h1 := rdT_len (ts := s.ts) (ws := w)
    have h2 := add_len (ts := rdT s.ts w) (t := pubT ((rdI s.ts w : Nat) : Int))
    show (add (rdT s.ts w) _).length ≤ _
    omega
theorem pubS2_n' (s : Ps) (w : List Nat) : (pubS2 s w).n = s.n := by unfold pubS2; split <;> rfl
/-- Two agree, each by the other one's public part. -/
theorem agree_two {s : Ps} {a b : List Nat} (ka : Kok s a) (kb : Kok s b) (ht : Tok s.ts) (hl : s.ts.length + 100 ≤ 1048576) (ha : ∀ x ∈ a, x < 256) (hb : ∀ x ∈ b, x < 256) :
    agrK2 (pubS2 (agrS2 (pubS2 s b) a (pubK2 s b)) a) b (pubK2 (agrS2 (pubS2 s b) a (pubK2 s b)) a) = agrK2 (pubS2 s b) a (pubK2 s b) := by
  have l1 := pubS2_len' s b
  obtain ⟨p1, -, t1⟩ := pub_at kb ht (by omega)
  have e1 := (pub_ex s b).p
  obtain ⟨g1, t2⟩ := agr_at (ka.ext e1) p1 t1 (by omega) ha hb
  have l2 := agrS2_len (pubS2 s b) a (pubK2 s b)
  have e2 := (agr_ex (pubS2 s b) a (pubK2 s b)).p
  obtain ⟨p2, -, t3⟩ := pub_at ((ka.ext e1).ext e2) t2 (by omega)
  have l3 := pubS2_len' (agrS2 (pubS2 s b) a (pubK2 s b)) a
  exact ((g1.ext (pub_ex _ a).p).comm.eq p2 t3 (by omega)).2

theorem made_f (pb : Nat) (s : Ps) (MP A : Mem) (hP : Prm pb s MP) (hsub : ∀ x, x ∈ MP → x ∈ A) : FnV Tryz.prog 51 [.pointer (some ⟨pb, 0, none⟩)] A (.int .i64 ((s.n : Nat) : Int)) := by
 obtain ⟨sv, bt, bm, B, MT, rfl, hby, hT⟩ := hP.ex
 have hpb := hsub _ List.mem_cons_self
 haveI := hby.cel
 refine FnX.enter (N := 9) Tryz.func51 rfl rfl rfl fun w => ?_
 refine XC.keep (kq 0 kn) ?_
 refine XC.reg ?_
 refine as_ ?_
 refine XL.fin (kq 0 kn) ?_
 refine XC.seq ?_
 refine XC.reg ?_
 refine mv_ ?_
 refine XL.q (q_ptrEqNil (e := 124) rfl rfl (by kernel_rfl)) rfl ?_
 refine XL.fin (kq 0 (kq 4 kn)) ?_
 refine XC.condF rfl ?_
 refine XC.skip ?_
 refine nx (kq 0 kn) ?_
 refine XC.reg ?_
 refine mv_ ?_
 refine XL.q (q_nil rfl) rfl ?_
 refine XL.q (qf_ 2 2) rfl ?_
 refine XL.q (q_load rfl (by kernel_rfl) (mA hpb) (by rfl)) rfl ?_
 refine as_ ?_
 refine XL.fin (kq 2 kn) ?_
 refine XC.ret ?_
 exact ⟨_, [], [], res1 rfl rfl, List.nil_sublist _, by simp, rfl, rfl, rfl⟩

theorem awake08_f (A : Mem) (hG : Glb A) : FnV Tryz.prog 37 [] A (.bool true) := by
 refine FnX.enter (N := 55) Tryz.func37 rfl rfl rfl fun w_ => ?_
 refine XC.keep kn ?_
 refine XC.reg ?_
 refine as_ ?_
 refine XL.fin kn ?_
 refine XC.seq ?_
 refine XC.reg ?_
 refine as_ ?_
 refine XL.fin (kq 1 kn) ?_
 refine XC.block ?_
 refine XC.rounds 3 ?_
 refine XR.step ?_
 refine XC.seq ?_
 refine XC.reg ?_
 refine mv_ ?_
 refine XL.q (q_cmp true rfl rfl (leT (by decide))) rfl ?_
 refine XL.fin (kq 1 (kq 7 kn)) ?_
 refine XC.condT rfl ?_
 refine XC.skip ?_
 refine nx (kq 1 kn) ?_
 refine XC.seq ?_
 refine XC.block ?_
 refine XC.fit (M' := []) (J' := []) (Fit.sub (List.nil_sublist _)) (fun _ h => by cases h) ?_
 refine XC.reg ?_
 refine mv_ ?_
 refine XL.lo rfl (l_buildSlice (e := 5) (sz := 1) (z := [.int .u8 0]) (by kernel_rfl) (eS rfl e0) (bdS 0 1 rfl (by rfl) bd0) rfl fun b12 => ?_)
 refine XL.lo rfl (l_mark rfl (by kernel_rfl) UpC.upd rfl ?_)
 refine XL.frz (B := [(b12, .cells (([.int .u8 115] : List Value).toArray) 5 ([Value.int .u8 115].length, [Value.int .u8 115].length + 1))]) PickC.perm ?_
 refine XL.lo rfl (l_call0 (aS rfl (aS rfl a0)) (by kernel_rfl) (pnew_spec true _ [115] _ ⟨Rd.whole (n := 1) (At.mem) (by rfl), by decide, by decide⟩) rfl ?_)
 rintro v14 MP J14 ⟨pb, rfl, hP⟩
 change Prm pb (aw0 true) MP at hP
 have f1 := freshS_l8 (aw0 true)
 have e1 : (aw0 true).ts.length = 0 := rfl
 have e2 : (aw0 true).n = 0 := rfl
 obtain ⟨ka, kb, t2, l2, n2, -⟩ := aw_facts true
 have hal := aw_len true
 have hane := aw_ne true
 refine mv_ ?_
 refine XL.q (q_x0 rfl) rfl ?_
 refine XL.q (q_x1 rfl) rfl ?_
 refine as_ (as_ ?_)
 refine XL.fin (kq 1 (kq 2 (kq 3 kn))) ?_
 refine XC.seq ?_
 refine XC.reg ?_
 refine mv_ ?_
 refine XL.q (q_cmp false rfl rfl (neF rfl)) rfl ?_
 refine XL.fin (kq 1 (kq 2 (kq 18 kn))) ?_
 refine XC.condF rfl ?_
 refine XC.skip ?_
 refine nx (kq 1 (kq 2 kn)) ?_
 refine XC.reg ?_
 refine mv_ ?_
 refine XL.lo rfl (l_call (Mc := MP) (R := _) (aS rfl a0) (by kernel_rfl) PickC.perm (fresh_spec pb (aw0 true) MP _ hP (by omega) (by omega) hG.up) rfl ?_)
 rintro v20 M20 J20 ⟨hP20, h20⟩
 haveI := h20.cel
 refine as_ ?_
 refine XL.fin (kq 1 (kq 2 (kq 4 kn))) ?_
 refine XC.reg ?_
 refine mv_ ?_
 refine XL.lo rfl (l_call (Mc := M20) (R := _) (aS rfl a0) (by kernel_rfl) PickC.perm (fresh_spec pb (freshS (aw0 true)) M20 _ hP20 (by omega) (by omega) hG.up) rfl ?_)
 rintro v22 M22 J22 ⟨hP22, h22⟩
 haveI := h22.cel
 change Prm pb (aw2 true) M22 at hP22
 generalize freshK (aw0 true) = wa at *
 generalize freshK (freshS (aw0 true)) = wb at *
 generalize aw2 true = s2 at *
 have ag := agree_two ka kb t2 (by omega) h20.lt h22.lt
 have z1 := pubS2_len' s2 wb
 have z2 := agrS2_len (pubS2 s2 wb) wa (pubK2 s2 wb)
 have z3 := pubS2_len' (agrS2 (pubS2 s2 wb) wa (pubK2 s2 wb)) wa
 have y1 := pubS2_n' s2 wb
 have y2 := agrS2_n (pubS2 s2 wb) wa (pubK2 s2 wb)
 have y3 := pubS2_n' (agrS2 (pubS2 s2 wb) wa (pubK2 s2 wb)) wa
 refine as_ ?_
 refine XL.fin (kq 1 (kq 2 (kq 4 (kq 5 kn)))) ?_
 refine XC.drawK (M22) (_) true [0, 1, 2, 3, 4, 5, 6, 7, 8, 9, 10, 11, 12, 13, 14, 15, 16, 17, 18, 19, 20, 21, 22, 23, 24, 25, 26, 27, 28, 29, 30, 31] [(0, 0), (1, 0), (2, 0), (3, 0), (4, 0), (5, 1), (6, 0), (7, 1), (8, 0), (9, 0), (10, 0), (11, 0), (12, 0), (13, 0), (14, 0), (18, 0), (19, 0), (20, 0), (21, 0), (15, 2), (16, 2), (17, 3), (22, 3), (23, 3), (24, 4), (25, 0), (26, 0), (27, 0), (28, 0), (29, 2), (30, 0), (31, 0)] (by kernel_rfl) (by kernel_rfl) PickC.perm fun hs K n0 hKm hKs hKn => ?_
 refine XK.q hs rfl qm_ rfl ?_
 refine XK.q hs rfl (q_lenV2 (sz := 1) rfl (by kernel_rfl) h20.rd) rfl ?_
 refine XK.q hs rfl (q_cmp false rfl rfl (neF (by rw [hal]; rfl))) rfl ?_
 refine XK.q hs rfl qm_ rfl ?_
 refine XK.qg hs rfl rfl rfl rfl qm_ rfl ?_
 refine XK.rg hs rfl rfl rfl rfl (by first | exact fun x hx => by rw [List.append_assoc]; exact List.mem_append_right _ hx | exact SubC.sub) hKs (q_toStr2 rfl (by kernel_rfl) (h20.rd.mono SubC.sub)) rfl ?_
 refine XK.qg hs rfl rfl rfl rfl qm_ rfl ?_
 refine XK.rg hs rfl rfl rfl rfl (by first | exact fun x hx => by rw [List.append_assoc]; exact List.mem_append_right _ hx | exact SubC.sub) hKs (q_toStr2 rfl (by kernel_rfl) (h22.rd.mono SubC.sub)) rfl ?_
 refine XK.qg hs rfl rfl rfl rfl ((show (decide (wa = wb)) = false from decide_eq_false hane) ▸ q_sEq rfl rfl rfl rfl h20.lt h22.lt) rfl ?_
 refine XK.q hs rfl (q_pickF rfl rfl) rfl ?_
 refine XK.q hs rfl qm_ rfl ?_
 refine XK.qg hs rfl rfl rfl rfl qm_ rfl ?_
 refine XK.qg hs rfl rfl rfl rfl qm_ rfl ?_
 refine XK.qg hs rfl rfl rfl rfl qm_ rfl ?_
 refine XK.qg hs rfl rfl rfl rfl qm_ rfl ?_
 refine XK.qg hs rfl rfl rfl rfl qm_ rfl ?_
 refine XK.qg hs rfl rfl rfl rfl qm_ rfl ?_
 refine XK.qg hs rfl rfl rfl rfl qm_ rfl ?_
 refine XK.qg hs rfl rfl rfl rfl qm_ rfl ?_
 refine XK.lg _ _ rfl rfl rfl rfl (List.Perm.refl _) hKm fun w0 => (l_call (Mc := M22) (R := _) (aS rfl (aS rfl (a0))) (by kernel_rfl) PickC.perm (public_b pb s2 v22 wb M22 _ hP22 (by omega) (h22.mono SubC.sub) hG.up) rfl ?_)
 rintro v38 M38 J38 ⟨hP38, h38⟩ hKx38
 haveI := h38.cel
 refine XK.lg M38 _ rfl rfl rfl rfl PickC.perm (fun x hx => hKx38 (hKn rfl) x (by simpa using hx)) fun w0 => (l_call (Mc := M38) (R := _) (aS rfl (aS rfl (aS rfl (a0)))) (by kernel_rfl) PickC.perm (agree_b pb (pubS2 s2 wb) v20 v38 wa (pubK2 s2 wb) M38 _ hP38 (by omega) (h20.mono SubC.sub) (h38.mono SubC.sub) hG.up) rfl ?_)
 rintro v39 M39 J39 ⟨hP39, h39⟩ hKx39
 haveI := h39.cel
 obtain ⟨s4, hs4⟩ : ∃ z, agrS2 (pubS2 s2 wb) wa (pubK2 s2 wb) = z := ⟨_, rfl⟩
 obtain ⟨x, hx⟩ : ∃ z, agrK2 (pubS2 s2 wb) wa (pubK2 s2 wb) = z := ⟨_, rfl⟩
 rw [hs4] at hP39 z2 z3 y2 y3 ag
 rw [hx] at h39 ag
 have y4 := agrS2_n (pubS2 s4 wa) wb (pubK2 s4 wa)
 dsimp only [List.nil_append, List.append_eq, List.append_nil]
 refine XK.groupC [⟨17, 40, none, [], fun v B _ => B = [] ∧ v = (.string (txt x))⟩, ⟨22, 45, none, M39, fun v B R => Prm pb (pubS2 s4 wa) B ∧ By R v (pubK2 s4 wa)⟩, ⟨23, 46, some 22, [], fun v B R => Prm pb (agrS2 (pubS2 s4 wa) wb (pubK2 s4 wa)) B ∧ By R v x⟩, ⟨24, 47, none, [], fun v B _ => B = [] ∧ v = (.string (txt x))⟩] ([]) (fun bs => [bs 17, bs 23, bs 24]) (hKn rfl) (by simp [joinC, rootC]) (show ∀ m ∈ ([[], M39, []] : List Mem), ∀ x ∈ m, K x.1 from allS (fun _ h => by cases h) (allS (fun y hy => hKx39 (hKn rfl) y (by simpa using hy)) (allS (fun _ h => by cases h) (all0)))) (by kernel_rfl) (fun _ => by first | rfl | kernel_rfl)
  (allS (fun _ _ _ _ _ h => h) (allS (fun _ _ _ _ h hp => ⟨hp.1, hp.2.mono h⟩) (allS (fun _ _ _ _ h hp => ⟨hp.1, hp.2.mono h⟩) (allS (fun _ _ _ _ _ h => h) (all0))))) (show List.Nodup [40, 45, 46, 47] by decide) (show List.Nodup [17, 22, 23, 24] by decide) (allS (blt_lt rfl) (allS (blt_lt rfl) (allS (blt_lt rfl) (allS (blt_lt rfl) (all0)))))
  (allS ⟨_, rfl, fun vs bs R Rj wG hb hj hjr ha => ⟨.inr ⟨_, _, _, _, rfl, rfl, rfl, rfl⟩, ?_⟩⟩ (allS ⟨_, rfl, fun vs bs R Rj wG hb hj hjr ha => ⟨.inr ⟨_, _, _, _, rfl, rfl, rfl, rfl⟩, ?_⟩⟩ (allS ⟨_, rfl, fun vs bs R Rj wG hb hj hjr ha => ⟨.inr ⟨_, _, _, _, rfl, rfl, rfl, rfl⟩, ?_⟩⟩ (allS ⟨_, rfl, fun vs bs R Rj wG hb hj hjr ha => ⟨.inr ⟨_, _, _, _, rfl, rfl, rfl, rfl⟩, ?_⟩⟩ (all0))))) ?_
 ·
  dsimp only [Gc.inp]
  exact OpQ.opL (q_toStr2 rfl (by kernel_rfl) (h39.rd.mono (fun x hx => by have := hb x (by simp [hx]); simp [this]))) rfl ⟨_, rfl, rfl, rfl⟩
 ·
  dsimp only [Gc.inp]
  refine l_call (Mc := M39) (R := []) (aS rfl (aS rfl a0)) (by kernel_rfl) (by simp) (public_b pb s4 v20 wa M39 _ hP39 (by omega) (h20.mono (fun x hx => by have := hb x (by simp [hx]); simp [this])) (hG.sub (fun x hx => by have := hb x (by simp [hx]); simp [this]))) rfl ?_
  rintro v25 M25 J25 ⟨hP25, h25⟩
  exact ⟨_, rfl, by simpa using hP25, h25.mono fun x hx => by simp [hx]⟩
 ·
  dsimp only [Gc.inp]
  have g22 := ha _ (List.mem_of_getElem? (i := 1) rfl) (by kernel_rfl)
  replace g22 : (fun v B R => Prm pb (pubS2 s4 wa) B ∧ By R v (pubK2 s4 wa)) (vs 22) (bs 22) Rj := g22
  dsimp only at g22
  obtain ⟨hP45, h45⟩ := g22
  refine l_call (Mc := bs 22) (R := []) (aS rfl (aS rfl (aS rfl a0))) (by kernel_rfl) (by simp) (agree_b pb (pubS2 s4 wa) v22 (vs 22) wb (pubK2 s4 wa) (bs 22) _ hP45 (by omega) (h22.mono (fun x hx => by have := hb x (by simp [hx]); simp [this])) (h45.mono (fun x hx => by have := hjr x hx; simp [this])) (hG.sub (fun x hx => by have := hb x (by simp [hx]); simp [this]))) rfl ?_
  rintro v25 M25 J25 ⟨hP25, h25⟩
  rw [ag] at h25
  exact ⟨_, rfl, by simpa using hP25, h25.mono fun x hx => by simp [hx]⟩
 ·
  dsimp only [Gc.inp]
  have g22 := ha _ (List.mem_of_getElem? (i := 1) rfl) (by kernel_rfl)
  replace g22 : (fun v B R => Prm pb (pubS2 s4 wa) B ∧ By R v (pubK2 s4 wa)) (vs 22) (bs 22) Rj := g22
  dsimp only at g22
  have g23 := ha _ (List.mem_of_getElem? (i := 2) rfl) (by kernel_rfl)
  replace g23 : (fun v B R => Prm pb (agrS2 (pubS2 s4 wa) wb (pubK2 s4 wa)) B ∧ By R v x) (vs 23) (bs 23) Rj := g23
  dsimp only at g23
  obtain ⟨-, h46⟩ := g23
  exact OpQ.opL (q_toStr2 rfl (by kernel_rfl) (h46.rd.mono (fun x hx => by have := hjr x hx; simp [this]))) rfl ⟨_, rfl, rfl, rfl⟩
 intro vs bs Jn0 hφ hKK
 have kk17 := hKK _ (List.mem_of_getElem? (i := 0) rfl)
 dsimp only at kk17
 have kk22 := hKK _ (List.mem_of_getElem? (i := 1) rfl)
 dsimp only at kk22
 have kk23 := hKK _ (List.mem_of_getElem? (i := 2) rfl)
 dsimp only at kk23
 have kk24 := hKK _ (List.mem_of_getElem? (i := 3) rfl)
 dsimp only at kk24
 clear hKK
 have g17 := ofH hφ
 dsimp only at g17
 replace hφ := ofT hφ
 have g22 := ofH hφ
 dsimp only at g22
 replace hφ := ofT hφ
 have g23 := ofH hφ
 dsimp only at g23
 replace hφ := ofT hφ
 have g24 := ofH hφ
 dsimp only at g24
 clear hφ
 dsimp only [gEnvC, joinC, List.foldr, List.map, List.cons_append, List.nil_append]
 generalize bs 17 = B40 at *
 generalize bs 22 = B45 at *
 generalize bs 23 = B46 at *
 generalize bs 24 = B47 at *
 generalize vs 17 = u40 at *
 generalize vs 22 = u45 at *
 generalize vs 23 = u46 at *
 generalize vs 24 = u47 at *
 obtain ⟨rfl, rfl⟩ := g17
 clear g22
 obtain ⟨hP46, h46⟩ := g23
 obtain ⟨rfl, rfl⟩ := g24
 refine XK.qg hs rfl rfl rfl rfl ((show (!decide (x = x)) = false by simp) ▸ q_sNe rfl rfl rfl rfl h39.lt h39.lt) rfl ?_
 refine XK.q hs rfl (q_pickF rfl rfl) rfl ?_
 refine XK.q hs rfl qm_ rfl ?_
 refine XK.qg hs rfl rfl rfl rfl qm_ rfl ?_
 refine XK.lg [] _ rfl rfl rfl rfl (List.Perm.refl _) (fun _ h => by cases h) fun w0 => (l_callV (aS rfl a0) (by kernel_rfl) (made_f pb _ B46 _ hP46 (by intro z hz; simp [hz])) rfl fun _ => ?_)
 dsimp only [List.nil_append, List.append_eq]
 refine XK.qg hs rfl rfl rfl rfl (q_cmp false rfl rfl (neF (by omega))) rfl ?_
 refine XK.q hs rfl (q_pickF rfl rfl) rfl ?_
 refine XK.fin (kq 1 (kq 54 kn)) ?_
 refine XC.condF rfl ?_
 refine XC.skip ?_
 refine nb ?_
 refine nx (kq 1 kn) ?_
 refine XC.reg1 ?_
 refine mv_ ?_
 refine XL.q (q_addM 256 (a := 0) (b := 1) rfl rfl rfl rfl rfl rfl) rfl ?_
 refine as_ ?_
 refine XL.nil ?_
 refine un (kq 1 kn) ?_
 refine XR.step ?_
 refine XC.seq ?_
 refine XC.reg ?_
 refine mv_ ?_
 refine XL.q (q_cmp true rfl rfl (leT (by decide))) rfl ?_
 refine XL.fin (kq 1 (kq 7 kn)) ?_
 refine XC.condT rfl ?_
 refine XC.skip ?_
 refine nx (kq 1 kn) ?_
 refine XC.seq ?_
 refine XC.block ?_
 refine XC.fit (M' := []) (J' := []) (Fit.sub (List.nil_sublist _)) (fun _ h => by cases h) ?_
 refine XC.reg ?_
 refine mv_ ?_
 refine XL.lo rfl (l_buildSlice (e := 5) (sz := 1) (z := [.int .u8 0]) (by kernel_rfl) (eS rfl e0) (bdS 0 1 rfl (by rfl) bd0) rfl fun b12 => ?_)
 refine XL.lo rfl (l_mark rfl (by kernel_rfl) UpC.upd rfl ?_)
 refine XL.frz (B := [(b12, .cells (([.int .u8 115] : List Value).toArray) 5 ([Value.int .u8 115].length, [Value.int .u8 115].length + 1))]) PickC.perm ?_
 refine XL.lo rfl (l_call0 (aS rfl (aS rfl a0)) (by kernel_rfl) (pnew_spec false _ [115] _ ⟨Rd.whole (n := 1) (At.mem) (by rfl), by decide, by decide⟩) rfl ?_)
 rintro v14 MP J14 ⟨pb, rfl, hP⟩
 change Prm pb (aw0 false) MP at hP
 have f1 := freshS_l8 (aw0 false)
 have e1 : (aw0 false).ts.length = 0 := rfl
 have e2 : (aw0 false).n = 0 := rfl
 obtain ⟨ka, kb, t2, l2, n2, -⟩ := aw_facts false
 have hal := aw_len false
 have hane := aw_ne false
 refine mv_ ?_
 refine XL.q (q_x0 rfl) rfl ?_
 refine XL.q (q_x1 rfl) rfl ?_
 refine as_ (as_ ?_)
 refine XL.fin (kq 1 (kq 2 (kq 3 kn))) ?_
 refine XC.seq ?_
 refine XC.reg ?_
 refine mv_ ?_
 refine XL.q (q_cmp false rfl rfl (neF rfl)) rfl ?_
 refine XL.fin (kq 1 (kq 2 (kq 18 kn))) ?_
 refine XC.condF rfl ?_
 refine XC.skip ?_
 refine nx (kq 1 (kq 2 kn)) ?_
 refine XC.reg ?_
 refine mv_ ?_
 refine XL.lo rfl (l_call (Mc := MP) (R := _) (aS rfl a0) (by kernel_rfl) PickC.perm (fresh_spec pb (aw0 false) MP _ hP (by omega) (by omega) hG.up) rfl ?_)
 rintro v20 M20 J20 ⟨hP20, h20⟩
 haveI := h20.cel
 refine as_ ?_
 refine XL.fin (kq 1 (kq 2 (kq 4 kn))) ?_
 refine XC.reg ?_
 refine mv_ ?_
 refine XL.lo rfl (l_call (Mc := M20) (R := _) (aS rfl a0) (by kernel_rfl) PickC.perm (fresh_spec pb (freshS (aw0 false)) M20 _ hP20 (by omega) (by omega) hG.up) rfl ?_)
 rintro v22 M22 J22 ⟨hP22, h22⟩
 haveI := h22.cel
 change Prm pb (aw2 false) M22 at hP22
 generalize freshK (aw0 false) = wa at *
 generalize freshK (freshS (aw0 false)) = wb at *
 generalize aw2 false = s2 at *
 have ag := agree_two ka kb t2 (by omega) h20.lt h22.lt
 have z1 := pubS2_len' s2 wb
 have z2 := agrS2_len (pubS2 s2 wb) wa (pubK2 s2 wb)
 have z3 := pubS2_len' (agrS2 (pubS2 s2 wb) wa (pubK2 s2 wb)) wa
 have y1 := pubS2_n' s2 wb
 have y2 := agrS2_n (pubS2 s2 wb) wa (pubK2 s2 wb)
 have y3 := pubS2_n' (agrS2 (pubS2 s2 wb) wa (pubK2 s2 wb)) wa
 refine as_ ?_
 refine XL.fin (kq 1 (kq 2 (kq 4 (kq 5 kn)))) ?_
 refine XC.drawK (M22) (_) true [0, 1, 2, 3, 4, 5, 6, 7, 8, 9, 10, 11, 12, 13, 14, 15, 16, 17, 18, 19, 20, 21, 22, 23, 24, 25, 26, 27, 28, 29, 30, 31] [(0, 0), (1, 0), (2, 0), (3, 0), (4, 0), (5, 1), (6, 0), (7, 1), (8, 0), (9, 0), (10, 0), (11, 0), (12, 0), (13, 0), (14, 0), (18, 0), (19, 0), (20, 0), (21, 0), (15, 2), (16, 2), (17, 3), (22, 3), (23, 3), (24, 4), (25, 0), (26, 0), (27, 0), (28, 0), (29, 2), (30, 0), (31, 0)] (by kernel_rfl) (by kernel_rfl) PickC.perm fun hs K n0 hKm hKs hKn => ?_
 refine XK.q hs rfl qm_ rfl ?_
 refine XK.q hs rfl (q_lenV2 (sz := 1) rfl (by kernel_rfl) h20.rd) rfl ?_
 refine XK.q hs rfl (q_cmp false rfl rfl (neF (by rw [hal]; rfl))) rfl ?_
 refine XK.q hs rfl qm_ rfl ?_
 refine XK.qg hs rfl rfl rfl rfl qm_ rfl ?_
 refine XK.rg hs rfl rfl rfl rfl (by first | exact fun x hx => by rw [List.append_assoc]; exact List.mem_append_right _ hx | exact SubC.sub) hKs (q_toStr2 rfl (by kernel_rfl) (h20.rd.mono SubC.sub)) rfl ?_
 refine XK.qg hs rfl rfl rfl rfl qm_ rfl ?_
 refine XK.rg hs rfl rfl rfl rfl (by first | exact fun x hx => by rw [List.append_assoc]; exact List.mem_append_right _ hx | exact SubC.sub) hKs (q_toStr2 rfl (by kernel_rfl) (h22.rd.mono SubC.sub)) rfl ?_
 refine XK.qg hs rfl rfl rfl rfl ((show (decide (wa = wb)) = false from decide_eq_false hane) ▸ q_sEq rfl rfl rfl rfl h20.lt h22.lt) rfl ?_
 refine XK.q hs rfl (q_pickF rfl rfl) rfl ?_
 refine XK.q hs rfl qm_ rfl ?_
 refine XK.qg hs rfl rfl rfl rfl qm_ rfl ?_
 refine XK.qg hs rfl rfl rfl rfl qm_ rfl ?_
 refine XK.qg hs rfl rfl rfl rfl qm_ rfl ?_
 refine XK.qg hs rfl rfl rfl rfl qm_ rfl ?_
 refine XK.qg hs rfl rfl rfl rfl qm_ rfl ?_
 refine XK.qg hs rfl rfl rfl rfl qm_ rfl ?_
 refine XK.qg hs rfl rfl rfl rfl qm_ rfl ?_
 refine XK.qg hs rfl rfl rfl rfl qm_ rfl ?_
 refine XK.lg _ _ rfl rfl rfl rfl (List.Perm.refl _) hKm fun w0 => (l_call (Mc := M22) (R := _) (aS rfl (aS rfl (a0))) (by kernel_rfl) PickC.perm (public_b pb s2 v22 wb M22 _ hP22 (by omega) (h22.mono SubC.sub) hG.up) rfl ?_)
 rintro v38 M38 J38 ⟨hP38, h38⟩ hKx38
 haveI := h38.cel
 refine XK.lg M38 _ rfl rfl rfl rfl PickC.perm (fun x hx => hKx38 (hKn rfl) x (by simpa using hx)) fun w0 => (l_call (Mc := M38) (R := _) (aS rfl (aS rfl (aS rfl (a0)))) (by kernel_rfl) PickC.perm (agree_b pb (pubS2 s2 wb) v20 v38 wa (pubK2 s2 wb) M38 _ hP38 (by omega) (h20.mono SubC.sub) (h38.mono SubC.sub) hG.up) rfl ?_)
 rintro v39 M39 J39 ⟨hP39, h39⟩ hKx39
 haveI := h39.cel
 obtain ⟨s4, hs4⟩ : ∃ z, agrS2 (pubS2 s2 wb) wa (pubK2 s2 wb) = z := ⟨_, rfl⟩
 obtain ⟨x, hx⟩ : ∃ z, agrK2 (pubS2 s2 wb) wa (pubK2 s2 wb) = z := ⟨_, rfl⟩
 rw [hs4] at hP39 z2 z3 y2 y3 ag
 rw [hx] at h39 ag
 have y4 := agrS2_n (pubS2 s4 wa) wb (pubK2 s4 wa)
 dsimp only [List.nil_append, List.append_eq, List.append_nil]
 refine XK.groupC [⟨17, 40, none, [], fun v B _ => B = [] ∧ v = (.string (txt x))⟩, ⟨22, 45, none, M39, fun v B R => Prm pb (pubS2 s4 wa) B ∧ By R v (pubK2 s4 wa)⟩, ⟨23, 46, some 22, [], fun v B R => Prm pb (agrS2 (pubS2 s4 wa) wb (pubK2 s4 wa)) B ∧ By R v x⟩, ⟨24, 47, none, [], fun v B _ => B = [] ∧ v = (.string (txt x))⟩] ([]) (fun bs => [bs 17, bs 23, bs 24]) (hKn rfl) (by simp [joinC, rootC]) (show ∀ m ∈ ([[], M39, []] : List Mem), ∀ x ∈ m, K x.1 from allS (fun _ h => by cases h) (allS (fun y hy => hKx39 (hKn rfl) y (by simpa using hy)) (allS (fun _ h => by cases h) (all0)))) (by kernel_rfl) (fun _ => by first | rfl | kernel_rfl)
  (allS (fun _ _ _ _ _ h => h) (allS (fun _ _ _ _ h hp => ⟨hp.1, hp.2.mono h⟩) (allS (fun _ _ _ _ h hp => ⟨hp.1, hp.2.mono h⟩) (allS (fun _ _ _ _ _ h => h) (all0))))) (show List.Nodup [40, 45, 46, 47] by decide) (show List.Nodup [17, 22, 23, 24] by decide) (allS (blt_lt rfl) (allS (blt_lt rfl) (allS (blt_lt rfl) (allS (blt_lt rfl) (all0)))))
  (allS ⟨_, rfl, fun vs bs R Rj wG hb hj hjr ha => ⟨.inr ⟨_, _, _, _, rfl, rfl, rfl, rfl⟩, ?_⟩⟩ (allS ⟨_, rfl, fun vs bs R Rj wG hb hj hjr ha => ⟨.inr ⟨_, _, _, _, rfl, rfl, rfl, rfl⟩, ?_⟩⟩ (allS ⟨_, rfl, fun vs bs R Rj wG hb hj hjr ha => ⟨.inr ⟨_, _, _, _, rfl, rfl, rfl, rfl⟩, ?_⟩⟩ (allS ⟨_, rfl, fun vs bs R Rj wG hb hj hjr ha => ⟨.inr ⟨_, _, _, _, rfl, rfl, rfl, rfl⟩, ?_⟩⟩ (all0))))) ?_
 ·
  dsimp only [Gc.inp]
  exact OpQ.opL (q_toStr2 rfl (by kernel_rfl) (h39.rd.mono (fun x hx => by have := hb x (by simp [hx]); simp [this]))) rfl ⟨_, rfl, rfl, rfl⟩
 ·
  dsimp only [Gc.inp]
  refine l_call (Mc := M39) (R := []) (aS rfl (aS rfl a0)) (by kernel_rfl) (by simp) (public_b pb s4 v20 wa M39 _ hP39 (by omega) (h20.mono (fun x hx => by have := hb x (by simp [hx]); simp [this])) (hG.sub (fun x hx => by have := hb x (by simp [hx]); simp [this]))) rfl ?_
  rintro v25 M25 J25 ⟨hP25, h25⟩
  exact ⟨_, rfl, by simpa using hP25, h25.mono fun x hx => by simp [hx]⟩
 ·
  dsimp only [Gc.inp]
  have g22 := ha _ (List.mem_of_getElem? (i := 1) rfl) (by kernel_rfl)
  replace g22 : (fun v B R => Prm pb (pubS2 s4 wa) B ∧ By R v (pubK2 s4 wa)) (vs 22) (bs 22) Rj := g22
  dsimp only at g22
  obtain ⟨hP45, h45⟩ := g22
  refine l_call (Mc := bs 22) (R := []) (aS rfl (aS rfl (aS rfl a0))) (by kernel_rfl) (by simp) (agree_b pb (pubS2 s4 wa) v22 (vs 22) wb (pubK2 s4 wa) (bs 22) _ hP45 (by omega) (h22.mono (fun x hx => by have := hb x (by simp [hx]); simp [this])) (h45.mono (fun x hx => by have := hjr x hx; simp [this])) (hG.sub (fun x hx => by have := hb x (by simp [hx]); simp [this]))) rfl ?_
  rintro v25 M25 J25 ⟨hP25, h25⟩
  rw [ag] at h25
  exact ⟨_, rfl, by simpa using hP25, h25.mono fun x hx => by simp [hx]⟩
 ·
  dsimp only [Gc.inp]
  have g22 := ha _ (List.mem_of_getElem? (i := 1) rfl) (by kernel_rfl)
  replace g22 : (fun v B R => Prm pb (pubS2 s4 wa) B ∧ By R v (pubK2 s4 wa)) (vs 22) (bs 22) Rj := g22
  dsimp only at g22
  have g23 := ha _ (List.mem_of_getElem? (i := 2) rfl) (by kernel_rfl)
  replace g23 : (fun v B R => Prm pb (agrS2 (pubS2 s4 wa) wb (pubK2 s4 wa)) B ∧ By R v x) (vs 23) (bs 23) Rj := g23
  dsimp only at g23
  obtain ⟨-, h46⟩ := g23
  exact OpQ.opL (q_toStr2 rfl (by kernel_rfl) (h46.rd.mono (fun x hx => by have := hjr x hx; simp [this]))) rfl ⟨_, rfl, rfl, rfl⟩
 intro vs bs Jn0 hφ hKK
 have kk17 := hKK _ (List.mem_of_getElem? (i := 0) rfl)
 dsimp only at kk17
 have kk22 := hKK _ (List.mem_of_getElem? (i := 1) rfl)
 dsimp only at kk22
 have kk23 := hKK _ (List.mem_of_getElem? (i := 2) rfl)
 dsimp only at kk23
 have kk24 := hKK _ (List.mem_of_getElem? (i := 3) rfl)
 dsimp only at kk24
 clear hKK
 have g17 := ofH hφ
 dsimp only at g17
 replace hφ := ofT hφ
 have g22 := ofH hφ
 dsimp only at g22
 replace hφ := ofT hφ
 have g23 := ofH hφ
 dsimp only at g23
 replace hφ := ofT hφ
 have g24 := ofH hφ
 dsimp only at g24
 clear hφ
 dsimp only [gEnvC, joinC, List.foldr, List.map, List.cons_append, List.nil_append]
 generalize bs 17 = B40 at *
 generalize bs 22 = B45 at *
 generalize bs 23 = B46 at *
 generalize bs 24 = B47 at *
 generalize vs 17 = u40 at *
 generalize vs 22 = u45 at *
 generalize vs 23 = u46 at *
 generalize vs 24 = u47 at *
 obtain ⟨rfl, rfl⟩ := g17
 clear g22
 obtain ⟨hP46, h46⟩ := g23
 obtain ⟨rfl, rfl⟩ := g24
 refine XK.qg hs rfl rfl rfl rfl ((show (!decide (x = x)) = false by simp) ▸ q_sNe rfl rfl rfl rfl h39.lt h39.lt) rfl ?_
 refine XK.q hs rfl (q_pickF rfl rfl) rfl ?_
 refine XK.q hs rfl qm_ rfl ?_
 refine XK.qg hs rfl rfl rfl rfl qm_ rfl ?_
 refine XK.lg [] _ rfl rfl rfl rfl (List.Perm.refl _) (fun _ h => by cases h) fun w0 => (l_callV (aS rfl a0) (by kernel_rfl) (made_f pb _ B46 _ hP46 (by intro z hz; simp [hz])) rfl fun _ => ?_)
 dsimp only [List.nil_append, List.append_eq]
 refine XK.qg hs rfl rfl rfl rfl (q_cmp false rfl rfl (neF (by omega))) rfl ?_
 refine XK.q hs rfl (q_pickF rfl rfl) rfl ?_
 refine XK.fin (kq 1 (kq 54 kn)) ?_
 refine XC.condF rfl ?_
 refine XC.skip ?_
 refine nb ?_
 refine nx (kq 1 kn) ?_
 refine XC.reg1 ?_
 refine mv_ ?_
 refine XL.q (q_addM 256 (a := 1) (b := 1) rfl rfl rfl rfl rfl rfl) rfl ?_
 refine as_ ?_
 refine XL.nil ?_
 refine un (kq 1 kn) ?_
 refine XR.step ?_
 refine XC.seq ?_
 refine XC.reg ?_
 refine mv_ ?_
 refine XL.q (q_cmp false rfl rfl (leF (by decide))) rfl ?_
 refine XL.fin (kq 1 (kq 7 kn)) ?_
 refine XC.condF rfl ?_
 refine XC.exit ?_
 refine te ?_
 refine ue ?_
 refine be rfl ?_
 refine nx kn ?_
 refine XC.reg ?_
 refine as_ ?_
 refine XL.fin (kq 0 kn) ?_
 refine XC.ret ?_
 exact ⟨_, [], [], res1 rfl rfl, List.nil_sublist _, by simp, rfl, rfl, rfl⟩

end Go.Proofs.YtphcaiplgpmnnaaGreatDoor
/- The walks of prim's Fresh and Name of terms; of PrimTerms. -/
namespace Go.Proofs.YtphcaiplgpmnnaaGreatDoor
open Go.Px
def markAll (ws : List (List Nat)) : List Nat := (ws.map mark).flatten
theorem markAll_take {ws : List (List Nat)} {i : Nat} {w : List Nat} (h : ws[i]? = some w) : markAll (ws.take (i + 1)) = markAll (ws.take i) ++ mark w := by
  unfold markAll; rw [List.take_add_one, h]; simp
theorem markAll_lt {ws : List (List Nat)} (h : ∀ w ∈ ws, ∀ x ∈ w, x < 256) : ∀ x ∈ markAll ws, x < 256 := by
  intro x hx
  obtain ⟨l, hl, hx⟩ := List.mem_flatten.1 hx
  obtain ⟨w, hw, rfl⟩ := List.mem_map.1 hl
  haveI : B256 w := ⟨h w hw⟩
  have hb : B256 (mark w) := inferInstance
  exact hb.lt x hx
def nameT (ws : List (List Nat)) : Tm := rawT (markAll ws)
def nameS (s : Ps) (ws : List (List Nat)) : Ps := { s with ts := add s.ts (nameT ws) }
def nameK (s : Ps) (ws : List (List Nat)) : List Nat := bts ((at_ s.ts (nameT ws) : Nat) : Int)
/-- What a put brings. -/
theorem put_facts {ts : List Tm} {t : Tm} (h : Tmo t) (ht : Tok ts) : ∃ (ts' : List Tm) (i : Nat), add ts t = ts' ∧ at_ ts t = i ∧ ts'[i]? = some t ∧ Tok ts' ∧ ts'.length ≤ ts.length + 1 ∧ (∀ (j : Nat) (u : Tm), ts[j]? = some u → ts'[j]? = some u) ∧ i < ts'.length := by
  obtain ⟨l, g1, g2, g3, g4⟩ := pfact h ht
  exact ⟨_, _, rfl, rfl, g3, g4, g2, fun j u hj => by rw [g1]; exact ext_at hj, (List.getElem?_eq_some_iff.1 g3).1⟩
theorem one1_at {s : Ps} {i j : Nat} {f : Int → Tm} (hi : i < s.ts.length) (hl : s.ts.length ≤ 1048576) (ht : Tok s.ts) (h : s.ts[j]? = some (f ((i : Nat) : Int))) : one1 s (bts ((i : Nat) : Int)) f = s ∧ oneK s (bts ((i : Nat) : Int)) f = bts ((j : Nat) : Int) := by
  obtain ⟨e1, e2⟩ := one_t hi hl f
  obtain ⟨e3, e4⟩ := again ht h
  rw [e1, e2, e3, e4]; exact ⟨rfl, rfl⟩
theorem nameS_at {s : Ps} {j : Nat} {ws : List (List Nat)} (ht : Tok s.ts) (h : s.ts[j]? = some (nameT ws)) : nameS s ws = s ∧ nameK s ws = bts ((j : Nat) : Int) := by
  obtain ⟨e3, e4⟩ := again ht h
  unfold nameS nameK
  rw [e3, e4]; exact ⟨rfl, rfl⟩
/-- Two keys derived of a key and its public part. -/
theorem der_two {s : Ps} (hr : s.real = false) {i b d : Nat} {lb : List Nat} (hb : B256 lb) (hll : lb.length ≤ 1000) (hi : i < s.ts.length) (hib : b < s.ts.length) (hl : s.ts.length ≤ 1040000) (ht : Tok s.ts) (h : s.ts[d]? = some (drv [((i : Nat) : Int), ((b : Nat) : Int)] lb 1)) :
    ∃ (s' : Ps) (k0 : List Nat), derS s (bts ((i : Nat) : Int)) [bts ((b : Nat) : Int)] lb 2 = s' ∧ derK s (bts ((i : Nat) : Int)) [bts ((b : Nat) : Int)] lb 2 = [k0, bts ((d : Nat) : Int)] ∧ s'.real = false ∧ Tok s'.ts ∧ s'.ts.length ≤ s.ts.length + 1 ∧ ∀ (j : Nat) (u : Tm), s.ts[j]? = some u → s'.ts[j]? = some u := by
  obtain ⟨a1, a2⟩ := good_rd hi (show s.ts.length ≤ 1048576 by omega)
  obtain ⟨b1, b2⟩ := good_rd hib (show s.ts.length ≤ 1048576 by omega)
  have e : rdAll s.ts (bts ((i : Nat) : Int)) [bts ((b : Nat) : Int)] = (s.ts, [((i : Nat) : Int), ((b : Nat) : Int)]) := by
    unfold rdAll rdSt
    simp only [List.foldl_cons, List.foldl_nil]
    rw [a1, a2, b1, b2]; rfl
  have hd : Tmo (drv [((i : Nat) : Int), ((b : Nat) : Int)] lb 0) := ⟨show 5 < 256 by decide, show i64 ((0 : Nat) : Int) by unfold i64; omega, fun z hz => by have hz' : z ∈ [((i : Nat) : Int), ((b : Nat) : Int)] := hz; simp at hz'; rcases hz' with rfl | rfl <;> exact i64_nat (by omega), show 2 ≤ 1048576 by decide, hb, by show lb.length ≤ _; omega⟩
  obtain ⟨ts', k, g1, g2, g3, g4, g5, g6, g7⟩ := put_facts hd ht
  have g8 := g6 _ _ h
  obtain ⟨f1, f2⟩ := again g4 g8
  have e2 : ptAll s.ts [((i : Nat) : Int), ((b : Nat) : Int)] lb 2 = (ts', [bts ((k : Nat) : Int), bts ((d : Nat) : Int)]) := by
    unfold ptAll
    rw [show List.range 2 = [0, 1] from rfl]
    simp only [List.foldl_cons, List.foldl_nil, ptSt, List.nil_append]
    rw [g1, g2, f1, f2]; rfl
  refine ⟨{ s with ts := ts' }, bts ((k : Nat) : Int), ?_, ?_, hr, g4, g5, g6⟩
  · unfold derS derT; rw [if_neg (by rw [hr]; decide), e, e2]
  · unfold derK derT; rw [if_neg (by rw [hr]; decide), e, e2]

theorem fresh_t (pb bt bm : Nat) (s : Ps) (hr : s.real = false) (MP A : Mem) (hP : PrmT pb bt bm s MP) (hn : s.ts.length ≤ 1048576) (hk : s.n < 1099511627776) (hG : Glb A) : FnX Tryz.prog 40 [.pointer (some ⟨pb, 0, none⟩)] MP A fun q M J => PrmT pb bt bm (freshS s) M ∧ By J q (freshK s) := by
 obtain ⟨sv, B, MT, rfl, hby, hT⟩ := hP.ex
 have hmd : md s.real = 1 := by rw [hr]; rfl
 rw [hmd] at *
 haveI := hby.cel
 obtain ⟨⟨ge0, gf0, h0⟩, ⟨ge1, gf1, h1⟩, ⟨ge4, gf4, h4⟩⟩ := hG
 refine FnX.enterZ (N := 55) Tryz.func40 rfl rfl rfl fun w_ => ?_
 refine XC.keep (kq 0 kn) ?_
 refine XC.reg ?_
 refine as_ ?_
 refine XL.fin (kq 0 kn) ?_
 refine XC.seq ?_
 refine XC.reg ?_
 refine mv_ ?_
 refine XL.q (q_ptrEqNil (e := 124) rfl rfl (by kernel_rfl)) rfl ?_
 refine XL.fin (kq 0 (kq 6 kn)) ?_
 refine XC.condF rfl ?_
 refine XC.skip ?_
 refine nx (kq 0 kn) ?_
 refine XC.reg ?_
 refine mv_ ?_
 refine XL.q (q_nil rfl) rfl ?_
 refine XL.q (qf_ 2 2) rfl ?_
 refine XL.q ql_ rfl ?_
 refine XL.q (q_addI (b := 1) rfl rfl rfl rfl (by omega)) rfl ?_
 refine XL.q (q_nil rfl) rfl ?_
 refine XL.q (qf_ 2 2) rfl ?_
 refine XL.lo rfl (l_store rfl rfl rfl (by kernel_rfl) SetC.set UpC.upd ?_)
 refine XL.fin (kq 0 kn) ?_
 refine XC.seq ?_
 refine XC.reg ?_
 refine mv_ ?_
 refine XL.q (q_nil rfl) rfl ?_
 refine XL.q (qf_ 0 0) rfl ?_
 refine XL.q ql_ rfl ?_
 refine XL.q (q_bin rfl rfl rfl) rfl ?_
 refine XL.fin (kq 0 (kq 18 kn)) ?_
 refine XC.condF rfl ?_
 refine XC.skip ?_
 refine nx (kq 0 kn) ?_
 refine XC.drawF [0, 1, 2, 3, 4, 5, 6, 7, 8, 11] [(0, 0), (1, 0), (2, 0), (3, 1), (4, 0), (5, 0), (6, 0), (7, 1), (8, 0), (9, 2), (10, 2), (11, 0)] (by kernel_rfl) (by kernel_rfl) fun hs => ?_
 refine XF.q hs rfl qm_ rfl ?_
 refine XF.q hs rfl (q_nil rfl) rfl ?_
 refine XF.q hs rfl (qf_ 3 3) rfl ?_
 refine XF.r hs rfl ql_ rfl ?_
 refine XF.q hs rfl qm_ rfl ?_
 refine XF.q hs rfl (q_nil rfl) rfl ?_
 refine XF.q hs rfl (qf_ 2 2) rfl ?_
 refine XF.r hs rfl ql_ rfl ?_
 refine XF.q hs rfl (q_build (place := fun x => #[(0, 1), (1, 1), (2, 1), (3, 1)][x]?) (z := [.int .u8 0, .slice none 0 0, .string ByteArray.empty, .int .i64 0]) (fun _ => by kernel_rfl) (eS rfl (eS rfl e0)) (bdS 0 1 rfl (by rfl) (bdS 3 1 rfl (by rfl) bd0))) rfl ?_
 refine XF.tl rfl rfl rfl (l_call (Mc := MT) (R := _) (aS rfl (aS rfl a0)) (by kernel_rfl) PickC.perm (putT_spec bt bm s.ts (.slice none 0 0) (atom (s.n + 1)) MT _ hT hn Rd.nil (atom_ok' (by omega)) (mA h4)) rfl ?_)
 rintro v53 M53 J53 ⟨rfl, rfl, hT53⟩
 refine XF.tl rfl rfl rfl (l_call0 (aS rfl a0) (by kernel_rfl) (bytesJ_spec _ _) rfl ?_)
 rintro v54 M54 J54 ⟨rfl, h54⟩
 refine XF.q hs rfl (q_assign rfl) rfl ?_
 refine XF.fin (kq 2 kn) ?_
 refine XC.ret ?_
 exact ⟨_, (pb, blk [.int .u8 1, sv, .int .i64 (((s.n + 1 : Nat) : Int)), .pointer (some ⟨bt, 0, none⟩)] 124) :: (B ++ M53), [], res1 rfl rfl, (Fit.none (Fit.pick (B := [_]) PickC.perm (Fit.pick PickC.perm (Fit.last PickC.perm)))), ⟨sv, B, M53, by rw [show md (freshS s).real = 1 by rw [freshS_f hr]; show md s.real = 1; rw [hr]; rfl, freshS_f hr], by rw [freshS_f hr]; exact hby, by rw [freshS_f hr]; exact hT53⟩, by rw [freshK_f hr]; exact h54.mono SubC.sub⟩

theorem name_t (pb bt bm : Nat) (s : Ps) (hr : s.real = false) (u : Value) (ws : List (List Nat)) (MP A : Mem) (hP : PrmT pb bt bm s MP) (hn : s.ts.length ≤ 1048576) (hu : LsV A u ws) (hwl0 : ws.length ≤ 1000) (hlt0 : ∀ w ∈ ws, ∀ x ∈ w, x < 256) (hG : Glb A) : FnX Tryz.prog 47 [.pointer (some ⟨pb, 0, none⟩), u] MP A fun q M J => PrmT pb bt bm (nameS s ws) M ∧ By J q (nameK s ws) := by
 obtain ⟨sv, B, MT, rfl, hby, hT⟩ := hP.ex
 have hmd : md s.real = 1 := by rw [hr]; rfl
 rw [hmd] at *
 haveI := hby.cel
 obtain ⟨⟨ge0, gf0, h0⟩, ⟨ge1, gf1, h1⟩, ⟨ge4, gf4, h4⟩⟩ := hG
 obtain ⟨us, hus, hls⟩ := hu.ex
 haveI := hus.cel
 refine FnX.enterZ (N := 51) Tryz.func47 rfl rfl rfl fun w_ => ?_
 refine XC.keep (kq 0 (kq 1 kn)) ?_
 refine XC.reg ?_
 refine as_ ?_
 refine XL.fin (kq 0 (kq 1 kn)) ?_
 refine XC.seq ?_
 refine XC.reg ?_
 refine mv_ ?_
 refine XL.q (q_ptrEqNil (e := 124) rfl rfl (by kernel_rfl)) rfl ?_
 refine XL.fin (kq 0 (kq 1 (kq 12 kn))) ?_
 refine XC.condF rfl ?_
 refine XC.skip ?_
 refine nx (kq 0 (kq 1 kn)) ?_
 refine XC.seq ?_
 refine XC.reg ?_
 refine mv_ ?_
 refine XL.q (q_nil rfl) rfl ?_
 refine XL.q (qf_ 0 0) rfl ?_
 refine XL.q ql_ rfl ?_
 refine XL.q (q_bin rfl rfl rfl) rfl ?_
 refine XL.fin (kq 0 (kq 1 (kq 17 kn))) ?_
 refine XC.condF rfl ?_
 refine XC.skip ?_
 refine nx (kq 0 (kq 1 kn)) ?_
 refine XC.reg ?_
 refine as_ ?_
 refine XL.fin (kq 0 (kq 1 (kq 8 kn))) ?_
 refine XC.seq ?_
 refine XC.reg ?_
 refine mv_ ?_
 refine XL.q (q_lenV2 (sz := 1) rfl (by kernel_rfl) hus) rfl ?_
 refine mv_ ?_
 refine XL.fin (kq 0 (kq 8 (kq 32 (kq 33 (kq 34 kn))))) ?_
 refine XC.block ?_
 refine XC.loop (α := Nat) (fun i => [(0, .pointer (some ⟨pb, 0, none⟩)), (8, .string (txt (markAll (ws.take i)))), (32, u), (33, .int .i64 ((ws.length : Nat) : Int)), (34, .int .i64 ((i : Nat) : Int))]) (fun _ => (pb, blk [.int .u8 1, sv, .int .i64 (((s.n : Nat) : Int)), .pointer (some ⟨bt, 0, none⟩)] 124) :: (B ++ MT)) (fun _ => []) (fun i => i ≤ ws.length ∧ (markAll (ws.take i)).length ≤ i * 16777300) (fun i => ws.length - i) 0 ⟨Nat.zero_le _, Nat.zero_le _⟩ (kq 0 (kq 8 (kq 32 (kq 33 (kq 34 kn))))) .rfl (fun _ h => h) ?_
 rintro i ⟨hi, hml⟩
 refine XC.reg ?_
 refine XL.q (q_bin rfl rfl rfl) rfl ?_
 refine XL.fin (kq 0 (kq 8 (kq 32 (kq 33 (kq 34 (kq 35 kn)))))) ?_
 refine XC.seq ?_
 refine XC.cond rfl (fun hc => ?_) (fun hc => ?_)
 ·
  have hlt : i < ws.length := by simp at hc; omega
  obtain ⟨w, hw⟩ : ∃ w, ws[i]? = some w := ⟨_, List.getElem?_eq_getElem hlt⟩
  obtain ⟨vi, hvi, hwi⟩ := hls.get i w hw
  haveI := hwi.cel
  have hst := markAll_take hw
  have hmk := mark_len w (by have := hwi.len; omega)
  have hwl := hwi.len
  refine XC.skip ?_
  refine nx (kq 0 (kq 8 (kq 32 (kq 33 (kq 34 kn))))) ?_
  refine XC.seq ?_
  refine XC.block ?_
  refine XC.reg ?_
  refine XL.q (q_atV2 (sz := 1) rfl rfl (by kernel_rfl) rfl hus hlt) rfl ?_
  refine XL.q (q_ldV (j := i) (u := vi) (hus.mono SubC.sub) rfl (by kernel_rfl) hvi) rfl ?_
  refine as_ ?_
  refine XL.fin (kq 0 (kq 8 (kq 10 (kq 32 (kq 33 (kq 34 kn)))))) ?_
  refine XC.reg1 ?_
  refine mv_ (mv_ ?_)
  refine XL.callV (aS rfl a0) (by kernel_rfl) (mark_spec vi w _ (hwi.rd.mono SubC.sub) (hb := hwi.b256) (by omega) (mA h4)) rfl ?_
  refine XL.q (q_sAdd (ws := markAll (ws.take i)) (ws' := mark w) rfl rfl rfl rfl (by have : i * 16777300 ≤ 1000 * 16777300 := Nat.mul_le_mul_right _ (by omega); omega)) rfl ?_
  rw [← hst]
  refine as_ ?_
  refine XL.nil ?_
  refine nb ?_
  refine nx (kq 0 (kq 8 (kq 32 (kq 33 (kq 34 kn))))) ?_
  refine XC.reg1 ?_
  refine XL.q (q_num ((i + 1 : Nat) : Int) rfl rfl (add64 (by omega) (by omega) (by omega))) rfl ?_
  refine mv_ ?_
  refine XL.nil ?_
  exact rn (i + 1) ⟨hlt, by rw [hst, List.length_append, Nat.add_mul]; omega⟩ (by omega) (kq 0 (kq 8 (kq 32 (kq 33 (kq 34 kn))))) .rfl (fun _ h => h)
 ·
  have hge : i = ws.length := by simp at hc; omega
  subst hge
  rw [List.take_length] at hml ⊢
  refine XC.exit ?_
  refine te ?_
  refine re ?_
  refine be rfl ?_
  refine nx (kq 0 (kq 8 kn)) ?_
  refine XC.reg ?_
  refine mv_ ?_
  refine XL.q (q_nil rfl) rfl ?_
  refine XL.q (qf_ 3 3) rfl ?_
  refine XL.q ql_ rfl ?_
  refine mv_ ?_
  refine XL.q (q_build (place := fun x => #[(0, 1), (1, 1), (2, 1), (3, 1)][x]?) (z := [.int .u8 0, .slice none 0 0, .string ByteArray.empty, .int .i64 0]) (fun _ => by kernel_rfl) (eS rfl (eS rfl e0)) (bdS 0 1 rfl (by rfl) (bdS 2 1 rfl (by rfl) bd0))) rfl ?_
  refine XL.lo rfl (l_call (Mc := MT) (R := _) (aS rfl (aS rfl a0)) (by kernel_rfl) PickC.perm (putT_spec bt bm s.ts (.slice none 0 0) (nameT ws) MT _ hT hn Rd.nil (rawT_ok (markAll_lt hlt0) (by have : ws.length * 16777300 ≤ 1000 * 16777300 := Nat.mul_le_mul_right _ hwl0; omega)) (mA h4)) rfl ?_)
  rintro v49 M49 J49 ⟨rfl, rfl, hT49⟩
  refine XL.lo rfl (l_call0 (aS rfl a0) (by kernel_rfl) (bytesJ_spec _ _) rfl ?_)
  rintro v50 M50 J50 ⟨rfl, h50⟩
  refine as_ ?_
  refine XL.fin (kq 4 kn) ?_
  refine XC.ret ?_
  exact ⟨_, (pb, blk [.int .u8 1, sv, .int .i64 (((s.n : Nat) : Int)), .pointer (some ⟨bt, 0, none⟩)] 124) :: (B ++ M49), [], res1 rfl rfl, (Fit.none (Fit.pick (B := [_]) PickC.perm (Fit.pick PickC.perm (Fit.last PickC.perm)))), ⟨sv, B, M49, by rw [show md (nameS s ws).real = 1 by show md s.real = 1; rw [hr]; rfl]; rfl, hby, hT49⟩, h50.mono SubC.sub⟩

end Go.Proofs.YtphcaiplgpmnnaaGreatDoor
