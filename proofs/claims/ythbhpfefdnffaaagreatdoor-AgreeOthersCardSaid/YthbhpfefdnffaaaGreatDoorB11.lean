/- Part 11 of the texts of this claim, one behind the other. -/
import Derived.Test.YthbhpfefdnffaaaGreatDoorB10
set_option linter.unusedVariables false
set_option linter.unusedSimpArgs false
set_option maxRecDepth 100000
namespace Go.Px
structure Gc where
  i : Nat
  d : Nat
  s : Option Nat
  m : Mem
  φ : Value → Mem → Mem → Prop
def Gc.inp (g : Gc) (bs : Nat → Mem) : Mem := match g.s with
  | none => g.m
  | some s => bs s
theorem Gc.inp_none {g : Gc} {bs : Nat → Mem} (h : g.s = none) : g.inp bs = g.m := by unfold Gc.inp; rw [h]
theorem Gc.inp_some {g : Gc} {bs : Nat → Mem} {s : Nat} (h : g.s = some s) : g.inp bs = bs s := by unfold Gc.inp; rw [h]
def S7 (G : List Gc) (vs : Nat → Value) : Env := G.map fun g => (g.d, vs g.i)
def B3t (G : List Gc) : List Gm := G.map fun g => ⟨g.i, g.d, fun _ _ => True⟩
theorem B0V (G : List Gc) : (B3t G).map (·.i) = G.map (·.i) := by simp [B3t]
theorem B0W (G : List Gc) : (B3t G).map (·.d) = G.map (·.d) := by simp [B3t]
theorem A05 (G : List Gc) (vs : Nat → Value) : A3h (B3t G) vs = S7 G vs := by simp [A3h, S7, B3t]
theorem A0a {G : List Gc} (h : (G.map (·.i)).Nodup) {g g' : Gc} (hg : g ∈ G) (hg' : g' ∈ G) (e : g.i = g'.i) : g = g' := by
  induction G with
  | nil => cases hg
  | cons x G ih =>
    simp only [List.map_cons, List.nodup_cons] at h
    rcases List.mem_cons.1 hg with h1 | h1 <;> rcases List.mem_cons.1 hg' with h2 | h2
    · rw [h1, h2]
    · exact absurd (by rw [← h1, e]; exact List.mem_map_of_mem (f := Gc.i) h2) h.1
    · exact absurd (by rw [← h2, ← e]; exact List.mem_map_of_mem (f := Gc.i) h1) h.1
    · exact ih h.2 h1 h2
def A2v (G : List Gc) (X : List Nat) (bs : Nat → Mem) (g : Gc) : Mem :=
  if g.i ∈ X then (if ∃ g' ∈ G, g'.s = some g.i ∧ g'.i ∈ X then [] else bs g.i) else (if g.s = none then g.m else [])
def A7h (X : List Nat) (bs : Nat → Mem) (G : List Gc) : Mem := (G.map (A2v G X bs)).flatten
def B0X (l : List (Nat × Option Nat)) (i : Nat) : Bool := l.any fun p => p.2 == some i
def A9k (G : List Gc) (bs : Nat → Mem) : List Mem := (G.filter fun g => !B0X (G.map fun g => (g.i, g.s)) g.i).map fun g => bs g.i
def A0y (l : List Mem) (M : Mem) : Mem := l.foldr (· ++ ·) M
def A1V (G : List Gc) : List Mem := (G.filter fun g => g.s.isNone).map (·.m)
def A7i (ops : Array Oper) (l : List (Nat × Option Nat)) : Bool :=
  l.all fun p => match p.2 with
    | none => true
    | some s => (l.map Prod.fst).contains s && anc ops ops.size p.1 s && l.all fun q => q.2 != some s || q.1 == p.1
structure ChainOk (ops : Array Oper) (G : List Gc) : Prop where
  anc : ∀ g ∈ G, ∀ s, g.s = some s → anc ops ops.size g.i s = true
  mem : ∀ g ∈ G, ∀ s, g.s = some s → s ∈ G.map (·.i)
  one : ∀ g ∈ G, ∀ g' ∈ G, ∀ s, g.s = some s → g'.s = some s → g'.i = g.i
theorem A8m {ops : Array Oper} {G : List Gc} (h : A7i ops (G.map fun g => (g.i, g.s)) = true) : ChainOk ops G := by
  have key : ∀ g ∈ G, ∀ s, g.s = some s → s ∈ G.map (·.i) ∧ Px.anc ops ops.size g.i s = true ∧ ∀ g' ∈ G, g'.s = some s → g'.i = g.i := by
    intro g hg s hs
    have h1 := List.all_eq_true.1 h (g.i, g.s) (List.mem_map_of_mem (f := fun g : Gc => (g.i, g.s)) hg)
    simp only [hs, Bool.and_eq_true, List.contains_iff_mem, List.map_map] at h1
    obtain ⟨⟨h2, h3⟩, h4⟩ := h1
    refine ⟨by simpa [Function.comp_def] using h2, h3, fun g' hg' hs' => ?_⟩
    have h5 := List.all_eq_true.1 h4 (g'.i, g'.s) (List.mem_map_of_mem (f := fun g : Gc => (g.i, g.s)) hg')
    simp [hs'] at h5
    exact h5
  exact ⟨fun g hg s hs => (key g hg s hs).2.1, fun g hg s hs => (key g hg s hs).1, fun g hg g' hg' s hs hs' => (key g hg s hs).2.2 g' hg' hs'⟩
theorem A7j {G : List Gc} (hi : (G.map (·.i)).Nodup) {g : Gc} (hg : g ∈ G) (f : Gc → Mem) :
    ∃ R, ∀ f' : Gc → Mem, (∀ x ∈ G, x.i ≠ g.i → f' x = f x) → (G.map f').flatten.Perm (f' g ++ R) := by
  obtain ⟨s, t, rfl⟩ := List.append_of_mem hg
  have hne : ∀ x ∈ s ++ t, x.i ≠ g.i := by
    intro x hx e
    simp only [List.map_append, List.map_cons, List.nodup_append, List.nodup_cons] at hi
    rcases List.mem_append.1 hx with h | h
    · exact hi.2.2 _ (List.mem_map_of_mem (f := Gc.i) h) _ List.mem_cons_self e
    · exact hi.2.1.1 (e ▸ List.mem_map_of_mem (f := Gc.i) h)
  refine ⟨(s.map f).flatten ++ (t.map f).flatten, fun f' h => ?_⟩
  have es : s.map f' = s.map f := List.map_congr_left fun x hx => h x (by simp [hx]) (hne x (List.mem_append_left _ hx))
  have et : t.map f' = t.map f := List.map_congr_left fun x hx => h x (by simp [hx]) (hne x (List.mem_append_right _ hx))
  simp only [List.map_append, List.map_cons, List.flatten_append, List.flatten_cons, es, et]
  exact List.perm_append_comm_assoc _ _ _
theorem A3E {ops : Array Oper} {X : List Nat} {bs : Nat → Mem} {G : List Gc} {g : Gc} (hi : (G.map (·.i)).Nodup) (hc : ChainOk ops G) (hg : g ∈ G) (hX : g.i ∉ X) (hcl : ∀ g' ∈ G, g'.i ∈ X → ∀ s, g'.s = some s → s ∈ X) (hsx : ∀ s, g.s = some s → s ∈ X) :
    ∃ R, (A7h X bs G).Perm (g.inp bs ++ R) ∧ ∀ M', (M' ++ R).Perm (A7h (X ++ [g.i]) (fun k => if k = g.i then M' else bs k) G) := by
  have hmem : ∀ x : Gc, x.i ≠ g.i → (x.i ∈ X ++ [g.i] ↔ x.i ∈ X) := fun x h => by simp [h]
  have hself : ∀ M' : Mem, A2v G (X ++ [g.i]) (fun k => if k = g.i then M' else bs k) g = M' := by
    intro M'
    have hno : ¬ ∃ g' ∈ G, g'.s = some g.i ∧ g'.i ∈ X ++ [g.i] := by
      rintro ⟨g', hg', hs', hx'⟩
      rcases List.mem_append.1 hx' with h | h
      · exact hX (hcl g' hg' h _ hs')
      · have h2 : g' = g := A0a hi hg' hg (by simpa using h)
        subst h2
        exact hX (hsx _ hs')
    unfold A2v
    rw [if_pos (by simp), if_neg hno]
    exact if_pos rfl
  cases hs : g.s with
  | none =>
    obtain ⟨R, hR⟩ := A7j hi hg (A2v G X bs)
    refine ⟨R, ?_, fun M' => ?_⟩
    · have h1 := hR (A2v G X bs) fun _ _ _ => rfl
      have h2 : A2v G X bs g = g.inp bs := by unfold A2v; rw [if_neg hX, if_pos hs, Gc.inp_none hs]
      rw [h2] at h1
      exact h1
    · have h1 := hR (A2v G (X ++ [g.i]) fun k => if k = g.i then M' else bs k) fun x hx hne => by
        unfold A2v
        by_cases hxX : x.i ∈ X
        · rw [if_pos ((hmem x hne).2 hxX), if_pos hxX]
          have hiff : (∃ g' ∈ G, g'.s = some x.i ∧ g'.i ∈ X ++ [g.i]) ↔ (∃ g' ∈ G, g'.s = some x.i ∧ g'.i ∈ X) := by
            constructor
            · rintro ⟨g', h1, h2, h3⟩
              rcases List.mem_append.1 h3 with h4 | h4
              · exact ⟨g', h1, h2, h4⟩
              · have h5 : g' = g := A0a hi h1 hg (by simpa using h4)
                subst h5; rw [hs] at h2; cases h2
            · rintro ⟨g', h1, h2, h3⟩; exact ⟨g', h1, h2, List.mem_append_left _ h3⟩
          simp only [hiff, if_neg hne]
        · rw [if_neg (fun h => hxX ((hmem x hne).1 h)), if_neg hxX]
      rw [hself M'] at h1
      exact h1.symm
  | some s =>
    have hsX := hsx s hs
    obtain ⟨gs, hgs, rfl⟩ := List.mem_map.1 (hc.mem g hg s hs)
    have hne0 : gs.i ≠ g.i := fun h => hX (h ▸ hsX)
    obtain ⟨R1, hR1⟩ := A7j hi hgs (A2v G X bs)
    have h1 := hR1 (A2v G X bs) fun _ _ _ => rfl
    have e1 : A2v G X bs gs = bs gs.i := by
      unfold A2v
      rw [if_pos hsX, if_neg]
      rintro ⟨g', hg', hs', hx'⟩
      exact hX (hc.one g hg g' hg' _ hs hs' ▸ hx')
    rw [e1] at h1
    have h2 := hR1 (fun x => if x.i = gs.i then [] else A2v G X bs x) fun x _ hne => if_neg hne
    simp only [if_true, List.nil_append] at h2
    obtain ⟨R2, hR2⟩ := A7j hi hg (fun x => if x.i = gs.i then [] else A2v G X bs x)
    have h3 := hR2 (fun x => if x.i = gs.i then [] else A2v G X bs x) fun _ _ _ => rfl
    have e3 : (if g.i = gs.i then [] else A2v G X bs g) = ([] : Mem) := by
      rw [if_neg (Ne.symm hne0)]
      unfold A2v
      rw [if_neg hX, if_neg (by rw [hs]; exact fun h => by cases h)]
    simp only [e3, List.nil_append] at h3
    refine ⟨R2, ?_, fun M' => ?_⟩
    · rw [Gc.inp_some hs]
      exact h1.trans (List.Perm.append_left _ (h2.symm.trans h3))
    · have h4 := hR2 (A2v G (X ++ [g.i]) fun k => if k = g.i then M' else bs k) fun x hx hne => by
        by_cases hxs : x.i = gs.i
        · rw [if_pos hxs]
          unfold A2v
          rw [if_pos ((hmem x hne).2 (hxs ▸ hsX)), if_pos ⟨g, hg, by rw [hs, hxs], by simp⟩]
        · rw [if_neg hxs]
          unfold A2v
          by_cases hxX : x.i ∈ X
          · rw [if_pos ((hmem x hne).2 hxX), if_pos hxX]
            have hiff : (∃ g' ∈ G, g'.s = some x.i ∧ g'.i ∈ X ++ [g.i]) ↔ (∃ g' ∈ G, g'.s = some x.i ∧ g'.i ∈ X) := by
              constructor
              · rintro ⟨g', h1, h2, h3⟩
                rcases List.mem_append.1 h3 with h4 | h4
                · exact ⟨g', h1, h2, h4⟩
                · have h5 : g' = g := A0a hi h1 hg (by simpa using h4)
                  subst h5; rw [hs] at h2; exact absurd (Option.some.inj h2).symm hxs
              · rintro ⟨g', h1, h2, h3⟩; exact ⟨g', h1, h2, List.mem_append_left _ h3⟩
            simp only [hiff, if_neg hne]
          · rw [if_neg (fun h => hxX ((hmem x hne).1 h)), if_neg hxX]
      rw [hself M'] at h4
      exact h4.symm
theorem A8n {bs : Nat → Mem} {G : List Gc} : A7h [] bs G = (A1V G).flatten := by
  have : ∀ G' : List Gc, (G'.map (A2v G [] bs)).flatten = (A1V G').flatten := by
    intro G'
    induction G' with
    | nil => rfl
    | cons g G' ih =>
      rw [List.map_cons, List.flatten_cons, ih]
      have e : A2v G [] bs g = if g.s = none then g.m else [] := by unfold A2v; rw [if_neg (by simp)]
      rw [e]
      cases hs : g.s with
      | none => simp [A1V, hs]
      | some s => simp [A1V, hs]
  exact this G
theorem A8o {X : List Nat} {bs : Nat → Mem} {G : List Gc} (h : ∀ g ∈ G, g.i ∈ X) : A7h X bs G = (A9k G bs).flatten := by
  have he : ∀ g ∈ G, A2v G X bs g = if B0X (G.map fun g => (g.i, g.s)) g.i = true then [] else bs g.i := by
    intro g hg
    unfold A2v
    rw [if_pos (h g hg)]
    have : (∃ g' ∈ G, g'.s = some g.i ∧ g'.i ∈ X) ↔ B0X (G.map fun g => (g.i, g.s)) g.i = true := by
      unfold B0X
      simp only [List.any_eq_true, List.mem_map]
      constructor
      · rintro ⟨g', h1, h2, _⟩; exact ⟨_, ⟨g', h1, rfl⟩, by simp [h2]⟩
      · rintro ⟨_, ⟨g', h1, rfl⟩, h2⟩; exact ⟨g', h1, by simpa using h2, h g' h1⟩
    simp only [this]
  unfold A7h A9k
  rw [List.map_congr_left he]
  have : ∀ (G' : List Gc) (p : Gc → Bool), (G'.map fun g => if p g = true then ([] : Mem) else bs g.i).flatten = ((G'.filter fun g => !p g).map fun g => bs g.i).flatten := by
    intro G' p
    induction G' with
    | nil => rfl
    | cons g G' ih =>
      rw [List.map_cons, List.flatten_cons, ih]
      cases hp : p g <;> simp [hp]
  exact this G fun g => B0X (G.map fun g => (g.i, g.s)) g.i
theorem A2U (l : List Mem) (M : Mem) : A0y l M = l.flatten ++ M := by
  induction l with
  | nil => rfl
  | cons a l ih => show a ++ A0y l M = _; rw [ih, List.flatten_cons, List.append_assoc]
section group
variable {C : Cx} {Q : XQ} {l : Env} {M M0 J : Mem} {os : List Oper} {K : Nat → Prop} {n0 : Nat} {nd : List Nat} {plan : List (Nat × Nat)}
def B0Y (C : Cx) (os : List Oper) (l : Env) (M0 J : Mem) (G : List Gc) (g : Gc) : Prop :=
  ∃ o, nth os g.i = some o ∧ ∀ (vs : Nat → Value) (bs : Nat → Mem) (R Rj : Mem) (w : World), (∀ x ∈ M0 ++ (J ++ C.A), x ∈ R) → (∀ x ∈ J ++ C.A, x ∈ Rj) → (∀ x ∈ Rj, x ∈ R) → (∀ g' ∈ G, anc os.toArray os.toArray.size g.i g'.i = true → g'.φ (vs g'.i) (bs g'.i) Rj) →
    A83 os (S7 G vs ++ l) o ∧ OpL ⟨C.P, w, (g.inp bs).map Prod.fst, R, C.N⟩ o (S7 G vs ++ l) (g.inp bs) [] (fun l' M' J' => ∃ v, l' = (g.d, v) :: (S7 G vs ++ l) ∧ g.φ v M' (J' ++ Rj))
theorem B0Z {G : List Gc} (hmono : ∀ g ∈ G, A2u g.φ) (hd : (G.map (·.d)).Nodup) (hi : (G.map (·.i)).Nodup) (hc : ChainOk os.toArray G) (hKn : ∀ b, n0 ≤ b → K b) (hK : ∀ m ∈ A1V G, ∀ x ∈ m, K x.1) (hob : ∀ g ∈ G, B0Y C os l M0 J G g) {A B : Array Bool} (hok : GOk os.toArray A (G.map (·.i)) B)
    (hfin : ∀ (vs : Nat → Value) (bs : Nat → Mem) Jn a w, (∀ g ∈ G, g.φ (vs g.i) (bs g.i) ((Jn ++ J) ++ C.A)) → (∀ g ∈ G, ∀ x ∈ bs g.i, K x.1) → Ag C.N (S7 G vs ++ l) a → St C ((A9k G bs).flatten ++ M0) (Jn ++ J) w → n0 ≤ w.heap.size → Z0 C.P os.toArray (Q4 (A6J C Q)) (Sk K) nd.contains plan.length B a w) :
    ∀ (n : Nat) (X : List Nat) (vs : Nat → Value) (bs : Nat → Mem) (Jn : Mem) (a : Act) (w : World), X.Nodup → (∀ i ∈ X, i ∈ G.map (·.i)) → n + X.length = G.length → P8 os.toArray (mark A X) → (∀ g ∈ G, g.i ∈ X → ∀ s, g.s = some s → s ∈ X) →
      (∀ g ∈ G, g.i ∈ X → g.φ (vs g.i) (bs g.i) ((Jn ++ J) ++ C.A)) → (∀ g ∈ G, g.i ∈ X → ∀ x ∈ bs g.i, K x.1) → Ag C.N (S7 G vs ++ l) a → St C (A7h X bs G ++ M0) (Jn ++ J) w → n0 ≤ w.heap.size →
      Z0 C.P os.toArray (Q4 (A6J C Q)) (Sk K) nd.contains (n + plan.length) (mark A X) a w := by
  intro n
  induction n with
  | zero =>
    intro X vs bs Jn a w hnd hX hlen hcl hXs hφ hN ha hw hn
    have hall : ∀ i, i ∈ X ↔ i ∈ G.map (·.i) := fun i => ⟨hX i, A1M hnd hX (by simp; omega) i⟩
    have hin : ∀ g ∈ G, g.i ∈ X := fun g hg => (hall _).2 (List.mem_map_of_mem (f := Gc.i) hg)
    have hcur := A8o (bs := bs) hin
    rw [hcur] at hw
    rw [Nat.zero_add, A4P hall, ← hok.mark]
    exact hfin vs bs Jn a w (fun g hg => hφ g hg (hin g hg)) (fun g hg => hN g hg (hin g hg)) ha hw hn
  | succ n ih =>
    intro X vs bs Jn a w hnd hX hlen hcl hXs hφ hN ha hw hn
    have hmiss : ∃ k ∈ G.map (·.i), k ∉ X := by
      apply Classical.byContradiction
      intro hno
      have hs : ∀ k ∈ G.map (·.i), k ∈ X := fun k hk => Classical.byContradiction fun h => hno ⟨k, hk, h⟩
      have := A1L hi hs
      simp at this; omega
    obtain ⟨k, hkG, hkX⟩ := hmiss
    have hun : ∀ i ∈ G.map (·.i), A.getD i true = false := by
      have : ∀ {is A B}, GOk os.toArray A is B → ∀ i ∈ is, A.getD i true = false := by
        intro is A B h
        induction h with
        | nil => intro i hi; cases hi
        | @cons A B i r hr ho h ih =>
          intro k hk
          rcases List.mem_cons.1 hk with rfl | hk
          · exact K6 hr
          · have h2 := ih k hk
            by_cases e : i = k
            · subst e; exact K6 hr
            · rwa [getD_set_ne true e] at h2
      exact this hok
    have hkun : (mark A X).getD k true = false := G9.2 ⟨hun k hkG, fun h => hkX h.1⟩
    rw [show n + 1 + plan.length = (n + plan.length) + 1 by omega]
    refine ⟨fun h0 => ?_, fun i hir => ?_⟩
    · obtain ⟨i, hir⟩ := hok.first (A0N A X) (fun j hj => A0O hj) hkG hkun
      rw [h0] at hir; cases hir
    · have hiG : i ∈ G.map (·.i) := by
        apply Classical.byContradiction
        intro hno
        have h1 := G9.1 (K6 hir)
        have h2 := hok.outer k hkG i (A2K hir) h1.1 hno
        exact R8 hkun (P9 hcl h2 hir)
      obtain ⟨g, hg, rfl⟩ := List.mem_map.1 hiG
      have hiX : g.i ∉ X := fun h => (G9.1 (K6 hir)).2 ⟨h, V1 (hun _ hiG)⟩
      have hin : ∀ j ∈ G.map (·.i), anc os.toArray os.toArray.size g.i j = true → j ∈ X := fun j hj hanc => by
        have h3 := P9 hcl hanc hir
        rcases X8 h3 with h4 | h4
        · exact (R8 (hun _ hj) h4).elim
        · exact h4
      have hsx : ∀ s, g.s = some s → s ∈ X := fun s hs => hin s (hc.mem g hg s hs) (hc.anc g hg s hs)
      have hKi : ∀ x ∈ g.inp bs, K x.1 := by
        intro x hx
        cases hs : g.s with
        | none =>
          rw [Gc.inp_none hs] at hx
          exact hK g.m (List.mem_map.2 ⟨g, List.mem_filter.2 ⟨hg, by simp [hs]⟩, rfl⟩) x hx
        | some s =>
          rw [Gc.inp_some hs] at hx
          obtain ⟨gs, hgs, rfl⟩ := List.mem_map.1 (hc.mem g hg s hs)
          exact hN gs hgs (hsx _ hs) x hx
      obtain ⟨o, hget, howe⟩ := hob g hg
      have hi' : os.toArray[g.i]? = some o := by rw [U3] at hget; simpa using hget
      obtain ⟨hask, hop⟩ := howe vs bs (M0 ++ ((Jn ++ J) ++ C.A)) ((Jn ++ J) ++ C.A) w (fun x hx => by simp only [List.mem_append] at hx ⊢; rcases hx with h | h | h <;> simp [h]) (fun x hx => by simp only [List.mem_append] at hx ⊢; rcases hx with h | h <;> simp [h]) (fun x hx => List.mem_append_right _ hx) (fun g' hg' hanc => hφ g' hg' (hin _ (List.mem_map_of_mem (f := Gc.i) hg') hanc))
      unfold wpOp
      simp only [hi']
      rw [if_pos (hask.wanted ha)]
      obtain ⟨R0, hp0, hq0⟩ := A3E (bs := bs) hi hc hg hiX hXs hsx
      have hpc : (A7h X bs G ++ M0).Perm (g.inp bs ++ (R0 ++ M0)) := by
        rw [← List.append_assoc]; exact List.Perm.append_right _ hp0
      have hcal := hw.callee hpc
      have hcal2 := St.less (A := M0 ++ ((Jn ++ J) ++ C.A)) hcal fun x hx => by
        simp only [List.mem_append] at hx ⊢
        rcases hx with h | h
        · exact .inl (.inr h)
        · exact .inr h
      refine .inl (Oper.wp_mono ?_ (hop _ a w ha hcal2.cx))
      rintro a' w' ⟨l', M', J', ha', hs', v, rfl, hφv⟩
      have hsz : w.heap.size ≤ w'.heap.size := hs'.size
      have hs2 := St.widen hcal.cx hs'
      have hb := hw.back hpc hs2.cx
      let bs' : Nat → Mem := fun k => if k = g.i then M' else bs k
      have hperm : (M' ++ (R0 ++ M0)).Perm (A7h (X ++ [g.i]) bs' G ++ M0) := by
        rw [← List.append_assoc]
        exact List.Perm.append_right _ (hq0 M')
      have hfr2 : St C (A7h (X ++ [g.i]) bs' G ++ M0) ((J' ++ Jn) ++ J) w' := (hb.perm hperm).drop (List.Sublist.refl _) fun x hx => by
        simp only [List.mem_append] at hx ⊢
        rcases hx with (h | h) | h <;> simp [h]
      refine ⟨fun _ b hb' hnk => hs'.frame b hb' fun hm => ?_, ?_⟩
      · obtain ⟨x, hx, e⟩ := List.mem_map.1 hm
        exact hnk (e ▸ hKi x hx)
      rw [← R5]
      have henv := A1N (N := C.N) (G := B3t G) (l := l) (vs := vs) (g := ⟨g.i, g.d, fun _ _ => True⟩) (a := a') (v := v) (List.mem_map_of_mem (f := fun g : Gc => (⟨g.i, g.d, fun _ _ => True⟩ : Gm)) hg) (by rw [B0W]; exact hd) (by rw [B0V]; exact hi) (by rw [A05]; exact ha')
      rw [A05] at henv
      refine ih (X ++ [g.i]) (fun k => if k = g.i then v else vs k) bs' (J' ++ Jn) a' w' ?_ ?_ (by simp; omega) ?_ ?_ ?_ ?_ henv hfr2 (Nat.le_trans hn hsz)
      · rw [List.nodup_append]; exact ⟨hnd, by simp, fun x hx y hy e => hiX (by simp at hy; subst hy; exact e ▸ hx)⟩
      · intro j hj
        rcases List.mem_append.1 hj with hj | hj
        · exact hX j hj
        · simp at hj; subst hj; exact hiG
      · rw [R5]; exact H2 hcl hir
      · intro g' hg' hm s hs
        rcases List.mem_append.1 hm with h | h
        · exact List.mem_append_left _ (hXs g' hg' h s hs)
        · have h2 : g' = g := A0a hi hg' hg (by simpa using h)
          subst h2
          exact List.mem_append_left _ (hsx s hs)
      · intro g' hg' hm
        by_cases e : g'.i = g.i
        · have : g' = g := A0a hi hg' hg e
          subst this
          simp only [if_true, bs']
          exact hmono g' hg' _ _ _ _ (fun x hx => by simp only [List.mem_append] at hx ⊢; rcases hx with h | (h | h) | h <;> simp [h]) hφv
        · simp only [e, if_false, bs']
          have hm' : g'.i ∈ X := by simpa [e] using hm
          exact hmono g' hg' _ _ _ _ (fun x hx => by simp only [List.mem_append] at hx ⊢; rcases hx with (h | h) | h <;> simp [h]) (hφ g' hg' hm')
      · intro g' hg' hk x hx
        by_cases e : g'.i = g.i
        · have : g' = g := A0a hi hg' hg e
          subst this
          simp only [if_true, bs'] at hx
          rcases hs'.own x.1 x.2 (by simp [hx]) with h6 | h6
          · obtain ⟨y, hy, e6⟩ := List.mem_map.1 h6
            exact e6 ▸ hKi y hy
          · exact hKn _ (Nat.le_trans hn h6)
        · simp only [e, if_false, bs'] at hx
          have hk' : g'.i ∈ X := by simpa [e] using hk
          exact hN g' hg' hk' x hx
theorem A0S (G : List Gc) (M0 : Mem) (Lf : (Nat → Mem) → List Mem) (hKn : ∀ b, n0 ≤ b → K b) (hM : M.Perm (A0y (A1V G) M0)) (hK : ∀ m ∈ A1V G, ∀ x ∈ m, K x.1) (hck : A7i os.toArray (G.map fun g => (g.i, g.s)) = true) (hLf : ∀ bs, A9k G bs = Lf bs)
    (hmono : ∀ g ∈ G, A2u g.φ) (hd : (G.map (·.d)).Nodup) (hi : (G.map (·.i)).Nodup) (hdN : ∀ g ∈ G, g.d < C.N) (hob : ∀ g ∈ G, B0Y C os l M0 J G g)
    (h : ∀ (vs : Nat → Value) (bs : Nat → Mem) Jn, (∀ g ∈ G, g.φ (vs g.i) (bs g.i) ((Jn ++ J) ++ C.A)) → (∀ g ∈ G, ∀ x ∈ bs g.i, K x.1) → XK C os Q K n0 nd plan (S7 G vs ++ l) (A0y (Lf bs) M0) (Jn ++ J)) : XK C os Q K n0 nd (enc (G.map (·.i)) ++ plan) l M J := by
  refine A1m hM ?_
  rw [A2U]
  intro listed hcl hp a w ha hw hn
  obtain ⟨B, hok, hp2⟩ := A7W hp
  have hBcl : P8 os.toArray B := by
    have : ∀ {A is B}, GOk os.toArray A is B → P8 os.toArray A → P8 os.toArray B := by
      intro A is B h
      induction h with
      | nil => exact id
      | cons hr _ _ ih => exact fun hc => ih (H2 hc hr)
    exact this hok hcl
  have hlen : (enc (G.map (·.i)) ++ plan).length = G.length + plan.length := by
    have : ∀ is : List Nat, (enc is).length = is.length := by
      intro is
      induction is with
      | nil => rfl
      | cons i r ih => cases r with
        | nil => rfl
        | cons j r => simp only [enc, List.length_cons] at ih ⊢; rw [ih]
    simp [this]
  rw [hlen]
  let vs : Nat → Value := fun k => match G.find? (fun g => g.i == k) with
    | some g => (a.tmps[g.d]?).getD undef
    | none => undef
  have hag : Ag C.N (S7 G vs ++ l) a := by
    refine ⟨ha.defers, ha.size, ?_⟩
    intro k u hk
    have key : ∀ G' : List Gc, (∀ g ∈ G', g ∈ G) → lk (S7 G' vs ++ l) k = some u → a.tmps[k]? = some u := by
      intro G'
      induction G' with
      | nil => intro _ h; exact ha.slot k u h
      | cons g G' ih =>
        intro hs h
        simp only [S7, List.map_cons, List.cons_append, lk] at h
        by_cases e : g.d = k
        · subst e
          simp at h
          have hf : G.find? (fun x => x.i == g.i) = some g := by
            have hgG := hs g List.mem_cons_self
            cases hq : G.find? (fun x => x.i == g.i) with
            | none => have := List.find?_eq_none.1 hq g hgG; simp at this
            | some x =>
              have h1 := List.find?_some hq
              have h2 := List.mem_of_find?_eq_some hq
              rw [A0a hi h2 hgG (by simpa using h1)]
          have hlt : g.d < a.tmps.size := by rw [ha.size]; exact hdN g (hs g List.mem_cons_self)
          rw [← h]
          show a.tmps[g.d]? = some (vs g.i)
          simp only [vs, hf, Array.getElem?_eq_getElem hlt, Option.getD_some]
        · simp only [W8 e, cond_false] at h
          exact ih (fun x hx => hs x (List.mem_cons_of_mem _ hx)) h
    exact key G (fun _ h => h) hk
  refine B0Z (n0 := n0) (K := K) hmono hd hi (A8m hck) hKn hK hob hok (fun vs bs Jn a w hφ hN ha hw hn => h vs bs Jn hφ hN B hBcl hp2 a w ha (by rw [A2U, ← hLf]; exact hw) hn) G.length [] vs (fun _ => []) [] a w .nil (fun _ h => by cases h) (by simp) hcl (fun _ _ h => by cases h) (fun _ _ h => by cases h) (fun _ _ h => by cases h) hag (by rw [A8n]; exact hw) hn
end group
end Go.Px

namespace Go.Px
def A3F : List Nat → List (Nat × Nat)
  | [] => []
  | [q] => [(q, 10)]
  | q :: q' :: r => (q, 9) :: A3F (q' :: r)
def A9E (qs : List Nat) : List Nat → List (Nat × Nat)
  | [] => A3F qs
  | i :: r => (i, 8) :: A9E qs r
theorem B6D (plan : List (Nat × Nat)) : ∀ {qs : List Nat}, qs ≠ [] → grz (A3F qs ++ plan) = qs ∧ qsz (A3F qs ++ plan) = qs
  | [], h => absurd rfl h
  | [q], _ => ⟨rfl, rfl⟩
  | q :: q' :: r, _ => by
    obtain ⟨h1, h2⟩ := B6D plan (qs := q' :: r) (by simp)
    refine ⟨?_, ?_⟩
    · show q :: grz (A3F (q' :: r) ++ plan) = _; rw [h1]
    · show q :: qsz (A3F (q' :: r) ++ plan) = _; rw [h2]
theorem A7k {qs : List Nat} (plan : List (Nat × Nat)) (h : qs ≠ []) : ∀ r : List Nat, grz (A9E qs r ++ plan) = r ++ qs ∧ qsz (A9E qs r ++ plan) = qs
  | [] => B6D plan h
  | i :: r => by
    obtain ⟨h1, h2⟩ := A7k plan h r
    refine ⟨?_, ?_⟩
    · show i :: grz (A9E qs r ++ plan) = _; rw [h1]; rfl
    · show qsz (A9E qs r ++ plan) = _; rw [h2]
inductive GOz (ops : Array Oper) (qs : List Nat) : Array Bool → List Nat → Array Bool → Prop
  | nil {A : Array Bool} : GOz ops qs A [] A
  | cons {A B : Array Bool} {i : Nat} {r : List Nat} (hr : i ∈ Region.ready .any ops A) (ho : i ∉ qs → ∀ j, j < ops.size → A.getD j true = false → j ∉ i :: r → anc ops ops.size j i = true) (h : GOz ops qs (A.setIfInBounds i true) r B) : GOz ops qs A (i :: r) B
theorem A8p {ops : Array Oper} {nd : List Nat} {Q : List Nat} {plan : List (Nat × Nat)} : ∀ {qs : List Nat} {A : Array Bool}, qs ≠ [] → (∀ q ∈ qs, q ∈ Q) → K5 ops nd (A3F qs ++ plan) A = true → ∃ B, GOz ops Q A qs B ∧ (∀ q ∈ qs, A3T ops A q = true) ∧ K5 ops nd plan B = true
  | [], A, h, _, _ => absurd rfl h
  | [q], A, _, hQ, h => by
    simp only [A3F, List.cons_append, List.nil_append, K5, Bool.and_eq_true] at h
    exact ⟨_, .cons (by simpa using h.1.1) (fun hq => absurd (hQ q (by simp)) hq) .nil, (fun x hx => by rw [List.mem_singleton.1 hx]; exact h.1.2), h.2⟩
  | q :: q' :: r, A, _, hQ, h => by
    simp only [A3F, List.cons_append, K5, Bool.and_eq_true] at h
    obtain ⟨B, hB, -, hp⟩ := A8p (qs := q' :: r) (by simp) (fun x hx => hQ x (List.mem_cons_of_mem _ hx)) h.2
    refine ⟨B, .cons (by simpa using h.1.1) (fun hq => absurd (hQ q (by simp)) hq) hB, fun x hx => ?_, hp⟩
    have h2 := h.1.2
    rw [(B6D plan (qs := q' :: r) (by simp)).2] at h2
    exact List.all_eq_true.1 h2 x hx
theorem B00 {ops : Array Oper} {nd : List Nat} {qs : List Nat} {plan : List (Nat × Nat)} (hne : qs ≠ []) : ∀ {is : List Nat} {A : Array Bool}, K5 ops nd (A9E qs is ++ plan) A = true → ∃ B, GOz ops qs A (is ++ qs) B ∧ (∀ q ∈ qs, A3T ops A q = true) ∧ K5 ops nd plan B = true
  | [], A, h => A8p hne (fun _ h => h) h
  | i :: r, A, h => by
    simp only [A9E, List.cons_append, K5, A6Q, Bool.and_eq_true, List.all_eq_true, List.mem_range, Bool.or_eq_true, (A7k plan hne r).1, (A7k plan hne r).2] at h
    obtain ⟨B, hB, -, hp⟩ := B00 hne (is := r) h.2
    refine ⟨B, .cons (by simpa using h.1.1.1) (fun _ j hj hu hn => ?_) hB, h.1.2, hp⟩
    rcases h.1.1.2 j hj with (h1 | h1) | h1
    · rw [hu] at h1; cases h1
    · exact absurd (by simpa using h1) hn
    · exact h1
theorem GOz.mark {ops : Array Oper} {q : List Nat} {A B : Array Bool} {is : List Nat} (h : GOz ops q A is B) : B = mark A is := by
  induction h with
  | nil => rfl
  | cons _ _ _ ih => rw [ih]; rfl
theorem GOz.un {ops : Array Oper} {q : List Nat} {A B : Array Bool} {is : List Nat} (h : GOz ops q A is B) : ∀ i ∈ is, A.getD i true = false := by
  induction h with
  | nil => intro i hi; cases hi
  | @cons A B i r hr ho h ih =>
    intro k hk
    rcases List.mem_cons.1 hk with rfl | hk
    · exact K6 hr
    · have h2 := ih k hk
      by_cases e : i = k
      · subst e; exact K6 hr
      · rwa [getD_set_ne true e] at h2
theorem GOz.outer {ops : Array Oper} {q : List Nat} {A B : Array Bool} {is : List Nat} (h : GOz ops q A is B) : ∀ i ∈ is, i ∉ q → ∀ j, j < ops.size → A.getD j true = false → j ∉ is → anc ops ops.size j i = true := by
  induction h with
  | nil => intro i hi; cases hi
  | @cons A B i r hr ho h ih =>
    intro k hk hq j hj hu hn
    rcases List.mem_cons.1 hk with rfl | hk
    · exact ho hq j hj hu hn
    · have hne : i ≠ j := fun e => hn (e ▸ List.mem_cons_self)
      exact ih k hk hq j hj (by rw [getD_set_ne true hne]; exact hu) (fun hm => hn (List.mem_cons_of_mem _ hm))
theorem GOz.first {ops : Array Oper} {q : List Nat} {A B : Array Bool} {is : List Nat} (h : GOz ops q A is B) {A' : Array Bool} (hsz : A'.size = A.size) (hm : ∀ j, A.getD j false = true → A'.getD j false = true) {k : Nat} (hk : k ∈ is) (hk' : A'.getD k true = false) : ∃ i, i ∈ is ∧ i ∈ Region.ready .any ops A' := by
  induction h generalizing k with
  | nil => cases hk
  | @cons A B i r hr ho h ih =>
    by_cases hi : A'.getD i true = false
    · exact ⟨i, List.mem_cons_self, A4a hr hi hm⟩
    · rcases List.mem_cons.1 hk with rfl | hk
      · exact absurd hk' hi
      · obtain ⟨x, hx1, hx2⟩ := ih (by simpa using hsz) (fun j hj => by
          by_cases e : i = j
          · subst e
            have hlt := V1 (K6 hr)
            have hlt' : i < A'.size := by omega
            simp [hlt'] at hi ⊢; exact hi
          · rw [getD_set_ne false e] at hj
            exact hm j hj) hk hk'
        exact ⟨x, List.mem_cons_of_mem _ hx1, hx2⟩
section group
variable {C : Cx} {Q : XQ} {l : Env} {M M0 J : Mem} {os : List Oper} {K : Nat → Prop} {n0 : Nat} {nd : List Nat} {plan : List (Nat × Nat)}
def B6E (C : Cx) (os : List Oper) (l : Env) (J : Mem) (G : List Gc) (g : Gc) : Prop :=
  g.s = none ∧ g.m = [] ∧ ∃ op ty pos af, nth os g.i = some ⟨some g.d, op, ty, pos, af, none⟩ ∧ ∀ (vs : Nat → Value) (bs : Nat → Mem) (Rj : Mem), (∀ x ∈ J ++ C.A, x ∈ Rj) → (∀ g' ∈ G, anc os.toArray os.toArray.size g.i g'.i = true → g'.φ (vs g'.i) (bs g'.i) Rj) →
    ∃ v, OpQ C.P [] ⟨some g.d, op, ty, pos, af, none⟩ (S7 G vs ++ l) v ∧ g.φ v [] Rj
theorem B01 {G : List Gc} (hmono : ∀ g ∈ G, A2u g.φ) (hd : (G.map (·.d)).Nodup) (hi : (G.map (·.i)).Nodup) (hc : ChainOk os.toArray G) (hKn : ∀ b, n0 ≤ b → K b) (hK : ∀ m ∈ A1V G, ∀ x ∈ m, K x.1) (hs : Region.noSelect os.toArray = true) (hdN : ∀ g ∈ G, g.d < C.N) {qs : List Nat} (hob : ∀ g ∈ G, g.i ∉ qs → B0Y C os l M0 J G g) (hoq : ∀ g ∈ G, g.i ∈ qs → B6E C os l J G g) {A B : Array Bool} (hok : GOz os.toArray qs A (G.map (·.i)) B) (hfr : ∀ q ∈ qs, A3T os.toArray A q = true)
    (hfin : ∀ (vs : Nat → Value) (bs : Nat → Mem) Jn a w, (∀ g ∈ G, g.φ (vs g.i) (bs g.i) ((Jn ++ J) ++ C.A)) → (∀ g ∈ G, ∀ x ∈ bs g.i, K x.1) → Ag C.N (S7 G vs ++ l) a → St C ((A9k G bs).flatten ++ M0) (Jn ++ J) w → n0 ≤ w.heap.size → Z0 C.P os.toArray (Q4 (A6J C Q)) (Sk K) nd.contains plan.length B a w) :
    ∀ (n : Nat) (X : List Nat) (vs : Nat → Value) (bs : Nat → Mem) (Jn : Mem) (a : Act) (w : World), X.Nodup → (∀ i ∈ X, i ∈ G.map (·.i)) → n + X.length = G.length → P8 os.toArray (mark A X) → (∀ g ∈ G, g.i ∈ X → ∀ s, g.s = some s → s ∈ X) →
      (∀ g ∈ G, g.i ∈ X → g.φ (vs g.i) (bs g.i) ((Jn ++ J) ++ C.A)) → (∀ g ∈ G, g.i ∈ X → ∀ x ∈ bs g.i, K x.1) → Ag C.N (S7 G vs ++ l) a → St C (A7h X bs G ++ M0) (Jn ++ J) w → n0 ≤ w.heap.size →
      Z0 C.P os.toArray (Q4 (A6J C Q)) (Sk K) nd.contains (n + plan.length) (mark A X) a w := by
  intro n
  induction n with
  | zero =>
    intro X vs bs Jn a w hnd hX hlen hcl hXs hφ hN ha hw hn
    have hall : ∀ i, i ∈ X ↔ i ∈ G.map (·.i) := fun i => ⟨hX i, A1M hnd hX (by simp; omega) i⟩
    have hin : ∀ g ∈ G, g.i ∈ X := fun g hg => (hall _).2 (List.mem_map_of_mem (f := Gc.i) hg)
    have hcur := A8o (bs := bs) hin
    rw [hcur] at hw
    rw [Nat.zero_add, A4P hall, ← hok.mark]
    exact hfin vs bs Jn a w (fun g hg => hφ g hg (hin g hg)) (fun g hg => hN g hg (hin g hg)) ha hw hn
  | succ n ih =>
    intro X vs bs Jn a w hnd hX hlen hcl hXs hφ hN ha hw hn
    have hun : ∀ i ∈ G.map (·.i), A.getD i true = false := hok.un
    by_cases hqe : ∃ g ∈ G, g.i ∈ qs ∧ g.i ∈ Region.ready .any os.toArray (mark A X)
    · obtain ⟨g, hg, hgq, hqr⟩ := hqe
      obtain ⟨hsn, hmn, op, ty, pos, af, hget, howe⟩ := hoq g hg hgq
      have hi' : os.toArray[g.i]? = some ⟨some g.d, op, ty, pos, af, none⟩ := by rw [U3] at hget; simpa using hget
      have hiG : g.i ∈ G.map (·.i) := List.mem_map_of_mem (f := Gc.i) hg
      have hiX : g.i ∉ X := fun h => (G9.1 (K6 hqr)).2 ⟨h, V1 (hun _ hiG)⟩
      obtain ⟨v, hq, hφv⟩ := howe vs bs ((Jn ++ J) ++ C.A) (fun x hx => by simp only [List.mem_append] at hx ⊢; rcases hx with h | h <;> simp [h]) (fun g' hg' hanc => hφ g' hg' (by
        have h3 := P9 hcl hanc hqr
        rcases X8 h3 with h4 | h4
        · exact (R8 (hun _ (List.mem_map_of_mem (f := Gc.i) hg')) h4).elim
        · exact h4))
      rw [show n + 1 + plan.length = (n + plan.length) + 1 by omega]
      refine U9 (S := Sk K) (T := fun _ => True) (N := 0) (v := v) hi' (Region.noSelect_spec hs) (fun _ _ _ h => h) (fun _ _ _ _ => rfl) _ (mark A X) a w hcl (fun j oj hj hne hun' hno => A8V hi' (hfr _ hgq) j oj hj hne (G9.1 hun').1 (by
        cases ha0 : anc os.toArray os.toArray.size g.i j with
        | false => rfl
        | true => exact (R8 hun' (P9 hcl ha0 hqr)).elim) hno) (fun _ _ _ _ => .inr fun _ _ _ _ => trivial) hqr (.inl ⟨rfl, fun w hw => hq C.N a w ha (fun _ _ hb => by cases hb)⟩) trivial ?_
      rw [← R5]
      have hsx : ∀ s, g.s = some s → s ∈ X := fun s hs' => by rw [hsn] at hs'; cases hs'
      obtain ⟨R0, hp0, hq0⟩ := A3E (bs := bs) hi hc hg hiX hXs hsx
      rw [Gc.inp_none hsn, hmn] at hp0
      let bs' : Nat → Mem := fun k => if k = g.i then [] else bs k
      have hperm : (A7h X bs G ++ M0).Perm (A7h (X ++ [g.i]) bs' G ++ M0) := List.Perm.append_right _ (hp0.trans (hq0 []))
      have ha' : Ag C.N ((g.d, v) :: (S7 G vs ++ l)) (a.put (some g.d) v) := ha.put (hdN g hg) v
      have henv := A1N (N := C.N) (G := B3t G) (l := l) (vs := vs) (g := ⟨g.i, g.d, fun _ _ => True⟩) (a := a.put (some g.d) v) (v := v) (List.mem_map_of_mem (f := fun g : Gc => (⟨g.i, g.d, fun _ _ => True⟩ : Gm)) hg) (by rw [B0W]; exact hd) (by rw [B0V]; exact hi) (by rw [A05]; exact ha')
      rw [A05] at henv
      refine ih (X ++ [g.i]) (fun k => if k = g.i then v else vs k) bs' Jn (a.put (some g.d) v) w ?_ ?_ (by simp; omega) ?_ ?_ ?_ ?_ henv (hw.perm hperm) hn
      · rw [List.nodup_append]; exact ⟨hnd, by simp, fun x hx y hy e => hiX (by simp at hy; subst hy; exact e ▸ hx)⟩
      · intro j hj
        rcases List.mem_append.1 hj with hj | hj
        · exact hX j hj
        · simp at hj; subst hj; exact hiG
      · rw [R5]; exact H2 hcl hqr
      · intro g' hg' hm s hs'
        rcases List.mem_append.1 hm with h | h
        · exact List.mem_append_left _ (hXs g' hg' h s hs')
        · have h2 : g' = g := A0a hi hg' hg (by simpa using h)
          subst h2
          exact List.mem_append_left _ (hsx s hs')
      · intro g' hg' hm
        by_cases e : g'.i = g.i
        · have : g' = g := A0a hi hg' hg e
          subst this
          simp only [if_true, bs']
          exact hφv
        · simp only [e, if_false, bs']
          exact hφ g' hg' (by simpa [e] using hm)
      · intro g' hg' hk x hx
        by_cases e : g'.i = g.i
        · simp only [e, if_true, bs'] at hx
          cases hx
        · simp only [e, if_false, bs'] at hx
          exact hN g' hg' (by simpa [e] using hk) x hx
    have hmiss : ∃ k ∈ G.map (·.i), k ∉ X ∧ k ∉ qs := by
      apply Classical.byContradiction
      intro hno
      have hs' : ∀ k ∈ G.map (·.i), k ∉ qs → k ∈ X := fun k hk hne => Classical.byContradiction fun h => hno ⟨k, hk, h, hne⟩
      by_cases hall : ∀ k ∈ G.map (·.i), k ∈ X
      · have := A1L hi hall
        simp at this; omega
      · obtain ⟨k, hk⟩ := Classical.not_forall.1 hall
        obtain ⟨hkG, hkX⟩ := Classical.not_imp.1 hk
        obtain ⟨i, hiG, hir⟩ := hok.first (A0N A X) (fun j hj => A0O hj) hkG (G9.2 ⟨hun _ hkG, fun h => hkX h.1⟩)
        have hiX : i ∉ X := fun h => (G9.1 (K6 hir)).2 ⟨h, V1 (hun _ hiG)⟩
        by_cases e : i ∈ qs
        · obtain ⟨g, hg, rfl⟩ := List.mem_map.1 hiG
          exact hqe ⟨g, hg, e, hir⟩
        · exact hiX (hs' i hiG e)
    obtain ⟨k, hkG, hkX, hkq⟩ := hmiss
    have hkun : (mark A X).getD k true = false := G9.2 ⟨hun k hkG, fun h => hkX h.1⟩
    rw [show n + 1 + plan.length = (n + plan.length) + 1 by omega]
    refine ⟨fun h0 => ?_, fun i hir => ?_⟩
    · obtain ⟨i, -, hir⟩ := hok.first (A0N A X) (fun j hj => A0O hj) hkG hkun
      rw [h0] at hir; cases hir
    · have hiG : i ∈ G.map (·.i) := by
        apply Classical.byContradiction
        intro hno
        have h1 := G9.1 (K6 hir)
        have h2 := hok.outer k hkG hkq i (A2K hir) h1.1 hno
        exact R8 hkun (P9 hcl h2 hir)
      obtain ⟨g, hg, rfl⟩ := List.mem_map.1 hiG
      have hiX : g.i ∉ X := fun h => (G9.1 (K6 hir)).2 ⟨h, V1 (hun _ hiG)⟩
      have hin : ∀ j ∈ G.map (·.i), anc os.toArray os.toArray.size g.i j = true → j ∈ X := fun j hj hanc => by
        have h3 := P9 hcl hanc hir
        rcases X8 h3 with h4 | h4
        · exact (R8 (hun _ hj) h4).elim
        · exact h4
      have hsx : ∀ s, g.s = some s → s ∈ X := fun s hs => hin s (hc.mem g hg s hs) (hc.anc g hg s hs)
      have hKi : ∀ x ∈ g.inp bs, K x.1 := by
        intro x hx
        cases hs : g.s with
        | none =>
          rw [Gc.inp_none hs] at hx
          exact hK g.m (List.mem_map.2 ⟨g, List.mem_filter.2 ⟨hg, by simp [hs]⟩, rfl⟩) x hx
        | some s =>
          rw [Gc.inp_some hs] at hx
          obtain ⟨gs, hgs, rfl⟩ := List.mem_map.1 (hc.mem g hg s hs)
          exact hN gs hgs (hsx _ hs) x hx
      obtain ⟨o, hget, howe⟩ := hob g hg (fun e => hqe ⟨g, hg, e, hir⟩)
      have hi' : os.toArray[g.i]? = some o := by rw [U3] at hget; simpa using hget
      obtain ⟨hask, hop⟩ := howe vs bs (M0 ++ ((Jn ++ J) ++ C.A)) ((Jn ++ J) ++ C.A) w (fun x hx => by simp only [List.mem_append] at hx ⊢; rcases hx with h | h | h <;> simp [h]) (fun x hx => by simp only [List.mem_append] at hx ⊢; rcases hx with h | h <;> simp [h]) (fun x hx => List.mem_append_right _ hx) (fun g' hg' hanc => hφ g' hg' (hin _ (List.mem_map_of_mem (f := Gc.i) hg') hanc))
      unfold wpOp
      simp only [hi']
      rw [if_pos (hask.wanted ha)]
      obtain ⟨R0, hp0, hq0⟩ := A3E (bs := bs) hi hc hg hiX hXs hsx
      have hpc : (A7h X bs G ++ M0).Perm (g.inp bs ++ (R0 ++ M0)) := by
        rw [← List.append_assoc]; exact List.Perm.append_right _ hp0
      have hcal := hw.callee hpc
      have hcal2 := St.less (A := M0 ++ ((Jn ++ J) ++ C.A)) hcal fun x hx => by
        simp only [List.mem_append] at hx ⊢
        rcases hx with h | h
        · exact .inl (.inr h)
        · exact .inr h
      refine .inl (Oper.wp_mono ?_ (hop _ a w ha hcal2.cx))
      rintro a' w' ⟨l', M', J', ha', hs', v, rfl, hφv⟩
      have hsz : w.heap.size ≤ w'.heap.size := hs'.size
      have hs2 := St.widen hcal.cx hs'
      have hb := hw.back hpc hs2.cx
      let bs' : Nat → Mem := fun k => if k = g.i then M' else bs k
      have hperm : (M' ++ (R0 ++ M0)).Perm (A7h (X ++ [g.i]) bs' G ++ M0) := by
        rw [← List.append_assoc]
        exact List.Perm.append_right _ (hq0 M')
      have hfr2 : St C (A7h (X ++ [g.i]) bs' G ++ M0) ((J' ++ Jn) ++ J) w' := (hb.perm hperm).drop (List.Sublist.refl _) fun x hx => by
        simp only [List.mem_append] at hx ⊢
        rcases hx with (h | h) | h <;> simp [h]
      refine ⟨fun _ b hb' hnk => hs'.frame b hb' fun hm => ?_, ?_⟩
      · obtain ⟨x, hx, e⟩ := List.mem_map.1 hm
        exact hnk (e ▸ hKi x hx)
      rw [← R5]
      have henv := A1N (N := C.N) (G := B3t G) (l := l) (vs := vs) (g := ⟨g.i, g.d, fun _ _ => True⟩) (a := a') (v := v) (List.mem_map_of_mem (f := fun g : Gc => (⟨g.i, g.d, fun _ _ => True⟩ : Gm)) hg) (by rw [B0W]; exact hd) (by rw [B0V]; exact hi) (by rw [A05]; exact ha')
      rw [A05] at henv
      refine ih (X ++ [g.i]) (fun k => if k = g.i then v else vs k) bs' (J' ++ Jn) a' w' ?_ ?_ (by simp; omega) ?_ ?_ ?_ ?_ henv hfr2 (Nat.le_trans hn hsz)
      · rw [List.nodup_append]; exact ⟨hnd, by simp, fun x hx y hy e => hiX (by simp at hy; subst hy; exact e ▸ hx)⟩
      · intro j hj
        rcases List.mem_append.1 hj with hj | hj
        · exact hX j hj
        · simp at hj; subst hj; exact hiG
      · rw [R5]; exact H2 hcl hir
      · intro g' hg' hm s hs
        rcases List.mem_append.1 hm with h | h
        · exact List.mem_append_left _ (hXs g' hg' h s hs)
        · have h2 : g' = g := A0a hi hg' hg (by simpa using h)
          subst h2
          exact List.mem_append_left _ (hsx s hs)
      · intro g' hg' hm
        by_cases e : g'.i = g.i
        · have : g' = g := A0a hi hg' hg e
          subst this
          simp only [if_true, bs']
          exact hmono g' hg' _ _ _ _ (fun x hx => by simp only [List.mem_append] at hx ⊢; rcases hx with h | (h | h) | h <;> simp [h]) hφv
        · simp only [e, if_false, bs']
          have hm' : g'.i ∈ X := by simpa [e] using hm
          exact hmono g' hg' _ _ _ _ (fun x hx => by simp only [List.mem_append] at hx ⊢; rcases hx with (h | h) | h <;> simp [h]) (hφ g' hg' hm')
      · intro g' hg' hk x hx
        by_cases e : g'.i = g.i
        · have : g' = g := A0a hi hg' hg e
          subst this
          simp only [if_true, bs'] at hx
          rcases hs'.own x.1 x.2 (by simp [hx]) with h6 | h6
          · obtain ⟨y, hy, e6⟩ := List.mem_map.1 h6
            exact e6 ▸ hKi y hy
          · exact hKn _ (Nat.le_trans hn h6)
        · simp only [e, if_false, bs'] at hx
          have hk' : g'.i ∈ X := by simpa [e] using hk
          exact hN g' hg' hk' x hx
theorem A1W (G0 Gq : List Gc) (M0 : Mem) (Lf : (Nat → Mem) → List Mem) (hKn : ∀ b, n0 ≤ b → K b) (hM : M.Perm (A0y (A1V (G0 ++ Gq)) M0)) (hK : ∀ m ∈ A1V (G0 ++ Gq), ∀ x ∈ m, K x.1) (hck : A7i os.toArray ((G0 ++ Gq).map fun g => (g.i, g.s)) = true) (hLf : ∀ bs, A9k (G0 ++ Gq) bs = Lf bs)
    (hmono : ∀ g ∈ G0 ++ Gq, A2u g.φ) (hd : ((G0 ++ Gq).map (·.d)).Nodup) (hi : ((G0 ++ Gq).map (·.i)).Nodup) (hdN : ∀ g ∈ G0 ++ Gq, g.d < C.N) (hs : Region.noSelect os.toArray = true) (hne : Gq.map (·.i) ≠ []) (hob0 : ∀ g ∈ G0, B0Y C os l M0 J (G0 ++ Gq) g) (hoq0 : ∀ g ∈ Gq, B6E C os l J (G0 ++ Gq) g)
    (h : ∀ (vs : Nat → Value) (bs : Nat → Mem) Jn, (∀ g ∈ G0 ++ Gq, g.φ (vs g.i) (bs g.i) ((Jn ++ J) ++ C.A)) → (∀ g ∈ G0 ++ Gq, ∀ x ∈ bs g.i, K x.1) → XK C os Q K n0 nd plan (S7 (G0 ++ Gq) vs ++ l) (A0y (Lf bs) M0) (Jn ++ J)) : XK C os Q K n0 nd (A9E (Gq.map (·.i)) (G0.map (·.i)) ++ plan) l M J := by
  refine A1m hM ?_
  rw [A2U]
  intro listed hcl hp a w ha hw hn
  obtain ⟨B, hok, hfr, hp2⟩ := B00 hne hp
  have hBcl : P8 os.toArray B := by
    have : ∀ {A is B}, GOz os.toArray (Gq.map (·.i)) A is B → P8 os.toArray A → P8 os.toArray B := by
      intro A is B h
      induction h with
      | nil => exact id
      | cons hr _ _ ih => exact fun hc => ih (H2 hc hr)
    exact this hok hcl
  rw [← List.map_append] at hok
  have hlen : (A9E (Gq.map (·.i)) (G0.map (·.i)) ++ plan).length = (G0 ++ Gq).length + plan.length := by
    have h1 : ∀ qs : List Nat, (A3F qs).length = qs.length := by
      intro qs
      induction qs with
      | nil => rfl
      | cons q r ih => cases r with
        | nil => rfl
        | cons q' r => simp only [A3F, List.length_cons] at ih ⊢; rw [ih]
    have h2 : ∀ (qs is : List Nat), (A9E qs is).length = is.length + qs.length := by
      intro qs is
      induction is with
      | nil => simp [A9E, h1]
      | cons i r ih => simp only [A9E, List.length_cons, ih]; omega
    simp [h2]
  have hob : ∀ g ∈ G0 ++ Gq, g.i ∉ Gq.map (·.i) → B0Y C os l M0 J (G0 ++ Gq) g := fun g hg hq => by
    rcases List.mem_append.1 hg with h1 | h1
    · exact hob0 g h1
    · exact absurd (List.mem_map_of_mem (f := Gc.i) h1) hq
  have hoq : ∀ g ∈ G0 ++ Gq, g.i ∈ Gq.map (·.i) → B6E C os l J (G0 ++ Gq) g := fun g hg hq => by
    obtain ⟨g', hg', e⟩ := List.mem_map.1 hq
    have := A0a hi (List.mem_append_right _ hg') hg e
    exact this ▸ hoq0 g' hg'
  rw [hlen]
  generalize Gq.map (·.i) = qs at *
  generalize G0 ++ Gq = G at *
  let vs : Nat → Value := fun k => match G.find? (fun g => g.i == k) with
    | some g => (a.tmps[g.d]?).getD undef
    | none => undef
  have hag : Ag C.N (S7 G vs ++ l) a := by
    refine ⟨ha.defers, ha.size, ?_⟩
    intro k u hk
    have key : ∀ G' : List Gc, (∀ g ∈ G', g ∈ G) → lk (S7 G' vs ++ l) k = some u → a.tmps[k]? = some u := by
      intro G'
      induction G' with
      | nil => intro _ h; exact ha.slot k u h
      | cons g G' ih =>
        intro hs h
        simp only [S7, List.map_cons, List.cons_append, lk] at h
        by_cases e : g.d = k
        · subst e
          simp at h
          have hf : G.find? (fun x => x.i == g.i) = some g := by
            have hgG := hs g List.mem_cons_self
            cases hq : G.find? (fun x => x.i == g.i) with
            | none => have := List.find?_eq_none.1 hq g hgG; simp at this
            | some x =>
              have h1 := List.find?_some hq
              have h2 := List.mem_of_find?_eq_some hq
              rw [A0a hi h2 hgG (by simpa using h1)]
          have hlt : g.d < a.tmps.size := by rw [ha.size]; exact hdN g (hs g List.mem_cons_self)
          rw [← h]
          show a.tmps[g.d]? = some (vs g.i)
          simp only [vs, hf, Array.getElem?_eq_getElem hlt, Option.getD_some]
        · simp only [W8 e, cond_false] at h
          exact ih (fun x hx => hs x (List.mem_cons_of_mem _ hx)) h
    exact key G (fun _ h => h) hk
  refine B01 (n0 := n0) (K := K) hmono hd hi (A8m hck) hKn hK hs hdN hob hoq hok hfr (fun vs bs Jn a w hφ hN ha hw hn => h vs bs Jn hφ hN B hBcl hp2 a w ha (by rw [A2U, ← hLf]; exact hw) hn) G.length [] vs (fun _ => []) [] a w .nil (fun _ h => by cases h) (by simp) hcl (fun _ _ h => by cases h) (fun _ _ h => by cases h) (fun _ _ h => by cases h) hag (by rw [A8n]; exact hw) hn
end group
end Go.Px

namespace Go.Proofs.YthbhpfefdnffaaaGreatDoor
open Go.Px
def B7V (x : Nat) : Option Nat := if rt1 x * rt1 x % p25 = x then some (rt1 x) else if rt2 x * rt2 x % p25 = x then some (rt2 x) else none
theorem B4X (x : Nat) : ∃ y, y = B7V x := ⟨_, rfl⟩
noncomputable def rtN (x : Nat) : Option Nat := Classical.choose (B4X x)
theorem A8q (x : Nat) : rtN x = B7V x := Classical.choose_spec (B4X x)
theorem A8r {r : Value} {x : Nat} (h : Rt r x) : ∃ u b n, r = .tuple #[u, .bool b] ∧ Fe u n ∧ ((rtN x = some n ∧ b = true) ∨ (rtN x = none ∧ b = false)) := by
  obtain ⟨u, b, rfl, h⟩ := h
  rw [A8q]
  unfold B7V
  rcases h with ⟨h1, rfl, h2⟩ | ⟨h1, h2, rfl, h3⟩ | ⟨h1, h2, rfl, h3⟩
  · exact ⟨_, _, _, rfl, h2, .inl ⟨by rw [if_pos h1], rfl⟩⟩
  · exact ⟨_, _, _, rfl, h3, .inl ⟨by rw [if_neg h1, if_pos h2], rfl⟩⟩
  · exact ⟨_, _, _, rfl, h3, .inr ⟨by rw [if_neg h1, if_neg h2], rfl⟩⟩
noncomputable def xxN (y : Nat) : Nat := fM (fS (fM y y) 1) (fI (fA (fM dN (fM y y)) 1))
def atO (o : Option Nat) (odd : Bool) : Option Nat := match o with
  | none => none
  | some x => if odd && decide (x = 0) then none else some (if !(decide (x % 2 = 1) == odd) then fN x else x)
noncomputable def atN (y : Nat) (odd : Bool) : Option Nat := atO (rtN (xxN y)) odd
theorem B3u {y : Nat} {odd : Bool} {o : Option Nat} (h : rtN (xxN y) = o) : atN y odd = atO o odd := congrArg (fun o => atO o odd) h
theorem B6F {y : Nat} {odd : Bool} (h : rtN (xxN y) = none) : atN y odd = none := B3u h
theorem B6G {x : Nat} (hx : x = 0) : atO (some x) true = none := by subst hx; rfl
theorem B6H {y x : Nat} (h : rtN (xxN y) = some x) (hx : x = 0) : atN y true = none := (B3u h).trans (B6G hx)
theorem B6I {x : Nat} {odd : Bool} (hx : (odd && decide (x = 0)) = false) {b : Bool} (hb : (!(decide (x % 2 = 1) == odd)) = b) : atO (some x) odd = some (if b then fN x else x) := by unfold atO; simp only [hx, hb]; rfl
theorem A5b {y x : Nat} {odd : Bool} (h : rtN (xxN y) = some x) (hx : (odd && decide (x = 0)) = false) {b : Bool} (hb : (!(decide (x % 2 = 1) == odd)) = b) : atN y odd = some (if b then fN x else x) := (B3u h).trans (B6I hx hb)
def pZ : Pt := ⟨0, 0, 0, 0⟩
def pAt (x y : Nat) : Pt := ⟨x, y, 1, fM x y⟩
def AtR (r : Value) (y : Nat) (odd : Bool) : Prop := ∃ V b, r = .tuple #[V, .bool b] ∧ ((∃ x, atN y odd = some x ∧ b = true ∧ FeP V (pAt x y)) ∨ (atN y odd = none ∧ b = false ∧ FeP V pZ))
def s45 : Nat := 46316835694926478169428394003475163141307993866256225615783033603165251855960
theorem B8M : fM 4 (fI 5) = s45 := by
  rw [A9j, A4o (by decide)]
  decide +kernel
def bxN : Nat := 15112221349535400772501151409588531511454012693041857206046113283949847762202
def pS : Pt := pAt bxN s45
theorem C0k {y : Nat} : xxN y = fM (fS (fM y y) 1) (pm p25 256 (fA (fM dN (fM y y)) 1) (p25 - 2) 1) := by
  unfold xxN
  rw [A9j, A4o (by decide)]
theorem B4Y {x : Nat} : rt1 x = pm p25 256 x (2 ^ 252 - 2) 1 := by
  unfold rt1
  rw [A4o (by decide)]
theorem i_pm : rtp 2 (2 ^ 253 - 5) = pm p25 256 2 (2 ^ 253 - 5) 1 := A4o (by decide)
theorem B8N {x : Nat} : rt2 x = pm p25 256 x (2 ^ 252 - 2) 1 * pm p25 256 2 (2 ^ 253 - 5) 1 % p25 := by
  unfold rt2
  rw [B4Y, i_pm]
def rtK (x : Nat) : Option Nat := if pm p25 256 x (2 ^ 252 - 2) 1 * pm p25 256 x (2 ^ 252 - 2) 1 % p25 = x then some (pm p25 256 x (2 ^ 252 - 2) 1) else if (pm p25 256 x (2 ^ 252 - 2) 1 * pm p25 256 2 (2 ^ 253 - 5) 1 % p25) * (pm p25 256 x (2 ^ 252 - 2) 1 * pm p25 256 2 (2 ^ 253 - 5) 1 % p25) % p25 = x then some (pm p25 256 x (2 ^ 252 - 2) 1 * pm p25 256 2 (2 ^ 253 - 5) 1 % p25) else none
theorem rt_K {x : Nat} : rtN x = rtK x := by
  rw [A8q]
  unfold B7V rtK
  rw [B8N, B4Y]
theorem xx45 : xxN s45 = 26187595835145689230469591415084376402084551887632582719101735842039498021991 := by
  rw [C0k]
  decide +kernel
theorem at45 : atN s45 false = some bxN := by
  refine (B3u ((congrArg rtN xx45).trans (rt_K.trans (Eq.refl (rtK 26187595835145689230469591415084376402084551887632582719101735842039498021991))))).trans ?_
  decide +kernel
theorem at_f (v : Value) (y : Nat) (odd : Bool) (hv : Fe v y) (A : Mem) : FnX Tryz.prog 175 [v, .bool odd] [] A fun r M J => M = [] ∧ J = [] ∧ AtR r y odd := by
 have hy := hv
 obtain ⟨y0, y1, y2, y3, y4, rfl, -⟩ := hv
 refine FnX.enter (N := 48) Tryz.func175 rfl rfl rfl fun w => ?_
 refine C4 (D5 0 1) (A3 ?_)
 refine A6 rfl (bx_ fun b2 => ?_)
 refine A6 rfl (C5 (cs := [A7, A7, A7, A7, A7, A7, A7, A7, A7, A7, A7, A7, A7, A7, A7, A7, A7, A7, A7, A7]) kR rfl fun b4 => ?_)
 refine as_ (A0 (E1 1 2 4) (A3 ?_))
 refine A4 (qw_ 5) rfl ?_
 refine C9 (aS rfl a0) kR (B8L hy _) rfl ?_
 rintro r10 M10 J10 ⟨rfl, rfl, k10⟩
 have h10 := k10
 obtain ⟨a10, b10, c10, d10, e10, rfl, -⟩ := k10
 refine A6 rfl (C5 (cs := [A7, A7, A7, A7, A7]) kR rfl fun b6 => ?_)
 refine A6 rfl (A8 rfl rfl Cel.cel kR ln5 al5 UpC.upd ?_)
 refine A0 (E7 1 2 4 6) ?_
 refine H5 ([]) (_) true [0, 1, 2, 3, 4, 5, 6, 7, 8, 9, 10, 11, 12, 13, 14, 16] [(0, 1), (4, 1), (1, 8), (2, 8), (3, 8), (5, 8), (6, 8), (7, 8), (8, 8), (9, 8), (10, 8), (11, 8), (12, 8), (14, 8), (13, 10), (15, 2), (16, 0)] kR kR PickC.perm fun hs K n0 hKm hKs hKn => ?_
 refine P0 hs rfl hKs (qw_ 5) ?_
 refine P0 hs rfl hKs (qw_ 5) ?_
 refine A1W [⟨1, 13, none, [], fun v B _ => B = [] ∧ Fe v (1)⟩, ⟨2, 14, none, [], fun v B _ => B = [] ∧ Fe v (fS (fM y y) 1)⟩, ⟨3, 15, none, [], fun v B _ => B = [] ∧ Fe v (dN)⟩, ⟨5, 17, none, [], fun v B _ => B = [] ∧ Fe v (fM dN (fM y y))⟩, ⟨6, 18, none, [], fun v B _ => B = [] ∧ Fe v (1)⟩, ⟨7, 19, none, [], fun v B _ => B = [] ∧ Fe v (fA (fM dN (fM y y)) 1)⟩, ⟨8, 20, none, [], fun v B _ => B = [] ∧ Fe v (fI (fA (fM dN (fM y y)) 1))⟩, ⟨9, 21, none, [], fun v B _ => B = [] ∧ Fe v (xxN y)⟩, ⟨10, 22, none, [], fun v B _ => B = [] ∧ Rt v (xxN y)⟩, ⟨11, 11, none, [], fun v B _ => B = [] ∧ Rt v (xxN y)⟩, ⟨12, 23, none, [], fun v B _ => B = [] ∧ ∃ n, Fe v n ∧ ∀ m, rtN (xxN y) = some m → n = m⟩, ⟨14, 7, none, [], fun v B _ => ∃ b, v = .pointer (some ⟨b, 0, none⟩) ∧ B = [(b, blk [.int .u64 0, .int .u64 0, .int .u64 0, .int .u64 0, .int .u64 0] 205)]⟩] [⟨13, 24, none, [], fun v B _ => B = [] ∧ v = .bool (rtN (xxN y)).isSome⟩] (_) (fun bs => [bs 1, bs 2, bs 3, bs 5, bs 6, bs 7, bs 8, bs 9, bs 10, bs 11, bs 12, bs 14, bs 13]) (hKn rfl) (List.Perm.refl _) (show ∀ m ∈ ([[], [], [], [], [], [], [], [], [], [], [], [], []] : List Mem), ∀ x ∈ m, K x.1 from C1 (fun _ h => by cases h) (C1 (fun _ h => by cases h) (C1 (fun _ h => by cases h) (C1 (fun _ h => by cases h) (C1 (fun _ h => by cases h) (C1 (fun _ h => by cases h) (C1 (fun _ h => by cases h) (C1 (fun _ h => by cases h) (C1 (fun _ h => by cases h) (C1 (fun _ h => by cases h) (C1 (fun _ h => by cases h) (C1 (fun _ h => by cases h) (C1 (fun _ h => by cases h) (K3)))))))))))))) kR (fun _ => by first | rfl | kernel_rfl)
  (C1 (fun _ _ _ _ _ h => h) (C1 (fun _ _ _ _ _ h => h) (C1 (fun _ _ _ _ _ h => h) (C1 (fun _ _ _ _ _ h => h) (C1 (fun _ _ _ _ _ h => h) (C1 (fun _ _ _ _ _ h => h) (C1 (fun _ _ _ _ _ h => h) (C1 (fun _ _ _ _ _ h => h) (C1 (fun _ _ _ _ _ h => h) (C1 (fun _ _ _ _ _ h => h) (C1 (fun _ _ _ _ _ h => h) (C1 (fun _ _ _ _ _ h => h) (C1 (fun _ _ _ _ _ h => h) (K3)))))))))))))) (show List.Nodup [13, 14, 15, 17, 18, 19, 20, 21, 22, 11, 23, 7, 24] by decide) (show List.Nodup [1, 2, 3, 5, 6, 7, 8, 9, 10, 11, 12, 14, 13] by decide) (C1 (C7 rfl) (C1 (C7 rfl) (C1 (C7 rfl) (C1 (C7 rfl) (C1 (C7 rfl) (C1 (C7 rfl) (C1 (C7 rfl) (C1 (C7 rfl) (C1 (C7 rfl) (C1 (C7 rfl) (C1 (C7 rfl) (C1 (C7 rfl) (C1 (C7 rfl) (K3))))))))))))))
  hs (List.cons_ne_nil _ _) (C1 ⟨_, rfl, fun vs bs R Rj wG hb hj hjr ha => ⟨.inl rfl, ?_⟩⟩ (C1 ⟨_, rfl, fun vs bs R Rj wG hb hj hjr ha => ⟨.inl rfl, ?_⟩⟩ (C1 ⟨_, rfl, fun vs bs R Rj wG hb hj hjr ha => ⟨.inl rfl, ?_⟩⟩ (C1 ⟨_, rfl, fun vs bs R Rj wG hb hj hjr ha => ⟨.inl rfl, ?_⟩⟩ (C1 ⟨_, rfl, fun vs bs R Rj wG hb hj hjr ha => ⟨.inl rfl, ?_⟩⟩ (C1 ⟨_, rfl, fun vs bs R Rj wG hb hj hjr ha => ⟨.inl rfl, ?_⟩⟩ (C1 ⟨_, rfl, fun vs bs R Rj wG hb hj hjr ha => ⟨.inl rfl, ?_⟩⟩ (C1 ⟨_, rfl, fun vs bs R Rj wG hb hj hjr ha => ⟨.inl rfl, ?_⟩⟩ (C1 ⟨_, rfl, fun vs bs R Rj wG hb hj hjr ha => ⟨.inl rfl, ?_⟩⟩ (C1 ⟨_, rfl, fun vs bs R Rj wG hb hj hjr ha => ⟨.inl rfl, ?_⟩⟩ (C1 ⟨_, rfl, fun vs bs R Rj wG hb hj hjr ha => ⟨.inl rfl, ?_⟩⟩ (C1 ⟨_, rfl, fun vs bs R Rj wG hb hj hjr ha => ⟨.inl rfl, ?_⟩⟩ (K3))))))))))))) (C1 ⟨rfl, rfl, _, _, _, _, rfl, fun vs bs Rj hj ha => ?_⟩ (K3)) ?_
 ·
  dsimp only [Gc.inp]
  refine D7 (aS rfl (a0)) kR (A0I 1 (by decide) _) rfl ?_
  rintro r M1 J1 ⟨rfl, rfl, hh⟩
  exact ⟨_, rfl, rfl, hh⟩
 ·
  dsimp only [Gc.inp]
  have g1 := ha _ (List.mem_of_getElem? (i := 0) rfl) kR
  replace g1 : (fun v B _ => B = [] ∧ Fe v (1)) (vs 1) (bs 1) Rj := g1
  dsimp only at g1
  obtain ⟨-, k1⟩ := g1
  refine D7 (aS rfl (aS rfl (a0))) kR (A5a h10 k1 _) rfl ?_
  rintro r M1 J1 ⟨rfl, rfl, hh⟩
  exact ⟨_, rfl, rfl, hh⟩
 ·
  dsimp only [Gc.inp]
  refine D7 (a0) kR (A7g _) rfl ?_
  rintro r M1 J1 ⟨rfl, rfl, hh⟩
  exact ⟨_, rfl, rfl, hh⟩
 ·
  dsimp only [Gc.inp]
  have g3 := ha _ (List.mem_of_getElem? (i := 2) rfl) kR
  replace g3 : (fun v B _ => B = [] ∧ Fe v (dN)) (vs 3) (bs 3) Rj := g3
  dsimp only at g3
  obtain ⟨-, k3⟩ := g3
  refine D7 (aS rfl (aS rfl (a0))) kR (R7 k3 h10 _) rfl ?_
  rintro r M1 J1 ⟨rfl, rfl, hh⟩
  exact ⟨_, rfl, rfl, hh⟩
 ·
  dsimp only [Gc.inp]
  refine D7 (aS rfl (a0)) kR (A0I 1 (by decide) _) rfl ?_
  rintro r M1 J1 ⟨rfl, rfl, hh⟩
  exact ⟨_, rfl, rfl, hh⟩
 ·
  dsimp only [Gc.inp]
  have g5 := ha _ (List.mem_of_getElem? (i := 3) rfl) kR
  replace g5 : (fun v B _ => B = [] ∧ Fe v (fM dN (fM y y))) (vs 5) (bs 5) Rj := g5
  dsimp only at g5
  have g6 := ha _ (List.mem_of_getElem? (i := 4) rfl) kR
  replace g6 : (fun v B _ => B = [] ∧ Fe v (1)) (vs 6) (bs 6) Rj := g6
  dsimp only at g6
  obtain ⟨-, k5⟩ := g5
  obtain ⟨-, k6⟩ := g6
  refine D7 (aS rfl (aS rfl (a0))) kR (A3Z k5 k6 _) rfl ?_
  rintro r M1 J1 ⟨rfl, rfl, hh⟩
  exact ⟨_, rfl, rfl, hh⟩
 ·
  dsimp only [Gc.inp]
  have g7 := ha _ (List.mem_of_getElem? (i := 5) rfl) kR
  replace g7 : (fun v B _ => B = [] ∧ Fe v (fA (fM dN (fM y y)) 1)) (vs 7) (bs 7) Rj := g7
  dsimp only at g7
  obtain ⟨-, k7⟩ := g7
  refine D7 (aS rfl (a0)) kR (B0T k7 _) rfl ?_
  rintro r M1 J1 ⟨rfl, rfl, hh⟩
  exact ⟨_, rfl, rfl, hh⟩
 ·
  dsimp only [Gc.inp]
  have g2 := ha _ (List.mem_of_getElem? (i := 1) rfl) kR
  replace g2 : (fun v B _ => B = [] ∧ Fe v (fS (fM y y) 1)) (vs 2) (bs 2) Rj := g2
  dsimp only at g2
  have g8 := ha _ (List.mem_of_getElem? (i := 6) rfl) kR
  replace g8 : (fun v B _ => B = [] ∧ Fe v (fI (fA (fM dN (fM y y)) 1))) (vs 8) (bs 8) Rj := g8
  dsimp only at g8
  obtain ⟨-, k2⟩ := g2
  obtain ⟨-, k8⟩ := g8
  refine D7 (aS rfl (aS rfl (a0))) kR (R7 k2 k8 _) rfl ?_
  rintro r M1 J1 ⟨rfl, rfl, hh⟩
  exact ⟨_, rfl, rfl, hh⟩
 ·
  dsimp only [Gc.inp]
  have g9 := ha _ (List.mem_of_getElem? (i := 7) rfl) kR
  replace g9 : (fun v B _ => B = [] ∧ Fe v (xxN y)) (vs 9) (bs 9) Rj := g9
  dsimp only at g9
  obtain ⟨-, k9⟩ := g9
  refine D7 (aS rfl a0) kR (A9h _ _ k9 _) rfl ?_
  rintro r M1 J1 ⟨rfl, rfl, hh⟩
  exact ⟨_, rfl, rfl, hh⟩
 ·
  dsimp only [Gc.inp]
  have g10 := ha _ (List.mem_of_getElem? (i := 8) rfl) kR
  replace g10 : (fun v B _ => B = [] ∧ Rt v (xxN y)) (vs 10) (bs 10) Rj := g10
  dsimp only at g10
  obtain ⟨-, k10⟩ := g10
  exact OpQ.opL qm_ rfl ⟨_, rfl, rfl, k10⟩
 ·
  dsimp only [Gc.inp]
  have g11 := ha _ (List.mem_of_getElem? (i := 9) rfl) kR
  replace g11 : (fun v B _ => B = [] ∧ Rt v (xxN y)) (vs 11) (bs 11) Rj := g11
  dsimp only at g11
  obtain ⟨-, k11⟩ := g11
  obtain ⟨w, ok, n, hw, hn, hrt⟩ := A8r k11
  exact OpQ.opL (L8 (vs := #[w, .bool ok]) (by rw [← hw]; rfl) rfl) rfl ⟨_, rfl, rfl, n, hn, fun m hm => by rcases hrt with ⟨h1, -⟩ | ⟨h1, -⟩ <;> rw [hm] at h1 <;> cases h1; rfl⟩
 ·
  dsimp only [Gc.inp]
  exact C5 (cs := [A7, A7, A7, A7, A7]) kR rfl fun b => ⟨_, rfl, b, rfl, rfl⟩
 ·
  have g11 := ha _ (List.mem_of_getElem? (i := 9) rfl) kR
  replace g11 : (fun v B _ => B = [] ∧ Rt v (xxN y)) (vs 11) (bs 11) Rj := g11
  dsimp only at g11
  obtain ⟨-, k11⟩ := g11
  obtain ⟨w, ok, n, hw, hn, hrt⟩ := A8r k11
  exact ⟨.bool ok, L8 (vs := #[w, .bool ok]) (by rw [← hw]; rfl) rfl, rfl, by rcases hrt with ⟨h1, rfl⟩ | ⟨h1, rfl⟩ <;> rw [h1] <;> rfl⟩
 intro vs bs Jn0 hφ hKK
 have kk1 := hKK _ (List.mem_of_getElem? (i := 0) rfl)
 dsimp only at kk1
 have kk2 := hKK _ (List.mem_of_getElem? (i := 1) rfl)
 dsimp only at kk2
 have kk3 := hKK _ (List.mem_of_getElem? (i := 2) rfl)
 dsimp only at kk3
 have kk5 := hKK _ (List.mem_of_getElem? (i := 3) rfl)
 dsimp only at kk5
 have kk6 := hKK _ (List.mem_of_getElem? (i := 4) rfl)
 dsimp only at kk6
 have kk7 := hKK _ (List.mem_of_getElem? (i := 5) rfl)
 dsimp only at kk7
 have kk8 := hKK _ (List.mem_of_getElem? (i := 6) rfl)
 dsimp only at kk8
 have kk9 := hKK _ (List.mem_of_getElem? (i := 7) rfl)
 dsimp only at kk9
 have kk10 := hKK _ (List.mem_of_getElem? (i := 8) rfl)
 dsimp only at kk10
 have kk11 := hKK _ (List.mem_of_getElem? (i := 9) rfl)
 dsimp only at kk11
 have kk12 := hKK _ (List.mem_of_getElem? (i := 10) rfl)
 dsimp only at kk12
 have kk14 := hKK _ (List.mem_of_getElem? (i := 11) rfl)
 dsimp only at kk14
 have kk13 := hKK _ (List.mem_of_getElem? (i := 12) rfl)
 dsimp only at kk13
 clear hKK
 have g1 := ofH hφ
 dsimp only at g1
 replace hφ := ofT hφ
 have g2 := ofH hφ
 dsimp only at g2
 replace hφ := ofT hφ
 have g3 := ofH hφ
 dsimp only at g3
 replace hφ := ofT hφ
 have g5 := ofH hφ
 dsimp only at g5
 replace hφ := ofT hφ
 have g6 := ofH hφ
 dsimp only at g6
 replace hφ := ofT hφ
 have g7 := ofH hφ
 dsimp only at g7
 replace hφ := ofT hφ
 have g8 := ofH hφ
 dsimp only at g8
 replace hφ := ofT hφ
 have g9 := ofH hφ
 dsimp only at g9
 replace hφ := ofT hφ
 have g10 := ofH hφ
 dsimp only at g10
 replace hφ := ofT hφ
 have g11 := ofH hφ
 dsimp only at g11
 replace hφ := ofT hφ
 have g12 := ofH hφ
 dsimp only at g12
 replace hφ := ofT hφ
 have g14 := ofH hφ
 dsimp only at g14
 replace hφ := ofT hφ
 have g13 := ofH hφ
 dsimp only at g13
 clear hφ
 dsimp only [S7, A0y, List.foldr, List.map, List.cons_append, List.nil_append]
 generalize bs 1 = B13 at *
 generalize bs 2 = B14 at *
 generalize bs 3 = B15 at *
 generalize bs 5 = B17 at *
 generalize bs 6 = B18 at *
 generalize bs 7 = B19 at *
 generalize bs 8 = B20 at *
 generalize bs 9 = B21 at *
 generalize bs 10 = B22 at *
 generalize bs 11 = B11 at *
 generalize bs 12 = B23 at *
 generalize bs 14 = B7 at *
 generalize bs 13 = B24 at *
 generalize vs 1 = u13 at *
 generalize vs 2 = u14 at *
 generalize vs 3 = u15 at *
 generalize vs 5 = u17 at *
 generalize vs 6 = u18 at *
 generalize vs 7 = u19 at *
 generalize vs 8 = u20 at *
 generalize vs 9 = u21 at *
 generalize vs 10 = u22 at *
 generalize vs 11 = u11 at *
 generalize vs 12 = u23 at *
 generalize vs 14 = u7 at *
 generalize vs 13 = u24 at *
 obtain ⟨rfl, -⟩ := g10
 obtain ⟨rfl, -⟩ := g11
 obtain ⟨rfl, n, hn, hnm⟩ := g12
 have hn0 := hn
 obtain ⟨n0, n1, n2, n3, n4, rfl, -⟩ := hn
 obtain ⟨ok, hrt, hok⟩ : ∃ ok, ((rtN (xxN y) = some n ∧ ok = true) ∨ (rtN (xxN y) = none ∧ ok = false)) ∧ (rtN (xxN y)).isSome = ok := by
  cases hq : rtN (xxN y) with
  | none => exact ⟨false, .inr ⟨rfl, rfl⟩, rfl⟩
  | some m => exact ⟨true, .inl ⟨by rw [hnm m hq], rfl⟩, rfl⟩
 obtain ⟨rfl, h13⟩ := g13
 rw [hok] at h13
 subst h13
 obtain ⟨b14, rfl, rfl⟩ := g14
 obtain ⟨rfl, -⟩ := g1
 obtain ⟨rfl, -⟩ := g2
 obtain ⟨rfl, -⟩ := g3
 obtain ⟨rfl, -⟩ := g5
 obtain ⟨rfl, -⟩ := g6
 obtain ⟨rfl, -⟩ := g7
 obtain ⟨rfl, -⟩ := g8
 obtain ⟨rfl, -⟩ := g9
 dsimp only [List.append_eq, List.nil_append, List.cons_append]
 refine N5 rfl rfl rfl (A8 rfl rfl Cel.cel kR ln5 al5 UpC.upd ?_)
 refine I0 hs rfl (H8 rfl) rfl ?_
 refine N6 (F7 1 2 4 7 8) (A5 ?_)
 rcases hrt with ⟨hrt, rfl⟩ | ⟨hrt, rfl⟩
 ·
  refine A3 (mv_ ?_)
  refine A4 (A0e rfl) rfl ?_
  refine mv_ ?_
  refine F4 rfl rfl (OpQ.opL qm_ rfl ?_)
  refine F4 rfl rfl (OpQ.opL qm_ rfl ?_)
  refine Z3 (t := 29) rfl (fun hb => ?_) (fun hb => ?_)
  ·
   have ho : odd = true := hb
   refine F4 rfl rfl (OpQ.opL (qw_ 5) rfl ?_)
   refine A91 rfl rfl (aS rfl a0) kR (A9g _ n hn0 _) rfl ?_
   refine F4 rfl rfl (OpQ.opL (H4 rfl rfl) rfl ?_)
   refine A4 (E9 rfl rfl) rfl ?_
   refine A0 (F7 1 2 4 7 33) ?_
   refine C8 rfl (fun hc => ?_) (fun hc => ?_)
   ·
    have hz : n = 0 := by simpa using hc
    refine A3 ?_
    refine A4 (F3 (place := fun x => #[(0, 5), (5, 5), (10, 5), (15, 5)][x]?) (z := [A7, A7, A7, A7, A7, A7, A7, A7, A7, A7, A7, A7, A7, A7, A7, A7, A7, A7, A7, A7]) (fun _ => by kernel_rfl) e0 bd0) rfl ?_
    refine A6 rfl (A8 rfl rfl Cel.cel kR A2L A2M UpC.upd ?_)
    refine as_ (A0 (D5 4 5) (C2 (tr ?_)))
    refine ⟨_, [], [], A1a rfl rfl rfl kR At.mem (by rfl), List.nil_sublist _, by simp, rfl, rfl, _, _, rfl, .inr ⟨?_, rfl, ⟨_, rfl, _, _, _, _, _, _, _, _, _, _, _, _, _, _, _, _, _, _, _, _, rfl, K4, K4, K4, K4⟩⟩⟩
    rw [ho]; exact B6H hrt hz
   ·
    have hz : ¬ n = 0 := by simpa using hc
    refine A9 (nx (E7 1 2 4 7) (A5 (A3 ?_)))
    refine A4 (qw_ 5) rfl ?_
    refine F8 (aS rfl a0) kR (A3A _ n hn0 _) rfl ?_
    refine mv_ ?_
    refine A4 (A7M rfl rfl kR) rfl ?_
    refine A0 (E7 2 4 7 38) ?_
    refine C8 rfl (fun hc => ?_) (fun hc => ?_)
    ·
     have hodd := hc
     refine C3 ?_
     refine A4 (qw_ 5) rfl ?_
     refine C9 (aS rfl a0) kR (B6A hn0 _) rfl ?_
     rintro r40 M40 J40 ⟨rfl, rfl, k40⟩
     have h40 := k40
     obtain ⟨a40, b40, c40, d40, e40, rfl, -⟩ := k40
     refine A6 rfl (A8 rfl rfl Cel.cel kR ln5 al5 UpC.upd ?_)
     refine A0 (E1 2 4 7) ?_
     refine D2 [0, 1, 2, 3, 4, 5, 6, 8] [(0, 1), (1, 1), (3, 1), (4, 1), (2, 2), (5, 2), (6, 0), (7, 2), (8, 0)] kR kR fun hs => ?_
     refine F6 hs rfl (qw_ 5) rfl ?_
     refine F6 hs rfl (qw_ 5) rfl ?_
     refine F6 hs rfl (qw_ 5) rfl ?_
     refine F6 hs rfl (qw_ 5) rfl ?_
     refine G1 rfl (aS rfl a0) kR (A0I 1 (by decide) _) rfl ?_
     rintro r43 M43 J43 ⟨rfl, rfl, k43⟩
     have h43 := k43
     obtain ⟨a43, b43, c43, d43, e43, rfl, -⟩ := k43
     refine G1 rfl (aS rfl (aS rfl a0)) kR (R7 h40 hy _) rfl ?_
     rintro r46 M46 J46 ⟨rfl, rfl, k46⟩
     have h46 := k46
     obtain ⟨a46, b46, c46, d46, e46, rfl, -⟩ := k46
     refine D1 hs rfl (F3 (place := fun x => #[(0, 5), (5, 5), (10, 5), (15, 5)][x]?) (z := [A7, A7, A7, A7, A7, A7, A7, A7, A7, A7, A7, A7, A7, A7, A7, A7, A7, A7, A7, A7]) (fun _ => by kernel_rfl) (eS rfl (eS rfl (eS rfl (eS rfl e0)))) (bdS 0 5 rfl (by rfl) (bdS 5 5 rfl (by rfl) (bdS 10 5 rfl (by rfl) (bdS 15 5 rfl (by rfl) bd0))))) rfl ?_
     refine G2 rfl rfl rfl (A8 rfl rfl Cel.cel kR A2L A2M UpC.upd ?_)
     refine fa_ hs ?_
     refine E3 (D5 4 5) (C2 ?_)
     refine ⟨_, [], [], A1a rfl rfl rfl kR At.mem (by rfl), List.nil_sublist _, by simp, rfl, rfl, _, _, rfl, .inl ⟨fN n, ?_, rfl, ⟨_, rfl, _, _, _, _, _, _, _, _, _, _, _, _, _, _, _, _, _, _, _, _, rfl, h40, hy, h43, h46⟩⟩⟩
     exact A5b hrt (by rw [ho, decide_eq_false hz]; rfl) hodd
    ·
     have hodd := hc
     refine A9 (nx (E1 2 4 7) ?_)
     refine D2 [0, 1, 2, 3, 4, 5, 6, 8] [(0, 1), (1, 1), (3, 1), (4, 1), (2, 2), (5, 2), (6, 0), (7, 2), (8, 0)] kR kR fun hs => ?_
     refine F6 hs rfl (qw_ 5) rfl ?_
     refine F6 hs rfl (qw_ 5) rfl ?_
     refine F6 hs rfl (qw_ 5) rfl ?_
     refine F6 hs rfl (qw_ 5) rfl ?_
     refine G1 rfl (aS rfl a0) kR (A0I 1 (by decide) _) rfl ?_
     rintro r43 M43 J43 ⟨rfl, rfl, k43⟩
     have h43 := k43
     obtain ⟨a43, b43, c43, d43, e43, rfl, -⟩ := k43
     refine G1 rfl (aS rfl (aS rfl a0)) kR (R7 hn0 hy _) rfl ?_
     rintro r46 M46 J46 ⟨rfl, rfl, k46⟩
     have h46 := k46
     obtain ⟨a46, b46, c46, d46, e46, rfl, -⟩ := k46
     refine D1 hs rfl (F3 (place := fun x => #[(0, 5), (5, 5), (10, 5), (15, 5)][x]?) (z := [A7, A7, A7, A7, A7, A7, A7, A7, A7, A7, A7, A7, A7, A7, A7, A7, A7, A7, A7, A7]) (fun _ => by kernel_rfl) (eS rfl (eS rfl (eS rfl (eS rfl e0)))) (bdS 0 5 rfl (by rfl) (bdS 5 5 rfl (by rfl) (bdS 10 5 rfl (by rfl) (bdS 15 5 rfl (by rfl) bd0))))) rfl ?_
     refine G2 rfl rfl rfl (A8 rfl rfl Cel.cel kR A2L A2M UpC.upd ?_)
     refine fa_ hs ?_
     refine E3 (D5 4 5) (C2 ?_)
     refine ⟨_, [], [], A1a rfl rfl rfl kR At.mem (by rfl), List.nil_sublist _, by simp, rfl, rfl, _, _, rfl, .inl ⟨n, ?_, rfl, ⟨_, rfl, _, _, _, _, _, _, _, _, _, _, _, _, _, _, _, _, _, _, _, _, rfl, hn0, hy, h43, h46⟩⟩⟩
     exact A5b hrt (by rw [ho, decide_eq_false hz]; rfl) hodd
  ·
   have ho : odd = false := hb
   refine L5 rfl rfl rfl rfl ?_
   refine L5 rfl rfl rfl rfl ?_
   refine F4 rfl rfl (OpQ.opL (E9 rfl rfl) rfl ?_)
   refine A4 (E9 rfl rfl) rfl ?_
   refine A0 (F7 1 2 4 7 33) ?_
   refine D4 rfl ?_
   refine A9 (nx (E7 1 2 4 7) (A5 (A3 ?_)))
   refine A4 (qw_ 5) rfl ?_
   refine F8 (aS rfl a0) kR (A3A _ n hn0 _) rfl ?_
   refine mv_ ?_
   refine A4 (A7M rfl rfl kR) rfl ?_
   refine A0 (E7 2 4 7 38) ?_
   refine C8 rfl (fun hc => ?_) (fun hc => ?_)
   ·
    have hodd := hc
    refine C3 ?_
    refine A4 (qw_ 5) rfl ?_
    refine C9 (aS rfl a0) kR (B6A hn0 _) rfl ?_
    rintro r40 M40 J40 ⟨rfl, rfl, k40⟩
    have h40 := k40
    obtain ⟨a40, b40, c40, d40, e40, rfl, -⟩ := k40
    refine A6 rfl (A8 rfl rfl Cel.cel kR ln5 al5 UpC.upd ?_)
    refine A0 (E1 2 4 7) ?_
    refine D2 [0, 1, 2, 3, 4, 5, 6, 8] [(0, 1), (1, 1), (3, 1), (4, 1), (2, 2), (5, 2), (6, 0), (7, 2), (8, 0)] kR kR fun hs => ?_
    refine F6 hs rfl (qw_ 5) rfl ?_
    refine F6 hs rfl (qw_ 5) rfl ?_
    refine F6 hs rfl (qw_ 5) rfl ?_
    refine F6 hs rfl (qw_ 5) rfl ?_
    refine G1 rfl (aS rfl a0) kR (A0I 1 (by decide) _) rfl ?_
    rintro r43 M43 J43 ⟨rfl, rfl, k43⟩
    have h43 := k43
    obtain ⟨a43, b43, c43, d43, e43, rfl, -⟩ := k43
    refine G1 rfl (aS rfl (aS rfl a0)) kR (R7 h40 hy _) rfl ?_
    rintro r46 M46 J46 ⟨rfl, rfl, k46⟩
    have h46 := k46
    obtain ⟨a46, b46, c46, d46, e46, rfl, -⟩ := k46
    refine D1 hs rfl (F3 (place := fun x => #[(0, 5), (5, 5), (10, 5), (15, 5)][x]?) (z := [A7, A7, A7, A7, A7, A7, A7, A7, A7, A7, A7, A7, A7, A7, A7, A7, A7, A7, A7, A7]) (fun _ => by kernel_rfl) (eS rfl (eS rfl (eS rfl (eS rfl e0)))) (bdS 0 5 rfl (by rfl) (bdS 5 5 rfl (by rfl) (bdS 10 5 rfl (by rfl) (bdS 15 5 rfl (by rfl) bd0))))) rfl ?_
    refine G2 rfl rfl rfl (A8 rfl rfl Cel.cel kR A2L A2M UpC.upd ?_)
    refine fa_ hs ?_
    refine E3 (D5 4 5) (C2 ?_)
    refine ⟨_, [], [], A1a rfl rfl rfl kR At.mem (by rfl), List.nil_sublist _, by simp, rfl, rfl, _, _, rfl, .inl ⟨fN n, ?_, rfl, ⟨_, rfl, _, _, _, _, _, _, _, _, _, _, _, _, _, _, _, _, _, _, _, _, rfl, h40, hy, h43, h46⟩⟩⟩
    exact A5b hrt (by rw [ho]; rfl) hodd
   ·
    have hodd := hc
    refine A9 (nx (E1 2 4 7) ?_)
    refine D2 [0, 1, 2, 3, 4, 5, 6, 8] [(0, 1), (1, 1), (3, 1), (4, 1), (2, 2), (5, 2), (6, 0), (7, 2), (8, 0)] kR kR fun hs => ?_
    refine F6 hs rfl (qw_ 5) rfl ?_
    refine F6 hs rfl (qw_ 5) rfl ?_
    refine F6 hs rfl (qw_ 5) rfl ?_
    refine F6 hs rfl (qw_ 5) rfl ?_
    refine G1 rfl (aS rfl a0) kR (A0I 1 (by decide) _) rfl ?_
    rintro r43 M43 J43 ⟨rfl, rfl, k43⟩
    have h43 := k43
    obtain ⟨a43, b43, c43, d43, e43, rfl, -⟩ := k43
    refine G1 rfl (aS rfl (aS rfl a0)) kR (R7 hn0 hy _) rfl ?_
    rintro r46 M46 J46 ⟨rfl, rfl, k46⟩
    have h46 := k46
    obtain ⟨a46, b46, c46, d46, e46, rfl, -⟩ := k46
    refine D1 hs rfl (F3 (place := fun x => #[(0, 5), (5, 5), (10, 5), (15, 5)][x]?) (z := [A7, A7, A7, A7, A7, A7, A7, A7, A7, A7, A7, A7, A7, A7, A7, A7, A7, A7, A7, A7]) (fun _ => by kernel_rfl) (eS rfl (eS rfl (eS rfl (eS rfl e0)))) (bdS 0 5 rfl (by rfl) (bdS 5 5 rfl (by rfl) (bdS 10 5 rfl (by rfl) (bdS 15 5 rfl (by rfl) bd0))))) rfl ?_
    refine G2 rfl rfl rfl (A8 rfl rfl Cel.cel kR A2L A2M UpC.upd ?_)
    refine fa_ hs ?_
    refine E3 (D5 4 5) (C2 ?_)
    refine ⟨_, [], [], A1a rfl rfl rfl kR At.mem (by rfl), List.nil_sublist _, by simp, rfl, rfl, _, _, rfl, .inl ⟨n, ?_, rfl, ⟨_, rfl, _, _, _, _, _, _, _, _, _, _, _, _, _, _, _, _, _, _, _, _, rfl, hn0, hy, h43, h46⟩⟩⟩
    exact A5b hrt (by rw [ho]; rfl) hodd
 ·
  refine A3 (mv_ ?_)
  refine A4 (A0e rfl) rfl ?_
  refine mv_ ?_
  refine L5 rfl rfl rfl rfl ?_
  refine L5 rfl rfl rfl rfl ?_
  refine B7Y rfl rfl rfl ?_
  refine B7Y rfl rfl rfl ?_
  refine L5 rfl rfl rfl rfl ?_
  refine A4 (H4 rfl rfl) rfl ?_
  refine A0 (F7 1 2 4 7 33) ?_
  refine E2 rfl ?_
  refine A3 ?_
  refine A4 (F3 (place := fun x => #[(0, 5), (5, 5), (10, 5), (15, 5)][x]?) (z := [A7, A7, A7, A7, A7, A7, A7, A7, A7, A7, A7, A7, A7, A7, A7, A7, A7, A7, A7, A7]) (fun _ => by kernel_rfl) e0 bd0) rfl ?_
  refine A6 rfl (A8 rfl rfl Cel.cel kR A2L A2M UpC.upd ?_)
  refine as_ (A0 (D5 4 5) (C2 (tr ?_)))
  exact ⟨_, [], [], A1a rfl rfl rfl kR At.mem (by rfl), List.nil_sublist _, by simp, rfl, rfl, _, _, rfl, .inr ⟨B6F hrt, rfl, ⟨_, rfl, _, _, _, _, _, _, _, _, _, _, _, _, _, _, _, _, _, _, _, _, rfl, K4, K4, K4, K4⟩⟩⟩
theorem A7l (A : Mem) : FnX Tryz.prog 141 [] [] A fun r M J => M = [] ∧ J = [] ∧ FeP r pS := by
 refine FnX.enter (N := 12) Tryz.func141 rfl rfl rfl fun w => ?_
 refine C4 kn (A3 ?_)
 refine A6 rfl (C5 (cs := [A7, A7, A7, A7, A7, A7, A7, A7, A7, A7, A7, A7, A7, A7, A7, A7, A7, A7, A7, A7]) kR rfl fun b0 => ?_)
 refine A0 (D8 0) (A3 ?_)
 refine C9 (aS rfl a0) kR (A0I 4 (by decide) _) rfl ?_
 rintro r4 M4 J4 ⟨rfl, rfl, k4⟩
 have h4 := k4
 obtain ⟨a4, b4, c4, d4, e4, rfl, -⟩ := k4
 refine C9 (aS rfl a0) kR (A0I 5 (by decide) _) rfl ?_
 rintro r5 M5 J5 ⟨rfl, rfl, k5⟩
 have h5 := k5
 obtain ⟨a5, b5, c5, d5, e5, rfl, -⟩ := k5
 refine C9 (aS rfl a0) kR (B0T h5 _) rfl ?_
 rintro r6 M6 J6 ⟨rfl, rfl, k6⟩
 have h6 := k6
 obtain ⟨a6, b6, c6, d6, e6, rfl, -⟩ := k6
 refine C9 (aS rfl (aS rfl a0)) kR (R7 h4 h6 _) rfl ?_
 rintro r7 M7 J7 ⟨rfl, rfl, k7⟩
 rw [B8M] at k7
 have h7 := k7
 obtain ⟨a7, b7, c7, d7, e7, rfl, -⟩ := k7
 refine C9 (aS rfl (aS rfl a0)) kR (at_f _ s45 false h7 _) rfl ?_
 rintro r8 M8 J8 ⟨rfl, rfl, V, ok, rfl, hat⟩
 have hP : FeP V pS := by
  rw [at45] at hat
  rcases hat with ⟨x, h1, _, h2⟩ | ⟨h1, _, h2⟩
  · obtain rfl := Option.some.inj h1; exact h2
  · cases h1
 have hP0 := hP
 obtain ⟨xsp, rfl, p0, p1, p2, p3, p4, p5, p6, p7, p8, p9, p10, p11, p12, p13, p14, p15, p16, p17, p18, p19, rfl, hpX, hpY, hpZ, hpT⟩ := hP
 dsimp only [nums, List.map]
 refine mv_ ?_
 refine A4 (A2O rfl) rfl ?_
 refine A4 (A2z rfl) rfl ?_
 refine A6 rfl (C5 (cs := [A7, A7, A7, A7, A7, A7, A7, A7, A7, A7, A7, A7, A7, A7, A7, A7, A7, A7, A7, A7]) kR rfl fun b1 => ?_)
 refine A6 rfl (A8 rfl rfl Cel.cel kR A2L A2M UpC.upd ?_)
 refine as_ (A0 (D5 0 1) (A3 ?_))
 refine A4 (qw_ 20) rfl ?_
 refine A6 rfl (A8 rfl rfl Cel.cel kR A2L A2M UpC.upd ?_)
 refine A0 (D8 0) (C2 ?_)
 exact ⟨_, [], [], A1k rfl rfl kR At.mem (by rfl), List.nil_sublist _, by simp, rfl, rfl, hP0⟩

end Go.Proofs.YthbhpfefdnffaaaGreatDoor
