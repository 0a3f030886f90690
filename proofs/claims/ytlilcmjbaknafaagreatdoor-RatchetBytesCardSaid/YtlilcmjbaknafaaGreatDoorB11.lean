/- Part 11 of the texts of this claim, one behind the other. -/
import Derived.Test.YtlilcmjbaknafaaGreatDoorB10
import Derived.Test.YtlilcmjbaknafaaGreatDoorRows
set_option linter.unusedVariables false
set_option linter.unusedSimpArgs false
set_option maxRecDepth 100000
namespace Go.Px
structure Gc where
  i : Nat
  d : Nat
  s : Option Nat
  m : Mem
  φ : Value → Mem → Mem → Prop
def Gc.inp (g : Gc) (bs : Nat → Mem) : Mem := match g.s with
  | none => g.m
  | some s => bs s
theorem Gc.inp_none {g : Gc} {bs : Nat → Mem} (h : g.s = none) : g.inp bs = g.m := by unfold Gc.inp; rw [h]
theorem Gc.inp_some {g : Gc} {bs : Nat → Mem} {s : Nat} (h : g.s = some s) : g.inp bs = bs s := by unfold Gc.inp; rw [h]
def P5 (G : List Gc) (vs : Nat → Value) : Env := G.map fun g => (g.d, vs g.i)
def B3P (G : List Gc) : List Gm := G.map fun g => ⟨g.i, g.d, fun _ _ => True⟩
theorem B02 (G : List Gc) : (B3P G).map (·.i) = G.map (·.i) := by simp [B3P]
theorem B03 (G : List Gc) : (B3P G).map (·.d) = G.map (·.d) := by simp [B3P]
theorem A1s (G : List Gc) (vs : Nat → Value) : A3u (B3P G) vs = P5 G vs := by simp [A3u, P5, B3P]
theorem A0o {G : List Gc} (h : (G.map (·.i)).Nodup) {g g' : Gc} (hg : g ∈ G) (hg' : g' ∈ G) (e : g.i = g'.i) : g = g' := by
  induction G with
  | nil => cases hg
  | cons x G ih =>
    simp only [List.map_cons, List.nodup_cons] at h
    rcases List.mem_cons.1 hg with h1 | h1 <;> rcases List.mem_cons.1 hg' with h2 | h2
    · rw [h1, h2]
    · exact absurd (by rw [← h1, e]; exact List.mem_map_of_mem (f := Gc.i) h2) h.1
    · exact absurd (by rw [← h2, ← e]; exact List.mem_map_of_mem (f := Gc.i) h1) h.1
    · exact ih h.2 h1 h2
def A2N (G : List Gc) (X : List Nat) (bs : Nat → Mem) (g : Gc) : Mem :=
  if g.i ∈ X then (if ∃ g' ∈ G, g'.s = some g.i ∧ g'.i ∈ X then [] else bs g.i) else (if g.s = none then g.m else [])
def A7n (X : List Nat) (bs : Nat → Mem) (G : List Gc) : Mem := (G.map (A2N G X bs)).flatten
def B04 (l : List (Nat × Option Nat)) (i : Nat) : Bool := l.any fun p => p.2 == some i
def A9a (G : List Gc) (bs : Nat → Mem) : List Mem := (G.filter fun g => !B04 (G.map fun g => (g.i, g.s)) g.i).map fun g => bs g.i
def A0r (l : List Mem) (M : Mem) : Mem := l.foldr (· ++ ·) M
def A1m (G : List Gc) : List Mem := (G.filter fun g => g.s.isNone).map (·.m)
def A7o (ops : Array Oper) (l : List (Nat × Option Nat)) : Bool :=
  l.all fun p => match p.2 with
    | none => true
    | some s => (l.map Prod.fst).contains s && anc ops ops.size p.1 s && l.all fun q => q.2 != some s || q.1 == p.1
structure ChainOk (ops : Array Oper) (G : List Gc) : Prop where
  anc : ∀ g ∈ G, ∀ s, g.s = some s → anc ops ops.size g.i s = true
  mem : ∀ g ∈ G, ∀ s, g.s = some s → s ∈ G.map (·.i)
  one : ∀ g ∈ G, ∀ g' ∈ G, ∀ s, g.s = some s → g'.s = some s → g'.i = g.i
theorem A78 {ops : Array Oper} {G : List Gc} (h : A7o ops (G.map fun g => (g.i, g.s)) = true) : ChainOk ops G := by
  have key : ∀ g ∈ G, ∀ s, g.s = some s → s ∈ G.map (·.i) ∧ Px.anc ops ops.size g.i s = true ∧ ∀ g' ∈ G, g'.s = some s → g'.i = g.i := by
    intro g hg s hs
    have h1 := List.all_eq_true.1 h (g.i, g.s) (List.mem_map_of_mem (f := fun g : Gc => (g.i, g.s)) hg)
    simp only [hs, Bool.and_eq_true, List.contains_iff_mem, List.map_map] at h1
    obtain ⟨⟨h2, h3⟩, h4⟩ := h1
    refine ⟨by simpa [Function.comp_def] using h2, h3, fun g' hg' hs' => ?_⟩
    have h5 := List.all_eq_true.1 h4 (g'.i, g'.s) (List.mem_map_of_mem (f := fun g : Gc => (g.i, g.s)) hg')
    simp [hs'] at h5
    exact h5
  exact ⟨fun g hg s hs => (key g hg s hs).2.1, fun g hg s hs => (key g hg s hs).1, fun g hg g' hg' s hs hs' => (key g hg s hs).2.2 g' hg' hs'⟩
theorem A7p {G : List Gc} (hi : (G.map (·.i)).Nodup) {g : Gc} (hg : g ∈ G) (f : Gc → Mem) :
    ∃ R, ∀ f' : Gc → Mem, (∀ x ∈ G, x.i ≠ g.i → f' x = f x) → (G.map f').flatten.Perm (f' g ++ R) := by
  obtain ⟨s, t, rfl⟩ := List.append_of_mem hg
  have hne : ∀ x ∈ s ++ t, x.i ≠ g.i := by
    intro x hx e
    simp only [List.map_append, List.map_cons, List.nodup_append, List.nodup_cons] at hi
    rcases List.mem_append.1 hx with h | h
    · exact hi.2.2 _ (List.mem_map_of_mem (f := Gc.i) h) _ List.mem_cons_self e
    · exact hi.2.1.1 (e ▸ List.mem_map_of_mem (f := Gc.i) h)
  refine ⟨(s.map f).flatten ++ (t.map f).flatten, fun f' h => ?_⟩
  have es : s.map f' = s.map f := List.map_congr_left fun x hx => h x (by simp [hx]) (hne x (List.mem_append_left _ hx))
  have et : t.map f' = t.map f := List.map_congr_left fun x hx => h x (by simp [hx]) (hne x (List.mem_append_right _ hx))
  simp only [List.map_append, List.map_cons, List.flatten_append, List.flatten_cons, es, et]
  exact List.perm_append_comm_assoc _ _ _
theorem A3V {ops : Array Oper} {X : List Nat} {bs : Nat → Mem} {G : List Gc} {g : Gc} (hi : (G.map (·.i)).Nodup) (hc : ChainOk ops G) (hg : g ∈ G) (hX : g.i ∉ X) (hcl : ∀ g' ∈ G, g'.i ∈ X → ∀ s, g'.s = some s → s ∈ X) (hsx : ∀ s, g.s = some s → s ∈ X) :
    ∃ R, (A7n X bs G).Perm (g.inp bs ++ R) ∧ ∀ M', (M' ++ R).Perm (A7n (X ++ [g.i]) (fun k => if k = g.i then M' else bs k) G) := by
  have hmem : ∀ x : Gc, x.i ≠ g.i → (x.i ∈ X ++ [g.i] ↔ x.i ∈ X) := fun x h => by simp [h]
  have hself : ∀ M' : Mem, A2N G (X ++ [g.i]) (fun k => if k = g.i then M' else bs k) g = M' := by
    intro M'
    have hno : ¬ ∃ g' ∈ G, g'.s = some g.i ∧ g'.i ∈ X ++ [g.i] := by
      rintro ⟨g', hg', hs', hx'⟩
      rcases List.mem_append.1 hx' with h | h
      · exact hX (hcl g' hg' h _ hs')
      · have h2 : g' = g := A0o hi hg' hg (by simpa using h)
        subst h2
        exact hX (hsx _ hs')
    unfold A2N
    rw [if_pos (by simp), if_neg hno]
    exact if_pos rfl
  cases hs : g.s with
  | none =>
    obtain ⟨R, hR⟩ := A7p hi hg (A2N G X bs)
    refine ⟨R, ?_, fun M' => ?_⟩
    · have h1 := hR (A2N G X bs) fun _ _ _ => rfl
      have h2 : A2N G X bs g = g.inp bs := by unfold A2N; rw [if_neg hX, if_pos hs, Gc.inp_none hs]
      rw [h2] at h1
      exact h1
    · have h1 := hR (A2N G (X ++ [g.i]) fun k => if k = g.i then M' else bs k) fun x hx hne => by
        unfold A2N
        by_cases hxX : x.i ∈ X
        · rw [if_pos ((hmem x hne).2 hxX), if_pos hxX]
          have hiff : (∃ g' ∈ G, g'.s = some x.i ∧ g'.i ∈ X ++ [g.i]) ↔ (∃ g' ∈ G, g'.s = some x.i ∧ g'.i ∈ X) := by
            constructor
            · rintro ⟨g', h1, h2, h3⟩
              rcases List.mem_append.1 h3 with h4 | h4
              · exact ⟨g', h1, h2, h4⟩
              · have h5 : g' = g := A0o hi h1 hg (by simpa using h4)
                subst h5; rw [hs] at h2; cases h2
            · rintro ⟨g', h1, h2, h3⟩; exact ⟨g', h1, h2, List.mem_append_left _ h3⟩
          simp only [hiff, if_neg hne]
        · rw [if_neg (fun h => hxX ((hmem x hne).1 h)), if_neg hxX]
      rw [hself M'] at h1
      exact h1.symm
  | some s =>
    have hsX := hsx s hs
    obtain ⟨gs, hgs, rfl⟩ := List.mem_map.1 (hc.mem g hg s hs)
    have hne0 : gs.i ≠ g.i := fun h => hX (h ▸ hsX)
    obtain ⟨R1, hR1⟩ := A7p hi hgs (A2N G X bs)
    have h1 := hR1 (A2N G X bs) fun _ _ _ => rfl
    have e1 : A2N G X bs gs = bs gs.i := by
      unfold A2N
      rw [if_pos hsX, if_neg]
      rintro ⟨g', hg', hs', hx'⟩
      exact hX (hc.one g hg g' hg' _ hs hs' ▸ hx')
    rw [e1] at h1
    have h2 := hR1 (fun x => if x.i = gs.i then [] else A2N G X bs x) fun x _ hne => if_neg hne
    simp only [if_true, List.nil_append] at h2
    obtain ⟨R2, hR2⟩ := A7p hi hg (fun x => if x.i = gs.i then [] else A2N G X bs x)
    have h3 := hR2 (fun x => if x.i = gs.i then [] else A2N G X bs x) fun _ _ _ => rfl
    have e3 : (if g.i = gs.i then [] else A2N G X bs g) = ([] : Mem) := by
      rw [if_neg (Ne.symm hne0)]
      unfold A2N
      rw [if_neg hX, if_neg (by rw [hs]; exact fun h => by cases h)]
    simp only [e3, List.nil_append] at h3
    refine ⟨R2, ?_, fun M' => ?_⟩
    · rw [Gc.inp_some hs]
      exact h1.trans (List.Perm.append_left _ (h2.symm.trans h3))
    · have h4 := hR2 (A2N G (X ++ [g.i]) fun k => if k = g.i then M' else bs k) fun x hx hne => by
        by_cases hxs : x.i = gs.i
        · rw [if_pos hxs]
          unfold A2N
          rw [if_pos ((hmem x hne).2 (hxs ▸ hsX)), if_pos ⟨g, hg, by rw [hs, hxs], by simp⟩]
        · rw [if_neg hxs]
          unfold A2N
          by_cases hxX : x.i ∈ X
          · rw [if_pos ((hmem x hne).2 hxX), if_pos hxX]
            have hiff : (∃ g' ∈ G, g'.s = some x.i ∧ g'.i ∈ X ++ [g.i]) ↔ (∃ g' ∈ G, g'.s = some x.i ∧ g'.i ∈ X) := by
              constructor
              · rintro ⟨g', h1, h2, h3⟩
                rcases List.mem_append.1 h3 with h4 | h4
                · exact ⟨g', h1, h2, h4⟩
                · have h5 : g' = g := A0o hi h1 hg (by simpa using h4)
                  subst h5; rw [hs] at h2; exact absurd (Option.some.inj h2).symm hxs
              · rintro ⟨g', h1, h2, h3⟩; exact ⟨g', h1, h2, List.mem_append_left _ h3⟩
            simp only [hiff, if_neg hne]
          · rw [if_neg (fun h => hxX ((hmem x hne).1 h)), if_neg hxX]
      rw [hself M'] at h4
      exact h4.symm
theorem A79 {bs : Nat → Mem} {G : List Gc} : A7n [] bs G = (A1m G).flatten := by
  have : ∀ G' : List Gc, (G'.map (A2N G [] bs)).flatten = (A1m G').flatten := by
    intro G'
    induction G' with
    | nil => rfl
    | cons g G' ih =>
      rw [List.map_cons, List.flatten_cons, ih]
      have e : A2N G [] bs g = if g.s = none then g.m else [] := by unfold A2N; rw [if_neg (by simp)]
      rw [e]
      cases hs : g.s with
      | none => simp [A1m, hs]
      | some s => simp [A1m, hs]
  exact this G
theorem A8a {X : List Nat} {bs : Nat → Mem} {G : List Gc} (h : ∀ g ∈ G, g.i ∈ X) : A7n X bs G = (A9a G bs).flatten := by
  have he : ∀ g ∈ G, A2N G X bs g = if B04 (G.map fun g => (g.i, g.s)) g.i = true then [] else bs g.i := by
    intro g hg
    unfold A2N
    rw [if_pos (h g hg)]
    have : (∃ g' ∈ G, g'.s = some g.i ∧ g'.i ∈ X) ↔ B04 (G.map fun g => (g.i, g.s)) g.i = true := by
      unfold B04
      simp only [List.any_eq_true, List.mem_map]
      constructor
      · rintro ⟨g', h1, h2, _⟩; exact ⟨_, ⟨g', h1, rfl⟩, by simp [h2]⟩
      · rintro ⟨_, ⟨g', h1, rfl⟩, h2⟩; exact ⟨g', h1, by simpa using h2, h g' h1⟩
    simp only [this]
  unfold A7n A9a
  rw [List.map_congr_left he]
  have : ∀ (G' : List Gc) (p : Gc → Bool), (G'.map fun g => if p g = true then ([] : Mem) else bs g.i).flatten = ((G'.filter fun g => !p g).map fun g => bs g.i).flatten := by
    intro G' p
    induction G' with
    | nil => rfl
    | cons g G' ih =>
      rw [List.map_cons, List.flatten_cons, ih]
      cases hp : p g <;> simp [hp]
  exact this G fun g => B04 (G.map fun g => (g.i, g.s)) g.i
theorem A28 (l : List Mem) (M : Mem) : A0r l M = l.flatten ++ M := by
  induction l with
  | nil => rfl
  | cons a l ih => show a ++ A0r l M = _; rw [ih, List.flatten_cons, List.append_assoc]
section group
variable {C : Cx} {Q : XQ} {l : Env} {M M0 J : Mem} {os : List Oper} {K : Nat → Prop} {n0 : Nat} {nd : List Nat} {plan : List (Nat × Nat)}
def B05 (C : Cx) (os : List Oper) (l : Env) (M0 J : Mem) (G : List Gc) (g : Gc) : Prop :=
  ∃ o, nth os g.i = some o ∧ ∀ (vs : Nat → Value) (bs : Nat → Mem) (R Rj : Mem) (w : World), (∀ x ∈ M0 ++ (J ++ C.A), x ∈ R) → (∀ x ∈ J ++ C.A, x ∈ Rj) → (∀ x ∈ Rj, x ∈ R) → (∀ g' ∈ G, anc os.toArray os.toArray.size g.i g'.i = true → g'.φ (vs g'.i) (bs g'.i) Rj) →
    A8P os (P5 G vs ++ l) o ∧ OpL ⟨C.P, w, (g.inp bs).map Prod.fst, R, C.N⟩ o (P5 G vs ++ l) (g.inp bs) [] (fun l' M' J' => ∃ v, l' = (g.d, v) :: (P5 G vs ++ l) ∧ g.φ v M' (J' ++ Rj))
theorem B06 {G : List Gc} (hmono : ∀ g ∈ G, A2K g.φ) (hd : (G.map (·.d)).Nodup) (hi : (G.map (·.i)).Nodup) (hc : ChainOk os.toArray G) (hKn : ∀ b, n0 ≤ b → K b) (hK : ∀ m ∈ A1m G, ∀ x ∈ m, K x.1) (hob : ∀ g ∈ G, B05 C os l M0 J G g) {A B : Array Bool} (hok : GOk os.toArray A (G.map (·.i)) B)
    (hfin : ∀ (vs : Nat → Value) (bs : Nat → Mem) Jn a w, (∀ g ∈ G, g.φ (vs g.i) (bs g.i) ((Jn ++ J) ++ C.A)) → (∀ g ∈ G, ∀ x ∈ bs g.i, K x.1) → Ag C.N (P5 G vs ++ l) a → St C ((A9a G bs).flatten ++ M0) (Jn ++ J) w → n0 ≤ w.heap.size → A0h C.P os.toArray (R6 (A6V C Q)) (Sk K) nd.contains plan.length B a w) :
    ∀ (n : Nat) (X : List Nat) (vs : Nat → Value) (bs : Nat → Mem) (Jn : Mem) (a : Act) (w : World), X.Nodup → (∀ i ∈ X, i ∈ G.map (·.i)) → n + X.length = G.length → Q6 os.toArray (mark A X) → (∀ g ∈ G, g.i ∈ X → ∀ s, g.s = some s → s ∈ X) →
      (∀ g ∈ G, g.i ∈ X → g.φ (vs g.i) (bs g.i) ((Jn ++ J) ++ C.A)) → (∀ g ∈ G, g.i ∈ X → ∀ x ∈ bs g.i, K x.1) → Ag C.N (P5 G vs ++ l) a → St C (A7n X bs G ++ M0) (Jn ++ J) w → n0 ≤ w.heap.size →
      A0h C.P os.toArray (R6 (A6V C Q)) (Sk K) nd.contains (n + plan.length) (mark A X) a w := by
  intro n
  induction n with
  | zero =>
    intro X vs bs Jn a w hnd hX hlen hcl hXs hφ hN ha hw hn
    have hall : ∀ i, i ∈ X ↔ i ∈ G.map (·.i) := fun i => ⟨hX i, A13 hnd hX (by simp; omega) i⟩
    have hin : ∀ g ∈ G, g.i ∈ X := fun g hg => (hall _).2 (List.mem_map_of_mem (f := Gc.i) hg)
    have hcur := A8a (bs := bs) hin
    rw [hcur] at hw
    rw [Nat.zero_add, A5l hall, ← hok.mark]
    exact hfin vs bs Jn a w (fun g hg => hφ g hg (hin g hg)) (fun g hg => hN g hg (hin g hg)) ha hw hn
  | succ n ih =>
    intro X vs bs Jn a w hnd hX hlen hcl hXs hφ hN ha hw hn
    have hmiss : ∃ k ∈ G.map (·.i), k ∉ X := by
      apply Classical.byContradiction
      intro hno
      have hs : ∀ k ∈ G.map (·.i), k ∈ X := fun k hk => Classical.byContradiction fun h => hno ⟨k, hk, h⟩
      have := A12 hi hs
      simp at this; omega
    obtain ⟨k, hkG, hkX⟩ := hmiss
    have hun : ∀ i ∈ G.map (·.i), A.getD i true = false := by
      have : ∀ {is A B}, GOk os.toArray A is B → ∀ i ∈ is, A.getD i true = false := by
        intro is A B h
        induction h with
        | nil => intro i hi; cases hi
        | @cons A B i r hr ho h ih =>
          intro k hk
          rcases List.mem_cons.1 hk with rfl | hk
          · exact K5 hr
          · have h2 := ih k hk
            by_cases e : i = k
            · subst e; exact K5 hr
            · rwa [getD_set_ne true e] at h2
      exact this hok
    have hkun : (mark A X).getD k true = false := H7.2 ⟨hun k hkG, fun h => hkX h.1⟩
    rw [show n + 1 + plan.length = (n + plan.length) + 1 by omega]
    refine ⟨fun h0 => ?_, fun i hir => ?_⟩
    · obtain ⟨i, hir⟩ := hok.first (A1b A X) (fun j hj => A1c hj) hkG hkun
      rw [h0] at hir; cases hir
    · have hiG : i ∈ G.map (·.i) := by
        apply Classical.byContradiction
        intro hno
        have h1 := H7.1 (K5 hir)
        have h2 := hok.outer k hkG i (A2Z hir) h1.1 hno
        exact T8 hkun (Q7 hcl h2 hir)
      obtain ⟨g, hg, rfl⟩ := List.mem_map.1 hiG
      have hiX : g.i ∉ X := fun h => (H7.1 (K5 hir)).2 ⟨h, W9 (hun _ hiG)⟩
      have hin : ∀ j ∈ G.map (·.i), anc os.toArray os.toArray.size g.i j = true → j ∈ X := fun j hj hanc => by
        have h3 := Q7 hcl hanc hir
        rcases Z8 h3 with h4 | h4
        · exact (T8 (hun _ hj) h4).elim
        · exact h4
      have hsx : ∀ s, g.s = some s → s ∈ X := fun s hs => hin s (hc.mem g hg s hs) (hc.anc g hg s hs)
      have hKi : ∀ x ∈ g.inp bs, K x.1 := by
        intro x hx
        cases hs : g.s with
        | none =>
          rw [Gc.inp_none hs] at hx
          exact hK g.m (List.mem_map.2 ⟨g, List.mem_filter.2 ⟨hg, by simp [hs]⟩, rfl⟩) x hx
        | some s =>
          rw [Gc.inp_some hs] at hx
          obtain ⟨gs, hgs, rfl⟩ := List.mem_map.1 (hc.mem g hg s hs)
          exact hN gs hgs (hsx _ hs) x hx
      obtain ⟨o, hget, howe⟩ := hob g hg
      have hi' : os.toArray[g.i]? = some o := by rw [V8] at hget; simpa using hget
      obtain ⟨hask, hop⟩ := howe vs bs (M0 ++ ((Jn ++ J) ++ C.A)) ((Jn ++ J) ++ C.A) w (fun x hx => by simp only [List.mem_append] at hx ⊢; rcases hx with h | h | h <;> simp [h]) (fun x hx => by simp only [List.mem_append] at hx ⊢; rcases hx with h | h <;> simp [h]) (fun x hx => List.mem_append_right _ hx) (fun g' hg' hanc => hφ g' hg' (hin _ (List.mem_map_of_mem (f := Gc.i) hg') hanc))
      unfold wpOp
      simp only [hi']
      rw [if_pos (hask.wanted ha)]
      obtain ⟨R0, hp0, hq0⟩ := A3V (bs := bs) hi hc hg hiX hXs hsx
      have hpc : (A7n X bs G ++ M0).Perm (g.inp bs ++ (R0 ++ M0)) := by
        rw [← List.append_assoc]; exact List.Perm.append_right _ hp0
      have hcal := hw.callee hpc
      have hcal2 := St.less (A := M0 ++ ((Jn ++ J) ++ C.A)) hcal fun x hx => by
        simp only [List.mem_append] at hx ⊢
        rcases hx with h | h
        · exact .inl (.inr h)
        · exact .inr h
      refine .inl (Oper.wp_mono ?_ (hop _ a w ha hcal2.cx))
      rintro a' w' ⟨l', M', J', ha', hs', v, rfl, hφv⟩
      have hsz : w.heap.size ≤ w'.heap.size := hs'.size
      have hs2 := St.widen hcal.cx hs'
      have hb := hw.back hpc hs2.cx
      let bs' : Nat → Mem := fun k => if k = g.i then M' else bs k
      have hperm : (M' ++ (R0 ++ M0)).Perm (A7n (X ++ [g.i]) bs' G ++ M0) := by
        rw [← List.append_assoc]
        exact List.Perm.append_right _ (hq0 M')
      have hfr2 : St C (A7n (X ++ [g.i]) bs' G ++ M0) ((J' ++ Jn) ++ J) w' := (hb.perm hperm).drop (List.Sublist.refl _) fun x hx => by
        simp only [List.mem_append] at hx ⊢
        rcases hx with (h | h) | h <;> simp [h]
      refine ⟨fun _ b hb' hnk => hs'.frame b hb' fun hm => ?_, ?_⟩
      · obtain ⟨x, hx, e⟩ := List.mem_map.1 hm
        exact hnk (e ▸ hKi x hx)
      rw [← T5]
      have henv := A14 (N := C.N) (G := B3P G) (l := l) (vs := vs) (g := ⟨g.i, g.d, fun _ _ => True⟩) (a := a') (v := v) (List.mem_map_of_mem (f := fun g : Gc => (⟨g.i, g.d, fun _ _ => True⟩ : Gm)) hg) (by rw [B03]; exact hd) (by rw [B02]; exact hi) (by rw [A1s]; exact ha')
      rw [A1s] at henv
      refine ih (X ++ [g.i]) (fun k => if k = g.i then v else vs k) bs' (J' ++ Jn) a' w' ?_ ?_ (by simp; omega) ?_ ?_ ?_ ?_ henv hfr2 (Nat.le_trans hn hsz)
      · rw [List.nodup_append]; exact ⟨hnd, by simp, fun x hx y hy e => hiX (by simp at hy; subst hy; exact e ▸ hx)⟩
      · intro j hj
        rcases List.mem_append.1 hj with hj | hj
        · exact hX j hj
        · simp at hj; subst hj; exact hiG
      · rw [T5]; exact H8 hcl hir
      · intro g' hg' hm s hs
        rcases List.mem_append.1 hm with h | h
        · exact List.mem_append_left _ (hXs g' hg' h s hs)
        · have h2 : g' = g := A0o hi hg' hg (by simpa using h)
          subst h2
          exact List.mem_append_left _ (hsx s hs)
      · intro g' hg' hm
        by_cases e : g'.i = g.i
        · have : g' = g := A0o hi hg' hg e
          subst this
          simp only [if_true, bs']
          exact hmono g' hg' _ _ _ _ (fun x hx => by simp only [List.mem_append] at hx ⊢; rcases hx with h | (h | h) | h <;> simp [h]) hφv
        · simp only [e, if_false, bs']
          have hm' : g'.i ∈ X := by simpa [e] using hm
          exact hmono g' hg' _ _ _ _ (fun x hx => by simp only [List.mem_append] at hx ⊢; rcases hx with (h | h) | h <;> simp [h]) (hφ g' hg' hm')
      · intro g' hg' hk x hx
        by_cases e : g'.i = g.i
        · have : g' = g := A0o hi hg' hg e
          subst this
          simp only [if_true, bs'] at hx
          rcases hs'.own x.1 x.2 (by simp [hx]) with h6 | h6
          · obtain ⟨y, hy, e6⟩ := List.mem_map.1 h6
            exact e6 ▸ hKi y hy
          · exact hKn _ (Nat.le_trans hn h6)
        · simp only [e, if_false, bs'] at hx
          have hk' : g'.i ∈ X := by simpa [e] using hk
          exact hN g' hg' hk' x hx
theorem A6G (G : List Gc) (M0 : Mem) (Lf : (Nat → Mem) → List Mem) (hKn : ∀ b, n0 ≤ b → K b) (hM : M.Perm (A0r (A1m G) M0)) (hK : ∀ m ∈ A1m G, ∀ x ∈ m, K x.1) (hck : A7o os.toArray (G.map fun g => (g.i, g.s)) = true) (hLf : ∀ bs, A9a G bs = Lf bs)
    (hmono : ∀ g ∈ G, A2K g.φ) (hd : (G.map (·.d)).Nodup) (hi : (G.map (·.i)).Nodup) (hdN : ∀ g ∈ G, g.d < C.N) (hob : ∀ g ∈ G, B05 C os l M0 J G g)
    (h : ∀ (vs : Nat → Value) (bs : Nat → Mem) Jn, (∀ g ∈ G, g.φ (vs g.i) (bs g.i) ((Jn ++ J) ++ C.A)) → (∀ g ∈ G, ∀ x ∈ bs g.i, K x.1) → XK C os Q K n0 nd plan (P5 G vs ++ l) (A0r (Lf bs) M0) (Jn ++ J)) : XK C os Q K n0 nd (enc (G.map (·.i)) ++ plan) l M J := by
  refine A69 hM ?_
  rw [A28]
  intro listed hcl hp a w ha hw hn
  obtain ⟨B, hok, hp2⟩ := A7L hp
  have hBcl : Q6 os.toArray B := by
    have : ∀ {A is B}, GOk os.toArray A is B → Q6 os.toArray A → Q6 os.toArray B := by
      intro A is B h
      induction h with
      | nil => exact id
      | cons hr _ _ ih => exact fun hc => ih (H8 hc hr)
    exact this hok hcl
  have hlen : (enc (G.map (·.i)) ++ plan).length = G.length + plan.length := by
    have : ∀ is : List Nat, (enc is).length = is.length := by
      intro is
      induction is with
      | nil => rfl
      | cons i r ih => cases r with
        | nil => rfl
        | cons j r => simp only [enc, List.length_cons] at ih ⊢; rw [ih]
    simp [this]
  rw [hlen]
  let vs : Nat → Value := fun k => match G.find? (fun g => g.i == k) with
    | some g => (a.tmps[g.d]?).getD undef
    | none => undef
  have hag : Ag C.N (P5 G vs ++ l) a := by
    refine ⟨ha.defers, ha.size, ?_⟩
    intro k u hk
    have key : ∀ G' : List Gc, (∀ g ∈ G', g ∈ G) → lk (P5 G' vs ++ l) k = some u → a.tmps[k]? = some u := by
      intro G'
      induction G' with
      | nil => intro _ h; exact ha.slot k u h
      | cons g G' ih =>
        intro hs h
        simp only [P5, List.map_cons, List.cons_append, lk] at h
        by_cases e : g.d = k
        · subst e
          simp at h
          have hf : G.find? (fun x => x.i == g.i) = some g := by
            have hgG := hs g List.mem_cons_self
            cases hq : G.find? (fun x => x.i == g.i) with
            | none => have := List.find?_eq_none.1 hq g hgG; simp at this
            | some x =>
              have h1 := List.find?_some hq
              have h2 := List.mem_of_find?_eq_some hq
              rw [A0o hi h2 hgG (by simpa using h1)]
          have hlt : g.d < a.tmps.size := by rw [ha.size]; exact hdN g (hs g List.mem_cons_self)
          rw [← h]
          show a.tmps[g.d]? = some (vs g.i)
          simp only [vs, hf, Array.getElem?_eq_getElem hlt, Option.getD_some]
        · simp only [Y9 e, cond_false] at h
          exact ih (fun x hx => hs x (List.mem_cons_of_mem _ hx)) h
    exact key G (fun _ h => h) hk
  refine B06 (n0 := n0) (K := K) hmono hd hi (A78 hck) hKn hK hob hok (fun vs bs Jn a w hφ hN ha hw hn => h vs bs Jn hφ hN B hBcl hp2 a w ha (by rw [A28, ← hLf]; exact hw) hn) G.length [] vs (fun _ => []) [] a w .nil (fun _ h => by cases h) (by simp) hcl (fun _ _ h => by cases h) (fun _ _ h => by cases h) (fun _ _ h => by cases h) hag (by rw [A79]; exact hw) hn
end group
end Go.Px

namespace Go.Px
def A3W : List Nat → List (Nat × Nat)
  | [] => []
  | [q] => [(q, 10)]
  | q :: q' :: r => (q, 9) :: A3W (q' :: r)
def A9t (qs : List Nat) : List Nat → List (Nat × Nat)
  | [] => A3W qs
  | i :: r => (i, 8) :: A9t qs r
theorem B6Q (plan : List (Nat × Nat)) : ∀ {qs : List Nat}, qs ≠ [] → grz (A3W qs ++ plan) = qs ∧ qsz (A3W qs ++ plan) = qs
  | [], h => absurd rfl h
  | [q], _ => ⟨rfl, rfl⟩
  | q :: q' :: r, _ => by
    obtain ⟨h1, h2⟩ := B6Q plan (qs := q' :: r) (by simp)
    refine ⟨?_, ?_⟩
    · show q :: grz (A3W (q' :: r) ++ plan) = _; rw [h1]
    · show q :: qsz (A3W (q' :: r) ++ plan) = _; rw [h2]
theorem A7q {qs : List Nat} (plan : List (Nat × Nat)) (h : qs ≠ []) : ∀ r : List Nat, grz (A9t qs r ++ plan) = r ++ qs ∧ qsz (A9t qs r ++ plan) = qs
  | [] => B6Q plan h
  | i :: r => by
    obtain ⟨h1, h2⟩ := A7q plan h r
    refine ⟨?_, ?_⟩
    · show i :: grz (A9t qs r ++ plan) = _; rw [h1]; rfl
    · show qsz (A9t qs r ++ plan) = _; rw [h2]
inductive GOz (ops : Array Oper) (qs : List Nat) : Array Bool → List Nat → Array Bool → Prop
  | nil {A : Array Bool} : GOz ops qs A [] A
  | cons {A B : Array Bool} {i : Nat} {r : List Nat} (hr : i ∈ Region.ready .any ops A) (ho : i ∉ qs → ∀ j, j < ops.size → A.getD j true = false → j ∉ i :: r → anc ops ops.size j i = true) (h : GOz ops qs (A.setIfInBounds i true) r B) : GOz ops qs A (i :: r) B
theorem A8b {ops : Array Oper} {nd : List Nat} {Q : List Nat} {plan : List (Nat × Nat)} : ∀ {qs : List Nat} {A : Array Bool}, qs ≠ [] → (∀ q ∈ qs, q ∈ Q) → K4 ops nd (A3W qs ++ plan) A = true → ∃ B, GOz ops Q A qs B ∧ (∀ q ∈ qs, A4m ops A q = true) ∧ K4 ops nd plan B = true
  | [], A, h, _, _ => absurd rfl h
  | [q], A, _, hQ, h => by
    simp only [A3W, List.cons_append, List.nil_append, K4, Bool.and_eq_true] at h
    exact ⟨_, .cons (by simpa using h.1.1) (fun hq => absurd (hQ q (by simp)) hq) .nil, (fun x hx => by rw [List.mem_singleton.1 hx]; exact h.1.2), h.2⟩
  | q :: q' :: r, A, _, hQ, h => by
    simp only [A3W, List.cons_append, K4, Bool.and_eq_true] at h
    obtain ⟨B, hB, -, hp⟩ := A8b (qs := q' :: r) (by simp) (fun x hx => hQ x (List.mem_cons_of_mem _ hx)) h.2
    refine ⟨B, .cons (by simpa using h.1.1) (fun hq => absurd (hQ q (by simp)) hq) hB, fun x hx => ?_, hp⟩
    have h2 := h.1.2
    rw [(B6Q plan (qs := q' :: r) (by simp)).2] at h2
    exact List.all_eq_true.1 h2 x hx
theorem B07 {ops : Array Oper} {nd : List Nat} {qs : List Nat} {plan : List (Nat × Nat)} (hne : qs ≠ []) : ∀ {is : List Nat} {A : Array Bool}, K4 ops nd (A9t qs is ++ plan) A = true → ∃ B, GOz ops qs A (is ++ qs) B ∧ (∀ q ∈ qs, A4m ops A q = true) ∧ K4 ops nd plan B = true
  | [], A, h => A8b hne (fun _ h => h) h
  | i :: r, A, h => by
    simp only [A9t, List.cons_append, K4, A60, Bool.and_eq_true, List.all_eq_true, List.mem_range, Bool.or_eq_true, (A7q plan hne r).1, (A7q plan hne r).2] at h
    obtain ⟨B, hB, -, hp⟩ := B07 hne (is := r) h.2
    refine ⟨B, .cons (by simpa using h.1.1.1) (fun _ j hj hu hn => ?_) hB, h.1.2, hp⟩
    rcases h.1.1.2 j hj with (h1 | h1) | h1
    · rw [hu] at h1; cases h1
    · exact absurd (by simpa using h1) hn
    · exact h1
theorem GOz.mark {ops : Array Oper} {q : List Nat} {A B : Array Bool} {is : List Nat} (h : GOz ops q A is B) : B = mark A is := by
  induction h with
  | nil => rfl
  | cons _ _ _ ih => rw [ih]; rfl
theorem GOz.un {ops : Array Oper} {q : List Nat} {A B : Array Bool} {is : List Nat} (h : GOz ops q A is B) : ∀ i ∈ is, A.getD i true = false := by
  induction h with
  | nil => intro i hi; cases hi
  | @cons A B i r hr ho h ih =>
    intro k hk
    rcases List.mem_cons.1 hk with rfl | hk
    · exact K5 hr
    · have h2 := ih k hk
      by_cases e : i = k
      · subst e; exact K5 hr
      · rwa [getD_set_ne true e] at h2
theorem GOz.outer {ops : Array Oper} {q : List Nat} {A B : Array Bool} {is : List Nat} (h : GOz ops q A is B) : ∀ i ∈ is, i ∉ q → ∀ j, j < ops.size → A.getD j true = false → j ∉ is → anc ops ops.size j i = true := by
  induction h with
  | nil => intro i hi; cases hi
  | @cons A B i r hr ho h ih =>
    intro k hk hq j hj hu hn
    rcases List.mem_cons.1 hk with rfl | hk
    · exact ho hq j hj hu hn
    · have hne : i ≠ j := fun e => hn (e ▸ List.mem_cons_self)
      exact ih k hk hq j hj (by rw [getD_set_ne true hne]; exact hu) (fun hm => hn (List.mem_cons_of_mem _ hm))
theorem GOz.first {ops : Array Oper} {q : List Nat} {A B : Array Bool} {is : List Nat} (h : GOz ops q A is B) {A' : Array Bool} (hsz : A'.size = A.size) (hm : ∀ j, A.getD j false = true → A'.getD j false = true) {k : Nat} (hk : k ∈ is) (hk' : A'.getD k true = false) : ∃ i, i ∈ is ∧ i ∈ Region.ready .any ops A' := by
  induction h generalizing k with
  | nil => cases hk
  | @cons A B i r hr ho h ih =>
    by_cases hi : A'.getD i true = false
    · exact ⟨i, List.mem_cons_self, A4I hr hi hm⟩
    · rcases List.mem_cons.1 hk with rfl | hk
      · exact absurd hk' hi
      · obtain ⟨x, hx1, hx2⟩ := ih (by simpa using hsz) (fun j hj => by
          by_cases e : i = j
          · subst e
            have hlt := W9 (K5 hr)
            have hlt' : i < A'.size := by omega
            simp [hlt'] at hi ⊢; exact hi
          · rw [getD_set_ne false e] at hj
            exact hm j hj) hk hk'
        exact ⟨x, List.mem_cons_of_mem _ hx1, hx2⟩
section group
variable {C : Cx} {Q : XQ} {l : Env} {M M0 J : Mem} {os : List Oper} {K : Nat → Prop} {n0 : Nat} {nd : List Nat} {plan : List (Nat × Nat)}
def B6R (C : Cx) (os : List Oper) (l : Env) (J : Mem) (G : List Gc) (g : Gc) : Prop :=
  g.s = none ∧ g.m = [] ∧ ∃ op ty pos af, nth os g.i = some ⟨some g.d, op, ty, pos, af, none⟩ ∧ ∀ (vs : Nat → Value) (bs : Nat → Mem) (Rj : Mem), (∀ x ∈ J ++ C.A, x ∈ Rj) → (∀ g' ∈ G, anc os.toArray os.toArray.size g.i g'.i = true → g'.φ (vs g'.i) (bs g'.i) Rj) →
    ∃ v, OpQ C.P [] ⟨some g.d, op, ty, pos, af, none⟩ (P5 G vs ++ l) v ∧ g.φ v [] Rj
theorem B08 {G : List Gc} (hmono : ∀ g ∈ G, A2K g.φ) (hd : (G.map (·.d)).Nodup) (hi : (G.map (·.i)).Nodup) (hc : ChainOk os.toArray G) (hKn : ∀ b, n0 ≤ b → K b) (hK : ∀ m ∈ A1m G, ∀ x ∈ m, K x.1) (hs : Region.noSelect os.toArray = true) (hdN : ∀ g ∈ G, g.d < C.N) {qs : List Nat} (hob : ∀ g ∈ G, g.i ∉ qs → B05 C os l M0 J G g) (hoq : ∀ g ∈ G, g.i ∈ qs → B6R C os l J G g) {A B : Array Bool} (hok : GOz os.toArray qs A (G.map (·.i)) B) (hfr : ∀ q ∈ qs, A4m os.toArray A q = true)
    (hfin : ∀ (vs : Nat → Value) (bs : Nat → Mem) Jn a w, (∀ g ∈ G, g.φ (vs g.i) (bs g.i) ((Jn ++ J) ++ C.A)) → (∀ g ∈ G, ∀ x ∈ bs g.i, K x.1) → Ag C.N (P5 G vs ++ l) a → St C ((A9a G bs).flatten ++ M0) (Jn ++ J) w → n0 ≤ w.heap.size → A0h C.P os.toArray (R6 (A6V C Q)) (Sk K) nd.contains plan.length B a w) :
    ∀ (n : Nat) (X : List Nat) (vs : Nat → Value) (bs : Nat → Mem) (Jn : Mem) (a : Act) (w : World), X.Nodup → (∀ i ∈ X, i ∈ G.map (·.i)) → n + X.length = G.length → Q6 os.toArray (mark A X) → (∀ g ∈ G, g.i ∈ X → ∀ s, g.s = some s → s ∈ X) →
      (∀ g ∈ G, g.i ∈ X → g.φ (vs g.i) (bs g.i) ((Jn ++ J) ++ C.A)) → (∀ g ∈ G, g.i ∈ X → ∀ x ∈ bs g.i, K x.1) → Ag C.N (P5 G vs ++ l) a → St C (A7n X bs G ++ M0) (Jn ++ J) w → n0 ≤ w.heap.size →
      A0h C.P os.toArray (R6 (A6V C Q)) (Sk K) nd.contains (n + plan.length) (mark A X) a w := by
  intro n
  induction n with
  | zero =>
    intro X vs bs Jn a w hnd hX hlen hcl hXs hφ hN ha hw hn
    have hall : ∀ i, i ∈ X ↔ i ∈ G.map (·.i) := fun i => ⟨hX i, A13 hnd hX (by simp; omega) i⟩
    have hin : ∀ g ∈ G, g.i ∈ X := fun g hg => (hall _).2 (List.mem_map_of_mem (f := Gc.i) hg)
    have hcur := A8a (bs := bs) hin
    rw [hcur] at hw
    rw [Nat.zero_add, A5l hall, ← hok.mark]
    exact hfin vs bs Jn a w (fun g hg => hφ g hg (hin g hg)) (fun g hg => hN g hg (hin g hg)) ha hw hn
  | succ n ih =>
    intro X vs bs Jn a w hnd hX hlen hcl hXs hφ hN ha hw hn
    have hun : ∀ i ∈ G.map (·.i), A.getD i true = false := hok.un
    by_cases hqe : ∃ g ∈ G, g.i ∈ qs ∧ g.i ∈ Region.ready .any os.toArray (mark A X)
    · obtain ⟨g, hg, hgq, hqr⟩ := hqe
      obtain ⟨hsn, hmn, op, ty, pos, af, hget, howe⟩ := hoq g hg hgq
      have hi' : os.toArray[g.i]? = some ⟨some g.d, op, ty, pos, af, none⟩ := by rw [V8] at hget; simpa using hget
      have hiG : g.i ∈ G.map (·.i) := List.mem_map_of_mem (f := Gc.i) hg
      have hiX : g.i ∉ X := fun h => (H7.1 (K5 hqr)).2 ⟨h, W9 (hun _ hiG)⟩
      obtain ⟨v, hq, hφv⟩ := howe vs bs ((Jn ++ J) ++ C.A) (fun x hx => by simp only [List.mem_append] at hx ⊢; rcases hx with h | h <;> simp [h]) (fun g' hg' hanc => hφ g' hg' (by
        have h3 := Q7 hcl hanc hqr
        rcases Z8 h3 with h4 | h4
        · exact (T8 (hun _ (List.mem_map_of_mem (f := Gc.i) hg')) h4).elim
        · exact h4))
      rw [show n + 1 + plan.length = (n + plan.length) + 1 by omega]
      refine W6 (S := Sk K) (T := fun _ => True) (N := 0) (v := v) hi' (Region.noSelect_spec hs) (fun _ _ _ h => h) (fun _ _ _ _ => rfl) _ (mark A X) a w hcl (fun j oj hj hne hun' hno => A8F hi' (hfr _ hgq) j oj hj hne (H7.1 hun').1 (by
        cases ha0 : anc os.toArray os.toArray.size g.i j with
        | false => rfl
        | true => exact (T8 hun' (Q7 hcl ha0 hqr)).elim) hno) (fun _ _ _ _ => .inr fun _ _ _ _ => trivial) hqr (.inl ⟨rfl, fun w hw => hq C.N a w ha (fun _ _ hb => by cases hb)⟩) trivial ?_
      rw [← T5]
      have hsx : ∀ s, g.s = some s → s ∈ X := fun s hs' => by rw [hsn] at hs'; cases hs'
      obtain ⟨R0, hp0, hq0⟩ := A3V (bs := bs) hi hc hg hiX hXs hsx
      rw [Gc.inp_none hsn, hmn] at hp0
      let bs' : Nat → Mem := fun k => if k = g.i then [] else bs k
      have hperm : (A7n X bs G ++ M0).Perm (A7n (X ++ [g.i]) bs' G ++ M0) := List.Perm.append_right _ (hp0.trans (hq0 []))
      have ha' : Ag C.N ((g.d, v) :: (P5 G vs ++ l)) (a.put (some g.d) v) := ha.put (hdN g hg) v
      have henv := A14 (N := C.N) (G := B3P G) (l := l) (vs := vs) (g := ⟨g.i, g.d, fun _ _ => True⟩) (a := a.put (some g.d) v) (v := v) (List.mem_map_of_mem (f := fun g : Gc => (⟨g.i, g.d, fun _ _ => True⟩ : Gm)) hg) (by rw [B03]; exact hd) (by rw [B02]; exact hi) (by rw [A1s]; exact ha')
      rw [A1s] at henv
      refine ih (X ++ [g.i]) (fun k => if k = g.i then v else vs k) bs' Jn (a.put (some g.d) v) w ?_ ?_ (by simp; omega) ?_ ?_ ?_ ?_ henv (hw.perm hperm) hn
      · rw [List.nodup_append]; exact ⟨hnd, by simp, fun x hx y hy e => hiX (by simp at hy; subst hy; exact e ▸ hx)⟩
      · intro j hj
        rcases List.mem_append.1 hj with hj | hj
        · exact hX j hj
        · simp at hj; subst hj; exact hiG
      · rw [T5]; exact H8 hcl hqr
      · intro g' hg' hm s hs'
        rcases List.mem_append.1 hm with h | h
        · exact List.mem_append_left _ (hXs g' hg' h s hs')
        · have h2 : g' = g := A0o hi hg' hg (by simpa using h)
          subst h2
          exact List.mem_append_left _ (hsx s hs')
      · intro g' hg' hm
        by_cases e : g'.i = g.i
        · have : g' = g := A0o hi hg' hg e
          subst this
          simp only [if_true, bs']
          exact hφv
        · simp only [e, if_false, bs']
          exact hφ g' hg' (by simpa [e] using hm)
      · intro g' hg' hk x hx
        by_cases e : g'.i = g.i
        · simp only [e, if_true, bs'] at hx
          cases hx
        · simp only [e, if_false, bs'] at hx
          exact hN g' hg' (by simpa [e] using hk) x hx
    have hmiss : ∃ k ∈ G.map (·.i), k ∉ X ∧ k ∉ qs := by
      apply Classical.byContradiction
      intro hno
      have hs' : ∀ k ∈ G.map (·.i), k ∉ qs → k ∈ X := fun k hk hne => Classical.byContradiction fun h => hno ⟨k, hk, h, hne⟩
      by_cases hall : ∀ k ∈ G.map (·.i), k ∈ X
      · have := A12 hi hall
        simp at this; omega
      · obtain ⟨k, hk⟩ := Classical.not_forall.1 hall
        obtain ⟨hkG, hkX⟩ := Classical.not_imp.1 hk
        obtain ⟨i, hiG, hir⟩ := hok.first (A1b A X) (fun j hj => A1c hj) hkG (H7.2 ⟨hun _ hkG, fun h => hkX h.1⟩)
        have hiX : i ∉ X := fun h => (H7.1 (K5 hir)).2 ⟨h, W9 (hun _ hiG)⟩
        by_cases e : i ∈ qs
        · obtain ⟨g, hg, rfl⟩ := List.mem_map.1 hiG
          exact hqe ⟨g, hg, e, hir⟩
        · exact hiX (hs' i hiG e)
    obtain ⟨k, hkG, hkX, hkq⟩ := hmiss
    have hkun : (mark A X).getD k true = false := H7.2 ⟨hun k hkG, fun h => hkX h.1⟩
    rw [show n + 1 + plan.length = (n + plan.length) + 1 by omega]
    refine ⟨fun h0 => ?_, fun i hir => ?_⟩
    · obtain ⟨i, -, hir⟩ := hok.first (A1b A X) (fun j hj => A1c hj) hkG hkun
      rw [h0] at hir; cases hir
    · have hiG : i ∈ G.map (·.i) := by
        apply Classical.byContradiction
        intro hno
        have h1 := H7.1 (K5 hir)
        have h2 := hok.outer k hkG hkq i (A2Z hir) h1.1 hno
        exact T8 hkun (Q7 hcl h2 hir)
      obtain ⟨g, hg, rfl⟩ := List.mem_map.1 hiG
      have hiX : g.i ∉ X := fun h => (H7.1 (K5 hir)).2 ⟨h, W9 (hun _ hiG)⟩
      have hin : ∀ j ∈ G.map (·.i), anc os.toArray os.toArray.size g.i j = true → j ∈ X := fun j hj hanc => by
        have h3 := Q7 hcl hanc hir
        rcases Z8 h3 with h4 | h4
        · exact (T8 (hun _ hj) h4).elim
        · exact h4
      have hsx : ∀ s, g.s = some s → s ∈ X := fun s hs => hin s (hc.mem g hg s hs) (hc.anc g hg s hs)
      have hKi : ∀ x ∈ g.inp bs, K x.1 := by
        intro x hx
        cases hs : g.s with
        | none =>
          rw [Gc.inp_none hs] at hx
          exact hK g.m (List.mem_map.2 ⟨g, List.mem_filter.2 ⟨hg, by simp [hs]⟩, rfl⟩) x hx
        | some s =>
          rw [Gc.inp_some hs] at hx
          obtain ⟨gs, hgs, rfl⟩ := List.mem_map.1 (hc.mem g hg s hs)
          exact hN gs hgs (hsx _ hs) x hx
      obtain ⟨o, hget, howe⟩ := hob g hg (fun e => hqe ⟨g, hg, e, hir⟩)
      have hi' : os.toArray[g.i]? = some o := by rw [V8] at hget; simpa using hget
      obtain ⟨hask, hop⟩ := howe vs bs (M0 ++ ((Jn ++ J) ++ C.A)) ((Jn ++ J) ++ C.A) w (fun x hx => by simp only [List.mem_append] at hx ⊢; rcases hx with h | h | h <;> simp [h]) (fun x hx => by simp only [List.mem_append] at hx ⊢; rcases hx with h | h <;> simp [h]) (fun x hx => List.mem_append_right _ hx) (fun g' hg' hanc => hφ g' hg' (hin _ (List.mem_map_of_mem (f := Gc.i) hg') hanc))
      unfold wpOp
      simp only [hi']
      rw [if_pos (hask.wanted ha)]
      obtain ⟨R0, hp0, hq0⟩ := A3V (bs := bs) hi hc hg hiX hXs hsx
      have hpc : (A7n X bs G ++ M0).Perm (g.inp bs ++ (R0 ++ M0)) := by
        rw [← List.append_assoc]; exact List.Perm.append_right _ hp0
      have hcal := hw.callee hpc
      have hcal2 := St.less (A := M0 ++ ((Jn ++ J) ++ C.A)) hcal fun x hx => by
        simp only [List.mem_append] at hx ⊢
        rcases hx with h | h
        · exact .inl (.inr h)
        · exact .inr h
      refine .inl (Oper.wp_mono ?_ (hop _ a w ha hcal2.cx))
      rintro a' w' ⟨l', M', J', ha', hs', v, rfl, hφv⟩
      have hsz : w.heap.size ≤ w'.heap.size := hs'.size
      have hs2 := St.widen hcal.cx hs'
      have hb := hw.back hpc hs2.cx
      let bs' : Nat → Mem := fun k => if k = g.i then M' else bs k
      have hperm : (M' ++ (R0 ++ M0)).Perm (A7n (X ++ [g.i]) bs' G ++ M0) := by
        rw [← List.append_assoc]
        exact List.Perm.append_right _ (hq0 M')
      have hfr2 : St C (A7n (X ++ [g.i]) bs' G ++ M0) ((J' ++ Jn) ++ J) w' := (hb.perm hperm).drop (List.Sublist.refl _) fun x hx => by
        simp only [List.mem_append] at hx ⊢
        rcases hx with (h | h) | h <;> simp [h]
      refine ⟨fun _ b hb' hnk => hs'.frame b hb' fun hm => ?_, ?_⟩
      · obtain ⟨x, hx, e⟩ := List.mem_map.1 hm
        exact hnk (e ▸ hKi x hx)
      rw [← T5]
      have henv := A14 (N := C.N) (G := B3P G) (l := l) (vs := vs) (g := ⟨g.i, g.d, fun _ _ => True⟩) (a := a') (v := v) (List.mem_map_of_mem (f := fun g : Gc => (⟨g.i, g.d, fun _ _ => True⟩ : Gm)) hg) (by rw [B03]; exact hd) (by rw [B02]; exact hi) (by rw [A1s]; exact ha')
      rw [A1s] at henv
      refine ih (X ++ [g.i]) (fun k => if k = g.i then v else vs k) bs' (J' ++ Jn) a' w' ?_ ?_ (by simp; omega) ?_ ?_ ?_ ?_ henv hfr2 (Nat.le_trans hn hsz)
      · rw [List.nodup_append]; exact ⟨hnd, by simp, fun x hx y hy e => hiX (by simp at hy; subst hy; exact e ▸ hx)⟩
      · intro j hj
        rcases List.mem_append.1 hj with hj | hj
        · exact hX j hj
        · simp at hj; subst hj; exact hiG
      · rw [T5]; exact H8 hcl hir
      · intro g' hg' hm s hs
        rcases List.mem_append.1 hm with h | h
        · exact List.mem_append_left _ (hXs g' hg' h s hs)
        · have h2 : g' = g := A0o hi hg' hg (by simpa using h)
          subst h2
          exact List.mem_append_left _ (hsx s hs)
      · intro g' hg' hm
        by_cases e : g'.i = g.i
        · have : g' = g := A0o hi hg' hg e
          subst this
          simp only [if_true, bs']
          exact hmono g' hg' _ _ _ _ (fun x hx => by simp only [List.mem_append] at hx ⊢; rcases hx with h | (h | h) | h <;> simp [h]) hφv
        · simp only [e, if_false, bs']
          have hm' : g'.i ∈ X := by simpa [e] using hm
          exact hmono g' hg' _ _ _ _ (fun x hx => by simp only [List.mem_append] at hx ⊢; rcases hx with (h | h) | h <;> simp [h]) (hφ g' hg' hm')
      · intro g' hg' hk x hx
        by_cases e : g'.i = g.i
        · have : g' = g := A0o hi hg' hg e
          subst this
          simp only [if_true, bs'] at hx
          rcases hs'.own x.1 x.2 (by simp [hx]) with h6 | h6
          · obtain ⟨y, hy, e6⟩ := List.mem_map.1 h6
            exact e6 ▸ hKi y hy
          · exact hKn _ (Nat.le_trans hn h6)
        · simp only [e, if_false, bs'] at hx
          have hk' : g'.i ∈ X := by simpa [e] using hk
          exact hN g' hg' hk' x hx
theorem A0B (G0 Gq : List Gc) (M0 : Mem) (Lf : (Nat → Mem) → List Mem) (hKn : ∀ b, n0 ≤ b → K b) (hM : M.Perm (A0r (A1m (G0 ++ Gq)) M0)) (hK : ∀ m ∈ A1m (G0 ++ Gq), ∀ x ∈ m, K x.1) (hck : A7o os.toArray ((G0 ++ Gq).map fun g => (g.i, g.s)) = true) (hLf : ∀ bs, A9a (G0 ++ Gq) bs = Lf bs)
    (hmono : ∀ g ∈ G0 ++ Gq, A2K g.φ) (hd : ((G0 ++ Gq).map (·.d)).Nodup) (hi : ((G0 ++ Gq).map (·.i)).Nodup) (hdN : ∀ g ∈ G0 ++ Gq, g.d < C.N) (hs : Region.noSelect os.toArray = true) (hne : Gq.map (·.i) ≠ []) (hob0 : ∀ g ∈ G0, B05 C os l M0 J (G0 ++ Gq) g) (hoq0 : ∀ g ∈ Gq, B6R C os l J (G0 ++ Gq) g)
    (h : ∀ (vs : Nat → Value) (bs : Nat → Mem) Jn, (∀ g ∈ G0 ++ Gq, g.φ (vs g.i) (bs g.i) ((Jn ++ J) ++ C.A)) → (∀ g ∈ G0 ++ Gq, ∀ x ∈ bs g.i, K x.1) → XK C os Q K n0 nd plan (P5 (G0 ++ Gq) vs ++ l) (A0r (Lf bs) M0) (Jn ++ J)) : XK C os Q K n0 nd (A9t (Gq.map (·.i)) (G0.map (·.i)) ++ plan) l M J := by
  refine A69 hM ?_
  rw [A28]
  intro listed hcl hp a w ha hw hn
  obtain ⟨B, hok, hfr, hp2⟩ := B07 hne hp
  have hBcl : Q6 os.toArray B := by
    have : ∀ {A is B}, GOz os.toArray (Gq.map (·.i)) A is B → Q6 os.toArray A → Q6 os.toArray B := by
      intro A is B h
      induction h with
      | nil => exact id
      | cons hr _ _ ih => exact fun hc => ih (H8 hc hr)
    exact this hok hcl
  rw [← List.map_append] at hok
  have hlen : (A9t (Gq.map (·.i)) (G0.map (·.i)) ++ plan).length = (G0 ++ Gq).length + plan.length := by
    have h1 : ∀ qs : List Nat, (A3W qs).length = qs.length := by
      intro qs
      induction qs with
      | nil => rfl
      | cons q r ih => cases r with
        | nil => rfl
        | cons q' r => simp only [A3W, List.length_cons] at ih ⊢; rw [ih]
    have h2 : ∀ (qs is : List Nat), (A9t qs is).length = is.length + qs.length := by
      intro qs is
      induction is with
      | nil => simp [A9t, h1]
      | cons i r ih => simp only [A9t, List.length_cons, ih]; omega
    simp [h2]
  have hob : ∀ g ∈ G0 ++ Gq, g.i ∉ Gq.map (·.i) → B05 C os l M0 J (G0 ++ Gq) g := fun g hg hq => by
    rcases List.mem_append.1 hg with h1 | h1
    · exact hob0 g h1
    · exact absurd (List.mem_map_of_mem (f := Gc.i) h1) hq
  have hoq : ∀ g ∈ G0 ++ Gq, g.i ∈ Gq.map (·.i) → B6R C os l J (G0 ++ Gq) g := fun g hg hq => by
    obtain ⟨g', hg', e⟩ := List.mem_map.1 hq
    have := A0o hi (List.mem_append_right _ hg') hg e
    exact this ▸ hoq0 g' hg'
  rw [hlen]
  generalize Gq.map (·.i) = qs at *
  generalize G0 ++ Gq = G at *
  let vs : Nat → Value := fun k => match G.find? (fun g => g.i == k) with
    | some g => (a.tmps[g.d]?).getD undef
    | none => undef
  have hag : Ag C.N (P5 G vs ++ l) a := by
    refine ⟨ha.defers, ha.size, ?_⟩
    intro k u hk
    have key : ∀ G' : List Gc, (∀ g ∈ G', g ∈ G) → lk (P5 G' vs ++ l) k = some u → a.tmps[k]? = some u := by
      intro G'
      induction G' with
      | nil => intro _ h; exact ha.slot k u h
      | cons g G' ih =>
        intro hs h
        simp only [P5, List.map_cons, List.cons_append, lk] at h
        by_cases e : g.d = k
        · subst e
          simp at h
          have hf : G.find? (fun x => x.i == g.i) = some g := by
            have hgG := hs g List.mem_cons_self
            cases hq : G.find? (fun x => x.i == g.i) with
            | none => have := List.find?_eq_none.1 hq g hgG; simp at this
            | some x =>
              have h1 := List.find?_some hq
              have h2 := List.mem_of_find?_eq_some hq
              rw [A0o hi h2 hgG (by simpa using h1)]
          have hlt : g.d < a.tmps.size := by rw [ha.size]; exact hdN g (hs g List.mem_cons_self)
          rw [← h]
          show a.tmps[g.d]? = some (vs g.i)
          simp only [vs, hf, Array.getElem?_eq_getElem hlt, Option.getD_some]
        · simp only [Y9 e, cond_false] at h
          exact ih (fun x hx => hs x (List.mem_cons_of_mem _ hx)) h
    exact key G (fun _ h => h) hk
  refine B08 (n0 := n0) (K := K) hmono hd hi (A78 hck) hKn hK hs hdN hob hoq hok hfr (fun vs bs Jn a w hφ hN ha hw hn => h vs bs Jn hφ hN B hBcl hp2 a w ha (by rw [A28, ← hLf]; exact hw) hn) G.length [] vs (fun _ => []) [] a w .nil (fun _ h => by cases h) (by simp) hcl (fun _ _ h => by cases h) (fun _ _ h => by cases h) (fun _ _ h => by cases h) hag (by rw [A79]; exact hw) hn
end group
end Go.Px

namespace Go.Proofs.YtlilcmjbaknafaaGreatDoor
open Go.Px
def rtN0 (x : Nat) : Option Nat := if rt1 x * rt1 x % p25 = x then some (rt1 x) else if rt2 x * rt2 x % p25 = x then some (rt2 x) else none
theorem B8X (x : Nat) : ∃ y, y = rtN0 x := ⟨_, rfl⟩
noncomputable def rtN (x : Nat) : Option Nat := Classical.choose (B8X x)
noncomputable def xxN (y : Nat) : Nat := fM (fS (fM y y) 1) (fI (fA (fM dN (fM y y)) 1))
def atO (o : Option Nat) (odd : Bool) : Option Nat := match o with
  | none => none
  | some x => if odd && decide (x = 0) then none else some (if !(decide (x % 2 = 1) == odd) then fN x else x)
noncomputable def atN (y : Nat) (odd : Bool) : Option Nat := atO (rtN (xxN y)) odd
def pZ : Pt := ⟨0, 0, 0, 0⟩
def pAt (x y : Nat) : Pt := ⟨x, y, 1, fM x y⟩
def AtR (r : Value) (y : Nat) (odd : Bool) : Prop := ∃ V b, r = .tuple #[V, .bool b] ∧ ((∃ x, atN y odd = some x ∧ b = true ∧ FeP V (pAt x y)) ∨ (atN y odd = none ∧ b = false ∧ FeP V pZ))
def s45 : Nat := 46316835694926478169428394003475163141307993866256225615783033603165251855960
def bxN : Nat := 15112221349535400772501151409588531511454012693041857206046113283949847762202
def pS : Pt := pAt bxN s45
def rtK (x : Nat) : Option Nat := if pm p25 256 x (2 ^ 252 - 2) 1 * pm p25 256 x (2 ^ 252 - 2) 1 % p25 = x then some (pm p25 256 x (2 ^ 252 - 2) 1) else if (pm p25 256 x (2 ^ 252 - 2) 1 * pm p25 256 2 (2 ^ 253 - 5) 1 % p25) * (pm p25 256 x (2 ^ 252 - 2) 1 * pm p25 256 2 (2 ^ 253 - 5) 1 % p25) % p25 = x then some (pm p25 256 x (2 ^ 252 - 2) 1 * pm p25 256 2 (2 ^ 253 - 5) 1 % p25) else none
end Go.Proofs.YtlilcmjbaknafaaGreatDoor
namespace Go.Px
theorem B3Q {P : Program} {R : Mem} {l : Env} {d : Option Nat} {ty : TypeId} {pos : String} {af : Array Edge} {g : Option (Nat × Bool)} {fn : Fn} {xs : List Operand} {vs : List Value} (hx : Evs l xs vs) :
    OpQ P R ⟨d, .makeFunc fn #[] xs.toArray, ty, pos, af, g⟩ l (.func fn #[] vs.toArray) := fun N a w ha hw => by
  have e : xs.toArray.map a.eval = vs.toArray := by simp [hx.map ha]
  simp only [execOp, e]
  simp [Instr.makeFunc]
section call
variable {C : Cx} {l : Env} {M J : Mem} {K : Env → Mem → Mem → Prop} {d : Nat} {ty : TypeId} {pos : String} {af : Array Edge} {g : Option (Nat × Bool)} {x : Operand} {f : FuncId} {xs : List Operand} {vs cs : List Value} {ts : Array TypeId}
theorem B6S {Mc R : Mem} {post : Value → Mem → Mem → Prop} (h0 : ev l x = some (.func (.func f) #[] cs.toArray)) (hx : Evs l xs vs) (hc : L4 C.P f = true)
    (hM : M.Perm (Mc ++ R)) (hf : FnX C.P f (vs ++ cs) Mc (R ++ (J ++ C.A)) post) (hd : Nat.blt d C.N = true) (k : ∀ v M' J', post v M' J' → K ((d, v) :: l) (M' ++ R) (J' ++ J)) :
    OpL C ⟨some d, .call { callee := .value x, args := xs.toArray, argTypes := ts }, ty, pos, af, g⟩ l M J K := by
  intro Qp a w ha hw
  have hrun : (execOp a.eval ⟨some d, .call { callee := .value x, args := xs.toArray, argTypes := ts }, ty, pos, af, g⟩).run C.P w = .ok (.enter f (vs ++ cs).toArray) w := by
    have e : xs.toArray.map a.eval = vs.toArray := by simp [hx.map ha]
    simp only [execOp, resolve, e, Sem.run_bind, ha.ev h0]
    simp [Deferred.ofValue, invoke, A7E hc]
  unfold Oper.wp
  rw [hrun]
  refine Calls.mono (hf w (hw.callee hM)) ?_
  rintro e w' ⟨v, M', J', rfl, hp, hs⟩
  exact ⟨_, _, _, ha.put (C5 hd) v, hw.back hM hs, k v M' J' hp⟩
theorem A5F {v : Value} (h0 : ev l x = some (.func (.func f) #[] cs.toArray)) (hx : Evs l xs vs) (hc : L4 C.P f = true) (hf : FnV C.P f (vs ++ cs) (M ++ (J ++ C.A)) v) (hd : Nat.blt d C.N = true) (k : K ((d, v) :: l) M J) :
    OpL C ⟨some d, .call { callee := .value x, args := xs.toArray, argTypes := ts }, ty, pos, af, g⟩ l M J K :=
  B6S (Mc := []) (R := M) h0 hx hc (.refl _) hf hd fun r M' J' ⟨e, h1, h2⟩ => by subst e; subst h1; subst h2; exact k
end call
def B5g (p : Nat → Bool) (n : Nat) : Int := match (List.range n).find? p with
  | some i => (i : Int)
  | none => -1
theorem A6H {p : Nat → Bool} {n i : Nat} (hi : i < n) (h0 : ∀ j, j < i → p j = false) (h : p i = true) : B5g p n = (i : Int) := by
  unfold B5g
  have : (List.range n).find? p = some i := by
    rw [List.find?_range_eq_some]
    exact ⟨h, List.mem_range.2 hi, fun j hj => by rw [h0 j hj]; rfl⟩
  rw [this]
theorem A6I {p : Nat → Bool} {n : Nat} (h0 : ∀ j, j < n → p j = false) : B5g p n = -1 := by
  unfold B5g
  have : (List.range n).find? p = none := by
    rw [List.find?_eq_none]
    intro j hj
    rw [h0 j (List.mem_range.1 hj)]; decide
  rw [this]
theorem A9b (p : Nat → Bool) (n : Nat) : (B5g p n = -1 ∧ ∀ j, j < n → p j = false) ∨ ∃ i, i < n ∧ B5g p n = (i : Int) ∧ p i = true ∧ ∀ j, j < i → p j = false := by
  cases h : (List.range n).find? p with
  | none =>
    have h1 : ∀ j, j < n → p j = false := fun j hj => by
      have := List.find?_eq_none.1 h j (List.mem_range.2 hj)
      simpa using this
    exact .inl ⟨A6I h1, h1⟩
  | some i =>
    obtain ⟨h1, h2, h3⟩ := List.find?_range_eq_some.1 h
    have h4 : ∀ j, j < i → p j = false := fun j hj => by simpa using h3 j hj
    exact .inr ⟨i, List.mem_range.1 h2, A6H (List.mem_range.1 h2) h4 h1, h1, h4⟩
structure RowT {α : Type} (sz : Nat) (φ : Mem → α → List Value → Prop) : Prop where
  mono : ∀ R R' x r, (∀ q, q ∈ R → q ∈ R') → φ R x r → φ R' x r
  len : ∀ R x r, φ R x r → r.length = sz
  one : ∀ R x r, φ R x r → ∀ c ∈ r, c.oneCell' = true
structure RwL {α : Type} (φ : Mem → α → List Value → Prop) (R : Mem) (rows : List (List Value)) (xs : List α) : Prop where
  len : rows.length = xs.length
  get : ∀ (j : Nat) (x : α), xs[j]? = some x → ∃ r, rows[j]? = some r ∧ φ R x r
section rows
variable {α : Type} {sz : Nat} {φ : Mem → α → List Value → Prop} {R R' : Mem} {rows : List (List Value)} {xs : List α} {x : α} {r : List Value}
theorem RwL.mono (hφ : RowT sz φ) (h : RwL φ R rows xs) (hR : ∀ q, q ∈ R → q ∈ R') : RwL φ R' rows xs := ⟨h.len, fun j x hj => by
  obtain ⟨r, h1, h2⟩ := h.get j x hj
  exact ⟨r, h1, hφ.mono _ _ _ _ hR h2⟩⟩
theorem RwL.nil : RwL φ R [] [] := ⟨rfl, fun j x h => by simp at h⟩
theorem RwL.of (h : RwL φ R rows xs) {j : Nat} (hr : rows[j]? = some r) : ∃ x, xs[j]? = some x ∧ φ R x r := by
  have hj : j < xs.length := by rw [← h.len]; exact (List.getElem?_eq_some_iff.1 hr).1
  obtain ⟨r', h1, h2⟩ := h.get j xs[j] (List.getElem?_eq_getElem hj)
  rw [hr] at h1
  cases h1
  exact ⟨_, List.getElem?_eq_getElem hj, h2⟩
theorem RwL.lens (hφ : RowT sz φ) (h : RwL φ R rows xs) : ∀ r ∈ rows, r.length = sz := by
  intro r hr
  obtain ⟨j, hj⟩ := List.getElem?_of_mem hr
  obtain ⟨x, _, h2⟩ := h.of hj
  exact hφ.len _ _ _ h2
theorem RwL.ones (hφ : RowT sz φ) (h : RwL φ R rows xs) : ∀ c ∈ rows.flatten, c.oneCell' = true := by
  intro c hc
  obtain ⟨r, hr, hc⟩ := List.mem_flatten.1 hc
  obtain ⟨j, hj⟩ := List.getElem?_of_mem hr
  obtain ⟨x, _, h2⟩ := h.of hj
  exact hφ.one _ _ _ h2 c hc
theorem RwL.snoc (h : RwL φ R rows xs) (hx : φ R x r) : RwL φ R (rows ++ [r]) (xs ++ [x]) := ⟨by simp [h.len], fun j y hj => by
  by_cases hlt : j < xs.length
  · rw [List.getElem?_append_left hlt] at hj
    obtain ⟨r', h1, h2⟩ := h.get j y hj
    exact ⟨r', by rw [List.getElem?_append_left (List.getElem?_eq_some_iff.1 h1).1]; exact h1, h2⟩
  · rw [List.getElem?_append_right (by omega)] at hj
    have hj0 : j = xs.length := by
      have := (List.getElem?_eq_some_iff.1 hj).1
      simp at this; omega
    subst hj0
    simp at hj
    subst hj
    exact ⟨r, by rw [List.getElem?_append_right (by rw [h.len]; omega), h.len]; simp, hx⟩⟩
theorem RwL.app {rows' : List (List Value)} {xs' : List α} (h : RwL φ R rows xs) (h' : RwL φ R rows' xs') : RwL φ R (rows ++ rows') (xs ++ xs') := ⟨by simp [h.len, h'.len], fun j y hj => by
  by_cases hlt : j < xs.length
  · rw [List.getElem?_append_left hlt] at hj
    obtain ⟨r', h1, h2⟩ := h.get j y hj
    exact ⟨r', by rw [List.getElem?_append_left (List.getElem?_eq_some_iff.1 h1).1]; exact h1, h2⟩
  · rw [List.getElem?_append_right (by omega)] at hj
    obtain ⟨r', h1, h2⟩ := h'.get _ y hj
    exact ⟨r', by rw [List.getElem?_append_right (by rw [h.len]; omega), h.len]; exact h1, h2⟩⟩
theorem RwL.cons (hx : φ R x r) (h : RwL φ R rows xs) : RwL φ R (r :: rows) (x :: xs) := ⟨by simp [h.len], fun j y hj => by
  cases j with
  | zero => simp at hj; subst hj; exact ⟨r, rfl, hx⟩
  | succ j => exact h.get j y hj⟩
theorem RwL.take (h : RwL φ R rows xs) (k : Nat) : RwL φ R (rows.take k) (xs.take k) := ⟨by simp [h.len], fun j y hj => by
  have hk : j < k := by
    rcases Nat.lt_or_ge j k with h | h
    · exact h
    · rw [List.getElem?_eq_none (by simp; omega)] at hj; cases hj
  rw [List.getElem?_take_of_lt hk] at hj ⊢
  exact h.get j y hj⟩
theorem RwL.drop (h : RwL φ R rows xs) (k : Nat) : RwL φ R (rows.drop k) (xs.drop k) := ⟨by simp [h.len], fun j y hj => by
  rw [List.getElem?_drop] at hj ⊢
  exact h.get _ y hj⟩
theorem RwL.erase (h : RwL φ R rows xs) (i : Nat) : RwL φ R (rows.take i ++ rows.drop (i + 1)) (xs.eraseIdx i) := by
  rw [List.eraseIdx_eq_take_drop_succ]
  exact (h.take i).app (h.drop (i + 1))
theorem A4W (hl : ∀ r ∈ rows, r.length = sz) (i : Nat) : rows.flatten.take (i * sz) ++ rows.flatten.drop ((i + 1) * sz) = (rows.take i ++ rows.drop (i + 1)).flatten := by
  rw [A9I hl, A3j hl, List.flatten_append]
end rows
def A0e {α : Type} (q : α → Bool) (xs : List α) : Int := B5g (fun j => (xs[j]?.map q).getD false) xs.length
theorem Q8 {α : Type} (q : α → Bool) (xs : List α) : (A0e q xs = -1 ∧ ∀ x ∈ xs, q x = false) ∨ ∃ (i : Nat) (x : α), A0e q xs = (i : Int) ∧ xs[i]? = some x ∧ q x = true ∧ ∀ (j : Nat) (y : α), j < i → xs[j]? = some y → q y = false := by
  rcases A9b (fun j => (xs[j]?.map q).getD false) xs.length with ⟨h1, h2⟩ | ⟨i, h1, h2, h3, h4⟩
  · refine .inl ⟨h1, fun x hx => ?_⟩
    obtain ⟨j, hj⟩ := List.getElem?_of_mem hx
    have := h2 j (List.getElem?_eq_some_iff.1 hj).1
    rw [hj] at this
    exact this
  · refine .inr ⟨i, xs[i], h2, List.getElem?_eq_getElem h1, ?_, fun j y hj hy => ?_⟩
    · rw [List.getElem?_eq_getElem h1] at h3
      exact h3
    · have := h4 j hj
      rw [hy] at this
      exact this
end Go.Px

namespace Go.Px
def mkB (P : Program) (t : TypeId) : Option (TypeId × Nat) :=
  match P.underlying t with
  | some (.slice e) => match P.info? e with
    | some i => match i.zero with
      | some (.bool false) => if i.size = 1 then some (e, i.bytes) else none
      | _ => none
    | none => none
  | _ => none
def B8Y (h : List Bool) : List Value := h.map .bool
@[simp] theorem bools_len (h : List Bool) : (B8Y h).length = h.length := by simp [B8Y]
def appB (P : Program) (t tn : TypeId) : Option (TypeId × Nat) :=
  match P.underlying tn with
  | some (.int _) => mkB P t
  | _ => none
section zb
variable {C : Cx} {l : Env} {M J : Mem} {K : Env → Mem → Mem → Prop} {d : Nat} {ty t tn e : TypeId} {pos : String} {af : Array Edge} {g : Option (Nat × Bool)} {x y : Operand}
end zb
section call
variable {C : Cx} {l : Env} {M J : Mem} {K : Env → Mem → Mem → Prop} {d : Nat} {ty : TypeId} {pos : String} {af : Array Edge} {g : Option (Nat × Bool)} {x : Operand} {f : FuncId} {xs : List Operand} {us vs cs : List Value} {ts : Array TypeId}
end call
end Go.Px

namespace Go.Proofs.YtlilcmjbaknafaaGreatDoor
open Go.Px
def pSt (P : Pt) (n i : Nat) (Q : Pt) : Pt := if n / 2 ^ i % 2 = 1 then A89 d2N (A89 d2N Q Q) P else A89 d2N Q Q
def itr (f : Nat → Pt → Pt) (z : Pt) : Nat → Pt
  | 0 => z
  | k + 1 => f k (itr f z k)
theorem B3R (f : Nat → Pt → Pt) (z : Pt) (k : Nat) : itr f z (k + 1) = f k (itr f z k) := rfl
def pTk (P : Pt) (n : Nat) (k : Nat) : Pt := itr (fun k Q => pSt P n (255 - k) Q) pO k
theorem A8c (P : Pt) (n k : Nat) : pTk P n (k + 1) = pSt P n (255 - k) (pTk P n k) := B3R _ _ _
def A2O (P : Pt) (n : Nat) : Pt := pTk P n 256
theorem B09 {P Q : Pt} {n i : Nat} (h : n / 2 ^ i % 2 = 1) : pSt P n i Q = A89 d2N (A89 d2N Q Q) P := if_pos h
theorem B1a {P Q : Pt} {n i : Nat} (h : ¬ n / 2 ^ i % 2 = 1) : pSt P n i Q = A89 d2N Q Q := if_neg h
theorem tk1 {i : Nat} (h : i < 256) : 256 - i = (256 - (i + 1)) + 1 := by omega
theorem tk2 {i : Nat} (h : i < 256) : 255 - (256 - (i + 1)) = i := by omega
theorem tk3 {P : Pt} {n i : Nat} (h : i < 256) : pTk P n (256 - i) = pTk P n ((256 - (i + 1)) + 1) := congrArg (pTk P n) (tk1 h)
theorem tk4 {P : Pt} {n i : Nat} : pTk P n ((256 - (i + 1)) + 1) = pSt P n (255 - (256 - (i + 1))) (pTk P n (256 - (i + 1))) := A8c P n _
theorem tk5 {P : Pt} {n i : Nat} (h : i < 256) : pSt P n (255 - (256 - (i + 1))) (pTk P n (256 - (i + 1))) = pSt P n i (pTk P n (256 - (i + 1))) := congrArg (fun j => pSt P n j (pTk P n (256 - (i + 1)))) (tk2 h)
theorem B3S {P : Pt} {n i : Nat} (h : i < 256) : pTk P n (256 - i) = pSt P n i (pTk P n (256 - (i + 1))) := (tk3 h).trans (tk4.trans (tk5 h))
noncomputable def pB (P : Pt) : LN :=
  if fM P.X (fI P.Z) % 2 = 1 then (A1l 8 32 (fM P.Y (fI P.Z)) 255).set 31 ((A1l 8 32 (fM P.Y (fI P.Z)) 255).getD 31 0 ||| 128) else A1l 8 32 (fM P.Y (fI P.Z)) 255
theorem B1b {k : IntKind} {a b : LN} (h : nums k a = nums k b) : a = b := by
  unfold nums at h
  induction a generalizing b with
  | nil => cases b with
    | nil => rfl
    | cons y b => simp at h
  | cons x a ih => cases b with
    | nil => simp at h
    | cons y b =>
      simp only [List.map_cons, List.cons.injEq, Value.int.injEq, true_and] at h
      rw [ih h.2, Int.ofNat.inj h.1]

end Go.Proofs.YtlilcmjbaknafaaGreatDoor
namespace Go.Px
open Go Go.ChangeShapes Go.WideShapes Go.RowKit
section results
variable {P : Program} {fn : Func} {l : Env} {R : Mem}
theorem C0u {t0 t1 t2 t3 b0 b1 b2 b3 n : Nat} {ty : TypeId} {c0 c1 c2 c3 : List Value} {e0 e1 e2 e3 : TypeId} {f0 f1 f2 f3 : Nat × Nat} (h : fn.results = #[.cell t0 ty, .cell t1 ty, .cell t2 ty, .cell t3 ty])
    (h0 : lk l t0 = some (.pointer (some ⟨b0, 0, none⟩))) (h1 : lk l t1 = some (.pointer (some ⟨b1, 0, none⟩))) (h2 : lk l t2 = some (.pointer (some ⟨b2, 0, none⟩))) (h3 : lk l t3 = some (.pointer (some ⟨b3, 0, none⟩))) (ht : A6W P ty = some n)
    (m0 : (b0, Obj.cells c0.toArray e0 f0) ∈ R) (m1 : (b1, Obj.cells c1.toArray e1 f1) ∈ R) (m2 : (b2, Obj.cells c2.toArray e2 f2) ∈ R) (m3 : (b3, Obj.cells c3.toArray e3 f3) ∈ R) (n0 : c0.length = n) (n1 : c1.length = n) (n2 : c2.length = n) (n3 : c3.length = n) : Res P fn l R (.tuple #[.agg c0.toArray, .agg c1.toArray, .agg c2.toArray, .agg c3.toArray]) := fun N a w ha hw => by
  obtain ⟨dsc, g1, g2, g3⟩ := W5 ht
  have hk : ∀ (b : Nat) (cs : List Value) (e : TypeId) (fr : Nat × Nat), (b, Obj.cells cs.toArray e fr) ∈ R → cs.length = n → _ := fun b cs e fr hb hn => run_loadVar_row (P := P) w b e ty cs.toArray fr dsc (hw b _ hb) g1 (by cases dsc <;> simp_all [TypeDesc.isRow]) (by rw [g3, ← hn]; simp)
  have k0 := hk _ _ _ _ m0 n0
  have k1 := hk _ _ _ _ m1 n1
  have k2 := hk _ _ _ _ m2 n2
  have k3 := hk _ _ _ _ m3 n3
  simp [results, h, ha.slot t0 _ h0, ha.slot t1 _ h1, ha.slot t2 _ h2, ha.slot t3 _ h3, asAddr, k0, k1, k2, k3]
end results
end Go.Px

namespace Go.Px
def digs (x n : Nat) : List Nat := (List.range n).map fun i => x / 256 ^ i % 256
def wrds (x n : Nat) : List Nat := (List.range n).map fun i => x / xp i % 4294967296
end Go.Px

namespace Go.Proofs.YtlilcmjbaknafaaGreatDoor
open Go.Px
def ordW : LN := [1559614445, 1477600026, 2734136534, 350157278, 0, 0, 0, 268435456]
def lN : Nat := 7237005577332262213973186563042994240857116359379907606001950938285454250989
def Sc (v : Value) (n : Nat) : Prop := ∃ ws, v = .agg (nums .u32 ws).toArray ∧ ws.length = 8 ∧ w32 ws ∧ nv ws = n
def tmN (X Y i : Nat) : Nat := X / 2 ^ i * Y % lN
end Go.Proofs.YtlilcmjbaknafaaGreatDoor
