/-
  Groups of operations of a drawn region that come up in any order; each makes new blocks alone, which stay owned behind it.
-/
import Derived.Test.YthmnlkpikgglbaaGreatDoorGrp
set_option linter.unusedVariables false
set_option linter.unusedSimpArgs false
namespace Go.Px
structure Gw where
  i : Nat
  d : Nat
  φ : Value → Mem → Mem → Prop
def gEnvO (G : List Gw) (vs : Nat → Value) : Env := G.map fun g => (g.d, vs g.i)
def GrowsO (φ : Value → Mem → Mem → Prop) : Prop := ∀ v B R R', (∀ x ∈ R, x ∈ R') → φ v B R → φ v B R'
def toG (G : List Gw) : List Gm := G.map fun g => ⟨g.i, g.d, fun _ _ => True⟩
theorem toG_i (G : List Gw) : (toG G).map (·.i) = G.map (·.i) := by simp [toG]
theorem toG_d (G : List Gw) : (toG G).map (·.d) = G.map (·.d) := by simp [toG]
theorem toG_env (G : List Gw) (vs : Nat → Value) : gEnv (toG G) vs = gEnvO G vs := by simp [gEnv, gEnvO, toG]
theorem gw_inj {G : List Gw} (h : (G.map (·.i)).Nodup) {g g' : Gw} (hg : g ∈ G) (hg' : g' ∈ G) (e : g.i = g'.i) : g = g' := by
  induction G with
  | nil => cases hg
  | cons x G ih =>
    simp only [List.map_cons, List.nodup_cons] at h
    rcases List.mem_cons.1 hg with h1 | h1 <;> rcases List.mem_cons.1 hg' with h2 | h2
    · rw [h1, h2]
    · exact absurd (by rw [← h1, e]; exact List.mem_map_of_mem (f := Gw.i) h2) h.1
    · exact absurd (by rw [← h2, ← e]; exact List.mem_map_of_mem (f := Gw.i) h1) h.1
    · exact ih h.2 h1 h2
theorem perm_of_nodup {X : List Nat} : ∀ {Y : List Nat}, X.Nodup → Y.Nodup → (∀ x, x ∈ X ↔ x ∈ Y) → X.Perm Y := by
  induction X with
  | nil =>
    intro Y _ _ h
    cases Y with
    | nil => exact .refl _
    | cons y Y => exact absurd ((h y).2 List.mem_cons_self) (by simp)
  | cons x X ih =>
    intro Y hX hY h
    simp only [List.nodup_cons] at hX
    have hx : x ∈ Y := (h x).1 List.mem_cons_self
    refine List.Perm.trans (List.Perm.cons x (ih hX.2 (hY.erase x) fun z => ?_)) (List.perm_cons_erase hx).symm
    constructor
    · intro hz
      exact (List.mem_erase_of_ne (fun e : z = x => hX.1 (by rw [← e]; exact hz))).2 ((h z).1 (List.mem_cons_of_mem _ hz))
    · intro hz
      have hne : z ≠ x := fun e => by rw [e] at hz; exact (List.Nodup.not_mem_erase hY) hz
      rcases List.mem_cons.1 ((h z).2 (List.mem_of_mem_erase hz)) with e | hm
      · exact absurd e hne
      · exact hm
section group
variable {C : Cx} {Q : XQ} {l : Env} {M J : Mem} {os : List Oper} {K : Nat → Prop} {n0 : Nat} {nd : List Nat} {plan : List (Nat × Nat)}
def ownOf (X : List Nat) (bs : Nat → Mem) : Mem := (X.map bs).flatten
def OwesO (C : Cx) (os : List Oper) (l : Env) (M J : Mem) (G : List Gw) (g : Gw) : Prop :=
  ∃ o, nth os g.i = some o ∧ ∀ (vs : Nat → Value) (bs : Nat → Mem) (R : Mem) (w : World), (∀ x ∈ M ++ (J ++ C.A), x ∈ R) → (∀ g' ∈ G, anc os.toArray os.toArray.size g.i g'.i = true → g'.φ (vs g'.i) (bs g'.i) R) →
    Asked os (gEnvO G vs ++ l) o ∧ OpL ⟨C.P, w, [], R, C.N⟩ o (gEnvO G vs ++ l) [] [] (fun l' M' J' => ∃ v, l' = (g.d, v) :: (gEnvO G vs ++ l) ∧ g.φ v M' (M' ++ (J' ++ R)))
theorem groupO_go {G : List Gw} (hmono : ∀ g ∈ G, GrowsO g.φ) (hd : (G.map (·.d)).Nodup) (hi : (G.map (·.i)).Nodup) (hob : ∀ g ∈ G, OwesO C os l M J G g) {A B : Array Bool} (hok : GOk os.toArray A (G.map (·.i)) B)
    (hfin : ∀ (vs : Nat → Value) (bs : Nat → Mem) Jn a w, (∀ g ∈ G, g.φ (vs g.i) (bs g.i) ((ownOf (G.map (·.i)) bs ++ M) ++ ((Jn ++ J) ++ C.A))) → Ag C.N (gEnvO G vs ++ l) a → St C (ownOf (G.map (·.i)) bs ++ M) (Jn ++ J) w → n0 ≤ w.heap.size → wpAnyS C.P os.toArray (noPanicX (lift C Q)) (Sk K) nd.contains plan.length B a w) :
    ∀ (n : Nat) (X : List Nat) (vs : Nat → Value) (bs : Nat → Mem) (Jn : Mem) (a : Act) (w : World), X.Nodup → (∀ i ∈ X, i ∈ G.map (·.i)) → n + X.length = G.length → Closed os.toArray (mark A X) →
      (∀ g ∈ G, g.i ∈ X → g.φ (vs g.i) (bs g.i) ((ownOf X bs ++ M) ++ ((Jn ++ J) ++ C.A))) → Ag C.N (gEnvO G vs ++ l) a → St C (ownOf X bs ++ M) (Jn ++ J) w → n0 ≤ w.heap.size →
      wpAnyS C.P os.toArray (noPanicX (lift C Q)) (Sk K) nd.contains (n + plan.length) (mark A X) a w := by
  intro n
  induction n with
  | zero =>
    intro X vs bs Jn a w hnd hX hlen hcl hφ ha hw hn
    have hall : ∀ i, i ∈ X ↔ i ∈ G.map (·.i) := fun i => ⟨hX i, nodup_all hnd hX (by simp; omega) i⟩
    have hperm : (ownOf X bs ++ M).Perm (ownOf (G.map (·.i)) bs ++ M) := List.Perm.append_right _ (List.Perm.flatten ((perm_of_nodup hnd hi hall).map bs))
    rw [Nat.zero_add, mark_eq hall, ← hok.mark]
    refine hfin vs bs Jn a w (fun g hg => hmono g hg _ _ _ _ (fun x hx => ?_) (hφ g hg ((hall _).2 (List.mem_map_of_mem (f := Gw.i) hg)))) ha (hw.perm hperm) hn
    rcases List.mem_append.1 hx with h | h
    · exact List.mem_append_left _ (hperm.mem_iff.1 h)
    · exact List.mem_append_right _ h
  | succ n ih =>
    intro X vs bs Jn a w hnd hX hlen hcl hφ ha hw hn
    have hmiss : ∃ k ∈ G.map (·.i), k ∉ X := by
      apply Classical.byContradiction
      intro hno
      have hs : ∀ k ∈ G.map (·.i), k ∈ X := fun k hk => Classical.byContradiction fun h => hno ⟨k, hk, h⟩
      have := nodup_le hi hs
      simp at this; omega
    obtain ⟨k, hkG, hkX⟩ := hmiss
    have hun : ∀ i ∈ G.map (·.i), A.getD i true = false := by
      have : ∀ {is A B}, GOk os.toArray A is B → ∀ i ∈ is, A.getD i true = false := by
        intro is A B h
        induction h with
        | nil => intro i hi; cases hi
        | @cons A B i r hr ho h ih =>
          intro k hk
          rcases List.mem_cons.1 hk with rfl | hk
          · exact ready_un hr
          · have h2 := ih k hk
            by_cases e : i = k
            · subst e; exact ready_un hr
            · rwa [getD_set_ne true e] at h2
      exact this hok
    have hkun : (mark A X).getD k true = false := mark_getD_f.2 ⟨hun k hkG, fun h => hkX h.1⟩
    rw [show n + 1 + plan.length = (n + plan.length) + 1 by omega]
    refine ⟨fun h0 => ?_, fun i hir => ?_⟩
    · obtain ⟨i, hir⟩ := hok.first (mark_size A X) (fun j hj => mark_mono hj) hkG hkun
      rw [h0] at hir; cases hir
    · have hiG : i ∈ G.map (·.i) := by
        apply Classical.byContradiction
        intro hno
        have h1 := mark_getD_f.1 (ready_un hir)
        have h2 := hok.outer k hkG i (ready_lt hir) h1.1 hno
        exact not_both hkun (anc_ready hcl h2 hir)
      obtain ⟨g, hg, rfl⟩ := List.mem_map.1 hiG
      have hiX : g.i ∉ X := fun h => (mark_getD_f.1 (ready_un hir)).2 ⟨h, getD_f_lt (hun _ hiG)⟩
      obtain ⟨o, hget, howe⟩ := hob g hg
      have hi' : os.toArray[g.i]? = some o := by rw [nth_eq] at hget; simpa using hget
      obtain ⟨hask, hop⟩ := howe vs bs ((ownOf X bs ++ M) ++ ((Jn ++ J) ++ C.A)) w (fun x hx => by simp only [List.mem_append] at hx ⊢; rcases hx with h | h | h <;> simp [h]) (fun g' hg' hanc => hφ g' hg' (by
        have h3 := anc_ready hcl hanc hir
        rcases mark_getD_t h3 with h4 | h4
        · exact (not_both (hun _ (List.mem_map_of_mem (f := Gw.i) hg')) h4).elim
        · exact h4))
      unfold wpOp
      simp only [hi']
      rw [if_pos (hask.wanted ha)]
      have hcal := hw.callee (Mc := []) (R := ownOf X bs ++ M) (.refl _)
      refine .inl (Oper.wp_mono ?_ (hop _ a w ha hcal.cx))
      rintro a' w' ⟨l', M', J', ha', hs', v, rfl, hφv⟩
      have hsz : w.heap.size ≤ w'.heap.size := hs'.size
      have hb := hw.back (Mc := []) (R := ownOf X bs ++ M) (.refl _) hs'.cx
      let bs' : Nat → Mem := fun k => if k = g.i then M' else bs k
      have hown : ownOf (X ++ [g.i]) bs' = ownOf X bs ++ M' := by
        have e1 : X.map bs' = X.map bs := List.map_congr_left fun x hx => by
          have : x ≠ g.i := fun e => hiX (e ▸ hx)
          simp [bs', this]
        simp [ownOf, List.map_append, e1, bs']
      have hperm : (M' ++ (ownOf X bs ++ M)).Perm (ownOf (X ++ [g.i]) bs' ++ M) := by
        rw [hown, ← List.append_assoc]
        exact List.Perm.append_right _ List.perm_append_comm
      have hfr2 : St C (ownOf (X ++ [g.i]) bs' ++ M) ((J' ++ Jn) ++ J) w' := (hb.perm hperm).drop (List.Sublist.refl _) fun x hx => by
        simp only [List.mem_append] at hx ⊢
        rcases hx with (h | h) | h <;> simp [h]
      refine ⟨fun _ b hb' hnk => hs'.frame b hb' (by simp), ?_⟩
      rw [← mark_snoc]
      have henv := gEnv_set (N := C.N) (G := toG G) (l := l) (vs := vs) (g := ⟨g.i, g.d, fun _ _ => True⟩) (a := a') (v := v) (List.mem_map_of_mem (f := fun g : Gw => (⟨g.i, g.d, fun _ _ => True⟩ : Gm)) hg) (by rw [toG_d]; exact hd) (by rw [toG_i]; exact hi) (by rw [toG_env]; exact ha')
      rw [toG_env] at henv
      refine ih (X ++ [g.i]) (fun k => if k = g.i then v else vs k) bs' (J' ++ Jn) a' w' ?_ ?_ (by simp; omega) ?_ ?_ henv hfr2 (Nat.le_trans hn hsz)
      · rw [List.nodup_append]; exact ⟨hnd, by simp, fun x hx y hy e => hiX (by simp at hy; subst hy; exact e ▸ hx)⟩
      · intro j hj
        rcases List.mem_append.1 hj with hj | hj
        · exact hX j hj
        · simp at hj; subst hj; exact hiG
      · rw [mark_snoc]; exact closed_set hcl hir
      · intro g' hg' hm
        rw [hown]
        by_cases e : g'.i = g.i
        · have : g' = g := gw_inj hi hg' hg e
          subst this
          simp only [if_true, bs']
          exact hmono g' hg' _ _ _ _ (fun x hx => by simp only [List.mem_append] at hx ⊢; rcases hx with h | h | (h | h) | (h | h) | h <;> simp [h]) hφv
        · simp only [e, if_false, bs']
          have hm' : g'.i ∈ X := by simpa [e] using hm
          exact hmono g' hg' _ _ _ _ (fun x hx => by simp only [List.mem_append] at hx ⊢; rcases hx with (h | h) | (h | h) | h <;> simp [h]) (hφ g' hg' hm')
theorem XK.groupO (G : List Gw) (hmono : ∀ g ∈ G, GrowsO g.φ) (hd : (G.map (·.d)).Nodup) (hi : (G.map (·.i)).Nodup) (hdN : ∀ g ∈ G, g.d < C.N) (hob : ∀ g ∈ G, OwesO C os l M J G g)
    (h : ∀ (vs : Nat → Value) (bs : Nat → Mem) Jn, (∀ g ∈ G, g.φ (vs g.i) (bs g.i) ((ownOf (G.map (·.i)) bs ++ M) ++ ((Jn ++ J) ++ C.A))) → XK C os Q K n0 nd plan (gEnvO G vs ++ l) (ownOf (G.map (·.i)) bs ++ M) (Jn ++ J)) : XK C os Q K n0 nd (enc (G.map (·.i)) ++ plan) l M J := by
  intro listed hcl hp a w ha hw hn
  obtain ⟨B, hok, hp2⟩ := enc_ok hp
  have hBcl : Closed os.toArray B := by
    have : ∀ {A is B}, GOk os.toArray A is B → Closed os.toArray A → Closed os.toArray B := by
      intro A is B h
      induction h with
      | nil => exact id
      | cons hr _ _ ih => exact fun hc => ih (closed_set hc hr)
    exact this hok hcl
  have hlen : (enc (G.map (·.i)) ++ plan).length = G.length + plan.length := by
    have : ∀ is : List Nat, (enc is).length = is.length := by
      intro is
      induction is with
      | nil => rfl
      | cons i r ih => cases r with
        | nil => rfl
        | cons j r => simp only [enc, List.length_cons] at ih ⊢; rw [ih]
    simp [this]
  rw [hlen]
  let vs : Nat → Value := fun k => match G.find? (fun g => g.i == k) with
    | some g => (a.tmps[g.d]?).getD undef
    | none => undef
  have hag : Ag C.N (gEnvO G vs ++ l) a := by
    refine ⟨ha.defers, ha.size, ?_⟩
    intro k u hk
    have key : ∀ G' : List Gw, (∀ g ∈ G', g ∈ G) → lk (gEnvO G' vs ++ l) k = some u → a.tmps[k]? = some u := by
      intro G'
      induction G' with
      | nil => intro _ h; exact ha.slot k u h
      | cons g G' ih =>
        intro hs h
        simp only [gEnvO, List.map_cons, List.cons_append, lk] at h
        by_cases e : g.d = k
        · subst e
          simp at h
          have hf : G.find? (fun x => x.i == g.i) = some g := by
            have hgG := hs g List.mem_cons_self
            cases hq : G.find? (fun x => x.i == g.i) with
            | none => have := List.find?_eq_none.1 hq g hgG; simp at this
            | some x =>
              have h1 := List.find?_some hq
              have h2 := List.mem_of_find?_eq_some hq
              rw [gw_inj hi h2 hgG (by simpa using h1)]
          have hlt : g.d < a.tmps.size := by rw [ha.size]; exact hdN g (hs g List.mem_cons_self)
          rw [← h]
          show a.tmps[g.d]? = some (vs g.i)
          simp only [vs, hf, Array.getElem?_eq_getElem hlt, Option.getD_some]
        · simp only [beq_ne e, cond_false] at h
          exact ih (fun x hx => hs x (List.mem_cons_of_mem _ hx)) h
    exact key G (fun _ h => h) hk
  exact groupO_go (n0 := n0) (K := K) hmono hd hi hob hok (fun vs bs Jn a w hφ ha hw hn => h vs bs Jn hφ B hBcl hp2 a w ha hw hn) G.length [] vs (fun _ => []) [] a w .nil (fun _ h => by cases h) (by simp) hcl (fun _ _ h => by cases h) hag hw hn
theorem XF.groupO (G : List Gw) (hmono : ∀ g ∈ G, GrowsO g.φ) (hd : (G.map (·.d)).Nodup) (hi : (G.map (·.i)).Nodup) (hdN : ∀ g ∈ G, g.d < C.N) (hob : ∀ g ∈ G, OwesO C os l M J G g)
    (h : ∀ (vs : Nat → Value) (bs : Nat → Mem) Jn, (∀ g ∈ G, g.φ (vs g.i) (bs g.i) ((ownOf (G.map (·.i)) bs ++ M) ++ ((Jn ++ J) ++ C.A))) → XF C os Q nd plan (gEnvO G vs ++ l) (ownOf (G.map (·.i)) bs ++ M) (Jn ++ J)) : XF C os Q nd (enc (G.map (·.i)) ++ plan) l M J := XK.groupO G hmono hd hi hdN hob h
end group
end Go.Px
