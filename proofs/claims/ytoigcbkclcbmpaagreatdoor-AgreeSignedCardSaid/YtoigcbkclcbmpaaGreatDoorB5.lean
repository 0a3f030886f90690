/- Part 5 of the texts of this claim, one behind the other. -/
import Derived.Test.YtoigcbkclcbmpaaGreatDoorB4
import Derived.Test.YtoigcbkclcbmpaaGreatDoorRows
import Derived.MapKept
set_option linter.unusedVariables false
set_option linter.unusedSimpArgs false
set_option maxRecDepth 100000
namespace Go.Px
structure Gw where
  i : Nat
  d : Nat
  φ : Value → Mem → Mem → Prop
def U9 (G : List Gw) (vs : Nat → Value) : Env := G.map fun g => (g.d, vs g.i)
def A2L (φ : Value → Mem → Mem → Prop) : Prop := ∀ v B R R', (∀ x ∈ R, x ∈ R') → φ v B R → φ v B R'
def toG (G : List Gw) : List Gm := G.map fun g => ⟨g.i, g.d, fun _ _ => True⟩
theorem C1E (G : List Gw) : (toG G).map (·.i) = G.map (·.i) := by simp [toG]
theorem C1F (G : List Gw) : (toG G).map (·.d) = G.map (·.d) := by simp [toG]
theorem B0K (G : List Gw) (vs : Nat → Value) : A3y (toG G) vs = U9 G vs := by simp [A3y, U9, toG]
theorem B5G {G : List Gw} (h : (G.map (·.i)).Nodup) {g g' : Gw} (hg : g ∈ G) (hg' : g' ∈ G) (e : g.i = g'.i) : g = g' := by
  induction G with
  | nil => cases hg
  | cons x G ih =>
    simp only [List.map_cons, List.nodup_cons] at h
    rcases List.mem_cons.1 hg with h1 | h1 <;> rcases List.mem_cons.1 hg' with h2 | h2
    · rw [h1, h2]
    · exact absurd (by rw [← h1, e]; exact List.mem_map_of_mem (f := Gw.i) h2) h.1
    · exact absurd (by rw [← h2, ← e]; exact List.mem_map_of_mem (f := Gw.i) h1) h.1
    · exact ih h.2 h1 h2
theorem A5f {X : List Nat} : ∀ {Y : List Nat}, X.Nodup → Y.Nodup → (∀ x, x ∈ X ↔ x ∈ Y) → X.Perm Y := by
  induction X with
  | nil =>
    intro Y _ _ h
    cases Y with
    | nil => exact .refl _
    | cons y Y => exact absurd ((h y).2 List.mem_cons_self) (by simp)
  | cons x X ih =>
    intro Y hX hY h
    simp only [List.nodup_cons] at hX
    have hx : x ∈ Y := (h x).1 List.mem_cons_self
    refine List.Perm.trans (List.Perm.cons x (ih hX.2 (hY.erase x) fun z => ?_)) (List.perm_cons_erase hx).symm
    constructor
    · intro hz
      exact (List.mem_erase_of_ne (fun e : z = x => hX.1 (by rw [← e]; exact hz))).2 ((h z).1 (List.mem_cons_of_mem _ hz))
    · intro hz
      have hne : z ≠ x := fun e => by rw [e] at hz; exact (List.Nodup.not_mem_erase hY) hz
      rcases List.mem_cons.1 ((h z).2 (List.mem_of_mem_erase hz)) with e | hm
      · exact absurd e hne
      · exact hm
section group
variable {C : Cx} {Q : XQ} {l : Env} {M J : Mem} {os : List Oper} {K : Nat → Prop} {n0 : Nat} {nd : List Nat} {plan : List (Nat × Nat)}
def Q4 (X : List Nat) (bs : Nat → Mem) : Mem := (X.map bs).flatten
def B3D (C : Cx) (os : List Oper) (l : Env) (M J : Mem) (G : List Gw) (g : Gw) : Prop :=
  ∃ o, nth os g.i = some o ∧ ∀ (vs : Nat → Value) (bs : Nat → Mem) (R : Mem) (w : World), (∀ x ∈ M ++ (J ++ C.A), x ∈ R) → (∀ g' ∈ G, anc os.toArray os.toArray.size g.i g'.i = true → g'.φ (vs g'.i) (bs g'.i) R) →
    A9A os (U9 G vs ++ l) o ∧ OpL ⟨C.P, w, [], R, C.N⟩ o (U9 G vs ++ l) [] [] (fun l' M' J' => ∃ v, l' = (g.d, v) :: (U9 G vs ++ l) ∧ g.φ v M' (M' ++ (J' ++ R)))
theorem B0L {G : List Gw} (hmono : ∀ g ∈ G, A2L g.φ) (hd : (G.map (·.d)).Nodup) (hi : (G.map (·.i)).Nodup) (hob : ∀ g ∈ G, B3D C os l M J G g) {A B : Array Bool} (hok : GOk os.toArray A (G.map (·.i)) B)
    (hfin : ∀ (vs : Nat → Value) (bs : Nat → Mem) Jn a w, (∀ g ∈ G, g.φ (vs g.i) (bs g.i) ((Q4 (G.map (·.i)) bs ++ M) ++ ((Jn ++ J) ++ C.A))) → (∀ g ∈ G, ∀ x ∈ bs g.i, n0 ≤ x.1) → Ag C.N (U9 G vs ++ l) a → St C (Q4 (G.map (·.i)) bs ++ M) (Jn ++ J) w → n0 ≤ w.heap.size → A0c C.P os.toArray (R7 (A7g C Q)) (Sk K) nd.contains plan.length B a w) :
    ∀ (n : Nat) (X : List Nat) (vs : Nat → Value) (bs : Nat → Mem) (Jn : Mem) (a : Act) (w : World), X.Nodup → (∀ i ∈ X, i ∈ G.map (·.i)) → n + X.length = G.length → Q7 os.toArray (mark A X) →
      (∀ g ∈ G, g.i ∈ X → g.φ (vs g.i) (bs g.i) ((Q4 X bs ++ M) ++ ((Jn ++ J) ++ C.A))) → (∀ i ∈ X, ∀ x ∈ bs i, n0 ≤ x.1) → Ag C.N (U9 G vs ++ l) a → St C (Q4 X bs ++ M) (Jn ++ J) w → n0 ≤ w.heap.size →
      A0c C.P os.toArray (R7 (A7g C Q)) (Sk K) nd.contains (n + plan.length) (mark A X) a w := by
  intro n
  induction n with
  | zero =>
    intro X vs bs Jn a w hnd hX hlen hcl hφ hN ha hw hn
    have hall : ∀ i, i ∈ X ↔ i ∈ G.map (·.i) := fun i => ⟨hX i, A12 hnd hX (by simp; omega) i⟩
    have hperm : (Q4 X bs ++ M).Perm (Q4 (G.map (·.i)) bs ++ M) := List.Perm.append_right _ (List.Perm.flatten ((A5f hnd hi hall).map bs))
    rw [Nat.zero_add, A5b hall, ← hok.mark]
    refine hfin vs bs Jn a w (fun g hg => hmono g hg _ _ _ _ (fun x hx => ?_) (hφ g hg ((hall _).2 (List.mem_map_of_mem (f := Gw.i) hg)))) (fun g hg => hN g.i ((hall _).2 (List.mem_map_of_mem (f := Gw.i) hg))) ha (hw.perm hperm) hn
    rcases List.mem_append.1 hx with h | h
    · exact List.mem_append_left _ (hperm.mem_iff.1 h)
    · exact List.mem_append_right _ h
  | succ n ih =>
    intro X vs bs Jn a w hnd hX hlen hcl hφ hN ha hw hn
    have hmiss : ∃ k ∈ G.map (·.i), k ∉ X := by
      apply Classical.byContradiction
      intro hno
      have hs : ∀ k ∈ G.map (·.i), k ∈ X := fun k hk => Classical.byContradiction fun h => hno ⟨k, hk, h⟩
      have := A11 hi hs
      simp at this; omega
    obtain ⟨k, hkG, hkX⟩ := hmiss
    have hun : ∀ i ∈ G.map (·.i), A.getD i true = false := by
      have : ∀ {is A B}, GOk os.toArray A is B → ∀ i ∈ is, A.getD i true = false := by
        intro is A B h
        induction h with
        | nil => intro i hi; cases hi
        | @cons A B i r hr ho h ih =>
          intro k hk
          rcases List.mem_cons.1 hk with rfl | hk
          · exact L1 hr
          · have h2 := ih k hk
            by_cases e : i = k
            · subst e; exact L1 hr
            · rwa [getD_set_ne true e] at h2
      exact this hok
    have hkun : (mark A X).getD k true = false := H7.2 ⟨hun k hkG, fun h => hkX h.1⟩
    rw [show n + 1 + plan.length = (n + plan.length) + 1 by omega]
    refine ⟨fun h0 => ?_, fun i hir => ?_⟩
    · obtain ⟨i, hir⟩ := hok.first (A02 A X) (fun j hj => A03 hj) hkG hkun
      rw [h0] at hir; cases hir
    · have hiG : i ∈ G.map (·.i) := by
        apply Classical.byContradiction
        intro hno
        have h1 := H7.1 (L1 hir)
        have h2 := hok.outer k hkG i (A25 hir) h1.1 hno
        exact T5 hkun (Q8 hcl h2 hir)
      obtain ⟨g, hg, rfl⟩ := List.mem_map.1 hiG
      have hiX : g.i ∉ X := fun h => (H7.1 (L1 hir)).2 ⟨h, V8 (hun _ hiG)⟩
      obtain ⟨o, hget, howe⟩ := hob g hg
      have hi' : os.toArray[g.i]? = some o := by rw [V2] at hget; simpa using hget
      obtain ⟨hask, hop⟩ := howe vs bs ((Q4 X bs ++ M) ++ ((Jn ++ J) ++ C.A)) w (fun x hx => by simp only [List.mem_append] at hx ⊢; rcases hx with h | h | h <;> simp [h]) (fun g' hg' hanc => hφ g' hg' (by
        have h3 := Q8 hcl hanc hir
        rcases Y8 h3 with h4 | h4
        · exact (T5 (hun _ (List.mem_map_of_mem (f := Gw.i) hg')) h4).elim
        · exact h4))
      unfold wpOp
      simp only [hi']
      rw [if_pos (hask.wanted ha)]
      have hcal := hw.callee (Mc := []) (R := Q4 X bs ++ M) (.refl _)
      refine .inl (Oper.wp_mono ?_ (hop _ a w ha hcal.cx))
      rintro a' w' ⟨l', M', J', ha', hs', v, rfl, hφv⟩
      have hsz : w.heap.size ≤ w'.heap.size := hs'.size
      have hb := hw.back (Mc := []) (R := Q4 X bs ++ M) (.refl _) hs'.cx
      let bs' : Nat → Mem := fun k => if k = g.i then M' else bs k
      have hown : Q4 (X ++ [g.i]) bs' = Q4 X bs ++ M' := by
        have e1 : X.map bs' = X.map bs := List.map_congr_left fun x hx => by
          have : x ≠ g.i := fun e => hiX (e ▸ hx)
          simp [bs', this]
        simp [Q4, List.map_append, e1, bs']
      have hperm : (M' ++ (Q4 X bs ++ M)).Perm (Q4 (X ++ [g.i]) bs' ++ M) := by
        rw [hown, ← List.append_assoc]
        exact List.Perm.append_right _ List.perm_append_comm
      have hfr2 : St C (Q4 (X ++ [g.i]) bs' ++ M) ((J' ++ Jn) ++ J) w' := (hb.perm hperm).drop (List.Sublist.refl _) fun x hx => by
        simp only [List.mem_append] at hx ⊢
        rcases hx with (h | h) | h <;> simp [h]
      refine ⟨fun _ b hb' hnk => hs'.frame b hb' (by simp), ?_⟩
      rw [← S6]
      have henv := A13 (N := C.N) (G := toG G) (l := l) (vs := vs) (g := ⟨g.i, g.d, fun _ _ => True⟩) (a := a') (v := v) (List.mem_map_of_mem (f := fun g : Gw => (⟨g.i, g.d, fun _ _ => True⟩ : Gm)) hg) (by rw [C1F]; exact hd) (by rw [C1E]; exact hi) (by rw [B0K]; exact ha')
      rw [B0K] at henv
      refine ih (X ++ [g.i]) (fun k => if k = g.i then v else vs k) bs' (J' ++ Jn) a' w' ?_ ?_ (by simp; omega) ?_ ?_ ?_ henv hfr2 (Nat.le_trans hn hsz)
      · rw [List.nodup_append]; exact ⟨hnd, by simp, fun x hx y hy e => hiX (by simp at hy; subst hy; exact e ▸ hx)⟩
      · intro j hj
        rcases List.mem_append.1 hj with hj | hj
        · exact hX j hj
        · simp at hj; subst hj; exact hiG
      · rw [S6]; exact H8 hcl hir
      · intro g' hg' hm
        rw [hown]
        by_cases e : g'.i = g.i
        · have : g' = g := B5G hi hg' hg e
          subst this
          simp only [if_true, bs']
          exact hmono g' hg' _ _ _ _ (fun x hx => by simp only [List.mem_append] at hx ⊢; rcases hx with h | h | (h | h) | (h | h) | h <;> simp [h]) hφv
        · simp only [e, if_false, bs']
          have hm' : g'.i ∈ X := by simpa [e] using hm
          exact hmono g' hg' _ _ _ _ (fun x hx => by simp only [List.mem_append] at hx ⊢; rcases hx with (h | h) | (h | h) | h <;> simp [h]) (hφ g' hg' hm')
      · intro k hk x hx
        by_cases e : k = g.i
        · subst e
          simp only [if_true, bs'] at hx
          rcases hs'.own x.1 x.2 (by simp [hx]) with h6 | h6
          · cases h6
          · exact Nat.le_trans hn h6
        · simp only [e, if_false, bs'] at hx
          have hk' : k ∈ X := by simpa [e] using hk
          exact hN k hk' x hx
theorem A6q (G : List Gw) (hmono : ∀ g ∈ G, A2L g.φ) (hd : (G.map (·.d)).Nodup) (hi : (G.map (·.i)).Nodup) (hdN : ∀ g ∈ G, g.d < C.N) (hob : ∀ g ∈ G, B3D C os l M J G g)
    (h : ∀ (vs : Nat → Value) (bs : Nat → Mem) Jn, (∀ g ∈ G, g.φ (vs g.i) (bs g.i) ((Q4 (G.map (·.i)) bs ++ M) ++ ((Jn ++ J) ++ C.A))) → (∀ g ∈ G, ∀ x ∈ bs g.i, n0 ≤ x.1) → XK C os Q K n0 nd plan (U9 G vs ++ l) (Q4 (G.map (·.i)) bs ++ M) (Jn ++ J)) : XK C os Q K n0 nd (enc (G.map (·.i)) ++ plan) l M J := by
  intro listed hcl hp a w ha hw hn
  obtain ⟨B, hok, hp2⟩ := A8r hp
  have hBcl : Q7 os.toArray B := by
    have : ∀ {A is B}, GOk os.toArray A is B → Q7 os.toArray A → Q7 os.toArray B := by
      intro A is B h
      induction h with
      | nil => exact id
      | cons hr _ _ ih => exact fun hc => ih (H8 hc hr)
    exact this hok hcl
  have hlen : (enc (G.map (·.i)) ++ plan).length = G.length + plan.length := by
    have : ∀ is : List Nat, (enc is).length = is.length := by
      intro is
      induction is with
      | nil => rfl
      | cons i r ih => cases r with
        | nil => rfl
        | cons j r => simp only [enc, List.length_cons] at ih ⊢; rw [ih]
    simp [this]
  rw [hlen]
  let vs : Nat → Value := fun k => match G.find? (fun g => g.i == k) with
    | some g => (a.tmps[g.d]?).getD undef
    | none => undef
  have hag : Ag C.N (U9 G vs ++ l) a := by
    refine ⟨ha.defers, ha.size, ?_⟩
    intro k u hk
    have key : ∀ G' : List Gw, (∀ g ∈ G', g ∈ G) → lk (U9 G' vs ++ l) k = some u → a.tmps[k]? = some u := by
      intro G'
      induction G' with
      | nil => intro _ h; exact ha.slot k u h
      | cons g G' ih =>
        intro hs h
        simp only [U9, List.map_cons, List.cons_append, lk] at h
        by_cases e : g.d = k
        · subst e
          simp at h
          have hf : G.find? (fun x => x.i == g.i) = some g := by
            have hgG := hs g List.mem_cons_self
            cases hq : G.find? (fun x => x.i == g.i) with
            | none => have := List.find?_eq_none.1 hq g hgG; simp at this
            | some x =>
              have h1 := List.find?_some hq
              have h2 := List.mem_of_find?_eq_some hq
              rw [B5G hi h2 hgG (by simpa using h1)]
          have hlt : g.d < a.tmps.size := by rw [ha.size]; exact hdN g (hs g List.mem_cons_self)
          rw [← h]
          show a.tmps[g.d]? = some (vs g.i)
          simp only [vs, hf, Array.getElem?_eq_getElem hlt, Option.getD_some]
        · simp only [X7 e, cond_false] at h
          exact ih (fun x hx => hs x (List.mem_cons_of_mem _ hx)) h
    exact key G (fun _ h => h) hk
  exact B0L (n0 := n0) (K := K) hmono hd hi hob hok (fun vs bs Jn a w hφ hN ha hw hn => h vs bs Jn hφ hN B hBcl hp2 a w ha hw hn) G.length [] vs (fun _ => []) [] a w .nil (fun _ h => by cases h) (by simp) hcl (fun _ _ h => by cases h) (fun _ h => by cases h) hag hw hn
theorem B0M (G : List Gw) (hmono : ∀ g ∈ G, A2L g.φ) (hd : (G.map (·.d)).Nodup) (hi : (G.map (·.i)).Nodup) (hdN : ∀ g ∈ G, g.d < C.N) (hob : ∀ g ∈ G, B3D C os l M J G g)
    (h : ∀ (vs : Nat → Value) (bs : Nat → Mem) Jn, (∀ g ∈ G, g.φ (vs g.i) (bs g.i) ((Q4 (G.map (·.i)) bs ++ M) ++ ((Jn ++ J) ++ C.A))) → XK C os Q K n0 nd plan (U9 G vs ++ l) (Q4 (G.map (·.i)) bs ++ M) (Jn ++ J)) : XK C os Q K n0 nd (enc (G.map (·.i)) ++ plan) l M J := A6q G hmono hd hi hdN hob fun vs bs Jn hφ _ => h vs bs Jn hφ
theorem N5 (G : List Gw) (hmono : ∀ g ∈ G, A2L g.φ) (hd : (G.map (·.d)).Nodup) (hi : (G.map (·.i)).Nodup) (hdN : ∀ g ∈ G, g.d < C.N) (hob : ∀ g ∈ G, B3D C os l M J G g)
    (h : ∀ (vs : Nat → Value) (bs : Nat → Mem) Jn, (∀ g ∈ G, g.φ (vs g.i) (bs g.i) ((Q4 (G.map (·.i)) bs ++ M) ++ ((Jn ++ J) ++ C.A))) → XF C os Q nd plan (U9 G vs ++ l) (Q4 (G.map (·.i)) bs ++ M) (Jn ++ J)) : XF C os Q nd (enc (G.map (·.i)) ++ plan) l M J := B0M G hmono hd hi hdN hob h
end group
end Go.Px

namespace Go.Proofs.YtoigcbkclcbmpaaGreatDoor
open Go.Px
def B9m : LN := (List.range 256).map fun c => if c = 0 then 0 else c.log2 + 1
theorem B3E : ∀ x ∈ B9m, x < 256 := by decide +kernel
set_option maxRecDepth 10000 in
theorem B3F : ∀ c : Fin 256, c.val < 2 ^ (B9m.getD c 0) ∧ B9m.getD c 0 ≤ 8 ∧ (0 < c.val → 2 ^ (B9m.getD c 0 - 1) ≤ c.val) := by decide +kernel
theorem B3G {x y n T : Nat} (h : x / 2 ^ n = y) (h1 : y < 2 ^ T) : x < 2 ^ (n + T) := by
  rw [Nat.pow_add]
  have := (Nat.div_lt_iff_lt_mul (Nat.two_pow_pos n)).1 (h ▸ h1)
  rwa [Nat.mul_comm] at this
theorem B0N {x y n T : Nat} (h : x / 2 ^ n = y) (hy : 0 < y) (hT : 2 ^ (T - 1) ≤ y) (h1 : y < 2 ^ T) : 2 ^ (n + T - 1) ≤ x := by
  have h0 : T ≠ 0 := by rintro rfl; simp at h1; omega
  rw [show n + T - 1 = n + (T - 1) by omega, Nat.pow_add]
  have := Nat.div_mul_le_self x (2 ^ n)
  rw [h] at this
  exact Nat.le_trans (by rw [Nat.mul_comm]; exact Nat.mul_le_mul_right _ hT) this
def A5g : LN := (List.range 100).flatMap fun p => [48 + p / 10, 48 + p % 10]
theorem A4x : ∀ x ∈ A5g, x < 256 := by decide +kernel
theorem A4y : ∀ p : Fin 100, A5g.getD (2 * p.val) 0 = 48 + p.val / 10 ∧ A5g.getD (2 * p.val + 1) 0 = 48 + p.val % 10 := by decide +kernel
theorem A2v : A5g.length = 200 := by decide +kernel
def A0R : LN := (List.range 20).map fun i => 10 ^ i
theorem A6r : ∀ n : Fin 65, 2 ^ n.val ≤ 10 ^ (n.val * 78913 / 262144 + 1) ∧ n.val * 78913 / 262144 ≤ 19 ∧ (n.val * 78913 / 262144 = 0 ∨ 10 ^ (n.val * 78913 / 262144 - 1) ≤ 2 ^ (n.val - 1)) := by decide +kernel
theorem B0O : ∀ t : Fin 20, A0R.getD t 0 = 10 ^ t.val := by decide +kernel
theorem B9n {x n : Nat} (h0 : 0 < x) (hn : n ≤ 64) (h1 : x < 2 ^ n) (h2 : 2 ^ (n - 1) ≤ x) : n * 78913 / 262144 + (if 10 ^ (n * 78913 / 262144) ≤ x then 1 else 0) = nd10 x := by
  obtain ⟨a, b, c⟩ := A6r ⟨n, by omega⟩
  simp only at a b c
  have hx : x < 18446744073709551616 := Nat.lt_of_lt_of_le h1 (Nat.pow_le_pow_right qD hn : 2 ^ n ≤ 2 ^ 64)
  generalize n * 78913 / 262144 = t at *
  split
  · rename_i h
    exact (A6p qO (Nat.lt_of_lt_of_le h1 a) (.inr (by simpa using h)) hx).symm
  · rename_i h
    have ht : t ≠ 0 := by rintro rfl; simp at h; omega
    rw [Nat.add_zero]
    refine (A6p qO qO (.inr ?_) hx).symm
    rcases c with c | c
    · exact absurd c ht
    · exact Nat.le_trans c h2
theorem B3H (k u : Nat) : dgs (k + 1) u = (48 + u / 10 ^ k % 10) :: dgs k u := by
  unfold dgs
  rw [show List.range (k + 1) = 0 :: (List.range k).map (· + 1) from List.range_succ_eq_map, List.map_cons, List.map_map]
  congr 1
  apply List.map_congr_left
  intro j hj
  have := List.mem_range.1 hj
  simp only [Function.comp]
  congr 4; omega
theorem A3A {xs r : LN} {o m k u : Nat} (hm : 0 < m) (hl : o + m ≤ xs.length) : (xs.take (o + m) ++ (dgs k u ++ r)).set (o + (m - 1)) (48 + u / 10 ^ k % 10) = xs.take (o + (m - 1)) ++ (dgs (k + 1) u ++ r) := by
  have e : xs.take (o + m) = xs.take (o + (m - 1)) ++ [xs[o + (m - 1)]'qO] := by
    rw [show o + m = (o + (m - 1)) + 1 by omega, List.take_add_one, List.getElem?_eq_getElem qO]; rfl
  rw [e, B3H, List.append_assoc, List.set_append_right _ _ (by rw [List.length_take]; omega), List.length_take, Nat.min_eq_left qO, Nat.sub_self]
  simp
theorem A1C {xs r : LN} {o m k u p : Nat} (hm : 2 ≤ m) (hl : o + m ≤ xs.length) (hp : p = u / 10 ^ k % 100) : ((xs.take (o + m) ++ (dgs k u ++ r)).set (o + (m - 1)) (48 + p % 10)).set (o + (m - 2)) (48 + p / 10) = xs.take (o + (m - 2)) ++ (dgs (k + 2) u ++ r) := by
  have h1 := A3A (xs := xs) (r := r) (o := o) (m := m) (k := k) (u := u) qO hl
  have h2 := A3A (xs := xs) (r := r) (o := o) (m := m - 1) (k := k + 1) (u := u) qO qO
  rw [show 48 + p % 10 = 48 + u / 10 ^ k % 10 by omega, h1]
  rw [show m - 1 - 1 = m - 2 by omega] at h2
  rw [show 48 + p / 10 = 48 + u / 10 ^ (k + 1) % 10 by rw [Nat.pow_succ, ← Nat.div_div_eq_div_mul]; omega, h2]
theorem T8 {xs r : LN} {o m k u : Nat} (hl : o + m ≤ xs.length) : (xs.take (o + m) ++ (dgs k u ++ r)).length = o + m + (k + r.length) := by simp [A1A]; omega
theorem A4z (x : Nat) (hx : x < 18446744073709551616) (A : Mem) : FnX Tryz.prog 123 [.int .u64 (x : Int)] [] A fun r M J => M = [] ∧ J = [] ∧ ∃ n : Nat, r = .int .i64 (n : Int) ∧ n ≤ 64 ∧ x < 2 ^ n ∧ (0 < x → 2 ^ (n - 1) ≤ x) := by
 refine FnX.enter (N := 25) Tryz.func123 rfl rfl rfl fun w => ?_
 refine C4 (D8 0) (A3 (as_ (A0 (D5 0 2) ?_)))
 refine A0x (α := Nat × Nat) (fun s => [(0, .int .u64 (s.1 : Int)), (2, .int .i64 (s.2 : Int))]) (fun _ => []) (fun _ => []) (fun s => x / 2 ^ s.2 = s.1 ∧ s.1 < 4294967296 ∧ s.2 ≤ 32 ∧ (s.2 = 0 ∨ 0 < s.1)) ?_ ?_
 ·
  refine A3 (mv_ ?_)
  refine A4 (F1 rfl rfl rfl) rfl ?_
  refine A0 (E2 0 2 4) ?_
  refine C7 rfl ?_ ?_ <;> intro hc
  ·
   have hge : 4294967296 ≤ x := by simp at hc; omega
   refine A3 (mv_ ?_)
   refine A4 (P5 32 4294967296 rfl rfl rfl rfl qD) rfl ?_
   refine as_ (A0 (D8 0) (C2 (as_ (D0 ?_))))
   exact jn (x / 4294967296, 32) ⟨rfl, by dsimp only; omega, by dsimp only; omega, .inr (by dsimp only; omega)⟩ (D5 0 2) .rfl qI
  ·
   have hlt : x < 4294967296 := by simp at hc; omega
   refine A9 ?_
   exact jn (x, 0) ⟨by simp, hlt, by dsimp only; omega, .inl rfl⟩ (D5 0 2) .rfl qI
 ·
  rintro ⟨y, n⟩ ⟨hy, hyb, hn, h0⟩
  dsimp only at hy hyb hn h0 ⊢
  refine A0x (α := Nat × Nat) (fun s => [(0, .int .u64 (s.1 : Int)), (2, .int .i64 (s.2 : Int))]) (fun _ => []) (fun _ => []) (fun s => x / 2 ^ s.2 = s.1 ∧ s.1 < 65536 ∧ s.2 ≤ 48 ∧ (s.2 = 0 ∨ 0 < s.1)) ?_ ?_
  ·
   refine A3 (mv_ ?_)
   refine A4 (F1 rfl rfl rfl) rfl ?_
   refine A0 (E2 0 2 8) ?_
   refine C7 rfl ?_ ?_ <;> intro hc
   ·
    have hge : 65536 ≤ y := by simp at hc; omega
    refine A3 (mv_ ?_)
    refine A4 (P5 16 65536 rfl rfl rfl rfl qD) rfl ?_
    refine as_ (A0 (D5 0 2) (C2 (mv_ ?_)))
    refine A4 (N8 (b := 16) rfl rfl rfl rfl qO) rfl ?_
    refine as_ (D0 ?_)
    exact jn (y / 65536, n + 16) ⟨by dsimp only; rw [Nat.pow_add, ← Nat.div_div_eq_div_mul, hy], by dsimp only; omega, by dsimp only; omega, .inr (by dsimp only; omega)⟩ (D5 0 2) .rfl qI
   ·
    have hlt : y < 65536 := by simp at hc; omega
    refine A9 ?_
    exact jn (y, n) ⟨hy, hlt, by dsimp only; omega, h0⟩ (D5 0 2) .rfl qI
  ·
   clear hy hyb hn h0
   rintro ⟨y, n⟩ ⟨hy, hyb, hn, h0⟩
   dsimp only at hy hyb hn h0 ⊢
   refine A0x (α := Nat × Nat) (fun s => [(0, .int .u64 (s.1 : Int)), (2, .int .i64 (s.2 : Int))]) (fun _ => []) (fun _ => []) (fun s => x / 2 ^ s.2 = s.1 ∧ s.1 < 256 ∧ s.2 ≤ 56 ∧ (s.2 = 0 ∨ 0 < s.1)) ?_ ?_
   ·
    refine A3 (mv_ ?_)
    refine A4 (F1 rfl rfl rfl) rfl ?_
    refine A0 (E2 0 2 14) ?_
    refine C7 rfl ?_ ?_ <;> intro hc
    ·
     have hge : 256 ≤ y := by simp at hc; omega
     refine A3 (mv_ ?_)
     refine A4 (P5 8 256 rfl rfl rfl rfl qD) rfl ?_
     refine as_ (A0 (D5 0 2) (C2 (mv_ ?_)))
     refine A4 (N8 (b := 8) rfl rfl rfl rfl qO) rfl ?_
     refine as_ (D0 ?_)
     exact jn (y / 256, n + 8) ⟨by dsimp only; rw [Nat.pow_add, ← Nat.div_div_eq_div_mul, hy], by dsimp only; omega, by dsimp only; omega, .inr (by dsimp only; omega)⟩ (D5 0 2) .rfl qI
    ·
     have hlt : y < 256 := by simp at hc; omega
     refine A9 ?_
     exact jn (y, n) ⟨hy, hlt, by dsimp only; omega, h0⟩ (D5 0 2) .rfl qI
   ·
    clear hy hyb hn h0
    rintro ⟨y, n⟩ ⟨hy, hyb, hn, h0⟩
    dsimp only at hy hyb hn h0 ⊢
    obtain ⟨k1, k2, k3⟩ := B3F ⟨y, hyb⟩
    simp only at k1 k2 k3
    refine A3 (mv_ (mv_ ?_))
    refine A4 ((Nat.mod_eq_of_lt hyb : y % 256 = y) ▸ A3o rfl kR) rfl ?_
    refine A4 (B66 (ws := B9m) (a := y) rfl kR B3E rfl kR rfl (by show _ < 256; omega)) rfl ?_
    refine A4 (A1o (k' := .i64) rfl kR (by show _ < 9223372036854775808; omega)) rfl ?_
    refine A4 (N8 rfl rfl rfl rfl qO) rfl ?_
    refine as_ (A0 (D8 2) (C3 ?_))
    refine ⟨_, [], [], K2 rfl rfl, List.nil_sublist _, by simp, rfl, rfl, n + B9m.getD y 0, rfl, by omega, B3G hy k1, fun hx => ?_⟩
    have hy0 : 0 < y := by
     rcases h0 with rfl | h0
     · rw [← hy]; simpa using hx
     · exact h0
    exact B0N hy hy0 (k3 hy0) k1
theorem A9B (n : Nat) (hn : n ≤ 64) (A : Mem) : FnV Tryz.prog 136 [.int .i64 (n : Int)] A (.int .i64 ((n * 78913 / 2 ^ 18 : Nat) : Int)) := by
 refine FnX.enter (N := 6) Tryz.func136 rfl rfl rfl fun w => ?_
 refine C4 (D8 0) (A3 (as_ (A0 (D8 0) (A3 (mv_ ?_)))))
 refine A4 (A1q (b := 78913) rfl rfl rfl rfl qO) rfl ?_
 refine A4 (A2K (b := 18) rfl rfl rfl rfl (by show _ ≤ 64; omega)) rfl ?_
 refine as_ (A0 (D8 2) (C3 ?_))
 exact ⟨_, [], [], K2 rfl rfl, List.nil_sublist _, by simp, rfl, rfl, rfl⟩
theorem A9C (b : Bool) (A : Mem) : FnV Tryz.prog 137 [.bool b] A (.int .i64 ((if b = true then 1 else 0 : Nat) : Int)) := by
 refine FnX.enter (N := 4) Tryz.func137 rfl rfl rfl fun w => ?_
 refine C4 (D8 0) (A3 (as_ (A0 (D8 0) (A5 (A3 (mv_ (A0 (D8 3) ?_)))))))
 refine C7 rfl ?_ ?_ <;> intro hc
 ·
  subst hc
  refine A3 (as_ (A0 (D8 2) (C3 (tr ?_))))
  exact ⟨_, [], [], K2 rfl rfl, List.nil_sublist _, by simp, rfl, rfl, rfl⟩
 ·
  subst hc
  refine A9 (nx kn (A3 (as_ (A0 (D8 2) (C3 ?_)))))
  exact ⟨_, [], [], K2 rfl rfl, List.nil_sublist _, by simp, rfl, rfl, rfl⟩
theorem A1r (x : Nat) (h0 : 0 < x) (hx : x < 18446744073709551616) (A : Mem) {e4 : TypeId} {f4 : Nat × Nat} (h4 : (2, Obj.cells (nums .u64 A0R).toArray e4 f4) ∈ A) : FnV Tryz.prog 127 [.int .u64 (x : Int)] A (.int .i64 ((nd10 x : Nat) : Int)) := by
 refine FnX.enter (N := 15) Tryz.func127 rfl rfl rfl fun w => ?_
 refine C4 (D8 0) (A3 (as_ (A0 (D8 0) (A3 (mv_ ?_)))))
 refine C9 (aS rfl a0) kR (A4z x hx _) rfl ?_
 rintro r5 M5 J5 ⟨rfl, rfl, n, rfl, hn, h1, h2⟩
 replace h2 := h2 h0
 have hnd := B9n h0 hn h1 h2
 obtain ⟨-, k2, -⟩ := A6r ⟨n, by omega⟩
 simp only at k2
 refine F6 (aS rfl a0) kR (A9B n hn _) rfl ?_
 rw [show (2 : Nat) ^ 18 = 262144 from rfl]
 have k4 := B0O ⟨n * 78913 / 262144, by omega⟩
 simp only at k4
 generalize n * 78913 / 262144 = t at *
 refine as_ (A0 (D5 0 3) (A3 (mv_ (mv_ (mv_ ?_)))))
 refine A4 (E5 (e := 99) (n := 20) (sz := 1) (i := t) rfl rfl kR kR rfl qO) rfl ?_
 refine A4 (Q9 t rfl kR (mA h4) qO (by show _ < 20; omega)) rfl ?_
 refine A4 (F4 (decide (10 ^ t ≤ x)) rfl rfl (by rw [k4, ← decide_eq_decide.2 (show (((10 ^ t : Nat) : Int) ≤ (x : Int)) ↔ 10 ^ t ≤ x from Int.ofNat_le)]; rfl)) rfl ?_
 refine F6 (aS rfl a0) kR (A9C _ _) rfl ?_
 refine A4 (N8 rfl rfl rfl rfl (by split <;> omega)) rfl ?_
 refine as_ (A0 (D8 2) (C3 ?_))
 refine ⟨_, [], [], K2 rfl rfl, List.nil_sublist _, by simp, ?_, rfl, rfl⟩
 rw [← hnd]; simp only [decide_eq_true_eq]
section
variable {P : Program} {R : Mem} {l : Env} {d : Option Nat} {ty t : TypeId} {pos : String} {af : Array Edge} {g : Option (Nat × Bool)} {x y : Operand} {S : ByteArray} {k : IntKind} {i : Int} {p : Nat}
theorem A0A (hx : ev l x = some (.string S)) (hS : S = txt A5g) (hy : ev l y = some (.int k i)) (hu : P.underlying t = some .string) (hi : i = ((2 * p : Nat) : Int)) (hp : p < 100) : OpQ P R ⟨d, .index t x y, ty, pos, af, g⟩ l (.int .u8 ((48 + p / 10 : Nat) : Int)) :=
  (A4y ⟨p, hp⟩).1 ▸ B66 hx hS A4x hy hu hi (by rw [A2v]; omega)
theorem A0B (hx : ev l x = some (.string S)) (hS : S = txt A5g) (hy : ev l y = some (.int k i)) (hu : P.underlying t = some .string) (hi : i = ((2 * p + 1 : Nat) : Int)) (hp : p < 100) : OpQ P R ⟨d, .index t x y, ty, pos, af, g⟩ l (.int .u8 ((48 + p % 10 : Nat) : Int)) :=
  (A4y ⟨p, hp⟩).2 ▸ B66 hx hS A4x hy hu hi (by rw [A2v]; omega)
end
theorem A1D (u a b : Nat) : u / 10 ^ (a + b) = u / 10 ^ a / 10 ^ b := by rw [Nat.pow_add, Nat.div_div_eq_div_mul]
theorem A5h {u n m : Nat} (hu : u < 10 ^ n) (hm : m ≤ n) : u / 10 ^ (n - m) < 10 ^ m := by
  rw [Nat.div_lt_iff_lt_mul (Nat.pow_pos qD), ← Nat.pow_add]
  rwa [show m + (n - m) = n by omega]
theorem A6s (b o n cap u : Nat) (xs : LN) (e : TypeId) (hn : 0 < n) (hn20 : n ≤ 20) (hxs : o + n ≤ xs.length) (hu : u < 10 ^ n) (hu64 : u < 18446744073709551616) (A : Mem) : FnX Tryz.prog 128 [.slice (some ⟨b, o, none⟩) n cap, .int .u64 (u : Int)] [(b, blk (nums .u8 xs) e)] A fun r M J => J = [] ∧ M = [(b, blk (nums .u8 (xs.take o ++ (dgs n u ++ xs.drop (o + n)))) e)] := by
 refine FnX.enter (N := 167) Tryz.func128 rfl rfl rfl fun w => ?_
 refine C4 (D5 0 1) (A3 (mv_ ?_))
 refine A4 (B0h (e := 5) rfl kR) rfl ?_
 refine as_ (A0 (E2 0 1 4) (A5 (C0 ?_)))
 refine F2 (α := Nat) (fun m => [(0, .slice (some ⟨b, o, none⟩) n cap), (1, .int .u64 ((u / 10 ^ (n - m) : Nat) : Int)), (4, .int .i64 (m : Int))]) (fun m => [(b, blk (nums .u8 (xs.take (o + m) ++ (dgs (n - m) u ++ xs.drop (o + n)))) e)]) (fun _ => []) (fun m => m ≤ n) (fun m => m) n (Nat.le_refl _) (kq 0 (kp 1 (by rw [Nat.sub_self, Nat.pow_zero, Nat.div_one]; rfl) (D8 4))) (Fit.eq (by simp [dgs])) qI ?_
 rintro m hm
 have hb := A5h hu hm
 refine A5 (A3 (mv_ ?_))
 refine A4 (F1 rfl rfl rfl) rfl ?_
 refine A0 (E7 0 1 4 20) ?_
 refine C7 rfl ?_ ?_ <;> intro hc
 ·
  have hm8 : 8 ≤ m := by simp at hc; omega
  obtain ⟨k, hk⟩ : ∃ k, k = n - m := ⟨_, rfl⟩
  rw [← hk]
  have hkm : k + m = n := by omega
  obtain ⟨v, hv⟩ : ∃ v, v = u / 10 ^ k := ⟨_, rfl⟩
  rw [← hv]
  have hv64 : v < 18446744073709551616 := by rw [hv]; exact Nat.lt_of_le_of_lt (Nat.div_le_self _ _) hu64
  refine A9 (nx (E2 0 1 4) (C0 (A3 (mv_ ?_))))
  refine A4 (A0P (b := 100000000) rfl rfl rfl rfl qO) rfl ?_
  refine A4 (A8n rfl kR) rfl ?_
  rw [show v % 100000000 % 4294967296 = v % 100000000 by omega]
  obtain ⟨y, hy⟩ : ∃ y, y = v % 100000000 := ⟨_, rfl⟩
  rw [← hy]
  have hy8 : y < 100000000 := by omega
  refine as_ (A0 (E7 0 1 4 5) (A3 (mv_ ?_)))
  refine A4 (A3z (b := 100000000) (m := 18446744073709551616) rfl rfl rfl rfl rfl rfl qO qO) rfl ?_
  refine as_ (A0 (E7 0 1 4 5) (A3 (mv_ ?_)))
  refine A4 (A3z (b := 10000) (m := 4294967296) rfl rfl rfl rfl rfl rfl qO qO) rfl ?_
  refine mv_ ?_
  refine A4 (A0P (b := 10000) rfl rfl rfl rfl qO) rfl ?_
  refine as_ (as_ (A0 (F5 0 1 4 6 7) (A3 (mv_ ?_))))
  refine A4 (A3z (b := 100) (m := 4294967296) rfl rfl rfl rfl rfl rfl qO qO) rfl ?_
  refine A4 (S7 4294967296 (b := 2) rfl rfl rfl rfl rfl rfl) rfl ?_
  refine mv_ ?_
  refine A4 (A0P (b := 100) rfl rfl rfl rfl qO) rfl ?_
  refine A4 (S7 4294967296 (b := 2) rfl rfl rfl rfl rfl rfl) rfl ?_
  refine as_ (as_ (A0 (I1 0 1 4 6 8 9) (A3 (mv_ ?_))))
  refine A4 (A3z (b := 100) (m := 4294967296) rfl rfl rfl rfl rfl rfl qO qO) rfl ?_
  refine A4 (S7 4294967296 (b := 2) rfl rfl rfl rfl rfl rfl) rfl ?_
  refine mv_ ?_
  refine A4 (A0P (b := 100) rfl rfl rfl rfl qO) rfl ?_
  refine A4 (S7 4294967296 (b := 2) rfl rfl rfl rfl rfl rfl) rfl ?_
  refine as_ (as_ (A0 (Y0 0 1 4 8 9 10 11) ?_))
  refine D2 [0, 1, 2, 3, 4, 5, 6, 7, 8, 9, 10, 11, 13] (zp 0 [0, 0, 0, 0, 0, 0, 0, 0, 0, 0, 0, 0, 2, 0, 2]) kR kR fun hs => ?_
  refine fm_ hs ?_
  refine fm_ hs ?_
  refine D1 hs rfl (S5 (b := 1) rfl rfl rfl rfl qO qO) rfl ?_
  refine fm_ hs ?_
  refine fm_ hs ?_
  refine D1 hs rfl (S5 (b := 2) rfl rfl rfl rfl qO qO) rfl ?_
  refine fm_ hs ?_
  refine D1 hs rfl (I6 4294967296 (b := 1) rfl rfl rfl rfl rfl rfl) rfl ?_
  refine D1 hs rfl (A0B (p := (y % 10000 % 100)) rfl kR rfl kR qO qO) rfl ?_
  refine fm_ hs ?_
  refine D1 hs rfl (A0A (p := (y % 10000 % 100)) rfl kR rfl kR qO qO) rfl ?_
  refine D1 hs rfl (Q6 (e := 5) (sz := 1) (i := m - 1) rfl rfl kR kR qO qO) rfl ?_
  refine G5 rfl rfl rfl (T7 (o + (m - 1)) rfl rfl kR qO (by rw [T8 qO]; omega) UpC.upd ?_)
  refine D1 hs rfl (Q6 (e := 5) (sz := 1) (i := m - 2) rfl rfl kR kR qO qO) rfl ?_
  refine G5 rfl rfl rfl (T7 (o + (m - 2)) rfl rfl kR qO (by rw [List.length_set, T8 qO]; omega) UpC.upd ?_)
  rw [A1C qO qO (by rw [← hv]; omega)]
  refine E4 (I1 0 1 4 8 10 11) ?_
  refine D2 [0, 1, 2, 3, 4, 5, 6, 7, 8, 9, 10, 11, 13] (zp 0 [0, 0, 0, 0, 0, 0, 0, 0, 0, 0, 0, 0, 2, 0, 2]) kR kR fun hs => ?_
  refine fm_ hs ?_
  refine fm_ hs ?_
  refine D1 hs rfl (S5 (b := 3) rfl rfl rfl rfl qO qO) rfl ?_
  refine fm_ hs ?_
  refine fm_ hs ?_
  refine D1 hs rfl (S5 (b := 4) rfl rfl rfl rfl qO qO) rfl ?_
  refine fm_ hs ?_
  refine D1 hs rfl (I6 4294967296 (b := 1) rfl rfl rfl rfl rfl rfl) rfl ?_
  refine D1 hs rfl (A0B (p := (y % 10000 / 100)) rfl kR rfl kR qO qO) rfl ?_
  refine fm_ hs ?_
  refine D1 hs rfl (A0A (p := (y % 10000 / 100)) rfl kR rfl kR qO qO) rfl ?_
  refine D1 hs rfl (Q6 (e := 5) (sz := 1) (i := (m - 2) - 1) rfl rfl kR kR qO qO) rfl ?_
  refine G5 rfl rfl rfl (T7 (o + ((m - 2) - 1)) rfl rfl kR qO (by rw [T8 qO]; omega) UpC.upd ?_)
  refine D1 hs rfl (Q6 (e := 5) (sz := 1) (i := (m - 2) - 2) rfl rfl kR kR qO qO) rfl ?_
  refine G5 rfl rfl rfl (T7 (o + ((m - 2) - 2)) rfl rfl kR qO (by rw [List.length_set, T8 qO]; omega) UpC.upd ?_)
  rw [A1C qO qO (by rw [A1D, ← hv]; omega)]
  refine E4 (F5 0 1 4 10 11) ?_
  refine D2 [0, 1, 2, 3, 4, 5, 6, 7, 8, 9, 10, 11, 13] (zp 0 [0, 0, 0, 0, 0, 0, 0, 0, 0, 0, 0, 0, 2, 0, 2]) kR kR fun hs => ?_
  refine fm_ hs ?_
  refine fm_ hs ?_
  refine D1 hs rfl (S5 (b := 5) rfl rfl rfl rfl qO qO) rfl ?_
  refine fm_ hs ?_
  refine fm_ hs ?_
  refine D1 hs rfl (S5 (b := 6) rfl rfl rfl rfl qO qO) rfl ?_
  refine fm_ hs ?_
  refine D1 hs rfl (I6 4294967296 (b := 1) rfl rfl rfl rfl rfl rfl) rfl ?_
  refine D1 hs rfl (A0B (p := (y / 10000 % 100)) rfl kR rfl kR qO qO) rfl ?_
  refine fm_ hs ?_
  refine D1 hs rfl (A0A (p := (y / 10000 % 100)) rfl kR rfl kR qO qO) rfl ?_
  refine D1 hs rfl (Q6 (e := 5) (sz := 1) (i := (m - 2 - 2) - 1) rfl rfl kR kR qO qO) rfl ?_
  refine G5 rfl rfl rfl (T7 (o + ((m - 2 - 2) - 1)) rfl rfl kR qO (by rw [T8 qO]; omega) UpC.upd ?_)
  refine D1 hs rfl (Q6 (e := 5) (sz := 1) (i := (m - 2 - 2) - 2) rfl rfl kR kR qO qO) rfl ?_
  refine G5 rfl rfl rfl (T7 (o + ((m - 2 - 2) - 2)) rfl rfl kR qO (by rw [List.length_set, T8 qO]; omega) UpC.upd ?_)
  rw [A1C qO qO (by rw [show k + 2 + 2 = k + 4 by omega, A1D, ← hv]; omega)]
  refine E4 (E7 0 1 4 10) ?_
  refine D2 [0, 1, 2, 3, 4, 5, 6, 7, 8, 9, 10, 11, 13] (zp 0 [0, 0, 0, 0, 0, 0, 0, 0, 0, 0, 0, 0, 2, 0, 2]) kR kR fun hs => ?_
  refine fm_ hs ?_
  refine fm_ hs ?_
  refine D1 hs rfl (S5 (b := 7) rfl rfl rfl rfl qO qO) rfl ?_
  refine fm_ hs ?_
  refine fm_ hs ?_
  refine D1 hs rfl (S5 (b := 8) rfl rfl rfl rfl qO qO) rfl ?_
  refine fm_ hs ?_
  refine D1 hs rfl (I6 4294967296 (b := 1) rfl rfl rfl rfl rfl rfl) rfl ?_
  refine D1 hs rfl (A0B (p := (y / 10000 / 100)) rfl kR rfl kR qO qO) rfl ?_
  refine fm_ hs ?_
  refine D1 hs rfl (A0A (p := (y / 10000 / 100)) rfl kR rfl kR qO qO) rfl ?_
  refine D1 hs rfl (Q6 (e := 5) (sz := 1) (i := (m - 2 - 2 - 2) - 1) rfl rfl kR kR qO qO) rfl ?_
  refine G5 rfl rfl rfl (T7 (o + ((m - 2 - 2 - 2) - 1)) rfl rfl kR qO (by rw [T8 qO]; omega) UpC.upd ?_)
  refine D1 hs rfl (Q6 (e := 5) (sz := 1) (i := (m - 2 - 2 - 2) - 2) rfl rfl kR kR qO qO) rfl ?_
  refine G5 rfl rfl rfl (T7 (o + ((m - 2 - 2 - 2) - 2)) rfl rfl kR qO (by rw [List.length_set, T8 qO]; omega) UpC.upd ?_)
  rw [A1C qO qO (by rw [show k + 2 + 2 + 2 = k + 6 by omega, A1D, ← hv]; omega)]
  refine E4 (E2 0 1 4) (C2 (mv_ ?_))
  refine A4 (S5 (b := 8) rfl rfl rfl rfl qO qO) rfl ?_
  refine as_ (D0 (nb ?_))
  exact rn (m - 8) qO qO (kq 0 (kp 1 (by rw [show n - (m - 8) = k + 8 by omega, A1D, ← hv]; rfl) (D8 4))) (Fit.eq (by rw [show n - (m - 8) = k + 8 by omega, show m - 2 - 2 - 2 - 2 = m - 8 by omega, show k + 2 + 2 + 2 + 2 = k + 8 by omega])) qI
 ·
  have hm8 : m < 8 := by simp at hc; omega
  refine E6 (te (re (be rfl (nx (E2 0 1 4) ?_))))
  obtain ⟨k, hk⟩ : ∃ k, k = n - m := ⟨_, rfl⟩
  rw [← hk]
  have hkm : k + m = n := by omega
  obtain ⟨v, hv⟩ : ∃ v, v = u / 10 ^ k := ⟨_, rfl⟩
  rw [← hv]
  rw [← hk, ← hv] at hb
  have hb7 : v < 10000000 := Nat.lt_of_lt_of_le hb (Nat.pow_le_pow_right qD qO : 10 ^ m ≤ 10 ^ 7)
  refine A3 (mv_ ?_)
  refine A4 (A8n rfl kR) rfl ?_
  refine as_ ?_
  rw [show v % 4294967296 = v by omega]
  refine A0 (E2 0 4 12) ?_
  refine A0x (α := Nat) (fun m => [(0, .slice (some ⟨b, o, none⟩) n cap), (4, .int .i64 (m : Int)), (12, .int .u32 ((u / 10 ^ (n - m) : Nat) : Int))]) (fun m => [(b, blk (nums .u8 (xs.take (o + m) ++ (dgs (n - m) u ++ xs.drop (o + n)))) e)]) (fun _ => []) (fun m => m ≤ n ∧ m < 4) ?_ ?_
  ·
   refine A3 (mv_ ?_)
   refine A4 (F1 rfl rfl rfl) rfl ?_
   refine A0 (E7 0 4 12 99) ?_
   refine C7 rfl ?_ ?_ <;> intro hc
   ·
    have hm4 : 4 ≤ m := by simp at hc; omega
    refine A3 (mv_ ?_)
    refine A4 (A0P (b := 10000) rfl rfl rfl rfl qO) rfl ?_
    refine as_ (A0 (E7 0 4 12 13) (A3 (mv_ ?_)))
    refine A4 (A3z (b := 10000) (m := 4294967296) rfl rfl rfl rfl rfl rfl qO qO) rfl ?_
    refine as_ (A0 (E7 0 4 12 13) (A3 (mv_ ?_)))
    refine A4 (A3z (b := 100) (m := 4294967296) rfl rfl rfl rfl rfl rfl qO qO) rfl ?_
    refine A4 (S7 4294967296 (b := 2) rfl rfl rfl rfl rfl rfl) rfl ?_
    refine mv_ ?_
    refine A4 (A0P (b := 100) rfl rfl rfl rfl qO) rfl ?_
    refine A4 (S7 4294967296 (b := 2) rfl rfl rfl rfl rfl rfl) rfl ?_
    refine as_ (as_ (A0 (F5 0 4 12 14 15) ?_))
    refine D2 [0, 1, 2, 3, 4, 5, 6, 7, 8, 9, 10, 11, 13] (zp 0 [0, 0, 0, 0, 0, 0, 0, 0, 0, 0, 0, 0, 2, 0, 2]) kR kR fun hs => ?_
    refine fm_ hs ?_
    refine fm_ hs ?_
    refine D1 hs rfl (S5 (b := 1) rfl rfl rfl rfl qO qO) rfl ?_
    refine fm_ hs ?_
    refine fm_ hs ?_
    refine D1 hs rfl (S5 (b := 2) rfl rfl rfl rfl qO qO) rfl ?_
    refine fm_ hs ?_
    refine D1 hs rfl (I6 4294967296 (b := 1) rfl rfl rfl rfl rfl rfl) rfl ?_
    refine D1 hs rfl (A0B (p := (v % 10000 % 100)) rfl kR rfl kR qO qO) rfl ?_
    refine fm_ hs ?_
    refine D1 hs rfl (A0A (p := (v % 10000 % 100)) rfl kR rfl kR qO qO) rfl ?_
    refine D1 hs rfl (Q6 (e := 5) (sz := 1) (i := m - 1) rfl rfl kR kR qO qO) rfl ?_
    refine G5 rfl rfl rfl (T7 (o + (m - 1)) rfl rfl kR qO (by rw [T8 qO]; omega) UpC.upd ?_)
    refine D1 hs rfl (Q6 (e := 5) (sz := 1) (i := m - 2) rfl rfl kR kR qO qO) rfl ?_
    refine G5 rfl rfl rfl (T7 (o + (m - 2)) rfl rfl kR qO (by rw [List.length_set, T8 qO]; omega) UpC.upd ?_)
    rw [A1C qO qO (by rw [← hv]; omega)]
    refine E4 (E7 0 4 12 14) ?_
    refine D2 [0, 1, 2, 3, 4, 5, 6, 7, 8, 9, 10, 11, 13] (zp 0 [0, 0, 0, 0, 0, 0, 0, 0, 0, 0, 0, 0, 2, 0, 2]) kR kR fun hs => ?_
    refine fm_ hs ?_
    refine fm_ hs ?_
    refine D1 hs rfl (S5 (b := 3) rfl rfl rfl rfl qO qO) rfl ?_
    refine fm_ hs ?_
    refine fm_ hs ?_
    refine D1 hs rfl (S5 (b := 4) rfl rfl rfl rfl qO qO) rfl ?_
    refine fm_ hs ?_
    refine D1 hs rfl (I6 4294967296 (b := 1) rfl rfl rfl rfl rfl rfl) rfl ?_
    refine D1 hs rfl (A0B (p := (v % 10000 / 100)) rfl kR rfl kR qO qO) rfl ?_
    refine fm_ hs ?_
    refine D1 hs rfl (A0A (p := (v % 10000 / 100)) rfl kR rfl kR qO qO) rfl ?_
    refine D1 hs rfl (Q6 (e := 5) (sz := 1) (i := (m - 2) - 1) rfl rfl kR kR qO qO) rfl ?_
    refine G5 rfl rfl rfl (T7 (o + ((m - 2) - 1)) rfl rfl kR qO (by rw [T8 qO]; omega) UpC.upd ?_)
    refine D1 hs rfl (Q6 (e := 5) (sz := 1) (i := (m - 2) - 2) rfl rfl kR kR qO qO) rfl ?_
    refine G5 rfl rfl rfl (T7 (o + ((m - 2) - 2)) rfl rfl kR qO (by rw [List.length_set, T8 qO]; omega) UpC.upd ?_)
    rw [A1C qO qO (by rw [A1D, ← hv]; omega)]
    refine E4 (E2 0 4 12) (C2 (mv_ ?_))
    refine A4 (S5 (b := 4) rfl rfl rfl rfl qO qO) rfl ?_
    refine as_ (D0 ?_)
    exact jn (m - 4) ⟨by omega, by omega⟩ (kq 0 (kq 4 (kp 12 (by rw [show n - (m - 4) = k + 4 by omega, A1D, ← hv]; rfl) kn))) (Fit.eq (by rw [show n - (m - 4) = k + 4 by omega, show m - 2 - 2 = m - 4 by omega, show k + 2 + 2 = k + 4 by omega])) qI
   ·
    have hm4 : m < 4 := by simp at hc; omega
    refine A9 ?_
    exact jn m ⟨hm, hm4⟩ (kq 0 (kq 4 (kp 12 (by rw [← hk, ← hv]; rfl) kn))) (Fit.eq (by rw [← hk])) qI
  ·
   rintro m2 ⟨hm2, hm24⟩
   have hb2 := A5h hu hm2
   obtain ⟨k2, hk2⟩ : ∃ k, k = n - m2 := ⟨_, rfl⟩
   rw [← hk2]
   have hkm2 : k2 + m2 = n := by omega
   obtain ⟨v2, hv2⟩ : ∃ v, v = u / 10 ^ k2 := ⟨_, rfl⟩
   rw [← hv2]
   rw [← hk2, ← hv2] at hb2
   have hb27 : v2 < 1000 := Nat.lt_of_lt_of_le hb2 (Nat.pow_le_pow_right qD qO : 10 ^ m2 ≤ 10 ^ 3)
   refine A0x (α := Nat) (fun m => [(0, .slice (some ⟨b, o, none⟩) n cap), (4, .int .i64 (m : Int)), (12, .int .u32 ((u / 10 ^ (n - m) : Nat) : Int))]) (fun m => [(b, blk (nums .u8 (xs.take (o + m) ++ (dgs (n - m) u ++ xs.drop (o + n)))) e)]) (fun _ => []) (fun m => m ≤ n ∧ m < 2) ?_ ?_
   ·
    refine A3 (mv_ ?_)
    refine A4 (F1 rfl rfl rfl) rfl ?_
    refine A0 (E7 0 4 12 139) ?_
    refine C7 rfl ?_ ?_ <;> intro hc
    ·
     have hm22 : 2 ≤ m2 := by simp at hc; omega
     refine A3 (mv_ ?_)
     refine A4 (A0P (b := 100) rfl rfl rfl rfl qO) rfl ?_
     refine A4 (S7 4294967296 (b := 2) rfl rfl rfl rfl rfl rfl) rfl ?_
     refine as_ (A0 (E7 0 4 12 16) (A3 (mv_ ?_)))
     refine A4 (A3z (b := 100) (m := 4294967296) rfl rfl rfl rfl rfl rfl qO qO) rfl ?_
     refine as_ (A0 (E7 0 4 12 16) ?_)
     refine D2 [0, 1, 2, 3, 4, 5, 6, 7, 8, 9, 10, 11, 13] (zp 0 [0, 0, 0, 0, 0, 0, 0, 0, 0, 0, 0, 0, 2, 0, 2]) kR kR fun hs => ?_
     refine fm_ hs ?_
     refine fm_ hs ?_
     refine D1 hs rfl (S5 (b := 1) rfl rfl rfl rfl qO qO) rfl ?_
     refine fm_ hs ?_
     refine fm_ hs ?_
     refine D1 hs rfl (S5 (b := 2) rfl rfl rfl rfl qO qO) rfl ?_
     refine fm_ hs ?_
     refine D1 hs rfl (I6 4294967296 (b := 1) rfl rfl rfl rfl rfl rfl) rfl ?_
     refine D1 hs rfl (A0B (p := (v2 % 100)) rfl kR rfl kR qO qO) rfl ?_
     refine fm_ hs ?_
     refine D1 hs rfl (A0A (p := (v2 % 100)) rfl kR rfl kR qO qO) rfl ?_
     refine D1 hs rfl (Q6 (e := 5) (sz := 1) (i := m2 - 1) rfl rfl kR kR qO qO) rfl ?_
     refine G5 rfl rfl rfl (T7 (o + (m2 - 1)) rfl rfl kR qO (by rw [T8 qO]; omega) UpC.upd ?_)
     refine D1 hs rfl (Q6 (e := 5) (sz := 1) (i := m2 - 2) rfl rfl kR kR qO qO) rfl ?_
     refine G5 rfl rfl rfl (T7 (o + (m2 - 2)) rfl rfl kR qO (by rw [List.length_set, T8 qO]; omega) UpC.upd ?_)
     rw [A1C qO qO (by rw [← hv2])]
     refine E4 (E2 0 4 12) (C2 (mv_ ?_))
     refine A4 (S5 (b := 2) rfl rfl rfl rfl qO qO) rfl ?_
     refine as_ (D0 ?_)
     exact jn (m2 - 2) ⟨by omega, by omega⟩ (kq 0 (kq 4 (kp 12 (by rw [show n - (m2 - 2) = k2 + 2 by omega, A1D, ← hv2]; rfl) kn))) (Fit.eq (by rw [show n - (m2 - 2) = k2 + 2 by omega])) qI
    ·
     have hm22 : m2 < 2 := by simp at hc; omega
     refine A9 ?_
     exact jn m2 ⟨hm2, hm22⟩ (kq 0 (kq 4 (kp 12 (by rw [← hk2, ← hv2]; rfl) kn))) (Fit.eq (by rw [← hk2])) qI
   ·
    rintro m3 ⟨hm3, hm32⟩
    have hb3 := A5h hu hm3
    refine A3 (mv_ ?_)
    refine A4 (F1 rfl rfl rfl) rfl ?_
    refine A0 (E2 0 12 161) ?_
    refine C7 rfl ?_ ?_ <;> intro hc
    ·
     obtain rfl : m3 = 1 := by simp at hc; omega
     obtain ⟨k3, hk3⟩ : ∃ k, k = n - 1 := ⟨_, rfl⟩
     rw [← hk3]
     have hkm3 : k3 + 1 = n := by omega
     obtain ⟨v3, hv3⟩ : ∃ v, v = u / 10 ^ k3 := ⟨_, rfl⟩
     rw [← hv3]
     rw [← hk3, ← hv3] at hb3
     have hb37 : v3 < 10 := by simpa using hb3
     refine C2 (mv_ (mv_ ?_))
     refine A4 (I6 4294967296 (a := 48) rfl rfl rfl rfl rfl rfl) rfl ?_
     refine A4 (A3o rfl kR) rfl ?_
     rw [show (48 + v3) % 4294967296 % 256 = 48 + u / 10 ^ k3 % 10 by rw [← hv3]; omega]
     refine A4 (Q6 (e := 5) (sz := 1) (i := 0) rfl rfl kR kR rfl qO) rfl ?_
     refine A6 rfl (T7 (o + (1 - 1)) rfl rfl kR qO (by rw [T8 qO]; omega) UpC.upd ?_)
     rw [A3A qO qO]
     refine D0 ?_
     exact ⟨_, [(b, _)], [], B8O rfl, List.Sublist.refl _, by simp, rfl, by rw [hkm3]; rfl⟩
    ·
     obtain rfl : m3 = 0 := by simp at hc; omega
     refine A9 ?_
     exact ⟨_, [(b, _)], [], B8O rfl, List.Sublist.refl _, by simp, rfl, rfl⟩

def B69 : LN := [48, 49, 50, 51, 52, 53, 54, 55, 56, 57, 97, 98, 99, 100, 101, 102, 103, 104, 105, 106, 107, 108, 109, 110, 111, 112, 113, 114, 115, 116, 117, 118, 119, 120, 121, 122]
theorem A9D : ∀ i : Fin 10, (B69.take (i.val + 1)).drop i.val = dec i.val := by decide +kernel
theorem A7E : ∀ i : Fin 100, 10 ≤ i.val → (A5g.take (i.val * 2 + 2)).drop (i.val * 2) = dec i.val := by decide +kernel
theorem B3I {n : Nat} (h0 : 0 < n) (h : n ≤ 9223372036854775808) : IntKind.u64.wrap (-(n : Int)) = ((18446744073709551616 - n : Nat) : Int) := by
  simp [IntKind.wrap, IntKind.bits, IntKind.signed]; omega
theorem B0P {n : Nat} (h0 : 0 < n) (h : n ≤ 9223372036854775808) : IntKind.u64.wrap (0 - ((18446744073709551616 - n : Nat) : Int)) = (n : Int) := by
  simp [IntKind.wrap, IntKind.bits, IntKind.signed]; omega
theorem B7a {n : Nat} (h : nd10 n ≤ 20) : (((List.replicate 24 0).take 1 ++ (dgs (nd10 n) n ++ (List.replicate 24 0).drop (1 + nd10 n))).drop 1).take (nd10 n) = dec n := by
  rw [List.drop_append_of_le_length qM]
  simp [dec]
  rw [List.take_append_of_le_length (by rw [A1A]; omega), List.take_of_length_le (by rw [A1A]; omega)]
theorem B7b {n : Nat} (h : nd10 n ≤ 20) : (((List.replicate 24 0).take 1 ++ (dgs (nd10 n) n ++ (List.replicate 24 0).drop (1 + nd10 n))).set 0 45).take (1 + nd10 n) = 45 :: dec n := by
  simp only [List.replicate, List.take, List.cons_append, List.nil_append, List.set_cons_zero]
  rw [Nat.add_comm 1, List.take_succ_cons, List.take_append_of_le_length (by rw [A1A]; omega), List.take_of_length_le (by rw [A1A]; omega)]
  rfl
theorem A8v {k : IntKind} (ws : LN) (o n : Nat) : ((nums k ws).drop o).take n = nums k ((ws.drop o).take n) := by simp [nums, List.map_drop, List.map_take]
theorem A3B {n : Nat} (h : nd10 n ≤ 20) : ((List.replicate 24 0).take 1 ++ (dgs (nd10 n) n ++ (List.replicate 24 0).drop (1 + nd10 n))).length = 24 := by
  simp [A1A]; omega
theorem A6t (i : Nat) (hi : i < 100) (A : Mem) : FnV Tryz.prog 126 [.int .i64 (i : Int)] A (.string (txt (dec i))) := by
 refine FnX.enter (N := 15) Tryz.func126 rfl rfl rfl fun w => ?_
 refine C4 (D8 0) (A3 (as_ (A0 (D8 0) (A5 (A3 (mv_ ?_))))))
 refine A4 (F1 rfl rfl rfl) rfl ?_
 refine A0 (D5 0 4) ?_
 refine C7 rfl ?_ ?_ <;> intro hc
 ·
  have hlt : i < 10 := by simp at hc; omega
  refine A3 (mv_ (mv_ ?_))
  refine A4 (N8 (b := 1) rfl rfl rfl rfl qO) rfl ?_
  refine A4 (A9D ⟨i, hlt⟩ ▸ B9j (ws := B69) (a := i) (b := i + 1) rfl kR rfl rfl kR rfl rfl qO (by show _ ≤ 36; omega)) rfl ?_
  refine as_ (A0 (D8 2) (C3 (tr ?_)))
  exact ⟨_, [], [], K2 rfl rfl, List.nil_sublist _, by simp, rfl, rfl, rfl⟩
 ·
  have hge : 10 ≤ i := by simp at hc; omega
  refine A9 (nx (D8 0) (A3 (mv_ ?_)))
  refine A4 (A1q (b := 2) rfl rfl rfl rfl qO) rfl ?_
  refine mv_ ?_
  refine A4 (A1q (b := 2) rfl rfl rfl rfl qO) rfl ?_
  refine A4 (N8 (b := 2) rfl rfl rfl rfl qO) rfl ?_
  refine A4 (A7E ⟨i, hi⟩ hge ▸ B9j (ws := A5g) (a := i * 2) (b := i * 2 + 2) rfl kR rfl rfl kR rfl rfl qO (by rw [A2v]; omega)) rfl ?_
  refine as_ (A0 (D8 2) (C3 ?_))
  exact ⟨_, [], [], K2 rfl rfl, List.nil_sublist _, by simp, rfl, rfl, rfl⟩
theorem A4f (i : Int) (hmin : -9223372036854775808 ≤ i) (hmax : i ≤ 9223372036854775807) (A : Mem) {e4 : TypeId} {f4 : Nat × Nat} (h4 : (2, Obj.cells (nums .u64 A0R).toArray e4 f4) ∈ A) : FnV Tryz.prog 108 [.int .i64 i, .int .i64 10] A (.string (txt (decI i))) := by
 refine FnX.enter (N := 54) Tryz.func108 rfl rfl rfl fun w => ?_
 refine C4 (D5 0 1) (A3 (as_ (A0 (D5 0 1) (A5 (A3 (mv_ ?_))))))
 refine A4 (F4 true rfl rfl (eqT rfl)) rfl ?_
 refine A0 (E2 0 1 11) ?_
 refine E0 rfl ?_
 refine A5 (A3 (mv_ ?_))
 refine A4 (F1 rfl rfl rfl) rfl ?_
 refine mv_ ?_
 refine A0d (t := 14) rfl (fun hb => ?_) (fun hb => ?_)
 ·
  obtain ⟨n, rfl⟩ := Int.eq_ofNat_of_zero_le (show 0 ≤ i by simpa using hb)
  clear hb hmin
  rw [show decI ((n : Nat) : Int) = dec n by simp [decI]]
  refine G2 rfl rfl (OpQ.opL qm_ rfl ?_)
  refine G2 rfl rfl (OpQ.opL (F1 rfl rfl rfl) rfl ?_)
  refine A4 (I5 rfl rfl) rfl ?_
  refine A0 (D5 0 17) ?_
  refine C7 rfl ?_ ?_ <;> intro hc
  ·
   have hlt : n < 100 := by simp at hc; omega
   refine A3 (mv_ ?_)
   refine F6 (aS rfl a0) kR (A6t n hlt _) rfl ?_
   refine as_ (A0 (D8 4) (C3 (tr (tr ?_))))
   exact ⟨_, [], [], K2 rfl rfl, List.nil_sublist _, by simp, rfl, rfl, rfl⟩
  ·
   have hge : 100 ≤ n := by simp at hc; omega
   refine A9 (nx (D8 0) (A3 ?_))
   refine A6 rfl (C5 (cs := [zu8, zu8, zu8, zu8, zu8, zu8, zu8, zu8, zu8, zu8, zu8, zu8, zu8, zu8, zu8, zu8, zu8, zu8, zu8, zu8, zu8, zu8, zu8, zu8]) kR rfl fun b5 => ?_)
   refine A0 (D5 0 5) ?_
   have hnd := A2t (u := n) qO
   have hnd1 : 1 ≤ nd10 n := A5d 64 n
   have hlt10 : n < 10 ^ nd10 n := A6o 64 n (Nat.lt_trans (show n < 18446744073709551616 by omega) qD)
   refine A0p (M' := [(b5, blk (nums .u8 (List.replicate 24 0)) 182)]) (Fit.eq qR) qI ?_
   refine A3 (mv_ ?_)
   refine A4 ((Nat.mod_eq_of_lt (show n < 18446744073709551616 by omega)) ▸ B0q rfl kR) rfl ?_
   refine as_ (A0 (E2 0 5 6) (A5 (A3 (mv_ ?_))))
   refine A4 (F1 rfl rfl rfl) rfl ?_
   refine A0 (E7 0 5 6 23) ?_
   refine C7 rfl ?_ ?_ <;> intro hc
   ·
    exfalso
    simp at hc
    omega
   ·
    refine A9 (nx (E2 0 5 6) (A3 (mv_ ?_)))
    refine F6 (aS rfl a0) kR (A1r n qO qO _ (mA h4)) rfl ?_
    refine as_ (A0 (E7 0 5 6 7) (A3 (mv_ ?_)))
    refine A4 (N8 (a := 1) rfl rfl rfl rfl qO) rfl ?_
    refine A4 (A7B (sz := 1) (n := 24) (e := 5) 1 (1 + nd10 n) rfl kR kR rfl rfl rfl rfl qO qO qO) rfl ?_
    refine mv_ ?_
    refine A6 rfl (B0G (Mc := [(b5, blk (nums .u8 (List.replicate 24 0)) 182)]) (aS rfl (aS rfl a0)) kR (A6s b5 (0 + 1 * 1) (1 + nd10 n - 1) (24 - 1) n (List.replicate 24 0) _ qO qO (by simp; omega) (by rw [Nat.add_sub_cancel_left]; exact hlt10) qO _) qP rfl ?_)
    rintro r32 M32 J32 ⟨rfl, rfl⟩
    rw [Nat.add_sub_cancel_left]
    dsimp only [List.cons_append, List.nil_append]
    refine A0 (E2 0 5 7) (A5 (A3 (mv_ ?_)))
    refine A4 (F1 rfl rfl rfl) rfl ?_
    refine A0 (E2 5 7 34) ?_
    refine C7 rfl ?_ ?_ <;> intro hc
    ·
     exfalso
     simp at hc
     omega
    ·
     refine A9 (nx (D5 5 7) (A3 (mv_ ?_)))
     refine A4 (N8 (a := 1) rfl rfl rfl rfl qO) rfl ?_
     refine A4 (A7B (sz := 1) (n := 24) (e := 5) 1 (1 + nd10 n) rfl kR kR rfl rfl rfl rfl qO qO qO) rfl ?_
     refine A4 (A3s (ws := dec n) (n := 1 + nd10 n - 1) (A1n (Rd.mid (o := 0 + 1 * 1) (n := 1 + nd10 n - 1) (cap := 24 - 1) At.mem (by rw [nums_len, A3B hnd]; omega) qO) rfl (by rw [A8v, Nat.add_sub_cancel_left, show 0 + 1 * 1 = 1 from rfl, B7a hnd])) rfl kR) rfl ?_
     refine as_ (A0 (D8 4) (C3 (tr ?_)))
     exact ⟨_, [], [], K2 rfl rfl, List.nil_sublist _, by simp, rfl, rfl, rfl⟩
 ·
  obtain ⟨n, hn0, rfl⟩ : ∃ n : Nat, 0 < n ∧ i = -(n : Int) := ⟨i.natAbs, by simp at hb; omega, by simp at hb; omega⟩
  clear hb
  rw [show decI (-(n : Int)) = 45 :: dec n by simp [decI]; omega]
  refine L9 rfl rfl rfl rfl ?_
  refine L9 rfl rfl rfl rfl ?_
  refine A4 (E9 rfl rfl) rfl ?_
  refine A0 (D5 0 17) ?_
  refine D3 rfl ?_
  refine A9 (nx (D8 0) (A3 ?_))
  refine A6 rfl (C5 (cs := [zu8, zu8, zu8, zu8, zu8, zu8, zu8, zu8, zu8, zu8, zu8, zu8, zu8, zu8, zu8, zu8, zu8, zu8, zu8, zu8, zu8, zu8, zu8, zu8]) kR rfl fun b5 => ?_)
  refine A0 (D5 0 5) ?_
  have hnd := A2t (u := n) qO
  have hnd1 : 1 ≤ nd10 n := A5d 64 n
  have hlt10 : n < 10 ^ nd10 n := A6o 64 n (Nat.lt_trans (show n < 18446744073709551616 by omega) qD)
  refine A0p (M' := [(b5, blk (nums .u8 (List.replicate 24 0)) 182)]) (Fit.eq qR) qI ?_
  refine A3 (mv_ ?_)
  refine A4 (B3I hn0 qO ▸ B5w (k' := .u64) rfl kR) rfl ?_
  refine as_ (A0 (E2 0 5 6) (A5 (A3 (mv_ ?_))))
  refine A4 (F1 rfl rfl rfl) rfl ?_
  refine A0 (E7 0 5 6 23) ?_
  refine C7 rfl ?_ ?_ <;> intro hc
  ·
   refine C2 (mv_ ?_)
   refine A4 (B0P hn0 qO ▸ C1f rfl) rfl ?_
   refine as_ (A0 (E2 0 5 6) (A3 (mv_ ?_)))
   refine F6 (aS rfl a0) kR (A1r n qO qO _ (mA h4)) rfl ?_
   refine as_ (A0 (E7 0 5 6 7) (A3 (mv_ ?_)))
   refine A4 (N8 (a := 1) rfl rfl rfl rfl qO) rfl ?_
   refine A4 (A7B (sz := 1) (n := 24) (e := 5) 1 (1 + nd10 n) rfl kR kR rfl rfl rfl rfl qO qO qO) rfl ?_
   refine mv_ ?_
   refine A6 rfl (B0G (Mc := [(b5, blk (nums .u8 (List.replicate 24 0)) 182)]) (aS rfl (aS rfl a0)) kR (A6s b5 (0 + 1 * 1) (1 + nd10 n - 1) (24 - 1) n (List.replicate 24 0) _ qO qO (by simp; omega) (by rw [Nat.add_sub_cancel_left]; exact hlt10) qO _) qP rfl ?_)
   rintro r32 M32 J32 ⟨rfl, rfl⟩
   rw [Nat.add_sub_cancel_left]
   dsimp only [List.cons_append, List.nil_append]
   refine A0 (E2 0 5 7) (A5 (A3 (mv_ ?_)))
   refine A4 (F1 rfl rfl rfl) rfl ?_
   refine A0 (E2 5 7 34) ?_
   refine C7 rfl ?_ ?_ <;> intro hc
   ·
    refine A3 ?_
    refine A4 (qi_ 0 5 24 1 0) rfl ?_
    refine A6 rfl (T7 0 rfl rfl kR rfl (by rw [A3B hnd]; omega) UpC.upd ?_)
    refine A0 (D5 5 7) (A3 (mv_ ?_))
    refine A4 (N8 (a := 1) rfl rfl rfl rfl qO) rfl ?_
    refine A4 (B6Z (sz := 1) (n := 24) (e := 5) (1 + nd10 n) rfl kR kR rfl rfl qO) rfl ?_
    refine A4 (A3s (ws := 45 :: dec n) (n := 1 + nd10 n) (A1n (Rd.mid (o := 0) (n := 1 + nd10 n) (cap := 24) At.mem (by rw [nums_len, List.length_set, A3B hnd]; omega) qO) rfl (by rw [A8v, List.drop_zero, B7b hnd])) rfl kR) rfl ?_
    refine as_ (A0 (D8 4) (C3 (tr (tr ?_))))
    exact ⟨_, [], [], K2 rfl rfl, List.nil_sublist _, by simp, rfl, rfl, rfl⟩
   ·
    exfalso
    simp at hc
    omega
  ·
   exfalso
   simp at hc
   omega
theorem A9E (i : Int) (hmin : -9223372036854775808 ≤ i) (hmax : i ≤ 9223372036854775807) (A : Mem) {e4 : TypeId} {f4 : Nat × Nat} (h4 : (2, Obj.cells (nums .u64 A0R).toArray e4 f4) ∈ A) : FnV Tryz.prog 93 [.int .i64 i] A (.string (txt (decI i))) := by
 refine FnX.enter (N := 5) Tryz.func93 rfl rfl rfl fun w => ?_
 refine C4 (D8 0) (A3 (as_ (A0 (D8 0) (A3 (mv_ ?_)))))
 refine F6 (aS rfl (aS rfl a0)) kR (A4f i hmin hmax _ (mA h4)) rfl ?_
 refine as_ (A0 (D8 2) (C3 ?_))
 exact ⟨_, [], [], K2 rfl rfl, List.nil_sublist _, by simp, rfl, rfl, rfl⟩
theorem A3C (i : Int) (hmin : -9223372036854775808 ≤ i) (hmax : i ≤ 9223372036854775807) (A : Mem) {e4 : TypeId} {f4 : Nat × Nat} (h4 : (2, Obj.cells (nums .u64 A0R).toArray e4 f4) ∈ A) : FnV Tryz.prog 65 [.int .i64 i] A (.string (txt (decI i))) := by
 refine FnX.enter (N := 5) Tryz.func65 rfl rfl rfl fun w => ?_
 refine C4 (D8 0) (A3 (as_ (A0 (D8 0) (A3 (mv_ ?_)))))
 refine F6 (aS rfl a0) kR (A9E i hmin hmax _ (mA h4)) rfl ?_
 refine as_ (A0 (D8 2) (C3 ?_))
 exact ⟨_, [], [], K2 rfl rfl, List.nil_sublist _, by simp, rfl, rfl, rfl⟩

instance B256.dec {u : Nat} : B256 (dec u) := ⟨fun x h => by have := A2u h; omega⟩
instance B256.decI {i : Int} : B256 (decI i) := ⟨fun x h => by have := A29 h; omega⟩
def mark (p : LN) : LN := dec p.length ++ 58 :: p
def marks (l : List (LN)) : LN := l.flatMap mark
instance B256.mark {p : LN} [h : B256 p] : B256 (mark p) := by unfold Go.Proofs.YtoigcbkclcbmpaaGreatDoor.mark; exact @B256.app _ _ _ (B256.cons qD h)
def strs (l : List (LN)) : List Value := l.map fun p => .string (txt p)
end Go.Proofs.YtoigcbkclcbmpaaGreatDoor
namespace Go.Px
def A3D : List ByteArray → Nat → List MapEntry
  | [], _ => []
  | k :: ks, i => ⟨.string k, .int .i64 (i : Int), i⟩ :: A3D ks (i + 1)
theorem A5i : ∀ (ks : List ByteArray) (i : Nat), (A3D ks i).length = ks.length
  | [], _ => rfl
  | k :: ks, i => by simp [A3D, A5i ks]
theorem A8w : ∀ (ks : List ByteArray) (s : ByteArray) (i : Nat), A3D (ks ++ [s]) i = A3D ks i ++ [⟨.string s, .int .i64 ((i + ks.length : Nat) : Int), i + ks.length⟩]
  | [], s, i => by simp [A3D]
  | k :: ks, s, i => by
    simp only [List.cons_append, A3D, A8w ks s (i + 1), List.length_cons]
    rw [show i + 1 + ks.length = i + (ks.length + 1) by omega]
def W9 (s : ByteArray) : List ByteArray → Nat → Option Nat
  | [], _ => none
  | k :: ks, i => if s == k then some i else W9 s ks (i + 1)
theorem A6u (s : ByteArray) : ∀ (ks : List ByteArray) (i j : Nat), Instr.findNow .string (.string s) (A3D ks i) j = some ((W9 s ks i).map fun q => (q - i + j, .int .i64 (q : Int)))
  | [], i, j => rfl
  | k :: ks, i, j => by
    unfold A3D Instr.findNow W9
    simp only [Instr.sameNow]
    by_cases h : s == k
    · simp [h]
    · simp only [Bool.not_eq_true] at h
      simp only [h, Bool.false_eq_true, if_false]
      rw [A6u s ks (i + 1) (j + 1)]
      have hge : ∀ (ks : List ByteArray) (i q : Nat), W9 s ks i = some q → i ≤ q := by
        intro ks
        induction ks with
        | nil => intro i q h; cases h
        | cons k ks ih =>
          intro i q h
          unfold W9 at h
          split at h
          · cases h; exact Nat.le_refl _
          · have := ih _ _ h; omega
      cases hl : W9 s ks (i + 1) with
      | none => rfl
      | some q =>
        have := hge _ _ _ hl
        simp only [Option.map_some]
        congr 3; omega
theorem B7c {a b : ByteArray} : (a == b) = true ↔ a = b := by
  rcases a with ⟨a⟩; rcases b with ⟨b⟩
  show (a == b) = true ↔ _
  simp
theorem A4A {s : ByteArray} : ∀ {ks : List ByteArray} {i : Nat}, W9 s ks i = none ↔ s ∉ ks
  | [], i => by simp [W9]
  | k :: ks, i => by
    unfold W9
    by_cases h : s = k
    · rw [if_pos (B7c.2 h)]
      simp [h]
    · rw [if_neg (fun e => h (B7c.1 e)), A4A (ks := ks) (i := i + 1)]
      simp [h]
theorem A4B {s : ByteArray} : ∀ {ks : List ByteArray} {i q : Nat}, W9 s ks i = some q → i ≤ q ∧ ks[q - i]? = some s
  | [], i, q, h => by cases h
  | k :: ks, i, q, h => by
    unfold W9 at h
    split at h
    · rename_i he
      cases h
      have := B7c.1 he
      simp [this]
    · obtain ⟨h1, h2⟩ := A4B h
      refine ⟨by omega, ?_⟩
      rw [show q - i = (q - (i + 1)) + 1 by omega]
      simpa using h2
section
variable {P : Program} {R : Mem} {l : Env} {d : Option Nat} {ty t kt et : TypeId} {pos : String} {af : Array Edge} {g : Option (Nat × Bool)} {x y z : Operand} {b c : Nat} {s : ByteArray} {ks : List ByteArray}
theorem A8x {em : Bool} {w : World} (hk : P.underlying kt = some .string) : (Instr.checkKey em 10000 kt (.string s)).run P w = .ok () w := by
  unfold Instr.checkKey
  simp only [Sem.run_bind, run_underlying hk, Result.andThen_ok]
  rfl
theorem B0Q {w : World} (hk : P.underlying kt = some .string) : (Instr.findKey kt (.string s) (A3D ks 0)).run P w = .ok ((W9 s ks 0).map fun q => (q, .int .i64 (q : Int))) w := by
  unfold Instr.findKey
  simp only [Sem.run_bind, run_underlying hk, Result.andThen_ok, A6u]
  cases W9 s ks 0 <;> simp
theorem B7d (hx : ev l x = some (.map (some b))) (hy : ev l y = some (.string s)) (hu : P.underlying t = some (.map kt et)) (hk : P.underlying kt = some .string) (hz : ∀ w, (zeroValue et).run P w = .ok (.int .i64 0) w)
    (hb : (b, Obj.map (A3D ks 0).toArray c) ∈ R) : OpQ P R ⟨d, .lookup t x y true, ty, pos, af, g⟩ l (.tuple #[.int .i64 (((W9 s ks 0).getD 0 : Nat) : Int), .bool (W9 s ks 0).isSome]) := fun N a w ha hw => by
  have hm : (getObj b).run P w = .ok (.map (A3D ks 0).toArray c) w := by simp [getObj, Sem.run, hw _ _ hb]
  simp only [execOp, ha.ev hx, ha.ev hy, Instr.lookup, Sem.run_bind, run_underlying hu, Result.andThen_ok, hm, Sem.run_pure, A8x hk]
  rw [B0Q hk]
  cases W9 s ks 0 <;> simp [hz]
end
section
variable {C : Cx} {l : Env} {M J : Mem} {K : Env → Mem → Mem → Prop} {d : Nat} {ty t kt et : TypeId} {pos : String} {af : Array Edge} {g : Option (Nat × Bool)} {x y z : Operand} {b : Nat} {s : ByteArray} {ks : List ByteArray}
theorem B0R (hd : Nat.blt d C.N = true) (k : ∀ b, K ((d, .map (some b)) :: l) ((b, .map (A3D [] 0).toArray 0) :: M) J) : OpL C ⟨some d, .makeMap t none, ty, pos, af, g⟩ l M J K := by
  intro Qp a w ha hw
  unfold Oper.wp
  simp only [execOp, Option.map_none, RowKit.run_makeMap]
  exact ⟨_, _, J, ha.put (C8 hd) _, hw.alloc _, k _⟩
def A5j (ks : List ByteArray) (s : ByteArray) : List MapEntry := A3D ks 0 ++ [{ key := .string s, val := .int .i64 0, born := ks.length }]
theorem A9F {M' : Mem} (hx : ev l x = some (.map (some b))) (hy : ev l y = some (.string s)) (hu : C.P.underlying t = some (.map kt et)) (hk : C.P.underlying kt = some .string) (hz : ∀ w, (zeroValue et).run C.P w = .ok (.int .i64 0) w) (hn : W9 s ks 0 = none) (hd : Nat.blt d C.N = true)
    (hM : Upd M b (.map (A3D ks 0).toArray ks.length) (.map (A5j ks s).toArray (ks.length + 1)) M') (k : K ((d, .tuple #[.int .i64 0, .int .i64 (ks.length : Int)]) :: l) M' J) : OpL C ⟨some d, .mapEntry t x y, ty, pos, af, g⟩ l M J K := by
  intro Qp a w ha hw
  have hm := hw.mem _ _ (List.mem_append_left _ hM.mem)
  have hst : (Instr.mapEntry t (.map (some b)) (.string s)).run C.P w = .ok (.tuple #[.int .i64 0, .int .i64 (ks.length : Int)]) { w with heap := w.heap.setIfInBounds b (.map (A5j ks s).toArray (ks.length + 1)) } := by
    have hg : (getObj b).run C.P w = .ok (.map (A3D ks 0).toArray ks.length) w := by simp [getObj, Sem.run, hm]
    have hs : ∀ o, (setObj b o).run C.P w = .ok () { w with heap := w.heap.setIfInBounds b o } := fun o => by simp [setObj, Sem.run, hm]
    simp only [Instr.mapEntry, Sem.run_bind, run_underlying hu, Result.andThen_ok, hg, A8x hk]
    rw [B0Q hk, hn]
    simp only [Option.map_none, Result.andThen_ok, Sem.run_bind, hz, hs, Sem.run_pure]
    simp [goInt, A5j]
  unfold Oper.wp
  simp only [execOp, ha.ev hx, ha.ev hy, hst, Sem.run_bind, Result.andThen_ok, Sem.run_pure]
  refine ⟨_, _, J, ha.put (C8 hd) _, hw.upd hM (by simp [R6 hm]) (fun k hk => by simp [Array.getElem?_setIfInBounds, Ne.symm hk]) (by simp) rfl rfl rfl, k⟩
theorem A8y (e : MapEntry) : ∀ (ks : List ByteArray) (i n : Nat), n = i + ks.length → e.born = n → (A3D ks i ++ [e]).findIdx? (fun e => (e.born : Int) == (n : Int)) = some ks.length
  | [], i, n, hn, he => by simp [A3D, List.findIdx?_cons, he]
  | k :: ks, i, n, hn, he => by
    simp only [List.length_cons] at hn
    rw [A3D, List.cons_append, List.findIdx?_cons, if_neg (by simp; omega), A8y e ks (i + 1) n (by omega) he]
    rfl
theorem A6v {M' : Mem} (hx : ev l x = some (.map (some b))) (hy : ev l y = some (.int .i64 (ks.length : Int))) (hz : ev l z = some (.int .i64 (ks.length : Int)))
    (hM : Upd M b (.map (A5j ks s).toArray (ks.length + 1)) (.map (A3D (ks ++ [s]) 0).toArray (ks.length + 1)) M') (k : K l M' J) : OpL C ⟨none, .entryStore t x y z, ty, pos, af, g⟩ l M J K := by
  intro Qp a w ha hw
  have hm := hw.mem _ _ (List.mem_append_left _ hM.mem)
  have hst : (Instr.entryStore t (.map (some b)) (.int .i64 (ks.length : Int)) (.int .i64 (ks.length : Int))).run C.P w = .ok () { w with heap := w.heap.setIfInBounds b (.map (A3D (ks ++ [s]) 0).toArray (ks.length + 1)) } := by
    have hg : (getObj b).run C.P w = .ok (.map (A5j ks s).toArray (ks.length + 1)) w := by simp [getObj, Sem.run, hm]
    have hs : ∀ o, (setObj b o).run C.P w = .ok () { w with heap := w.heap.setIfInBounds b o } := fun o => by simp [setObj, Sem.run, hm]
    have hi : (A5j ks s).toArray.findIdx? (fun e => (e.born : Int) == (ks.length : Int)) = some ks.length := by
      rw [List.findIdx?_toArray]; unfold A5j; exact A8y _ ks 0 ks.length (by omega) rfl
    have hmod : (A5j ks s).toArray.modify ks.length (fun e => { e with val := .int .i64 (ks.length : Int) }) = (A3D (ks ++ [s]) 0).toArray := by
      unfold A5j
      rw [A8w, Nat.zero_add, List.modify_toArray]
      congr 1
      rw [List.modify_eq_take_cons_drop (by simp [A5i])]
      simp [A5i, List.getElem_append_right]
    simp only [Instr.entryStore, Sem.run_bind, Result.andThen_ok, hg, asInt, asIntOf, Sem.run_pure, hi, hs, hmod]
  unfold Oper.wp
  simp only [execOp, ha.ev hx, ha.ev hy, ha.ev hz, hst, Sem.run_bind, Result.andThen_ok]
  refine ⟨_, _, J, ha, hw.upd hM (by simp [R6 hm]) (fun k hk => by simp [Array.getElem?_setIfInBounds, Ne.symm hk]) (by simp) rfl rfl rfl, k⟩
end
end Go.Px

namespace Go.Proofs.YtoigcbkclcbmpaaGreatDoor
open Go.Px
def A1s (l : List Int) : List Value := l.map (.int .i64)
abbrev tmc (k : Nat) (vo : Value) (t : LN) (n : Int) : List Value := [.int .u8 (k : Int), vo, .string (txt t), .int .i64 n]

def i64 (i : Int) : Prop := -9223372036854775808 ≤ i ∧ i ≤ 9223372036854775807
structure Tmo (t : Tm) : Prop where
  kind : t.kind < 256
  n : i64 t.n
  of : ∀ i ∈ t.of, i64 i
  ofl : t.of.length ≤ 1048576
  text : B256 t.text
  tl : t.text.length ≤ 1099511627776
theorem Tmo.ok {t : Tm} (h : Tmo t) : t.ok := ⟨h.kind, by have := h.n; unfold i64 at this; omega, fun i hi => by have := h.of i hi; unfold i64 at this; omega, h.text.lt⟩
theorem A3b (l : List Int) : (A1s l).length = l.length := by simp [A1s]
theorem B0S (l : List Int) : ∀ c ∈ A1s l, c.oneCell' = true := fun c hc => by
  obtain ⟨i, _, rfl⟩ := List.mem_map.1 hc; rfl
def TmC (R : Mem) (c : List Value) (t : Tm) : Prop := ∃ vo, c = tmc t.kind vo t.text t.n ∧ Rd R 1 vo t.of.length (A1s t.of)
theorem TmC.mono {R R' : Mem} {c : List Value} {t : Tm} (h : TmC R c t) (hR : ∀ x, x ∈ R → x ∈ R') : TmC R' c t := by
  obtain ⟨vo, h1, h2⟩ := h; exact ⟨vo, h1, h2.mono hR⟩
def pre (t : Tm) (i : Nat) : LN := dec t.kind ++ 32 :: decI t.n ++ (t.of.take i).flatMap (fun j => 32 :: decI j)
theorem A8z {t : Tm} {i : Nat} (h : i < t.of.length) : pre t (i + 1) = pre t i ++ (32 :: decI t.of[i]) := by
  unfold pre
  rw [List.take_add_one, List.getElem?_eq_getElem h, List.flatMap_append]
  simp
theorem B5H (t : Tm) : t.nm = pre t t.of.length ++ 58 :: t.text := by
  unfold Tm.nm pre B0a
  rw [List.take_length]
  simp [List.flatMap_map]
theorem B9o (t : Tm) (i : Nat) : B256 (pre t i) := ⟨fun x hx => by
  unfold pre at hx
  simp only [List.mem_append, List.mem_cons, List.mem_flatMap] at hx
  rcases hx with (hx | hx | hx) | ⟨j, _, hx | hx⟩
  · have := A2u hx; omega
  · omega
  · have := A29 hx; omega
  · omega
  · have := A29 hx; omega⟩
theorem B0T {t : Tm} (h : Tmo t) : ∀ i, i ≤ t.of.length → (pre t i).length ≤ 43 + 22 * i
  | 0, _ => by
    have a := A2t (u := t.kind) (by have := h.kind; omega)
    have b := A3a (i := t.n) (h.ok.n)
    simp only [pre, List.take_zero, List.flatMap_nil, List.append_nil, List.length_append, List.length_cons, A5e]
    omega
  | i + 1, hi => by
    have a := B0T h i qO
    have b := A3a (i := t.of[i]) (h.ok.of _ (List.getElem_mem _))
    rw [A8z qO, List.length_append, List.length_cons]
    omega
theorem nm_b {t : Tm} (h : Tmo t) : B256 t.nm := by
  rw [B5H]
  exact @B256.app _ _ (B9o _ _) (B256.cons qD h.text)
def key (t : Tm) : ByteArray := txt t.nm
theorem B0U {s t : Tm} (hs : Tmo s) (ht : Tmo t) (h : key s = key t) : s = t := Tm.nm_inj hs.ok ht.ok (A7w (nm_b hs).lt (nm_b ht).lt h)
theorem A8A {t : Tm} {ts : List Tm} (ht : Tmo t) (hts : ∀ t ∈ ts, Tmo t) : (W9 (key t) (ts.map key) 0 = none ↔ t ∉ ts) ∧ ∀ i, W9 (key t) (ts.map key) 0 = some i → ts[i]? = some t := by
  constructor
  · rw [A4A, List.mem_map]
    constructor
    · exact fun h hm => h ⟨t, hm, rfl⟩
    · rintro h ⟨s, hs, e⟩
      exact h (B0U (hts s hs) ht e ▸ hs)
  · intro i h
    obtain ⟨_, h2⟩ := A4B h
    rw [Nat.sub_zero, List.getElem?_map] at h2
    cases h3 : ts[i]? with
    | none => rw [h3] at h2; cases h2
    | some s =>
      rw [h3] at h2
      have := B0U (hts s (List.mem_of_getElem? h3)) ht (by simpa using h2)
      rw [this]
def Tab (bt bm : Nat) (ts : List Tm) (M : Mem) : Prop := ∃ (v : Value) (rows : List (List Value)) (ks : List ByteArray) (Bl BX : Mem), M = (bt, blk [v, .map (some bm)] 85) :: (bm, .map (A3D ks 0).toArray ks.length) :: (Bl ++ BX) ∧ ks = ts.map key ∧ Sl 4 v ks.length rows.flatten Bl ∧ rows.length = ks.length ∧ (∀ r ∈ rows, r.length = 4) ∧ (∀ (j : Nat) (t : Tm), ts[j]? = some t → ∃ r, rows[j]? = some r ∧ TmC BX r t) ∧ (∀ t ∈ ts, Tmo t) ∧ ts.Nodup
theorem B3J (k : Nat) : decI ((k : Nat) : Int) = dec k := by simp [decI]
theorem A7F (v : Value) (n : Nat) (xs : List Value) (A : Mem) (h : Rd A 1 v n xs) (h1 : ∀ c ∈ xs, c.oneCell' = true) (hn : n ≤ 1099511627776) : FnX Tryz.prog 35 [v] [] A fun r M J => J = [] ∧ Rd M 1 r n xs := by
 haveI := h.cel
 refine FnX.enter (N := 8) Tryz.func35 rfl rfl rfl fun w => ?_
 refine C4 (D8 0) (A3 (as_ (A0 (D8 0) (A5 (A3 (mv_ ?_))))))
 refine A4 (A6n (e := 3) rfl kR (by first | assumption | exact Sl.rd (by assumption) qI | exact By.rd (by assumption))) rfl ?_
 refine A0 (D5 0 4) ?_
 refine C7 rfl ?_ ?_ <;> intro hc
 ·
  have h0 := h.isNil hc
  subst h0
  obtain rfl : xs = [] := List.eq_nil_of_length_eq_zero (by have := h.len; omega)
  refine A3 (as_ (A0 (D8 2) (C3 (tr ?_))))
  exact ⟨_, [], [], K2 rfl rfl, List.nil_sublist _, by simp, rfl, Rd.nil⟩
 ·
  refine A9 (nx (D8 0) (A3 ?_))
  refine A6 rfl (C6 (e := 3) (sz := 1) (z := []) kR e0 bd0 rfl fun b5 => ?_)
  refine mv_ ?_
  refine A6 rfl (I3 (e := 3) (sz := 1) (by_ := 8) rfl rfl kR rfl (Sl.fresh (n := 0) (cs := []) (e := 3) rfl qD) (Rd.mono h qS) h1 qP (by unfold maxLen; omega) qO rfl fun v7 B7 hs7 => ?_)
  refine as_ (A0 (D8 2) (C3 ?_))
  exact ⟨_, B7, [], K2 rfl rfl, List.sublist_append_left _ _, by simp, rfl, A1n (hs7.rd fun _ h => h) qO qM⟩
theorem A6w (vo : Value) (t : Tm) (A : Mem) (hvo : Rd A 1 vo t.of.length (A1s t.of)) (ht : Tmo t) {e4 : TypeId} {f4 : Nat × Nat} (h4 : (2, Obj.cells (nums .u64 A0R).toArray e4 f4) ∈ A) : FnV Tryz.prog 34 [.agg (tmc t.kind vo t.text t.n).toArray] A (.string (key t)) := by
 haveI := hvo.cel
 have hkind := ht.kind
 refine FnX.enter (N := 33) Tryz.func34 rfl rfl rfl fun w => ?_
 refine C4 (D8 0) (A3 ?_)
 refine A6 rfl (bx_ fun b1 => ?_)
 refine as_ (A0 (D8 1) ?_)
 refine D2 (.range 10) [(0, 0), (1, 1), (2, 0), (5, 0), (6, 1), (3, 2), (4, 0), (7, 2), (8, 0), (9, 0)] kR kR fun hs => ?_
 refine D1 hs rfl (qf_ 0 0) rfl ?_
 refine F7 hs rfl ql_ rfl ?_
 refine D1 hs rfl (A1o (k' := .i64) rfl kR (by show _ < 9223372036854775808; have := ht.kind; omega)) rfl ?_
 refine D1 hs rfl (qf_ 3 3) rfl ?_
 refine F7 hs rfl ql_ rfl ?_
 refine T6 rfl (aS rfl a0) kR (A3C (t.kind : Int) (by have := ht.kind; omega) (by have := ht.kind; omega) _ (mA h4)) rfl ?_
 rw [B3J]
 refine D1 hs rfl (A4v (ws' := [32]) rfl rfl rfl kR (by simp only [A5e, List.length_cons, List.length_nil]; have := A2t (u := t.kind) (by have := ht.kind; omega); omega)) rfl ?_
 refine T6 rfl (aS rfl a0) kR (A3C t.n ht.n.1 ht.n.2 _ (mA h4)) rfl ?_
 refine D1 hs rfl (A4v rfl rfl rfl rfl (by simp only [List.length_append, A5e, List.length_cons, List.length_nil]; have := A2t (u := t.kind) (by have := ht.kind; omega); have := A3a (i := t.n) ht.ok.n; omega)) rfl ?_
 refine fa_ hs ?_
 rw [show dec t.kind ++ [32] ++ decI t.n = pre t 0 by simp [pre]]
 refine E4 (D5 1 3) (A5 (A3 ?_))
 refine A4 (qf_ 1 1) rfl ?_
 refine A4 ql_ rfl ?_
 refine A4 (K1 (sz := 1) rfl kR hvo) rfl ?_
 refine mv_ (A0 (F5 1 3 16 17 18) (C0 ?_))
 refine F2 (α := Nat) (fun i => [(1, (vP b1)), (3, .string (txt (pre t i))), (16, vo), (17, (vI t.of.length)), (18, .int .i64 (i : Int))]) (fun _ => [(b1, blk (tmc t.kind vo t.text t.n) 69)]) (fun _ => []) (fun i => i ≤ t.of.length) (fun i => t.of.length - i) 0 (Nat.zero_le _) (F5 1 3 16 17 18) .rfl qI ?_
 rintro i hi
 have hpl := B0T ht i hi
 have hofl := ht.ofl
 haveI := B9o t i
 refine A3 ?_
 refine A4 (F1 rfl rfl rfl) rfl ?_
 refine A0 (I1 1 3 16 17 18 19) (A5 ?_)
 refine C7 rfl ?_ ?_ <;> intro hc
 ·
  have hlt : i < t.of.length := by simp at hc; omega
  have hi64 := ht.of _ (List.getElem_mem hlt)
  have hdl := A3a (i := t.of[i]) (ht.ok.of _ (List.getElem_mem hlt))
  refine A9 (nx (F5 1 3 16 17 18) (A5 (C0 (A3 ?_))))
  refine A4 (K0 (sz := 1) rfl rfl kR rfl hvo hlt) rfl ?_
  refine A4 (A00 (u := .int .i64 t.of[i]) (Rd.mono hvo qS) rfl kR (by simp [A1s, hlt])) rfl ?_
  refine as_ (A0 (I1 1 3 5 16 17 18) (C2 (mv_ (mv_ ?_))))
  refine F6 (aS rfl a0) kR (A3C t.of[i] hi64.1 hi64.2 _ (mA h4)) rfl ?_
  refine A4 (A4v (ws := [32]) rfl rfl kR rfl (by simp only [List.length_cons, List.length_nil]; omega)) rfl ?_
  refine A4 (A4v rfl rfl rfl rfl (by simp only [List.length_cons, List.length_append, List.length_nil]; omega)) rfl ?_
  refine as_ ?_
  rw [show pre t i ++ ([32] ++ decI t.of[i]) = pre t (i + 1) by rw [A8z hlt]; rfl]
  refine D0 (nb (nx (F5 1 3 16 17 18) (C2 ?_)))
  refine A4 (N8 (b := 1) rfl rfl rfl rfl qO) rfl ?_
  refine mv_ (D0 ?_)
  exact rn (i + 1) qO qO (F5 1 3 16 17 18) .rfl qI
 ·
  have hge : i = t.of.length := by simp at hc; omega
  subst hge
  refine E6 (te (re (be rfl (nx (D5 1 3) (A3 (mv_ ?_))))))
  refine A4 (A4v (ws' := [58]) rfl rfl rfl kR (by simp only [List.length_cons, List.length_nil]; omega)) rfl ?_
  refine A4 (qf_ 2 2) rfl ?_
  refine A4 ql_ rfl ?_
  refine A4 (A4v rfl rfl rfl rfl (by simp only [List.length_append, List.length_cons, List.length_nil]; have := ht.tl; omega)) rfl ?_
  refine as_ (A0 (D8 2) (C3 ?_))
  refine ⟨_, [], [], K2 rfl rfl, List.nil_sublist _, by simp, ?_, rfl, rfl⟩
  rw [key, B5H]; simp
theorem A6x (A : Mem) : FnX Tryz.prog 30 [] [] A fun r M J => J = [] ∧ ∃ bt bm, r = (vP bt) ∧ Tab bt bm [] M := by
 refine FnX.enter (N := 4) Tryz.func30 rfl rfl rfl fun w => ?_
 refine C4 kn (A3 (as_ (A0 kn (A3 ?_))))
 refine A6 rfl (B0R rfl fun b1 => ?_)
 refine A4 (F3 (place := fun x => #[(0, 1), (1, 1)][x]?) (z := [vS, .map none]) (fun _ => by kernel_rfl) (eS rfl e0) (bdS 1 1 rfl qR bd0)) rfl ?_
 refine A6 rfl (bx_ fun b3 => ?_)
 refine as_ (A0 (D8 0) (C3 ?_))
 exact ⟨_, [_, _], [], K2 rfl rfl, List.Sublist.refl _, by simp, rfl, b3, b1, rfl, vS, [], [], [], [], rfl, rfl, Sl.nil, rfl, (fun r h => by cases h), (fun j t h => by simp at h), (fun t h => by cases h), List.nodup_nil⟩
theorem B0V (bt bm : Nat) (ts : List Tm) (MT A : Mem) (hT : Tab bt bm ts MT) (hsub : ∀ x, x ∈ MT → x ∈ A) : FnV Tryz.prog 78 [(vP bt)] A (vI ts.length) := by
 obtain ⟨v, rows, ks, Bl, BX, rfl, hks, hsl, hrl, hr4, hat, hto, hnd⟩ := hT
 have hbt : (bt, blk [v, .map (some bm)] 85) ∈ A := hsub _ qM
 have hrd := hsl.rd (R := A) (fun x hx => hsub x (by simp [hx]))
 refine FnX.enter (N := 10) Tryz.func78 rfl rfl rfl fun w => ?_
 refine C4 (D8 0) (A3 (as_ (A0 (D8 0) (A5 (A3 (mv_ ?_))))))
 refine A4 (F0 (e := 85) rfl rfl kR) rfl ?_
 refine A0 (D5 0 4) ?_
 refine D3 rfl ?_
 refine A9 (nx (D8 0) (A3 (mv_ ?_)))
 refine A4 (F9 rfl) rfl ?_
 refine A4 (qf_ 0 0) rfl ?_
 refine A4 (I2 rfl kR (mA hbt) qR) rfl ?_
 refine A4 (K1 (sz := 4) rfl kR hrd) rfl ?_
 refine as_ (A0 (D8 2) (C3 ?_))
 refine ⟨_, [], [], K2 rfl rfl, List.nil_sublist _, by simp, ?_, rfl, rfl⟩
 rw [hks, List.length_map]
theorem A3E (bt bm : Nat) (ts : List Tm) (i : Int) (MT A : Mem) (hT : Tab bt bm ts MT) (hsub : ∀ x, x ∈ MT → x ∈ A) : FnX Tryz.prog 45 [(vP bt), .int .i64 i] [] A fun r M J => M = [] ∧ J = [] ∧ ∃ c ok, r = .tuple #[.agg (List.toArray c), .bool ok] ∧ ((0 ≤ i ∧ i < (ts.length : Int)) → ok = true ∧ ∃ t, ts[i.toNat]? = some t ∧ TmC A c t) ∧ (¬ (0 ≤ i ∧ i < (ts.length : Int)) → ok = false ∧ c = tmc 0 (vS) [] 0) := by
 obtain ⟨v, rows, ks, Bl, BX, rfl, hks, hsl, hrl, hr4, hat, hto, hnd⟩ := hT
 have hbt : (bt, blk [v, .map (some bm)] 85) ∈ A := hsub _ qM
 have hrd := hsl.rd (R := A) (fun x hx => hsub x (by simp [hx]))
 have hkl : ks.length = ts.length := by rw [hks, List.length_map]
 refine FnX.enter (N := 29) Tryz.func45 rfl rfl rfl fun w => ?_
 refine C4 (D5 0 1) (A3 ?_)
 refine A6 rfl (C5 (cs := [.int .u8 0, vS, .string ByteArray.empty, .int .i64 0]) kR rfl fun b4 => ?_)
 refine as_ (A0 (E2 0 1 4) (A5 (A3 (mv_ ?_))))
 refine A4 (F0 (e := 85) rfl rfl kR) rfl ?_
 refine mv_ ?_
 refine G2 rfl rfl (OpQ.opL qm_ rfl ?_)
 refine G2 rfl rfl (OpQ.opL (F1 rfl rfl rfl) rfl ?_)
 refine A4 (E9 rfl rfl) rfl ?_
 refine mv_ ?_
 refine A0d (t := 12) rfl (fun hb => ?_) (fun hb => ?_)
 ·
  have hlt0 : i < 0 := by simpa using hb
  refine L9 rfl rfl rfl rfl ?_
  refine L9 rfl rfl rfl rfl ?_
  refine L9 rfl rfl rfl rfl ?_
  refine L9 rfl rfl rfl rfl ?_
  refine L9 rfl rfl rfl rfl ?_
  refine L9 rfl rfl rfl rfl ?_
  refine L9 rfl rfl rfl rfl ?_
  refine A4 (I5 rfl rfl) rfl ?_
  refine A0 (E7 0 1 4 20) ?_
  refine E0 rfl ?_
  refine A3 ?_
  refine A4 (F3 (place := fun x => #[(0, 1), (1, 1), (2, 1), (3, 1)][x]?) (z := [.int .u8 0, vS, .string ByteArray.empty, .int .i64 0]) (fun _ => by kernel_rfl) e0 bd0) rfl ?_
  refine A6 rfl (A8 rfl rfl Cel.cel kR ln4 al4 UpC.upd ?_)
  refine as_ (A0 (D5 4 5) (C3 (tr ?_)))
  refine ⟨_, [], [], A1m rfl rfl rfl kR At.mem qR, List.nil_sublist _, by simp, rfl, rfl, _, _, rfl, (fun h => absurd h.1 qO), fun _ => ⟨rfl, rfl⟩⟩
 ·
  have hge0 : 0 ≤ i := by simpa using hb
  obtain ⟨n, rfl⟩ := Int.eq_ofNat_of_zero_le hge0
  refine G2 rfl rfl (OpQ.opL qm_ rfl ?_)
  refine G2 rfl rfl (OpQ.opL qm_ rfl ?_)
  refine G2 rfl rfl (OpQ.opL (F9 rfl) rfl ?_)
  refine G2 rfl rfl (OpQ.opL (qf_ 0 0) rfl ?_)
  refine G2 rfl rfl (OpQ.opL (I2 rfl kR (mA hbt) qR) rfl ?_)
  refine G2 rfl rfl (OpQ.opL (K1 (sz := 4) rfl kR hrd) rfl ?_)
  refine G2 rfl rfl (OpQ.opL (F1 rfl rfl rfl) rfl ?_)
  refine A4 (E9 rfl rfl) rfl ?_
  refine A0 (E7 0 1 4 20) ?_
  refine C7 rfl ?_ ?_ <;> intro hc
  ·
   have hge : ts.length ≤ n := by simp at hc; omega
   refine A3 ?_
   refine A4 (F3 (place := fun x => #[(0, 1), (1, 1), (2, 1), (3, 1)][x]?) (z := [.int .u8 0, vS, .string ByteArray.empty, .int .i64 0]) (fun _ => by kernel_rfl) e0 bd0) rfl ?_
   refine A6 rfl (A8 rfl rfl Cel.cel kR ln4 al4 UpC.upd ?_)
   refine as_ (A0 (D5 4 5) (C3 (tr ?_)))
   refine ⟨_, [], [], A1m rfl rfl rfl kR At.mem qR, List.nil_sublist _, by simp, rfl, rfl, _, _, rfl, (fun h => absurd h.2 qO), fun _ => ⟨rfl, rfl⟩⟩
  ·
   have hlt : n < ts.length := by simp at hc; omega
   obtain ⟨r, hr, hcr⟩ := hat n ts[n] (List.getElem?_eq_getElem hlt)
   obtain ⟨vo, rfl, hvo⟩ := hcr
   refine A9 (nx (E2 0 1 4) (A3 (mv_ ?_)))
   refine A4 (F9 rfl) rfl ?_
   refine A4 (qf_ 0 0) rfl ?_
   refine A4 (I2 rfl kR (mA hbt) qR) rfl ?_
   refine mv_ ?_
   refine A4 (K0 (sz := 4) rfl rfl kR rfl hrd qO) rfl ?_
   refine A4 (A0Q rfl kR (hrd.mono fun _ h => mA h) hr4 qD hr) rfl ?_
   refine A6 rfl (A8 rfl rfl rfl kR qR (by intro c hc; simp only [List.mem_cons, List.not_mem_nil, or_false] at hc; rcases hc with rfl | rfl | rfl | rfl <;> first | rfl | exact Rd.one hvo) UpC.upd ?_)
   refine as_ (A0 (D5 4 5) (C3 ?_))
   refine ⟨_, [], [], A1m rfl rfl rfl kR At.mem qR, List.nil_sublist _, by simp, rfl, rfl, _, _, rfl, (fun _ => ⟨rfl, ts[n], by simp [hlt], vo, rfl, hvo.mono fun x hx => hsub x (by simp [hx])⟩), fun h => absurd ⟨Int.natCast_nonneg n, by omega⟩ h⟩

end Go.Proofs.YtoigcbkclcbmpaaGreatDoor
