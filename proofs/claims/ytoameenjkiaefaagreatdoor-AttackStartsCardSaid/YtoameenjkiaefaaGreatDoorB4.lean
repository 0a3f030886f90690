/- Part 4 of the texts of this claim, one behind the other. -/
import Derived.Test.YtoameenjkiaefaaGreatDoorB3
import Derived.Test.YtoameenjkiaefaaGreatDoorRows
set_option linter.unusedVariables false
set_option linter.unusedSimpArgs false
set_option maxRecDepth 100000
namespace Go.Px
structure Gw where
  i : Nat
  d : Nat
  φ : Value → Mem → Mem → Prop
def A1i (G : List Gw) (vs : Nat → Value) : Env := G.map fun g => (g.d, vs g.i)
def A2c (φ : Value → Mem → Mem → Prop) : Prop := ∀ v B R R', (∀ x ∈ R, x ∈ R') → φ v B R → φ v B R'
def toG (G : List Gw) : List Gm := G.map fun g => ⟨g.i, g.d, fun _ _ => True⟩
theorem B8f (G : List Gw) : (toG G).map (·.i) = G.map (·.i) := by simp [toG]
theorem B8g (G : List Gw) : (toG G).map (·.d) = G.map (·.d) := by simp [toG]
theorem A8e (G : List Gw) (vs : Nat → Value) : A13 (toG G) vs = A1i G vs := by simp [A13, A1i, toG]
theorem B2t {G : List Gw} (h : (G.map (·.i)).Nodup) {g g' : Gw} (hg : g ∈ G) (hg' : g' ∈ G) (e : g.i = g'.i) : g = g' := by
  induction G with
  | nil => cases hg
  | cons x G ih =>
    simp only [List.map_cons, List.nodup_cons] at h
    rcases List.mem_cons.1 hg with h1 | h1 <;> rcases List.mem_cons.1 hg' with h2 | h2
    · rw [h1, h2]
    · exact absurd (by rw [← h1, e]; exact List.mem_map_of_mem (f := Gw.i) h2) h.1
    · exact absurd (by rw [← h2, ← e]; exact List.mem_map_of_mem (f := Gw.i) h1) h.1
    · exact ih h.2 h1 h2
theorem A3H {X : List Nat} : ∀ {Y : List Nat}, X.Nodup → Y.Nodup → (∀ x, x ∈ X ↔ x ∈ Y) → X.Perm Y := by
  induction X with
  | nil =>
    intro Y _ _ h
    cases Y with
    | nil => exact .refl _
    | cons y Y => exact absurd ((h y).2 List.mem_cons_self) (by simp)
  | cons x X ih =>
    intro Y hX hY h
    simp only [List.nodup_cons] at hX
    have hx : x ∈ Y := (h x).1 List.mem_cons_self
    refine List.Perm.trans (List.Perm.cons x (ih hX.2 (hY.erase x) fun z => ?_)) (List.perm_cons_erase hx).symm
    constructor
    · intro hz
      exact (List.mem_erase_of_ne (fun e : z = x => hX.1 (by rw [← e]; exact hz))).2 ((h z).1 (List.mem_cons_of_mem _ hz))
    · intro hz
      have hne : z ≠ x := fun e => by rw [e] at hz; exact (List.Nodup.not_mem_erase hY) hz
      rcases List.mem_cons.1 ((h z).2 (List.mem_of_mem_erase hz)) with e | hm
      · exact absurd e hne
      · exact hm
section group
variable {C : Cx} {Q : XQ} {l : Env} {M J : Mem} {os : List Oper} {K : Nat → Prop} {n0 : Nat} {nd : List Nat} {plan : List (Nat × Nat)}
def W9 (X : List Nat) (bs : Nat → Mem) : Mem := (X.map bs).flatten
def B3x (C : Cx) (os : List Oper) (l : Env) (M J : Mem) (G : List Gw) (g : Gw) : Prop :=
  ∃ o, nth os g.i = some o ∧ ∀ (vs : Nat → Value) (bs : Nat → Mem) (R : Mem) (w : World), (∀ x ∈ M ++ (J ++ C.A), x ∈ R) → (∀ g' ∈ G, anc os.toArray os.toArray.size g.i g'.i = true → g'.φ (vs g'.i) (bs g'.i) R) →
    A76 os (A1i G vs ++ l) o ∧ OpL ⟨C.P, w, [], R, C.N⟩ o (A1i G vs ++ l) [] [] (fun l' M' J' => ∃ v, l' = (g.d, v) :: (A1i G vs ++ l) ∧ g.φ v M' (M' ++ (J' ++ R)))
theorem A8f {G : List Gw} (hmono : ∀ g ∈ G, A2c g.φ) (hd : (G.map (·.d)).Nodup) (hi : (G.map (·.i)).Nodup) (hob : ∀ g ∈ G, B3x C os l M J G g) {A B : Array Bool} (hok : GOk os.toArray A (G.map (·.i)) B)
    (hfin : ∀ (vs : Nat → Value) (bs : Nat → Mem) Jn a w, (∀ g ∈ G, g.φ (vs g.i) (bs g.i) ((W9 (G.map (·.i)) bs ++ M) ++ ((Jn ++ J) ++ C.A))) → (∀ g ∈ G, ∀ x ∈ bs g.i, n0 ≤ x.1) → Ag C.N (A1i G vs ++ l) a → St C (W9 (G.map (·.i)) bs ++ M) (Jn ++ J) w → n0 ≤ w.heap.size → V4 C.P os.toArray (N6 (A5h C Q)) (Sk K) nd.contains plan.length B a w) :
    ∀ (n : Nat) (X : List Nat) (vs : Nat → Value) (bs : Nat → Mem) (Jn : Mem) (a : Act) (w : World), X.Nodup → (∀ i ∈ X, i ∈ G.map (·.i)) → n + X.length = G.length → M3 os.toArray (mark A X) →
      (∀ g ∈ G, g.i ∈ X → g.φ (vs g.i) (bs g.i) ((W9 X bs ++ M) ++ ((Jn ++ J) ++ C.A))) → (∀ i ∈ X, ∀ x ∈ bs i, n0 ≤ x.1) → Ag C.N (A1i G vs ++ l) a → St C (W9 X bs ++ M) (Jn ++ J) w → n0 ≤ w.heap.size →
      V4 C.P os.toArray (N6 (A5h C Q)) (Sk K) nd.contains (n + plan.length) (mark A X) a w := by
  intro n
  induction n with
  | zero =>
    intro X vs bs Jn a w hnd hX hlen hcl hφ hN ha hw hn
    have hall : ∀ i, i ∈ X ↔ i ∈ G.map (·.i) := fun i => ⟨hX i, A0W hnd hX (by simp; omega) i⟩
    have hperm : (W9 X bs ++ M).Perm (W9 (G.map (·.i)) bs ++ M) := List.Perm.append_right _ (List.Perm.flatten ((A3H hnd hi hall).map bs))
    rw [Nat.zero_add, A3F hall, ← hok.mark]
    refine hfin vs bs Jn a w (fun g hg => hmono g hg _ _ _ _ (fun x hx => ?_) (hφ g hg ((hall _).2 (List.mem_map_of_mem (f := Gw.i) hg)))) (fun g hg => hN g.i ((hall _).2 (List.mem_map_of_mem (f := Gw.i) hg))) ha (hw.perm hperm) hn
    rcases List.mem_append.1 hx with h | h
    · exact List.mem_append_left _ (hperm.mem_iff.1 h)
    · exact List.mem_append_right _ h
  | succ n ih =>
    intro X vs bs Jn a w hnd hX hlen hcl hφ hN ha hw hn
    have hmiss : ∃ k ∈ G.map (·.i), k ∉ X := by
      apply Classical.byContradiction
      intro hno
      have hs : ∀ k ∈ G.map (·.i), k ∈ X := fun k hk => Classical.byContradiction fun h => hno ⟨k, hk, h⟩
      have := A0V hi hs
      simp at this; omega
    obtain ⟨k, hkG, hkX⟩ := hmiss
    have hun : ∀ i ∈ G.map (·.i), A.getD i true = false := by
      have : ∀ {is A B}, GOk os.toArray A is B → ∀ i ∈ is, A.getD i true = false := by
        intro is A B h
        induction h with
        | nil => intro i hi; cases hi
        | @cons A B i r hr ho h ih =>
          intro k hk
          rcases List.mem_cons.1 hk with rfl | hk
          · exact I9 hr
          · have h2 := ih k hk
            by_cases e : i = k
            · subst e; exact I9 hr
            · rwa [getD_set_ne true e] at h2
      exact this hok
    have hkun : (mark A X).getD k true = false := H3.2 ⟨hun k hkG, fun h => hkX h.1⟩
    rw [show n + 1 + plan.length = (n + plan.length) + 1 by omega]
    refine ⟨fun h0 => ?_, fun i hir => ?_⟩
    · obtain ⟨i, hir⟩ := hok.first (Z0 A X) (fun j hj => Z1 hj) hkG hkun
      rw [h0] at hir; cases hir
    · have hiG : i ∈ G.map (·.i) := by
        apply Classical.byContradiction
        intro hno
        have h1 := H3.1 (I9 hir)
        have h2 := hok.outer k hkG i (A1F hir) h1.1 hno
        exact P0 hkun (N0 hcl h2 hir)
      obtain ⟨g, hg, rfl⟩ := List.mem_map.1 hiG
      have hiX : g.i ∉ X := fun h => (H3.1 (I9 hir)).2 ⟨h, S4 (hun _ hiG)⟩
      obtain ⟨o, hget, howe⟩ := hob g hg
      have hi' : os.toArray[g.i]? = some o := by rw [R3] at hget; simpa using hget
      obtain ⟨hask, hop⟩ := howe vs bs ((W9 X bs ++ M) ++ ((Jn ++ J) ++ C.A)) w (fun x hx => by simp only [List.mem_append] at hx ⊢; rcases hx with h | h | h <;> simp [h]) (fun g' hg' hanc => hφ g' hg' (by
        have h3 := N0 hcl hanc hir
        rcases U3 h3 with h4 | h4
        · exact (P0 (hun _ (List.mem_map_of_mem (f := Gw.i) hg')) h4).elim
        · exact h4))
      unfold wpOp
      simp only [hi']
      rw [if_pos (hask.wanted ha)]
      have hcal := hw.callee (Mc := []) (R := W9 X bs ++ M) (.refl _)
      refine .inl (Oper.wp_mono ?_ (hop _ a w ha hcal.cx))
      rintro a' w' ⟨l', M', J', ha', hs', v, rfl, hφv⟩
      have hsz : w.heap.size ≤ w'.heap.size := hs'.size
      have hb := hw.back (Mc := []) (R := W9 X bs ++ M) (.refl _) hs'.cx
      let bs' : Nat → Mem := fun k => if k = g.i then M' else bs k
      have hown : W9 (X ++ [g.i]) bs' = W9 X bs ++ M' := by
        have e1 : X.map bs' = X.map bs := List.map_congr_left fun x hx => by
          have : x ≠ g.i := fun e => hiX (e ▸ hx)
          simp [bs', this]
        simp [W9, List.map_append, e1, bs']
      have hperm : (M' ++ (W9 X bs ++ M)).Perm (W9 (X ++ [g.i]) bs' ++ M) := by
        rw [hown, ← List.append_assoc]
        exact List.Perm.append_right _ List.perm_append_comm
      have hfr2 : St C (W9 (X ++ [g.i]) bs' ++ M) ((J' ++ Jn) ++ J) w' := (hb.perm hperm).drop (List.Sublist.refl _) fun x hx => by
        simp only [List.mem_append] at hx ⊢
        rcases hx with (h | h) | h <;> simp [h]
      refine ⟨fun _ b hb' hnk => hs'.frame b hb' (by simp), ?_⟩
      rw [← N7]
      have henv := A0X (N := C.N) (G := toG G) (l := l) (vs := vs) (g := ⟨g.i, g.d, fun _ _ => True⟩) (a := a') (v := v) (List.mem_map_of_mem (f := fun g : Gw => (⟨g.i, g.d, fun _ _ => True⟩ : Gm)) hg) (by rw [B8g]; exact hd) (by rw [B8f]; exact hi) (by rw [A8e]; exact ha')
      rw [A8e] at henv
      refine ih (X ++ [g.i]) (fun k => if k = g.i then v else vs k) bs' (J' ++ Jn) a' w' ?_ ?_ (by simp; omega) ?_ ?_ ?_ henv hfr2 (Nat.le_trans hn hsz)
      · rw [List.nodup_append]; exact ⟨hnd, by simp, fun x hx y hy e => hiX (by simp at hy; subst hy; exact e ▸ hx)⟩
      · intro j hj
        rcases List.mem_append.1 hj with hj | hj
        · exact hX j hj
        · simp at hj; subst hj; exact hiG
      · rw [N7]; exact H5 hcl hir
      · intro g' hg' hm
        rw [hown]
        by_cases e : g'.i = g.i
        · have : g' = g := B2t hi hg' hg e
          subst this
          simp only [if_true, bs']
          exact hmono g' hg' _ _ _ _ (fun x hx => by simp only [List.mem_append] at hx ⊢; rcases hx with h | h | (h | h) | (h | h) | h <;> simp [h]) hφv
        · simp only [e, if_false, bs']
          have hm' : g'.i ∈ X := by simpa [e] using hm
          exact hmono g' hg' _ _ _ _ (fun x hx => by simp only [List.mem_append] at hx ⊢; rcases hx with (h | h) | (h | h) | h <;> simp [h]) (hφ g' hg' hm')
      · intro k hk x hx
        by_cases e : k = g.i
        · subst e
          simp only [if_true, bs'] at hx
          rcases hs'.own x.1 x.2 (by simp [hx]) with h6 | h6
          · cases h6
          · exact Nat.le_trans hn h6
        · simp only [e, if_false, bs'] at hx
          have hk' : k ∈ X := by simpa [e] using hk
          exact hN k hk' x hx
theorem A8g (G : List Gw) (hmono : ∀ g ∈ G, A2c g.φ) (hd : (G.map (·.d)).Nodup) (hi : (G.map (·.i)).Nodup) (hdN : ∀ g ∈ G, g.d < C.N) (hob : ∀ g ∈ G, B3x C os l M J G g)
    (h : ∀ (vs : Nat → Value) (bs : Nat → Mem) Jn, (∀ g ∈ G, g.φ (vs g.i) (bs g.i) ((W9 (G.map (·.i)) bs ++ M) ++ ((Jn ++ J) ++ C.A))) → (∀ g ∈ G, ∀ x ∈ bs g.i, n0 ≤ x.1) → XK C os Q K n0 nd plan (A1i G vs ++ l) (W9 (G.map (·.i)) bs ++ M) (Jn ++ J)) : XK C os Q K n0 nd (enc (G.map (·.i)) ++ plan) l M J := by
  intro listed hcl hp a w ha hw hn
  obtain ⟨B, hok, hp2⟩ := A55 hp
  have hBcl : M3 os.toArray B := by
    have : ∀ {A is B}, GOk os.toArray A is B → M3 os.toArray A → M3 os.toArray B := by
      intro A is B h
      induction h with
      | nil => exact id
      | cons hr _ _ ih => exact fun hc => ih (H5 hc hr)
    exact this hok hcl
  have hlen : (enc (G.map (·.i)) ++ plan).length = G.length + plan.length := by
    have : ∀ is : List Nat, (enc is).length = is.length := by
      intro is
      induction is with
      | nil => rfl
      | cons i r ih => cases r with
        | nil => rfl
        | cons j r => simp only [enc, List.length_cons] at ih ⊢; rw [ih]
    simp [this]
  rw [hlen]
  let vs : Nat → Value := fun k => match G.find? (fun g => g.i == k) with
    | some g => (a.tmps[g.d]?).getD undef
    | none => undef
  have hag : Ag C.N (A1i G vs ++ l) a := by
    refine ⟨ha.defers, ha.size, ?_⟩
    intro k u hk
    have key : ∀ G' : List Gw, (∀ g ∈ G', g ∈ G) → lk (A1i G' vs ++ l) k = some u → a.tmps[k]? = some u := by
      intro G'
      induction G' with
      | nil => intro _ h; exact ha.slot k u h
      | cons g G' ih =>
        intro hs h
        simp only [A1i, List.map_cons, List.cons_append, lk] at h
        by_cases e : g.d = k
        · subst e
          simp at h
          have hf : G.find? (fun x => x.i == g.i) = some g := by
            have hgG := hs g List.mem_cons_self
            cases hq : G.find? (fun x => x.i == g.i) with
            | none => have := List.find?_eq_none.1 hq g hgG; simp at this
            | some x =>
              have h1 := List.find?_some hq
              have h2 := List.mem_of_find?_eq_some hq
              rw [B2t hi h2 hgG (by simpa using h1)]
          have hlt : g.d < a.tmps.size := by rw [ha.size]; exact hdN g (hs g List.mem_cons_self)
          rw [← h]
          show a.tmps[g.d]? = some (vs g.i)
          simp only [vs, hf, Array.getElem?_eq_getElem hlt, Option.getD_some]
        · simp only [T9 e, cond_false] at h
          exact ih (fun x hx => hs x (List.mem_cons_of_mem _ hx)) h
    exact key G (fun _ h => h) hk
  exact A8f (n0 := n0) (K := K) hmono hd hi hob hok (fun vs bs Jn a w hφ hN ha hw hn => h vs bs Jn hφ hN B hBcl hp2 a w ha hw hn) G.length [] vs (fun _ => []) [] a w .nil (fun _ h => by cases h) (by simp) hcl (fun _ _ h => by cases h) (fun _ h => by cases h) hag hw hn
theorem A8h (G : List Gw) (hmono : ∀ g ∈ G, A2c g.φ) (hd : (G.map (·.d)).Nodup) (hi : (G.map (·.i)).Nodup) (hdN : ∀ g ∈ G, g.d < C.N) (hob : ∀ g ∈ G, B3x C os l M J G g)
    (h : ∀ (vs : Nat → Value) (bs : Nat → Mem) Jn, (∀ g ∈ G, g.φ (vs g.i) (bs g.i) ((W9 (G.map (·.i)) bs ++ M) ++ ((Jn ++ J) ++ C.A))) → XK C os Q K n0 nd plan (A1i G vs ++ l) (W9 (G.map (·.i)) bs ++ M) (Jn ++ J)) : XK C os Q K n0 nd (enc (G.map (·.i)) ++ plan) l M J := A8g G hmono hd hi hdN hob fun vs bs Jn hφ _ => h vs bs Jn hφ
end group
end Go.Px

namespace Go.Proofs.YtoameenjkiaefaaGreatDoor
open Go.Px
def B5U : LN := (List.range 256).map fun c => if c = 0 then 0 else c.log2 + 1
theorem B0z : ∀ x ∈ B5U, x < 256 := by decide +kernel
set_option maxRecDepth 10000 in
theorem B0A : ∀ c : Fin 256, c.val < 2 ^ (B5U.getD c 0) ∧ B5U.getD c 0 ≤ 8 ∧ (0 < c.val → 2 ^ (B5U.getD c 0 - 1) ≤ c.val) := by decide +kernel
theorem B0B {x y n T : Nat} (h : x / 2 ^ n = y) (h1 : y < 2 ^ T) : x < 2 ^ (n + T) := by
  rw [Nat.pow_add]
  have := (Nat.div_lt_iff_lt_mul (Nat.two_pow_pos n)).1 (h ▸ h1)
  rwa [Nat.mul_comm] at this
theorem A8i {x y n T : Nat} (h : x / 2 ^ n = y) (hy : 0 < y) (hT : 2 ^ (T - 1) ≤ y) (h1 : y < 2 ^ T) : 2 ^ (n + T - 1) ≤ x := by
  have h0 : T ≠ 0 := by rintro rfl; simp at h1; omega
  rw [show n + T - 1 = n + (T - 1) by omega, Nat.pow_add]
  have := Nat.div_mul_le_self x (2 ^ n)
  rw [h] at this
  exact Nat.le_trans (by rw [Nat.mul_comm]; exact Nat.mul_le_mul_right _ hT) this
def A3I : LN := (List.range 100).flatMap fun p => [48 + p / 10, 48 + p % 10]
theorem A20 : ∀ x ∈ A3I, x < 256 := by decide +kernel
theorem A21 : ∀ p : Fin 100, A3I.getD (2 * p.val) 0 = 48 + p.val / 10 ∧ A3I.getD (2 * p.val + 1) 0 = 48 + p.val % 10 := by decide +kernel
theorem A1j : A3I.length = 200 := by decide +kernel
def N8 : LN := (List.range 20).map fun i => 10 ^ i
theorem A4z : ∀ n : Fin 65, 2 ^ n.val ≤ 10 ^ (n.val * 78913 / 262144 + 1) ∧ n.val * 78913 / 262144 ≤ 19 ∧ (n.val * 78913 / 262144 = 0 ∨ 10 ^ (n.val * 78913 / 262144 - 1) ≤ 2 ^ (n.val - 1)) := by decide +kernel
theorem A8j : ∀ t : Fin 20, N8.getD t 0 = 10 ^ t.val := by decide +kernel
theorem B5V {x n : Nat} (h0 : 0 < x) (hn : n ≤ 64) (h1 : x < 2 ^ n) (h2 : 2 ^ (n - 1) ≤ x) : n * 78913 / 262144 + (if 10 ^ (n * 78913 / 262144) ≤ x then 1 else 0) = nd10 x := by
  obtain ⟨a, b, c⟩ := A4z ⟨n, by omega⟩
  simp only at a b c
  have hx : x < 18446744073709551616 := Nat.lt_of_lt_of_le h1 (Nat.pow_le_pow_right qD hn : 2 ^ n ≤ 2 ^ 64)
  generalize n * 78913 / 262144 = t at *
  split
  · rename_i h
    exact (A4y qO (Nat.lt_of_lt_of_le h1 a) (.inr (by simpa using h)) hx).symm
  · rename_i h
    have ht : t ≠ 0 := by rintro rfl; simp at h; omega
    rw [Nat.add_zero]
    refine (A4y qO qO (.inr ?_) hx).symm
    rcases c with c | c
    · exact absurd c ht
    · exact Nat.le_trans c h2
theorem B0C (k u : Nat) : dgs (k + 1) u = (48 + u / 10 ^ k % 10) :: dgs k u := by
  unfold dgs
  rw [show List.range (k + 1) = 0 :: (List.range k).map (· + 1) from List.range_succ_eq_map, List.map_cons, List.map_map]
  congr 1
  apply List.map_congr_left
  intro j hj
  have := List.mem_range.1 hj
  simp only [Function.comp]
  congr 4; omega
theorem A2d {xs r : LN} {o m k u : Nat} (hm : 0 < m) (hl : o + m ≤ xs.length) : (xs.take (o + m) ++ (dgs k u ++ r)).set (o + (m - 1)) (48 + u / 10 ^ k % 10) = xs.take (o + (m - 1)) ++ (dgs (k + 1) u ++ r) := by
  have e : xs.take (o + m) = xs.take (o + (m - 1)) ++ [xs[o + (m - 1)]'qO] := by
    rw [show o + m = (o + (m - 1)) + 1 by omega, List.take_add_one, List.getElem?_eq_getElem qO]; rfl
  rw [e, B0C, List.append_assoc, List.set_append_right _ _ (by rw [List.length_take]; omega), List.length_take, Nat.min_eq_left qO, Nat.sub_self]
  simp
theorem A0F {xs r : LN} {o m k u p : Nat} (hm : 2 ≤ m) (hl : o + m ≤ xs.length) (hp : p = u / 10 ^ k % 100) : ((xs.take (o + m) ++ (dgs k u ++ r)).set (o + (m - 1)) (48 + p % 10)).set (o + (m - 2)) (48 + p / 10) = xs.take (o + (m - 2)) ++ (dgs (k + 2) u ++ r) := by
  have h1 := A2d (xs := xs) (r := r) (o := o) (m := m) (k := k) (u := u) qO hl
  have h2 := A2d (xs := xs) (r := r) (o := o) (m := m - 1) (k := k + 1) (u := u) qO qO
  rw [show 48 + p % 10 = 48 + u / 10 ^ k % 10 by omega, h1]
  rw [show m - 1 - 1 = m - 2 by omega] at h2
  rw [show 48 + p / 10 = 48 + u / 10 ^ (k + 1) % 10 by rw [Nat.pow_succ, ← Nat.div_div_eq_div_mul]; omega, h2]
theorem P3 {xs r : LN} {o m k u : Nat} (hl : o + m ≤ xs.length) : (xs.take (o + m) ++ (dgs k u ++ r)).length = o + m + (k + r.length) := by simp [A0D]; omega
theorem A22 (x : Nat) (hx : x < 18446744073709551616) (A : Mem) : FnX Tryz.prog 252 [.int .u64 (x : Int)] [] A fun r M J => M = [] ∧ J = [] ∧ ∃ n : Nat, r = .int .i64 (n : Int) ∧ n ≤ 64 ∧ x < 2 ^ n ∧ (0 < x → 2 ^ (n - 1) ≤ x) := by
 refine FnX.enter (N := 25) Tryz.func252 rfl rfl rfl fun w => ?_
 refine A8 (C7 0) (A1 (as_ (A0 (D0 0 2) ?_)))
 refine P2 (α := Nat × Nat) (fun s => [(0, .int .u64 (s.1 : Int)), (2, .int .i64 (s.2 : Int))]) (fun _ => []) (fun _ => []) (fun s => x / 2 ^ s.2 = s.1 ∧ s.1 < 4294967296 ∧ s.2 ≤ 32 ∧ (s.2 = 0 ∨ 0 < s.1)) ?_ ?_
 ·
  refine A1 (mv_ ?_)
  refine A2 (F3 rfl rfl rfl) rfl ?_
  refine A0 (E5 0 2 4) ?_
  refine C3 rfl ?_ ?_ <;> intro hc
  ·
   have hge : 4294967296 ≤ x := by simp at hc; omega
   refine A1 (mv_ ?_)
   refine A2 (A77 32 4294967296 rfl rfl rfl rfl qD) rfl ?_
   refine as_ (A0 (C7 0) (C6 (as_ (E1 ?_))))
   exact jn (x / 4294967296, 32) ⟨rfl, by dsimp only; omega, by dsimp only; omega, .inr (by dsimp only; omega)⟩ (D0 0 2) .rfl qI
  ·
   have hlt : x < 4294967296 := by simp at hc; omega
   refine A5 ?_
   exact jn (x, 0) ⟨by simp, hlt, by dsimp only; omega, .inl rfl⟩ (D0 0 2) .rfl qI
 ·
  rintro ⟨y, n⟩ ⟨hy, hyb, hn, h0⟩
  dsimp only at hy hyb hn h0 ⊢
  refine P2 (α := Nat × Nat) (fun s => [(0, .int .u64 (s.1 : Int)), (2, .int .i64 (s.2 : Int))]) (fun _ => []) (fun _ => []) (fun s => x / 2 ^ s.2 = s.1 ∧ s.1 < 65536 ∧ s.2 ≤ 48 ∧ (s.2 = 0 ∨ 0 < s.1)) ?_ ?_
  ·
   refine A1 (mv_ ?_)
   refine A2 (F3 rfl rfl rfl) rfl ?_
   refine A0 (E5 0 2 8) ?_
   refine C3 rfl ?_ ?_ <;> intro hc
   ·
    have hge : 65536 ≤ y := by simp at hc; omega
    refine A1 (mv_ ?_)
    refine A2 (A77 16 65536 rfl rfl rfl rfl qD) rfl ?_
    refine as_ (A0 (D0 0 2) (C6 (mv_ ?_)))
    refine A2 (G9 (b := 16) rfl rfl rfl rfl qO) rfl ?_
    refine as_ (E1 ?_)
    exact jn (y / 65536, n + 16) ⟨by dsimp only; rw [Nat.pow_add, ← Nat.div_div_eq_div_mul, hy], by dsimp only; omega, by dsimp only; omega, .inr (by dsimp only; omega)⟩ (D0 0 2) .rfl qI
   ·
    have hlt : y < 65536 := by simp at hc; omega
    refine A5 ?_
    exact jn (y, n) ⟨hy, hlt, by dsimp only; omega, h0⟩ (D0 0 2) .rfl qI
  ·
   clear hy hyb hn h0
   rintro ⟨y, n⟩ ⟨hy, hyb, hn, h0⟩
   dsimp only at hy hyb hn h0 ⊢
   refine P2 (α := Nat × Nat) (fun s => [(0, .int .u64 (s.1 : Int)), (2, .int .i64 (s.2 : Int))]) (fun _ => []) (fun _ => []) (fun s => x / 2 ^ s.2 = s.1 ∧ s.1 < 256 ∧ s.2 ≤ 56 ∧ (s.2 = 0 ∨ 0 < s.1)) ?_ ?_
   ·
    refine A1 (mv_ ?_)
    refine A2 (F3 rfl rfl rfl) rfl ?_
    refine A0 (E5 0 2 14) ?_
    refine C3 rfl ?_ ?_ <;> intro hc
    ·
     have hge : 256 ≤ y := by simp at hc; omega
     refine A1 (mv_ ?_)
     refine A2 (A77 8 256 rfl rfl rfl rfl qD) rfl ?_
     refine as_ (A0 (D0 0 2) (C6 (mv_ ?_)))
     refine A2 (G9 (b := 8) rfl rfl rfl rfl qO) rfl ?_
     refine as_ (E1 ?_)
     exact jn (y / 256, n + 8) ⟨by dsimp only; rw [Nat.pow_add, ← Nat.div_div_eq_div_mul, hy], by dsimp only; omega, by dsimp only; omega, .inr (by dsimp only; omega)⟩ (D0 0 2) .rfl qI
    ·
     have hlt : y < 256 := by simp at hc; omega
     refine A5 ?_
     exact jn (y, n) ⟨hy, hlt, by dsimp only; omega, h0⟩ (D0 0 2) .rfl qI
   ·
    clear hy hyb hn h0
    rintro ⟨y, n⟩ ⟨hy, hyb, hn, h0⟩
    dsimp only at hy hyb hn h0 ⊢
    obtain ⟨k1, k2, k3⟩ := B0A ⟨y, hyb⟩
    simp only at k1 k2 k3
    refine A1 (mv_ (mv_ ?_))
    refine A2 ((Nat.mod_eq_of_lt hyb : y % 256 = y) ▸ B3j rfl kR) rfl ?_
    refine A2 (A4w (ws := B5U) (a := y) rfl kR B0z rfl kR rfl (by show _ < 256; omega)) rfl ?_
    refine A2 (A7Z (k' := .i64) rfl kR (by show _ < 9223372036854775808; omega)) rfl ?_
    refine A2 (G9 rfl rfl rfl rfl qO) rfl ?_
    refine as_ (A0 (C7 2) (A7 ?_))
    refine ⟨_, [], [], F7 rfl rfl, List.nil_sublist _, by simp, rfl, rfl, n + B5U.getD y 0, rfl, by omega, B0B hy k1, fun hx => ?_⟩
    have hy0 : 0 < y := by
     rcases h0 with rfl | h0
     · rw [← hy]; simpa using hx
     · exact h0
    exact A8i hy hy0 (k3 hy0) k1
theorem A61 (n : Nat) (hn : n ≤ 64) (A : Mem) : FnV Tryz.prog 257 [.int .i64 (n : Int)] A (.int .i64 ((n * 78913 / 2 ^ 18 : Nat) : Int)) := by
 refine FnX.enter (N := 6) Tryz.func257 rfl rfl rfl fun w => ?_
 refine A8 (C7 0) (A1 (as_ (A0 (C7 0) (A1 (mv_ ?_)))))
 refine A2 (A16 (b := 78913) rfl rfl rfl rfl qO) rfl ?_
 refine A2 (A78 (b := 18) rfl rfl rfl rfl (by show _ ≤ 64; omega)) rfl ?_
 refine as_ (A0 (C7 2) (A7 ?_))
 exact ⟨_, [], [], F7 rfl rfl, List.nil_sublist _, by simp, rfl, rfl, rfl⟩
theorem A62 (b : Bool) (A : Mem) : FnV Tryz.prog 258 [.bool b] A (.int .i64 ((if b = true then 1 else 0 : Nat) : Int)) := by
 refine FnX.enter (N := 4) Tryz.func258 rfl rfl rfl fun w => ?_
 refine A8 (C7 0) (A1 (as_ (A0 (C7 0) (A6 (A1 (mv_ (A0 (C7 3) ?_)))))))
 refine C3 rfl ?_ ?_ <;> intro hc
 ·
  subst hc
  refine A1 (as_ (A0 (C7 2) (A7 (tr ?_))))
  exact ⟨_, [], [], F7 rfl rfl, List.nil_sublist _, by simp, rfl, rfl, rfl⟩
 ·
  subst hc
  refine A5 (nx kn (A1 (as_ (A0 (C7 2) (A7 ?_)))))
  exact ⟨_, [], [], F7 rfl rfl, List.nil_sublist _, by simp, rfl, rfl, rfl⟩
theorem A0v (x : Nat) (h0 : 0 < x) (hx : x < 18446744073709551616) (A : Mem) {e4 : TypeId} {f4 : Nat × Nat} (h4 : (4, Obj.cells (I3 .u64 N8).toArray e4 f4) ∈ A) : FnV Tryz.prog 239 [.int .u64 (x : Int)] A (.int .i64 ((nd10 x : Nat) : Int)) := by
 refine FnX.enter (N := 15) Tryz.func239 rfl rfl rfl fun w => ?_
 refine A8 (C7 0) (A1 (as_ (A0 (C7 0) (A1 (mv_ ?_)))))
 refine E0 (aS rfl a0) kR (A22 x hx _) rfl ?_
 rintro r5 M5 J5 ⟨rfl, rfl, n, rfl, hn, h1, h2⟩
 replace h2 := h2 h0
 have hnd := B5V h0 hn h1 h2
 obtain ⟨-, k2, -⟩ := A4z ⟨n, by omega⟩
 simp only at k2
 refine D7 (aS rfl a0) kR (A61 n hn _) rfl ?_
 rw [show (2 : Nat) ^ 18 = 262144 from rfl]
 have k4 := A8j ⟨n * 78913 / 262144, by omega⟩
 simp only at k4
 generalize n * 78913 / 262144 = t at *
 refine as_ (A0 (D0 0 3) (A1 (mv_ (mv_ (mv_ ?_)))))
 refine A2 (B2f (e := 101) (n := 20) (sz := 1) (i := t) rfl rfl kR kR rfl qO) rfl ?_
 refine A2 (B7U t rfl kR (mA h4) qO (by show _ < 20; omega)) rfl ?_
 refine A2 (F0 (decide (10 ^ t ≤ x)) rfl rfl (by rw [k4, ← decide_eq_decide.2 (show (((10 ^ t : Nat) : Int) ≤ (x : Int)) ↔ 10 ^ t ≤ x from Int.ofNat_le)]; rfl)) rfl ?_
 refine D7 (aS rfl a0) kR (A62 _ _) rfl ?_
 refine A2 (G9 rfl rfl rfl rfl (by split <;> omega)) rfl ?_
 refine as_ (A0 (C7 2) (A7 ?_))
 refine ⟨_, [], [], F7 rfl rfl, List.nil_sublist _, by simp, ?_, rfl, rfl⟩
 rw [← hnd]; simp only [decide_eq_true_eq]
section
variable {P : Program} {R : Mem} {l : Env} {d : Option Nat} {ty t : TypeId} {pos : String} {af : Array Edge} {g : Option (Nat × Bool)} {x y : Operand} {S : ByteArray} {k : IntKind} {i : Int} {p : Nat}
theorem X5 (hx : ev l x = some (.string S)) (hS : S = txt A3I) (hy : ev l y = some (.int k i)) (hu : P.underlying t = some .string) (hi : i = ((2 * p : Nat) : Int)) (hp : p < 100) : OpQ P R ⟨d, .index t x y, ty, pos, af, g⟩ l (.int .u8 ((48 + p / 10 : Nat) : Int)) :=
  (A21 ⟨p, hp⟩).1 ▸ A4w hx hS A20 hy hu hi (by rw [A1j]; omega)
theorem X6 (hx : ev l x = some (.string S)) (hS : S = txt A3I) (hy : ev l y = some (.int k i)) (hu : P.underlying t = some .string) (hi : i = ((2 * p + 1 : Nat) : Int)) (hp : p < 100) : OpQ P R ⟨d, .index t x y, ty, pos, af, g⟩ l (.int .u8 ((48 + p % 10 : Nat) : Int)) :=
  (A21 ⟨p, hp⟩).2 ▸ A4w hx hS A20 hy hu hi (by rw [A1j]; omega)
end
theorem A0G (u a b : Nat) : u / 10 ^ (a + b) = u / 10 ^ a / 10 ^ b := by rw [Nat.pow_add, Nat.div_div_eq_div_mul]
theorem A3J {u n m : Nat} (hu : u < 10 ^ n) (hm : m ≤ n) : u / 10 ^ (n - m) < 10 ^ m := by
  rw [Nat.div_lt_iff_lt_mul (Nat.pow_pos qD), ← Nat.pow_add]
  rwa [show m + (n - m) = n by omega]
theorem A4A (b o n cap u : Nat) (xs : LN) (e : TypeId) (hn : 0 < n) (hn20 : n ≤ 20) (hxs : o + n ≤ xs.length) (hu : u < 10 ^ n) (hu64 : u < 18446744073709551616) (A : Mem) : FnX Tryz.prog 240 [.slice (some ⟨b, o, none⟩) n cap, .int .u64 (u : Int)] [(b, blk (I3 .u8 xs) e)] A fun r M J => J = [] ∧ M = [(b, blk (I3 .u8 (xs.take o ++ (dgs n u ++ xs.drop (o + n)))) e)] := by
 refine FnX.enter (N := 167) Tryz.func240 rfl rfl rfl fun w => ?_
 refine A8 (D0 0 1) (A1 (mv_ ?_))
 refine A2 (A0s (e := 5) rfl kR) rfl ?_
 refine as_ (A0 (E5 0 1 4) (A6 (C5 ?_)))
 refine H0 (α := Nat) (fun m => [(0, .slice (some ⟨b, o, none⟩) n cap), (1, .int .u64 ((u / 10 ^ (n - m) : Nat) : Int)), (4, .int .i64 (m : Int))]) (fun m => [(b, blk (I3 .u8 (xs.take (o + m) ++ (dgs (n - m) u ++ xs.drop (o + n)))) e)]) (fun _ => []) (fun m => m ≤ n) (fun m => m) n (Nat.le_refl _) (kq 0 (kp 1 (by rw [Nat.sub_self, Nat.pow_zero, Nat.div_one]; rfl) (C7 4))) (Fit.eq (by simp [dgs])) qI ?_
 rintro m hm
 have hb := A3J hu hm
 refine A6 (A1 (mv_ ?_))
 refine A2 (F3 rfl rfl rfl) rfl ?_
 refine A0 (F4 0 1 4 20) ?_
 refine C3 rfl ?_ ?_ <;> intro hc
 ·
  have hm8 : 8 ≤ m := by simp at hc; omega
  obtain ⟨k, hk⟩ : ∃ k, k = n - m := ⟨_, rfl⟩
  rw [← hk]
  have hkm : k + m = n := by omega
  obtain ⟨v, hv⟩ : ∃ v, v = u / 10 ^ k := ⟨_, rfl⟩
  rw [← hv]
  have hv64 : v < 18446744073709551616 := by rw [hv]; exact Nat.lt_of_le_of_lt (Nat.div_le_self _ _) hu64
  refine A5 (nx (E5 0 1 4) (C5 (A1 (mv_ ?_))))
  refine A2 (A17 (b := 100000000) rfl rfl rfl rfl qO) rfl ?_
  refine A2 (B2n rfl kR) rfl ?_
  rw [show v % 100000000 % 4294967296 = v % 100000000 by omega]
  obtain ⟨y, hy⟩ : ∃ y, y = v % 100000000 := ⟨_, rfl⟩
  rw [← hy]
  have hy8 : y < 100000000 := by omega
  refine as_ (A0 (F4 0 1 4 5) (A1 (mv_ ?_)))
  refine A2 (A18 (b := 100000000) (m := 18446744073709551616) rfl rfl rfl rfl rfl rfl qO qO) rfl ?_
  refine as_ (A0 (F4 0 1 4 5) (A1 (mv_ ?_)))
  refine A2 (A18 (b := 10000) (m := 4294967296) rfl rfl rfl rfl rfl rfl qO qO) rfl ?_
  refine mv_ ?_
  refine A2 (A17 (b := 10000) rfl rfl rfl rfl qO) rfl ?_
  refine as_ (as_ (A0 (G6 0 1 4 6 7) (A1 (mv_ ?_))))
  refine A2 (A18 (b := 100) (m := 4294967296) rfl rfl rfl rfl rfl rfl qO qO) rfl ?_
  refine A2 (A14 4294967296 (b := 2) rfl rfl rfl rfl rfl rfl) rfl ?_
  refine mv_ ?_
  refine A2 (A17 (b := 100) rfl rfl rfl rfl qO) rfl ?_
  refine A2 (A14 4294967296 (b := 2) rfl rfl rfl rfl rfl rfl) rfl ?_
  refine as_ (as_ (A0 (I7 0 1 4 6 8 9) (A1 (mv_ ?_))))
  refine A2 (A18 (b := 100) (m := 4294967296) rfl rfl rfl rfl rfl rfl qO qO) rfl ?_
  refine A2 (A14 4294967296 (b := 2) rfl rfl rfl rfl rfl rfl) rfl ?_
  refine mv_ ?_
  refine A2 (A17 (b := 100) rfl rfl rfl rfl qO) rfl ?_
  refine A2 (A14 4294967296 (b := 2) rfl rfl rfl rfl rfl rfl) rfl ?_
  refine as_ (as_ (A0 (S9 0 1 4 8 9 10 11) ?_))
  refine G5 [0, 1, 2, 3, 4, 5, 6, 7, 8, 9, 10, 11, 13] (zp 0 [0, 0, 0, 0, 0, 0, 0, 0, 0, 0, 0, 0, 2, 0, 2]) kR kR fun hs => ?_
  refine fm_ hs ?_
  refine fm_ hs ?_
  refine E8 hs rfl (L3 (b := 1) rfl rfl rfl rfl qO qO) rfl ?_
  refine fm_ hs ?_
  refine fm_ hs ?_
  refine E8 hs rfl (L3 (b := 2) rfl rfl rfl rfl qO qO) rfl ?_
  refine fm_ hs ?_
  refine E8 hs rfl (A0t 4294967296 (b := 1) rfl rfl rfl rfl rfl rfl) rfl ?_
  refine E8 hs rfl (X6 (p := (y % 10000 % 100)) rfl kR rfl kR qO qO) rfl ?_
  refine fm_ hs ?_
  refine E8 hs rfl (X5 (p := (y % 10000 % 100)) rfl kR rfl kR qO qO) rfl ?_
  refine E8 hs rfl (S8 (e := 5) (sz := 1) (i := m - 1) rfl rfl kR kR qO qO) rfl ?_
  refine L7 rfl rfl rfl (A0q (o + (m - 1)) rfl rfl kR qO (by rw [P3 qO]; omega) UpC.upd ?_)
  refine E8 hs rfl (S8 (e := 5) (sz := 1) (i := m - 2) rfl rfl kR kR qO qO) rfl ?_
  refine L7 rfl rfl rfl (A0q (o + (m - 2)) rfl rfl kR qO (by rw [List.length_set, P3 qO]; omega) UpC.upd ?_)
  rw [A0F qO qO (by rw [← hv]; omega)]
  refine I2 (I7 0 1 4 8 10 11) ?_
  refine G5 [0, 1, 2, 3, 4, 5, 6, 7, 8, 9, 10, 11, 13] (zp 0 [0, 0, 0, 0, 0, 0, 0, 0, 0, 0, 0, 0, 2, 0, 2]) kR kR fun hs => ?_
  refine fm_ hs ?_
  refine fm_ hs ?_
  refine E8 hs rfl (L3 (b := 3) rfl rfl rfl rfl qO qO) rfl ?_
  refine fm_ hs ?_
  refine fm_ hs ?_
  refine E8 hs rfl (L3 (b := 4) rfl rfl rfl rfl qO qO) rfl ?_
  refine fm_ hs ?_
  refine E8 hs rfl (A0t 4294967296 (b := 1) rfl rfl rfl rfl rfl rfl) rfl ?_
  refine E8 hs rfl (X6 (p := (y % 10000 / 100)) rfl kR rfl kR qO qO) rfl ?_
  refine fm_ hs ?_
  refine E8 hs rfl (X5 (p := (y % 10000 / 100)) rfl kR rfl kR qO qO) rfl ?_
  refine E8 hs rfl (S8 (e := 5) (sz := 1) (i := (m - 2) - 1) rfl rfl kR kR qO qO) rfl ?_
  refine L7 rfl rfl rfl (A0q (o + ((m - 2) - 1)) rfl rfl kR qO (by rw [P3 qO]; omega) UpC.upd ?_)
  refine E8 hs rfl (S8 (e := 5) (sz := 1) (i := (m - 2) - 2) rfl rfl kR kR qO qO) rfl ?_
  refine L7 rfl rfl rfl (A0q (o + ((m - 2) - 2)) rfl rfl kR qO (by rw [List.length_set, P3 qO]; omega) UpC.upd ?_)
  rw [A0F qO qO (by rw [A0G, ← hv]; omega)]
  refine I2 (G6 0 1 4 10 11) ?_
  refine G5 [0, 1, 2, 3, 4, 5, 6, 7, 8, 9, 10, 11, 13] (zp 0 [0, 0, 0, 0, 0, 0, 0, 0, 0, 0, 0, 0, 2, 0, 2]) kR kR fun hs => ?_
  refine fm_ hs ?_
  refine fm_ hs ?_
  refine E8 hs rfl (L3 (b := 5) rfl rfl rfl rfl qO qO) rfl ?_
  refine fm_ hs ?_
  refine fm_ hs ?_
  refine E8 hs rfl (L3 (b := 6) rfl rfl rfl rfl qO qO) rfl ?_
  refine fm_ hs ?_
  refine E8 hs rfl (A0t 4294967296 (b := 1) rfl rfl rfl rfl rfl rfl) rfl ?_
  refine E8 hs rfl (X6 (p := (y / 10000 % 100)) rfl kR rfl kR qO qO) rfl ?_
  refine fm_ hs ?_
  refine E8 hs rfl (X5 (p := (y / 10000 % 100)) rfl kR rfl kR qO qO) rfl ?_
  refine E8 hs rfl (S8 (e := 5) (sz := 1) (i := (m - 2 - 2) - 1) rfl rfl kR kR qO qO) rfl ?_
  refine L7 rfl rfl rfl (A0q (o + ((m - 2 - 2) - 1)) rfl rfl kR qO (by rw [P3 qO]; omega) UpC.upd ?_)
  refine E8 hs rfl (S8 (e := 5) (sz := 1) (i := (m - 2 - 2) - 2) rfl rfl kR kR qO qO) rfl ?_
  refine L7 rfl rfl rfl (A0q (o + ((m - 2 - 2) - 2)) rfl rfl kR qO (by rw [List.length_set, P3 qO]; omega) UpC.upd ?_)
  rw [A0F qO qO (by rw [show k + 2 + 2 = k + 4 by omega, A0G, ← hv]; omega)]
  refine I2 (F4 0 1 4 10) ?_
  refine G5 [0, 1, 2, 3, 4, 5, 6, 7, 8, 9, 10, 11, 13] (zp 0 [0, 0, 0, 0, 0, 0, 0, 0, 0, 0, 0, 0, 2, 0, 2]) kR kR fun hs => ?_
  refine fm_ hs ?_
  refine fm_ hs ?_
  refine E8 hs rfl (L3 (b := 7) rfl rfl rfl rfl qO qO) rfl ?_
  refine fm_ hs ?_
  refine fm_ hs ?_
  refine E8 hs rfl (L3 (b := 8) rfl rfl rfl rfl qO qO) rfl ?_
  refine fm_ hs ?_
  refine E8 hs rfl (A0t 4294967296 (b := 1) rfl rfl rfl rfl rfl rfl) rfl ?_
  refine E8 hs rfl (X6 (p := (y / 10000 / 100)) rfl kR rfl kR qO qO) rfl ?_
  refine fm_ hs ?_
  refine E8 hs rfl (X5 (p := (y / 10000 / 100)) rfl kR rfl kR qO qO) rfl ?_
  refine E8 hs rfl (S8 (e := 5) (sz := 1) (i := (m - 2 - 2 - 2) - 1) rfl rfl kR kR qO qO) rfl ?_
  refine L7 rfl rfl rfl (A0q (o + ((m - 2 - 2 - 2) - 1)) rfl rfl kR qO (by rw [P3 qO]; omega) UpC.upd ?_)
  refine E8 hs rfl (S8 (e := 5) (sz := 1) (i := (m - 2 - 2 - 2) - 2) rfl rfl kR kR qO qO) rfl ?_
  refine L7 rfl rfl rfl (A0q (o + ((m - 2 - 2 - 2) - 2)) rfl rfl kR qO (by rw [List.length_set, P3 qO]; omega) UpC.upd ?_)
  rw [A0F qO qO (by rw [show k + 2 + 2 + 2 = k + 6 by omega, A0G, ← hv]; omega)]
  refine I2 (E5 0 1 4) (C6 (mv_ ?_))
  refine A2 (L3 (b := 8) rfl rfl rfl rfl qO qO) rfl ?_
  refine as_ (E1 (nb ?_))
  exact rn (m - 8) qO qO (kq 0 (kp 1 (by rw [show n - (m - 8) = k + 8 by omega, A0G, ← hv]; rfl) (C7 4))) (Fit.eq (by rw [show n - (m - 8) = k + 8 by omega, show m - 2 - 2 - 2 - 2 = m - 8 by omega, show k + 2 + 2 + 2 + 2 = k + 8 by omega])) qI
 ·
  have hm8 : m < 8 := by simp at hc; omega
  refine G4 (te (re (be rfl (nx (E5 0 1 4) ?_))))
  obtain ⟨k, hk⟩ : ∃ k, k = n - m := ⟨_, rfl⟩
  rw [← hk]
  have hkm : k + m = n := by omega
  obtain ⟨v, hv⟩ : ∃ v, v = u / 10 ^ k := ⟨_, rfl⟩
  rw [← hv]
  rw [← hk, ← hv] at hb
  have hb7 : v < 10000000 := Nat.lt_of_lt_of_le hb (Nat.pow_le_pow_right qD qO : 10 ^ m ≤ 10 ^ 7)
  refine A1 (mv_ ?_)
  refine A2 (B2n rfl kR) rfl ?_
  refine as_ ?_
  rw [show v % 4294967296 = v by omega]
  refine A0 (E5 0 4 12) ?_
  refine P2 (α := Nat) (fun m => [(0, .slice (some ⟨b, o, none⟩) n cap), (4, .int .i64 (m : Int)), (12, .int .u32 ((u / 10 ^ (n - m) : Nat) : Int))]) (fun m => [(b, blk (I3 .u8 (xs.take (o + m) ++ (dgs (n - m) u ++ xs.drop (o + n)))) e)]) (fun _ => []) (fun m => m ≤ n ∧ m < 4) ?_ ?_
  ·
   refine A1 (mv_ ?_)
   refine A2 (F3 rfl rfl rfl) rfl ?_
   refine A0 (F4 0 4 12 99) ?_
   refine C3 rfl ?_ ?_ <;> intro hc
   ·
    have hm4 : 4 ≤ m := by simp at hc; omega
    refine A1 (mv_ ?_)
    refine A2 (A17 (b := 10000) rfl rfl rfl rfl qO) rfl ?_
    refine as_ (A0 (F4 0 4 12 13) (A1 (mv_ ?_)))
    refine A2 (A18 (b := 10000) (m := 4294967296) rfl rfl rfl rfl rfl rfl qO qO) rfl ?_
    refine as_ (A0 (F4 0 4 12 13) (A1 (mv_ ?_)))
    refine A2 (A18 (b := 100) (m := 4294967296) rfl rfl rfl rfl rfl rfl qO qO) rfl ?_
    refine A2 (A14 4294967296 (b := 2) rfl rfl rfl rfl rfl rfl) rfl ?_
    refine mv_ ?_
    refine A2 (A17 (b := 100) rfl rfl rfl rfl qO) rfl ?_
    refine A2 (A14 4294967296 (b := 2) rfl rfl rfl rfl rfl rfl) rfl ?_
    refine as_ (as_ (A0 (G6 0 4 12 14 15) ?_))
    refine G5 [0, 1, 2, 3, 4, 5, 6, 7, 8, 9, 10, 11, 13] (zp 0 [0, 0, 0, 0, 0, 0, 0, 0, 0, 0, 0, 0, 2, 0, 2]) kR kR fun hs => ?_
    refine fm_ hs ?_
    refine fm_ hs ?_
    refine E8 hs rfl (L3 (b := 1) rfl rfl rfl rfl qO qO) rfl ?_
    refine fm_ hs ?_
    refine fm_ hs ?_
    refine E8 hs rfl (L3 (b := 2) rfl rfl rfl rfl qO qO) rfl ?_
    refine fm_ hs ?_
    refine E8 hs rfl (A0t 4294967296 (b := 1) rfl rfl rfl rfl rfl rfl) rfl ?_
    refine E8 hs rfl (X6 (p := (v % 10000 % 100)) rfl kR rfl kR qO qO) rfl ?_
    refine fm_ hs ?_
    refine E8 hs rfl (X5 (p := (v % 10000 % 100)) rfl kR rfl kR qO qO) rfl ?_
    refine E8 hs rfl (S8 (e := 5) (sz := 1) (i := m - 1) rfl rfl kR kR qO qO) rfl ?_
    refine L7 rfl rfl rfl (A0q (o + (m - 1)) rfl rfl kR qO (by rw [P3 qO]; omega) UpC.upd ?_)
    refine E8 hs rfl (S8 (e := 5) (sz := 1) (i := m - 2) rfl rfl kR kR qO qO) rfl ?_
    refine L7 rfl rfl rfl (A0q (o + (m - 2)) rfl rfl kR qO (by rw [List.length_set, P3 qO]; omega) UpC.upd ?_)
    rw [A0F qO qO (by rw [← hv]; omega)]
    refine I2 (F4 0 4 12 14) ?_
    refine G5 [0, 1, 2, 3, 4, 5, 6, 7, 8, 9, 10, 11, 13] (zp 0 [0, 0, 0, 0, 0, 0, 0, 0, 0, 0, 0, 0, 2, 0, 2]) kR kR fun hs => ?_
    refine fm_ hs ?_
    refine fm_ hs ?_
    refine E8 hs rfl (L3 (b := 3) rfl rfl rfl rfl qO qO) rfl ?_
    refine fm_ hs ?_
    refine fm_ hs ?_
    refine E8 hs rfl (L3 (b := 4) rfl rfl rfl rfl qO qO) rfl ?_
    refine fm_ hs ?_
    refine E8 hs rfl (A0t 4294967296 (b := 1) rfl rfl rfl rfl rfl rfl) rfl ?_
    refine E8 hs rfl (X6 (p := (v % 10000 / 100)) rfl kR rfl kR qO qO) rfl ?_
    refine fm_ hs ?_
    refine E8 hs rfl (X5 (p := (v % 10000 / 100)) rfl kR rfl kR qO qO) rfl ?_
    refine E8 hs rfl (S8 (e := 5) (sz := 1) (i := (m - 2) - 1) rfl rfl kR kR qO qO) rfl ?_
    refine L7 rfl rfl rfl (A0q (o + ((m - 2) - 1)) rfl rfl kR qO (by rw [P3 qO]; omega) UpC.upd ?_)
    refine E8 hs rfl (S8 (e := 5) (sz := 1) (i := (m - 2) - 2) rfl rfl kR kR qO qO) rfl ?_
    refine L7 rfl rfl rfl (A0q (o + ((m - 2) - 2)) rfl rfl kR qO (by rw [List.length_set, P3 qO]; omega) UpC.upd ?_)
    rw [A0F qO qO (by rw [A0G, ← hv]; omega)]
    refine I2 (E5 0 4 12) (C6 (mv_ ?_))
    refine A2 (L3 (b := 4) rfl rfl rfl rfl qO qO) rfl ?_
    refine as_ (E1 ?_)
    exact jn (m - 4) ⟨by omega, by omega⟩ (kq 0 (kq 4 (kp 12 (by rw [show n - (m - 4) = k + 4 by omega, A0G, ← hv]; rfl) kn))) (Fit.eq (by rw [show n - (m - 4) = k + 4 by omega, show m - 2 - 2 = m - 4 by omega, show k + 2 + 2 = k + 4 by omega])) qI
   ·
    have hm4 : m < 4 := by simp at hc; omega
    refine A5 ?_
    exact jn m ⟨hm, hm4⟩ (kq 0 (kq 4 (kp 12 (by rw [← hk, ← hv]; rfl) kn))) (Fit.eq (by rw [← hk])) qI
  ·
   rintro m2 ⟨hm2, hm24⟩
   have hb2 := A3J hu hm2
   obtain ⟨k2, hk2⟩ : ∃ k, k = n - m2 := ⟨_, rfl⟩
   rw [← hk2]
   have hkm2 : k2 + m2 = n := by omega
   obtain ⟨v2, hv2⟩ : ∃ v, v = u / 10 ^ k2 := ⟨_, rfl⟩
   rw [← hv2]
   rw [← hk2, ← hv2] at hb2
   have hb27 : v2 < 1000 := Nat.lt_of_lt_of_le hb2 (Nat.pow_le_pow_right qD qO : 10 ^ m2 ≤ 10 ^ 3)
   refine P2 (α := Nat) (fun m => [(0, .slice (some ⟨b, o, none⟩) n cap), (4, .int .i64 (m : Int)), (12, .int .u32 ((u / 10 ^ (n - m) : Nat) : Int))]) (fun m => [(b, blk (I3 .u8 (xs.take (o + m) ++ (dgs (n - m) u ++ xs.drop (o + n)))) e)]) (fun _ => []) (fun m => m ≤ n ∧ m < 2) ?_ ?_
   ·
    refine A1 (mv_ ?_)
    refine A2 (F3 rfl rfl rfl) rfl ?_
    refine A0 (F4 0 4 12 139) ?_
    refine C3 rfl ?_ ?_ <;> intro hc
    ·
     have hm22 : 2 ≤ m2 := by simp at hc; omega
     refine A1 (mv_ ?_)
     refine A2 (A17 (b := 100) rfl rfl rfl rfl qO) rfl ?_
     refine A2 (A14 4294967296 (b := 2) rfl rfl rfl rfl rfl rfl) rfl ?_
     refine as_ (A0 (F4 0 4 12 16) (A1 (mv_ ?_)))
     refine A2 (A18 (b := 100) (m := 4294967296) rfl rfl rfl rfl rfl rfl qO qO) rfl ?_
     refine as_ (A0 (F4 0 4 12 16) ?_)
     refine G5 [0, 1, 2, 3, 4, 5, 6, 7, 8, 9, 10, 11, 13] (zp 0 [0, 0, 0, 0, 0, 0, 0, 0, 0, 0, 0, 0, 2, 0, 2]) kR kR fun hs => ?_
     refine fm_ hs ?_
     refine fm_ hs ?_
     refine E8 hs rfl (L3 (b := 1) rfl rfl rfl rfl qO qO) rfl ?_
     refine fm_ hs ?_
     refine fm_ hs ?_
     refine E8 hs rfl (L3 (b := 2) rfl rfl rfl rfl qO qO) rfl ?_
     refine fm_ hs ?_
     refine E8 hs rfl (A0t 4294967296 (b := 1) rfl rfl rfl rfl rfl rfl) rfl ?_
     refine E8 hs rfl (X6 (p := (v2 % 100)) rfl kR rfl kR qO qO) rfl ?_
     refine fm_ hs ?_
     refine E8 hs rfl (X5 (p := (v2 % 100)) rfl kR rfl kR qO qO) rfl ?_
     refine E8 hs rfl (S8 (e := 5) (sz := 1) (i := m2 - 1) rfl rfl kR kR qO qO) rfl ?_
     refine L7 rfl rfl rfl (A0q (o + (m2 - 1)) rfl rfl kR qO (by rw [P3 qO]; omega) UpC.upd ?_)
     refine E8 hs rfl (S8 (e := 5) (sz := 1) (i := m2 - 2) rfl rfl kR kR qO qO) rfl ?_
     refine L7 rfl rfl rfl (A0q (o + (m2 - 2)) rfl rfl kR qO (by rw [List.length_set, P3 qO]; omega) UpC.upd ?_)
     rw [A0F qO qO (by rw [← hv2])]
     refine I2 (E5 0 4 12) (C6 (mv_ ?_))
     refine A2 (L3 (b := 2) rfl rfl rfl rfl qO qO) rfl ?_
     refine as_ (E1 ?_)
     exact jn (m2 - 2) ⟨by omega, by omega⟩ (kq 0 (kq 4 (kp 12 (by rw [show n - (m2 - 2) = k2 + 2 by omega, A0G, ← hv2]; rfl) kn))) (Fit.eq (by rw [show n - (m2 - 2) = k2 + 2 by omega])) qI
    ·
     have hm22 : m2 < 2 := by simp at hc; omega
     refine A5 ?_
     exact jn m2 ⟨hm2, hm22⟩ (kq 0 (kq 4 (kp 12 (by rw [← hk2, ← hv2]; rfl) kn))) (Fit.eq (by rw [← hk2])) qI
   ·
    rintro m3 ⟨hm3, hm32⟩
    have hb3 := A3J hu hm3
    refine A1 (mv_ ?_)
    refine A2 (F3 rfl rfl rfl) rfl ?_
    refine A0 (E5 0 12 161) ?_
    refine C3 rfl ?_ ?_ <;> intro hc
    ·
     obtain rfl : m3 = 1 := by simp at hc; omega
     obtain ⟨k3, hk3⟩ : ∃ k, k = n - 1 := ⟨_, rfl⟩
     rw [← hk3]
     have hkm3 : k3 + 1 = n := by omega
     obtain ⟨v3, hv3⟩ : ∃ v, v = u / 10 ^ k3 := ⟨_, rfl⟩
     rw [← hv3]
     rw [← hk3, ← hv3] at hb3
     have hb37 : v3 < 10 := by simpa using hb3
     refine C6 (mv_ (mv_ ?_))
     refine A2 (A0t 4294967296 (a := 48) rfl rfl rfl rfl rfl rfl) rfl ?_
     refine A2 (B3j rfl kR) rfl ?_
     rw [show (48 + v3) % 4294967296 % 256 = 48 + u / 10 ^ k3 % 10 by rw [← hv3]; omega]
     refine A2 (S8 (e := 5) (sz := 1) (i := 0) rfl rfl kR kR rfl qO) rfl ?_
     refine A4 rfl (A0q (o + (1 - 1)) rfl rfl kR qO (by rw [P3 qO]; omega) UpC.upd ?_)
     rw [A2d qO qO]
     refine E1 ?_
     exact ⟨_, [(b, _)], [], A2V rfl, List.Sublist.refl _, by simp, rfl, by rw [hkm3]; rfl⟩
    ·
     obtain rfl : m3 = 0 := by simp at hc; omega
     refine A5 ?_
     exact ⟨_, [(b, _)], [], A2V rfl, List.Sublist.refl _, by simp, rfl, rfl⟩

def B3y : LN := [48, 49, 50, 51, 52, 53, 54, 55, 56, 57, 97, 98, 99, 100, 101, 102, 103, 104, 105, 106, 107, 108, 109, 110, 111, 112, 113, 114, 115, 116, 117, 118, 119, 120, 121, 122]
theorem A63 : ∀ i : Fin 10, (B3y.take (i.val + 1)).drop i.val = dec i.val := by decide +kernel
theorem A5v : ∀ i : Fin 100, 10 ≤ i.val → (A3I.take (i.val * 2 + 2)).drop (i.val * 2) = dec i.val := by decide +kernel
theorem B0D {n : Nat} (h0 : 0 < n) (h : n ≤ 9223372036854775808) : IntKind.u64.wrap (-(n : Int)) = ((18446744073709551616 - n : Nat) : Int) := by
  simp [IntKind.wrap, IntKind.bits, IntKind.signed]; omega
theorem A8k {n : Nat} (h0 : 0 < n) (h : n ≤ 9223372036854775808) : IntKind.u64.wrap (0 - ((18446744073709551616 - n : Nat) : Int)) = (n : Int) := by
  simp [IntKind.wrap, IntKind.bits, IntKind.signed]; omega
theorem B3z {n : Nat} (h : nd10 n ≤ 20) : (((List.replicate 24 0).take 1 ++ (dgs (nd10 n) n ++ (List.replicate 24 0).drop (1 + nd10 n))).drop 1).take (nd10 n) = dec n := by
  rw [List.drop_append_of_le_length qM]
  simp [dec]
  rw [List.take_append_of_le_length (by rw [A0D]; omega), List.take_of_length_le (by rw [A0D]; omega)]
theorem B3A {n : Nat} (h : nd10 n ≤ 20) : (((List.replicate 24 0).take 1 ++ (dgs (nd10 n) n ++ (List.replicate 24 0).drop (1 + nd10 n))).set 0 45).take (1 + nd10 n) = 45 :: dec n := by
  simp only [List.replicate, List.take, List.cons_append, List.nil_append, List.set_cons_zero]
  rw [Nat.add_comm 1, List.take_succ_cons, List.take_append_of_le_length (by rw [A0D]; omega), List.take_of_length_le (by rw [A0D]; omega)]
  rfl
theorem A6a {k : IntKind} (ws : LN) (o n : Nat) : ((I3 k ws).drop o).take n = I3 k ((ws.drop o).take n) := by simp [I3, List.map_drop, List.map_take]
theorem A2e {n : Nat} (h : nd10 n ≤ 20) : ((List.replicate 24 0).take 1 ++ (dgs (nd10 n) n ++ (List.replicate 24 0).drop (1 + nd10 n))).length = 24 := by
  simp [A0D]; omega
theorem A4B (i : Nat) (hi : i < 100) (A : Mem) : FnV Tryz.prog 238 [.int .i64 (i : Int)] A (.string (txt (dec i))) := by
 refine FnX.enter (N := 15) Tryz.func238 rfl rfl rfl fun w => ?_
 refine A8 (C7 0) (A1 (as_ (A0 (C7 0) (A6 (A1 (mv_ ?_))))))
 refine A2 (F3 rfl rfl rfl) rfl ?_
 refine A0 (D0 0 4) ?_
 refine C3 rfl ?_ ?_ <;> intro hc
 ·
  have hlt : i < 10 := by simp at hc; omega
  refine A1 (mv_ (mv_ ?_))
  refine A2 (G9 (b := 1) rfl rfl rfl rfl qO) rfl ?_
  refine A2 (A63 ⟨i, hlt⟩ ▸ B3v (ws := B3y) (a := i) (b := i + 1) rfl kR rfl rfl kR rfl rfl qO (by show _ ≤ 36; omega)) rfl ?_
  refine as_ (A0 (C7 2) (A7 (tr ?_)))
  exact ⟨_, [], [], F7 rfl rfl, List.nil_sublist _, by simp, rfl, rfl, rfl⟩
 ·
  have hge : 10 ≤ i := by simp at hc; omega
  refine A5 (nx (C7 0) (A1 (mv_ ?_)))
  refine A2 (A16 (b := 2) rfl rfl rfl rfl qO) rfl ?_
  refine mv_ ?_
  refine A2 (A16 (b := 2) rfl rfl rfl rfl qO) rfl ?_
  refine A2 (G9 (b := 2) rfl rfl rfl rfl qO) rfl ?_
  refine A2 (A5v ⟨i, hi⟩ hge ▸ B3v (ws := A3I) (a := i * 2) (b := i * 2 + 2) rfl kR rfl rfl kR rfl rfl qO (by rw [A1j]; omega)) rfl ?_
  refine as_ (A0 (C7 2) (A7 ?_))
  exact ⟨_, [], [], F7 rfl rfl, List.nil_sublist _, by simp, rfl, rfl, rfl⟩
theorem A2O (i : Int) (hmin : -9223372036854775808 ≤ i) (hmax : i ≤ 9223372036854775807) (A : Mem) {e4 : TypeId} {f4 : Nat × Nat} (h4 : (4, Obj.cells (I3 .u64 N8).toArray e4 f4) ∈ A) : FnV Tryz.prog 217 [.int .i64 i, .int .i64 10] A (.string (txt (decI i))) := by
 refine FnX.enter (N := 54) Tryz.func217 rfl rfl rfl fun w => ?_
 refine A8 (D0 0 1) (A1 (as_ (A0 (D0 0 1) (A6 (A1 (mv_ ?_))))))
 refine A2 (F0 true rfl rfl (eqT rfl)) rfl ?_
 refine A0 (E5 0 1 11) ?_
 refine E9 rfl ?_
 refine A6 (A1 (mv_ ?_))
 refine A2 (F3 rfl rfl rfl) rfl ?_
 refine mv_ ?_
 refine H4 (t := 14) rfl (fun hb => ?_) (fun hb => ?_)
 ·
  obtain ⟨n, rfl⟩ := Int.eq_ofNat_of_zero_le (show 0 ≤ i by simpa using hb)
  clear hb hmin
  rw [show decI ((n : Nat) : Int) = dec n by simp [decI]]
  refine C0 rfl rfl (OpQ.opL qm_ rfl ?_)
  refine C0 rfl rfl (OpQ.opL (F3 rfl rfl rfl) rfl ?_)
  refine A2 (E3 rfl rfl) rfl ?_
  refine A0 (D0 0 17) ?_
  refine C3 rfl ?_ ?_ <;> intro hc
  ·
   have hlt : n < 100 := by simp at hc; omega
   refine A1 (mv_ ?_)
   refine D7 (aS rfl a0) kR (A4B n hlt _) rfl ?_
   refine as_ (A0 (C7 4) (A7 (tr (tr ?_))))
   exact ⟨_, [], [], F7 rfl rfl, List.nil_sublist _, by simp, rfl, rfl, rfl⟩
  ·
   have hge : 100 ≤ n := by simp at hc; omega
   refine A5 (nx (C7 0) (A1 ?_))
   refine A4 rfl (D2 (cs := [zu8, zu8, zu8, zu8, zu8, zu8, zu8, zu8, zu8, zu8, zu8, zu8, zu8, zu8, zu8, zu8, zu8, zu8, zu8, zu8, zu8, zu8, zu8, zu8]) kR rfl fun b5 => ?_)
   refine A0 (D0 0 5) ?_
   have hnd := Z3 (u := n) qO
   have hnd1 : 1 ≤ nd10 n := A2b 64 n
   have hlt10 : n < 10 ^ nd10 n := A4x 64 n (Nat.lt_trans (show n < 18446744073709551616 by omega) qD)
   refine A1T (M' := [(b5, blk (I3 .u8 (List.replicate 24 0)) 319)]) (Fit.eq qR) qI ?_
   refine A1 (mv_ ?_)
   refine A2 ((Nat.mod_eq_of_lt (show n < 18446744073709551616 by omega)) ▸ A4u rfl kR) rfl ?_
   refine as_ (A0 (E5 0 5 6) (A6 (A1 (mv_ ?_))))
   refine A2 (F3 rfl rfl rfl) rfl ?_
   refine A0 (F4 0 5 6 23) ?_
   refine C3 rfl ?_ ?_ <;> intro hc
   ·
    exfalso
    simp at hc
    omega
   ·
    refine A5 (nx (E5 0 5 6) (A1 (mv_ ?_)))
    refine D7 (aS rfl a0) kR (A0v n qO qO _ (mA h4)) rfl ?_
    refine as_ (A0 (F4 0 5 6 7) (A1 (mv_ ?_)))
    refine A2 (G9 (a := 1) rfl rfl rfl rfl qO) rfl ?_
    refine A2 (A5t (sz := 1) (n := 24) (e := 5) 1 (1 + nd10 n) rfl kR kR rfl rfl rfl rfl qO qO qO) rfl ?_
    refine mv_ ?_
    refine A4 rfl (A79 (Mc := [(b5, blk (I3 .u8 (List.replicate 24 0)) 319)]) (aS rfl (aS rfl a0)) kR (A4A b5 (0 + 1 * 1) (1 + nd10 n - 1) (24 - 1) n (List.replicate 24 0) _ qO qO (by simp; omega) (by rw [Nat.add_sub_cancel_left]; exact hlt10) qO _) qP rfl ?_)
    rintro r32 M32 J32 ⟨rfl, rfl⟩
    rw [Nat.add_sub_cancel_left]
    dsimp only [List.cons_append, List.nil_append]
    refine A0 (E5 0 5 7) (A6 (A1 (mv_ ?_)))
    refine A2 (F3 rfl rfl rfl) rfl ?_
    refine A0 (E5 5 7 34) ?_
    refine C3 rfl ?_ ?_ <;> intro hc
    ·
     exfalso
     simp at hc
     omega
    ·
     refine A5 (nx (D0 5 7) (A1 (mv_ ?_)))
     refine A2 (G9 (a := 1) rfl rfl rfl rfl qO) rfl ?_
     refine A2 (A5t (sz := 1) (n := 24) (e := 5) 1 (1 + nd10 n) rfl kR kR rfl rfl rfl rfl qO qO qO) rfl ?_
     refine A2 (A5p (ws := dec n) (n := 1 + nd10 n - 1) (A5r (Rd.mid (o := 0 + 1 * 1) (n := 1 + nd10 n - 1) (cap := 24 - 1) At.mem (by rw [nums_len, A2e hnd]; omega) qO) rfl (by rw [A6a, Nat.add_sub_cancel_left, show 0 + 1 * 1 = 1 from rfl, B3z hnd])) rfl kR) rfl ?_
     refine as_ (A0 (C7 4) (A7 (tr ?_)))
     exact ⟨_, [], [], F7 rfl rfl, List.nil_sublist _, by simp, rfl, rfl, rfl⟩
 ·
  obtain ⟨n, hn0, rfl⟩ : ∃ n : Nat, 0 < n ∧ i = -(n : Int) := ⟨i.natAbs, by simp at hb; omega, by simp at hb; omega⟩
  clear hb
  rw [show decI (-(n : Int)) = 45 :: dec n by simp [decI]; omega]
  refine D1 rfl rfl rfl rfl ?_
  refine D1 rfl rfl rfl rfl ?_
  refine A2 (C8 rfl rfl) rfl ?_
  refine A0 (D0 0 17) ?_
  refine B0 rfl ?_
  refine A5 (nx (C7 0) (A1 ?_))
  refine A4 rfl (D2 (cs := [zu8, zu8, zu8, zu8, zu8, zu8, zu8, zu8, zu8, zu8, zu8, zu8, zu8, zu8, zu8, zu8, zu8, zu8, zu8, zu8, zu8, zu8, zu8, zu8]) kR rfl fun b5 => ?_)
  refine A0 (D0 0 5) ?_
  have hnd := Z3 (u := n) qO
  have hnd1 : 1 ≤ nd10 n := A2b 64 n
  have hlt10 : n < 10 ^ nd10 n := A4x 64 n (Nat.lt_trans (show n < 18446744073709551616 by omega) qD)
  refine A1T (M' := [(b5, blk (I3 .u8 (List.replicate 24 0)) 319)]) (Fit.eq qR) qI ?_
  refine A1 (mv_ ?_)
  refine A2 (B0D hn0 qO ▸ A7Q (k' := .u64) rfl kR) rfl ?_
  refine as_ (A0 (E5 0 5 6) (A6 (A1 (mv_ ?_))))
  refine A2 (F3 rfl rfl rfl) rfl ?_
  refine A0 (F4 0 5 6 23) ?_
  refine C3 rfl ?_ ?_ <;> intro hc
  ·
   refine C6 (mv_ ?_)
   refine A2 (A8k hn0 qO ▸ B7L rfl) rfl ?_
   refine as_ (A0 (E5 0 5 6) (A1 (mv_ ?_)))
   refine D7 (aS rfl a0) kR (A0v n qO qO _ (mA h4)) rfl ?_
   refine as_ (A0 (F4 0 5 6 7) (A1 (mv_ ?_)))
   refine A2 (G9 (a := 1) rfl rfl rfl rfl qO) rfl ?_
   refine A2 (A5t (sz := 1) (n := 24) (e := 5) 1 (1 + nd10 n) rfl kR kR rfl rfl rfl rfl qO qO qO) rfl ?_
   refine mv_ ?_
   refine A4 rfl (A79 (Mc := [(b5, blk (I3 .u8 (List.replicate 24 0)) 319)]) (aS rfl (aS rfl a0)) kR (A4A b5 (0 + 1 * 1) (1 + nd10 n - 1) (24 - 1) n (List.replicate 24 0) _ qO qO (by simp; omega) (by rw [Nat.add_sub_cancel_left]; exact hlt10) qO _) qP rfl ?_)
   rintro r32 M32 J32 ⟨rfl, rfl⟩
   rw [Nat.add_sub_cancel_left]
   dsimp only [List.cons_append, List.nil_append]
   refine A0 (E5 0 5 7) (A6 (A1 (mv_ ?_)))
   refine A2 (F3 rfl rfl rfl) rfl ?_
   refine A0 (E5 5 7 34) ?_
   refine C3 rfl ?_ ?_ <;> intro hc
   ·
    refine A1 ?_
    refine A2 (qi_ 0 5 24 1 0) rfl ?_
    refine A4 rfl (A0q 0 rfl rfl kR rfl (by rw [A2e hnd]; omega) UpC.upd ?_)
    refine A0 (D0 5 7) (A1 (mv_ ?_))
    refine A2 (G9 (a := 1) rfl rfl rfl rfl qO) rfl ?_
    refine A2 (B3q (sz := 1) (n := 24) (e := 5) (1 + nd10 n) rfl kR kR rfl rfl qO) rfl ?_
    refine A2 (A5p (ws := 45 :: dec n) (n := 1 + nd10 n) (A5r (Rd.mid (o := 0) (n := 1 + nd10 n) (cap := 24) At.mem (by rw [nums_len, List.length_set, A2e hnd]; omega) qO) rfl (by rw [A6a, List.drop_zero, B3A hnd])) rfl kR) rfl ?_
    refine as_ (A0 (C7 4) (A7 (tr (tr ?_))))
    exact ⟨_, [], [], F7 rfl rfl, List.nil_sublist _, by simp, rfl, rfl, rfl⟩
   ·
    exfalso
    simp at hc
    omega
  ·
   exfalso
   simp at hc
   omega
theorem A64 (i : Int) (hmin : -9223372036854775808 ≤ i) (hmax : i ≤ 9223372036854775807) (A : Mem) {e4 : TypeId} {f4 : Nat × Nat} (h4 : (4, Obj.cells (I3 .u64 N8).toArray e4 f4) ∈ A) : FnV Tryz.prog 183 [.int .i64 i] A (.string (txt (decI i))) := by
 refine FnX.enter (N := 5) Tryz.func183 rfl rfl rfl fun w => ?_
 refine A8 (C7 0) (A1 (as_ (A0 (C7 0) (A1 (mv_ ?_)))))
 refine D7 (aS rfl (aS rfl a0)) kR (A2O i hmin hmax _ (mA h4)) rfl ?_
 refine as_ (A0 (C7 2) (A7 ?_))
 exact ⟨_, [], [], F7 rfl rfl, List.nil_sublist _, by simp, rfl, rfl, rfl⟩
theorem Z6 (i : Int) (hmin : -9223372036854775808 ≤ i) (hmax : i ≤ 9223372036854775807) (A : Mem) {e4 : TypeId} {f4 : Nat × Nat} (h4 : (4, Obj.cells (I3 .u64 N8).toArray e4 f4) ∈ A) : FnV Tryz.prog 143 [.int .i64 i] A (.string (txt (decI i))) := by
 refine FnX.enter (N := 5) Tryz.func143 rfl rfl rfl fun w => ?_
 refine A8 (C7 0) (A1 (as_ (A0 (C7 0) (A1 (mv_ ?_)))))
 refine D7 (aS rfl a0) kR (A64 i hmin hmax _ (mA h4)) rfl ?_
 refine as_ (A0 (C7 2) (A7 ?_))
 exact ⟨_, [], [], F7 rfl rfl, List.nil_sublist _, by simp, rfl, rfl, rfl⟩

theorem A65 (l : LN) (r : LN) : dv l ≤ dv (l ++ r) := by
  have key : ∀ (r : LN) (a : Nat), a ≤ r.foldl (fun a c => a * 10 + (c - 48)) a := by
    intro r
    induction r with
    | nil => intro a; exact Nat.le_refl _
    | cons c r ih => intro a; exact Nat.le_trans (show a ≤ a * 10 + (c - 48) by omega) (ih _)
  unfold dv
  rw [List.foldl_append]
  exact key r _
theorem A4C {l : LN} {i : Nat} (h : i < l.length) : dv (l.take (i + 1)) = dv (l.take i) * 10 + (l.getD i 0 - 48) := by
  rw [List.take_add_one, List.getElem?_eq_getElem h]
  simp only [Option.toList_some, B2r, List.getD, List.getElem?_eq_getElem h, Option.getD_some]
theorem A23 (l : LN) (i : Nat) : dv (l.take i) ≤ dv l := by
  conv => rhs; rw [← List.take_append_drop i l]
  exact A65 _ _
theorem A4D {l : LN} {i : Nat} (h : i < l.length) : l.getD i 0 ∈ l := by
  simp [List.getD, List.getElem?_eq_getElem h]
instance B256.dec {u : Nat} : B256 (dec u) := ⟨fun x h => by have := Z5 h; omega⟩
instance B256.decI {i : Int} : B256 (decI i) := ⟨fun x h => by have := A1G h; omega⟩
theorem B3B {m : Nat} (h : m < 1000000000000000000) : 0 < nd10 m ∧ nd10 m < 19 := by
  refine ⟨A2b 64 m, ?_⟩
  by_cases h10 : 10 ≤ m
  · have h3 : 10 ^ (nd10 m - 1) ≤ m := A57 64 m h10
    have : 10 ^ (nd10 m - 1) < 10 ^ 18 := Nat.lt_of_le_of_lt h3 h
    have := (Nat.pow_lt_pow_iff_right (by decide : 1 < 10)).1 this
    omega
  · have hd : nd10 m = 1 := by unfold nd10 ndF; rw [if_pos qO]
    omega
theorem A66 (m : Nat) (hm : m < 1000000000000000000) (A : Mem) : FnV Tryz.prog 181 [.string (txt (dec m))] A (.tuple #[.int .i64 (m : Int), .nilIface]) := by
 refine FnX.enter (N := 77) Tryz.func181 rfl rfl rfl fun w => ?_
 refine A8 (C7 0) (A1 (as_ (as_ (A0 (C7 0) (A1 (mv_ ?_))))))
 refine A2 (A2Z rfl rfl kR) rfl ?_
 refine as_ (A0 (D0 0 4) (A6 ?_))
 obtain ⟨hn0, hn18⟩ := B3B hm
 have hdl := A0E m
 have hb : ∀ i, i < (dec m).length → 48 ≤ (dec m).getD i 0 ∧ (dec m).getD i 0 < 58 := fun i hi => Z5 (A4D hi)
 have hb0 := hb 0 qO
 refine A1 (mv_ ?_)
 refine D1 rfl rfl rfl rfl ?_
 refine D1 rfl rfl rfl rfl ?_
 refine D1 rfl rfl rfl rfl ?_
 refine A4o rfl rfl rfl ?_
 refine A4o rfl rfl rfl ?_
 refine D1 rfl rfl rfl rfl ?_
 refine A2 (C8 rfl rfl) rfl ?_
 refine mv_ ?_
 refine C0 rfl rfl (OpQ.opL qm_ rfl ?_)
 refine C0 rfl rfl (OpQ.opL qm_ rfl ?_)
 refine C0 rfl rfl (OpQ.opL (F0 true rfl rfl (ltT qO)) rfl ?_)
 refine C0 rfl rfl (OpQ.opL qm_ rfl ?_)
 refine C0 rfl rfl (OpQ.opL qm_ rfl ?_)
 refine C0 rfl rfl (OpQ.opL (F0 true rfl rfl (ltT qO)) rfl ?_)
 refine C0 rfl rfl (OpQ.opL (E3 rfl rfl) rfl ?_)
 refine C0 rfl rfl (OpQ.opL (E3 rfl rfl) rfl ?_)
 refine A2 (C8 rfl rfl) rfl ?_
 refine A0 (D0 0 30) ?_
 refine E9 rfl ?_
 refine A1 (mv_ (as_ (A0 (D0 0 5) (A6 (A1 (mv_ ?_))))))
 refine A2 (A4w (a := 0) rfl rfl B256.lt rfl kR rfl qO) rfl ?_
 refine A2 (F0 false rfl rfl (eqF qO)) rfl ?_
 refine mv_ ?_
 refine C0 rfl rfl (OpQ.opL qm_ rfl ?_)
 refine C0 rfl rfl (OpQ.opL (A4w (a := 0) rfl rfl B256.lt rfl kR rfl qO) rfl ?_)
 refine C0 rfl rfl (OpQ.opL (F0 false rfl rfl (eqF qO)) rfl ?_)
 refine A2 (C8 rfl rfl) rfl ?_
 refine A0 (E5 0 5 39) ?_
 refine B0 rfl ?_
 refine A5 (nx (D0 0 5) (A1 (as_ (A0 (E5 0 5 6) (A6 (A1 (mv_ ?_)))))))
 refine A4 rfl (A2a (e := 5) rfl rfl B256.lt kR kR kR rfl fun v47 B47 hs47 => ?_)
 refine A2 (E2 (sz := 1) rfl kR (by first | assumption | exact Sl.rd (by assumption) qI | exact By.rd (by assumption))) rfl ?_
 refine mv_ (A0 (G6 5 6 47 48 49) (C5 ?_))
 refine H0 (α := Nat) (fun i => [(5, .string (txt (dec m))), (6, .int .i64 ((dv ((dec m).take i) : Nat) : Int)), (47, v47), (48, .int .i64 (((dec m).length : Nat) : Int)), (49, .int .i64 (i : Int))]) (fun _ => B47) (fun _ => []) (fun i => i ≤ (dec m).length) (fun i => (dec m).length - i) 0 (Nat.zero_le _) (G6 5 6 47 48 49) (Fit.eq qM) qI ?_
 rintro i hi
 have hle := A23 (dec m) i
 rw [Z4 qO] at hle
 refine A1 ?_
 refine A2 (F3 rfl rfl rfl) rfl ?_
 refine A0 (I7 5 6 47 48 49 50) (A6 ?_)
 refine C3 rfl ?_ ?_ <;> intro hc
 ·
  have hlt : i < (dec m).length := by simp at hc; omega
  have hbi := hb i hlt
  have hds := A4C hlt
  have hle2 := A23 (dec m) (i + 1)
  rw [Z4 qO, hds] at hle2
  refine A5 (nx (G6 5 6 47 48 49) (A6 (C5 (A1 ?_))))
  refine A2 (F2 (sz := 1) rfl rfl kR rfl (by first | assumption | exact Sl.rd (by assumption) qI | exact By.rd (by assumption)) qO) rfl ?_
  refine A2 (B3r (k := .u8) rfl kR (by first | exact Rd.mono (by assumption) qS | exact Sl.rd (by assumption) qS | exact Rd.mono (By.rd (by assumption)) qS) qO) rfl ?_
  refine as_ (A0 (I7 5 6 8 47 48 49) (A1 (mv_ ?_)))
  refine A2 (B5P 256 (b := 48) rfl rfl rfl rfl rfl rfl qO) rfl ?_
  rw [show ((dec m).getD i 0 + (256 - 48)) % 256 = (dec m).getD i 0 - 48 by omega]
  refine as_ (A0 (I7 5 6 8 47 48 49) (A6 (A1 (mv_ ?_))))
  refine A2 (F0 false rfl rfl (gtF qO)) rfl ?_
  refine A0 (S9 5 6 8 47 48 49 56) ?_
  refine B0 rfl ?_
  refine A5 (nx (I7 5 6 8 47 48 49) (C6 (mv_ ?_)))
  refine A2 (A16 (b := 10) rfl rfl rfl rfl qO) rfl ?_
  refine mv_ ?_
  refine A2 (A7Z (k' := .i64) rfl kR (by show _ < 9223372036854775808; omega)) rfl ?_
  refine A2 (G9 rfl rfl rfl rfl qO) rfl ?_
  refine as_ (E1 (nb (nx (G6 5 6 47 48 49) (C6 ?_))))
  refine A2 (G9 (b := 1) rfl rfl rfl rfl qO) rfl ?_
  refine mv_ (E1 ?_)
  exact rn (i + 1) qO qO (kq 5 (kp 6 (by rw [hds]; rfl) (E5 47 48 49))) (Fit.eq qM) qI
 ·
  have hge : i = (dec m).length := by simp at hc; omega
  subst hge
  rw [List.take_length, Z4 qO]
  refine G4 (te (re (be rfl (nx (D0 5 6) (A6 (A1 (mv_ ?_)))))))
  refine A2 (A4w (a := 0) rfl rfl B256.lt rfl kR rfl qO) rfl ?_
  refine A2 (F0 false rfl rfl (eqF qO)) rfl ?_
  refine A0 (D0 6 66) ?_
  refine B0 rfl ?_
  refine A5 (nx (C7 6) (A1 (mv_ (as_ (as_ (A0 (D0 2 3) (A7 (tr ?_))))))))
  exact ⟨_, [], [], A1g rfl rfl rfl, List.nil_sublist _, by simp, rfl, rfl, rfl⟩
theorem A8l (m : Nat) (hm : m < 1000000000000000000) (A : Mem) : FnV Tryz.prog 142 [.string (txt (dec m))] A (.tuple #[.int .i64 (m : Int), .nilIface]) := by
 refine FnX.enter (N := 18) Tryz.func142 rfl rfl rfl fun w => ?_
 refine A8 (C7 0) (A1 (as_ (as_ (A0 (C7 0) (A1 (mv_ ?_))))))
 refine D7 (aS rfl a0) kR (A66 m hm _) rfl ?_
 refine mv_ ?_
 refine A2 (R6 rfl) rfl ?_
 refine A2 (R4 rfl) rfl ?_
 refine as_ (as_ (A0 (E5 0 4 5) (A6 (A1 (mv_ ?_)))))
 refine A2 (A8d rfl kR) rfl ?_
 refine A0 (F4 0 4 5 12) ?_
 refine B0 rfl ?_
 refine A5 (nx (C7 4) (A1 (mv_ (as_ (as_ (A0 (D0 2 3) (A7 ?_)))))))
 exact ⟨_, [], [], A1g rfl rfl rfl, List.nil_sublist _, by simp, rfl, rfl, rfl⟩
def mark (p : LN) : LN := dec p.length ++ 58 :: p
def S7 (l : List (LN)) : LN := l.flatMap mark
theorem A0Y (p : LN) (h : p.length < 18446744073709551616) : (mark p).length ≤ p.length + 21 := by
  have := Z3 h
  simp [mark, A0E]; omega
instance B256.mark {p : LN} [h : B256 p] : B256 (mark p) := by unfold Go.Proofs.YtoameenjkiaefaaGreatDoor.mark; exact @B256.app _ _ _ (B256.cons qD h)
theorem A2f (v : Value) (p : LN) (A : Mem) (hp : Rd A 1 v p.length (I3 .u8 p)) [hb : B256 p] (hl : p.length ≤ 1099511627776) {e4 : TypeId} {f4 : Nat × Nat} (h4 : (4, Obj.cells (I3 .u64 N8).toArray e4 f4) ∈ A) : FnV Tryz.prog 129 [v] A (.string (txt (mark p))) := by
 have hdl := A0E p.length
 have hd20 := Z3 (u := p.length) qO
 refine FnX.enter (N := 10) Tryz.func129 rfl rfl rfl fun w => ?_
 refine A8 (C7 0) (A1 (as_ (A0 (C7 0) ?_)))
 refine G5 (.range 8) [(0, 0), (1, 0), (4, 0), (5, 1), (2, 2), (3, 0), (6, 0), (7, 0)] kR kR fun hs => ?_
 refine fm_ hs ?_
 refine E8 hs rfl (E2 (sz := 1) rfl kR hp) rfl ?_
 refine fm_ hs ?_
 refine R5 hs rfl (Q3 rfl kR (by first | exact Rd.mono (by assumption) qS | exact Sl.rd (by assumption) qS | exact Rd.mono (By.rd (by assumption)) qS)) rfl ?_
 refine Q2 rfl (aS rfl a0) kR (Z6 (p.length : Int) qO qO _ (mA h4)) rfl ?_
 rw [show decI ((p.length : Nat) : Int) = dec p.length by simp [decI]]
 refine E8 hs rfl (A0u (ws' := [58]) rfl rfl rfl kR (by first | omega | (simp only [List.length_append, List.length_cons, List.length_nil, List.length_take, List.length_drop]; omega))) rfl ?_
 refine E8 hs rfl (A0u rfl rfl rfl rfl (by first | omega | (simp only [List.length_append, List.length_cons, List.length_nil, List.length_take, List.length_drop]; omega))) rfl ?_
 refine fa_ hs ?_
 refine I2 (C7 2) (A7 ?_)
 exact ⟨_, [], [], F7 rfl rfl, List.nil_sublist _, by simp, by simp [mark], rfl, rfl⟩
theorem A24 (p : LN) (l : List (LN)) : S7 (p :: l) = dec p.length ++ 58 :: (p ++ S7 l) := by simp [S7, mark]
theorem A67 {p R s : LN} (h : s = dec p.length ++ 58 :: (p ++ R)) : s.length = (dec p.length).length + 1 + p.length + R.length ∧ s.getD (dec p.length).length 0 = 58 ∧ (∀ k, k < (dec p.length).length → s.getD k 0 ≠ 58) ∧ s.take (dec p.length).length = dec p.length ∧ (s.take ((dec p.length).length + 1 + p.length)).drop ((dec p.length).length + 1) = p ∧ s.drop ((dec p.length).length + 1 + p.length) = R := by
  have e : s = (dec p.length ++ [58] ++ p) ++ R := by rw [h]; simp
  have e2 : (dec p.length ++ [58] ++ p).length = (dec p.length).length + 1 + p.length := by simp; omega
  refine ⟨?_, ?_, ?_, ?_, ?_, ?_⟩
  · rw [e]; simp; omega
  · rw [h]; simp [List.getD]
  · intro k hk
    have : s.getD k 0 = (dec p.length).getD k 0 := by rw [h]; simp only [List.getD]; rw [List.getElem?_append_left hk]
    rw [this]
    have := Z5 (A4D hk); omega
  · rw [h]; simp
  · rw [e, ← e2, List.take_left, show (dec p.length).length + 1 = (dec p.length ++ [58]).length by simp, List.drop_left]
  · rw [e, ← e2, List.drop_left]
def B5W (l : List (LN)) : List Value := l.map fun p => .string (txt p)
theorem A25 (l : List (LN)) (hb : B256 (S7 l)) (hl : (S7 l).length ≤ 1099511627776) (A : Mem) {e4 : TypeId} {f4 : Nat × Nat} (h4 : (4, Obj.cells (I3 .u64 N8).toArray e4 f4) ∈ A) : FnX Tryz.prog 109 [.string (txt (S7 l))] [] A fun r M J => J = [] ∧ ∃ v, r = .tuple #[v, .int .i64 0] ∧ Sl 1 v l.length (B5W l) M := by
 refine FnX.enter (N := 77) Tryz.func109 rfl rfl rfl fun w => ?_
 refine A8 (C7 0) (A1 (as_ (as_ (A0 (C7 0) (A1 (as_ (A0 (D0 0 4) (A6 ?_))))))))
 refine C5 ?_
 refine H0 (α := Nat × Value × Mem) (fun x => [(0, .string (txt (S7 (l.drop x.1)))), (4, x.2.1)]) (fun x => x.2.2) (fun _ => []) (fun x => x.1 ≤ l.length ∧ Sl 1 x.2.1 x.1 (B5W (l.take x.1)) x.2.2 ∧ B256 (S7 (l.drop x.1)) ∧ (S7 (l.drop x.1)).length + x.1 ≤ 1099511627776) (fun x => l.length - x.1) (0, vS, []) ⟨Nat.zero_le _, Sl.nil, hb, hl⟩ (D0 0 4) .rfl qI ?_
 rintro ⟨j, v, B⟩ ⟨hj, hsl, hbs, hml⟩
 dsimp only at hj hsl hbs hml ⊢
 refine A6 (A1 (mv_ ?_))
 refine A2 (A2Z rfl rfl kR) rfl ?_
 refine A2 (F3 rfl rfl rfl) rfl ?_
 refine A0 (E5 0 4 10) ?_
 refine C3 rfl ?_ ?_ <;> intro hc
 ·
  have hlt : j < l.length := by
   rcases Nat.lt_or_ge j l.length with h | h
   · exact h
   · rw [List.drop_eq_nil_of_le h] at hc; simp [S7] at hc
  obtain ⟨p, hp⟩ : ∃ p, p = l[j] := ⟨_, rfl⟩
  have hdr : l.drop j = p :: l.drop (j + 1) := by rw [hp]; exact List.drop_eq_getElem_cons hlt
  obtain ⟨f1, f2, f3, f4, f5, f6⟩ := A67 (A24 p (l.drop (j + 1)))
  rw [← hdr] at f1 f2 f3 f4 f5 f6
  have hbR : B256 (S7 (l.drop (j + 1))) := by rw [← f6]; exact B256.drop
  have htk : B5W (l.take (j + 1)) = B5W (l.take j) ++ [.string (txt p)] := by simp only [B5W]; rw [List.take_add_one, List.getElem?_eq_getElem hlt, hp, List.map_append]; rfl
  generalize S7 (l.drop j) = s at *
  refine A5 (nx (D0 0 4) (C5 (A1 (as_ (A0 (E5 0 4 5) (A6 (C5 ?_)))))))
  refine H0 (α := Nat) (fun k => [(0, .string (txt s)), (4, v), (5, .int .i64 (k : Int))]) (fun _ => B) (fun _ => []) (fun k => k ≤ (dec p.length).length) (fun k => (dec p.length).length - k) 0 (Nat.zero_le _) (E5 0 4 5) .rfl qI ?_
  rintro k hk
  refine A6 ?_
  by_cases hkl : k < (dec p.length).length
  ·
   refine A1 (mv_ (mv_ ?_))
   refine A2 (A2Z rfl rfl kR) rfl ?_
   refine A2 (F0 true rfl rfl (ltT qO)) rfl ?_
   refine mv_ ?_
   refine C0 rfl rfl (OpQ.opL qm_ rfl ?_)
   refine C0 rfl rfl (OpQ.opL qm_ rfl ?_)
   refine C0 rfl rfl (OpQ.opL (A4w rfl rfl B256.lt rfl kR rfl qO) rfl ?_)
   refine C0 rfl rfl (OpQ.opL (F0 true rfl rfl (neT (by have := f3 k hkl; omega))) rfl ?_)
   refine A2 (E3 rfl rfl) rfl ?_
   refine A0 (F4 0 4 5 20) ?_
   refine E9 rfl ?_
   refine A5 (nx (E5 0 4 5) (C5 (C6 (mv_ ?_))))
   refine A2 (G9 (b := 1) rfl rfl rfl rfl qO) rfl ?_
   refine as_ (E1 (nb ?_))
   exact rn (k + 1) qO qO (E5 0 4 5) .rfl qI
  ·
   obtain rfl : k = (dec p.length).length := by omega
   refine A1 (mv_ (mv_ ?_))
   refine A2 (A2Z rfl rfl kR) rfl ?_
   refine A2 (F0 true rfl rfl (ltT qO)) rfl ?_
   refine mv_ ?_
   refine C0 rfl rfl (OpQ.opL qm_ rfl ?_)
   refine C0 rfl rfl (OpQ.opL qm_ rfl ?_)
   refine C0 rfl rfl (OpQ.opL (A4w rfl rfl B256.lt rfl kR rfl qO) rfl ?_)
   refine C0 rfl rfl (OpQ.opL (F0 false rfl rfl (neF (by rw [f2]; rfl))) rfl ?_)
   refine A2 (E3 rfl rfl) rfl ?_
   refine A0 (F4 0 4 5 20) ?_
   refine B0 rfl ?_
   refine G4 (te (re (be rfl (nx (E5 0 4 5) (A1 (mv_ (mv_ ?_)))))))
   refine A2 (B5S rfl rfl rfl kR rfl (by first | omega | (simp only [List.length_append, List.length_cons, List.length_nil, List.length_take, List.length_drop]; omega))) rfl ?_
   rw [f4]
   refine D7 (aS rfl a0) kR (A8l p.length qO _) rfl ?_
   refine mv_ ?_
   refine A2 (R6 rfl) rfl ?_
   refine A2 (R4 rfl) rfl ?_
   refine as_ (as_ (A0 (G6 0 4 5 6 7) (A6 ?_)))
   refine G5 (.range 29) [(0, 0), (1, 0), (2, 0), (3, 0), (5, 0), (6, 0), (7, 0), (4, 2), (8, 0), (9, 0), (10, 0), (11, 0), (12, 0), (13, 0), (14, 0), (15, 0), (16, 0), (17, 0), (18, 0), (19, 0), (20, 0), (21, 0), (22, 0), (23, 0), (24, 0), (25, 0), (26, 0), (27, 0), (28, 0)] kR kR fun hs => ?_
   refine fm_ hs ?_
   refine E8 hs rfl (A8d rfl kR) rfl ?_
   refine fm_ hs ?_
   refine I4 hs rfl rfl rfl rfl qm_ rfl ?_
   refine I4 hs rfl rfl rfl rfl qm_ rfl ?_
   refine I4 hs rfl rfl rfl rfl qm_ rfl ?_
   refine I4 hs rfl rfl rfl rfl (B5S rfl rfl rfl kR rfl (by first | omega | (simp only [List.length_append, List.length_cons, List.length_nil, List.length_take, List.length_drop]; omega))) rfl ?_
   rw [f4]
   refine A12 rfl rfl rfl rfl (aS rfl a0) kR (Z6 (p.length : Int) qO qO _ (mA h4)) rfl ?_
   rw [show decI ((p.length : Nat) : Int) = dec p.length by simp [decI]]
   refine I4 hs rfl rfl rfl rfl ((show (!decide (dec p.length = dec p.length)) = false by simp) ▸ B5T rfl rfl rfl rfl B256.lt B256.lt) rfl ?_
   refine E8 hs rfl (C8 rfl rfl) rfl ?_
   refine fm_ hs ?_
   refine I4 hs rfl rfl rfl rfl qm_ rfl ?_
   refine I4 hs rfl rfl rfl rfl (F0 false rfl rfl (ltF qO)) rfl ?_
   refine E8 hs rfl (C8 rfl rfl) rfl ?_
   refine fm_ hs ?_
   refine I4 hs rfl rfl rfl rfl qm_ rfl ?_
   refine I4 hs rfl rfl rfl rfl qm_ rfl ?_
   refine I4 hs rfl rfl rfl rfl (A2Z rfl rfl kR) rfl ?_
   refine I4 hs rfl rfl rfl rfl (F0 false rfl rfl (eqF qO)) rfl ?_
   refine E8 hs rfl (C8 rfl rfl) rfl ?_
   refine fm_ hs ?_
   refine I4 hs rfl rfl rfl rfl qm_ rfl ?_
   refine I4 hs rfl rfl rfl rfl qm_ rfl ?_
   refine I4 hs rfl rfl rfl rfl (A2Z rfl rfl kR) rfl ?_
   refine I4 hs rfl rfl rfl rfl qm_ rfl ?_
   refine I4 hs rfl rfl rfl rfl (L3 rfl rfl rfl rfl qO qO) rfl ?_
   refine I4 hs rfl rfl rfl rfl (L3 (b := 1) rfl rfl rfl rfl qO qO) rfl ?_
   refine I4 hs rfl rfl rfl rfl (F0 false rfl rfl (gtF qO)) rfl ?_
   refine E8 hs rfl (C8 rfl rfl) rfl ?_
   refine I2 (G6 0 4 5 6 58) ?_
   refine B0 rfl ?_
   refine A5 (nx (F4 0 4 5 6) ?_)
   refine S3 [0, 1, 2, 3, 4, 5, 6, 7, 8, 9, 11, 12, 13, 14, 15, 16, 17, 18] [(0, 0), (1, 0), (2, 0), (3, 0), (4, 0), (5, 0), (6, 0), (7, 0), (8, 0), (11, 0), (12, 0), (13, 0), (14, 0), (15, 0), (16, 0), (9, 2), (10, 2), (17, 0), (18, 0)] kR kR fun hs => ?_
   refine fm_ hs ?_
   refine fm_ hs ?_
   refine fm_ hs ?_
   refine E8 hs rfl (G9 (b := 1) rfl rfl rfl rfl qO) rfl ?_
   refine fm_ hs ?_
   refine E8 hs rfl (G9 (b := 1) rfl rfl rfl rfl qO) rfl ?_
   refine fm_ hs ?_
   refine E8 hs rfl (G9 rfl rfl rfl rfl qO) rfl ?_
   refine E8 hs rfl (B3v rfl rfl rfl rfl kR rfl rfl qO (by first | omega | (simp only [List.length_append, List.length_cons, List.length_nil, List.length_take, List.length_drop]; omega))) rfl ?_
   rw [f5]
   refine fm_ hs ?_
   refine fm_ hs ?_
   refine E8 hs rfl (G9 (b := 1) rfl rfl rfl rfl qO) rfl ?_
   refine fm_ hs ?_
   refine E8 hs rfl (G9 rfl rfl rfl rfl qO) rfl ?_
   refine E8 hs rfl (B8d rfl rfl rfl kR rfl (by first | omega | (simp only [List.length_append, List.length_cons, List.length_nil, List.length_take, List.length_drop]; omega))) rfl ?_
   rw [f6]
   refine A5s rfl rfl fun _ => (C4 (e := 9) (sz := 1) (z := [.string ByteArray.empty]) kR (eS rfl e0) (bdS 0 1 rfl qR bd0) rfl fun b68 => ?_)
   refine L7 rfl rfl rfl (F6 (e := 9) (sz := 1) (by_ := 16) rfl rfl kR rfl (by first | assumption | exact Sl.nil) (Rd.whole (n := 1) At.mem qR) (by first | (simp [Value.oneCell']; done) | (intro c hc; simp only [List.mem_singleton] at hc; subst hc; first | exact Rd.one (by assumption) | exact Sl.one (by assumption))) qP (by unfold maxLen; omega) qO rfl fun v69 B69 hs69 => ?_)
   refine fa_ hs ?_
   refine fa_ hs ?_
   refine A10 (nb ?_)
   exact rn (j + 1, v69, B69) ⟨by dsimp only; omega, by dsimp only; rw [htk]; exact hs69, hbR, by dsimp only; omega⟩ (by dsimp only; omega) (D0 0 4) (Fit.sub (List.sublist_append_left _ _)) qI
 ·
  have hge : j = l.length := by
   rcases Nat.lt_or_ge j l.length with h | h
   · rw [List.drop_eq_getElem_cons h, A24] at hc; simp at hc; omega
   · omega
  subst hge
  rw [List.take_length] at hsl
  refine G4 (te (re (be rfl (nx (C7 4) (A1 (mv_ (as_ (as_ (A0 (D0 2 3) ?_)))))))))
  refine A7 ?_
  exact ⟨_, B, [], A1g rfl rfl rfl, List.Sublist.refl _, by simp, rfl, v, rfl, hsl⟩

end Go.Proofs.YtoameenjkiaefaaGreatDoor
