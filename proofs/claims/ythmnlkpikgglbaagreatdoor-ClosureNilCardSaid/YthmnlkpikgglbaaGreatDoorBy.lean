/-
  Slices of byte slices.
-/
import Derived.Test.YthmnlkpikgglbaaGreatDoorIn2
import Derived.Test.YthmnlkpikgglbaaGreatDoorStr
set_option linter.unusedVariables false
set_option linter.unusedSimpArgs false
namespace Go.Px
open Go.ChangeShapes Go.WideShapes Go.ChangeAt Go.RowKit
/-- The values 'vs' are slices of the bytes 'ls'. -/
structure Bys (R : Mem) (vs : List Value) (ls : List (List Nat)) : Prop where
  len : vs.length = ls.length
  get : ∀ (j : Nat) (w : List Nat), ls[j]? = some w → ∃ v, vs[j]? = some v ∧ Rd R 1 v w.length (nums .u8 w) ∧ (∀ x ∈ w, x < 256) ∧ w.length ≤ maxLen
theorem Bys.mono {R R' : Mem} {vs : List Value} {ls : List (List Nat)} (h : Bys R vs ls) (hR : ∀ x, x ∈ R → x ∈ R') : Bys R' vs ls := ⟨h.len, fun j w hj => by
  obtain ⟨v, h1, h2, h3, h4⟩ := h.get j w hj
  exact ⟨v, h1, h2.mono hR, h3, h4⟩⟩
theorem Bys.at {R : Mem} {vs : List Value} {ls : List (List Nat)} (h : Bys R vs ls) {j : Nat} (hj : j < ls.length) : ∃ v, vs[j]? = some v ∧ Rd R 1 v ls[j].length (nums .u8 ls[j]) ∧ B256 ls[j] ∧ ls[j].length ≤ maxLen := by
  obtain ⟨v, h1, h2, h3, h4⟩ := h.get j ls[j] (List.getElem?_eq_getElem hj)
  exact ⟨v, h1, h2, ⟨h3⟩, h4⟩
theorem Bys.nil {R : Mem} : Bys R [] [] := ⟨rfl, fun j w h => by simp at h⟩
theorem Bys.snoc {R : Mem} {vs : List Value} {ls : List (List Nat)} (h : Bys R vs ls) {v : Value} {w : List Nat} (hv : Rd R 1 v w.length (nums .u8 w)) (hb : ∀ x ∈ w, x < 256) (hl : w.length ≤ maxLen) : Bys R (vs ++ [v]) (ls ++ [w]) := ⟨by simp [h.len], fun j u hj => by
  by_cases hlt : j < ls.length
  · rw [List.getElem?_append_left hlt] at hj
    obtain ⟨v', h1, h2⟩ := h.get j u hj
    exact ⟨v', by rw [List.getElem?_append_left (List.getElem?_eq_some_iff.1 h1).1]; exact h1, h2⟩
  · rw [List.getElem?_append_right (by omega)] at hj
    have hj0 : j = ls.length := by
      have := (List.getElem?_eq_some_iff.1 hj).1
      simp at this; omega
    subst hj0
    simp at hj
    subst hj
    exact ⟨v, by rw [List.getElem?_append_right (by rw [h.len]; omega), h.len]; simp, hv, hb, hl⟩⟩
theorem Bys.cons {R : Mem} {vs : List Value} {ls : List (List Nat)} (h : Bys R vs ls) {v : Value} {w : List Nat} (hv : Rd R 1 v w.length (nums .u8 w)) (hb : ∀ x ∈ w, x < 256) (hl : w.length ≤ maxLen) : Bys R (v :: vs) (w :: ls) := ⟨by simp [h.len], fun j u hj => by
  cases j with
  | zero => simp at hj; subst hj; exact ⟨v, rfl, hv, hb, hl⟩
  | succ j => exact h.get j u hj⟩
theorem Bys.one {R : Mem} {vs : List Value} {ls : List (List Nat)} (h : Bys R vs ls) : ∀ c ∈ vs, c.oneCell' = true := by
  intro c hc
  obtain ⟨j, hj⟩ := List.getElem?_of_mem hc
  have hlt := (List.getElem?_eq_some_iff.1 hj).1
  rw [h.len] at hlt
  obtain ⟨v, h1, h2, _⟩ := h.at hlt
  rw [hj] at h1
  cases h1
  obtain ⟨p, cap, rfl, _⟩ := h2
  rfl
section
variable {H : Type} {enc : TypeId × Value → H} {P : Program} {w : World} {spare : Nat → Bool} {held : Bool} {fuel : Nat} {t e e' : TypeId} {cs : List Value} {x : DataW H × List MemPlace} {v : Value} {d : DataW H} {p : List MemPlace} {r : Reach} {base : Nat}
theorem bys_of (he : P.underlying e = some (.slice e')) (he' : P.underlying e' = some (.int .u8)) (hc' : P.cellsOf e' = 1) {xss : List (List Value)} (h : ∀ c ∈ xss, c.length = 1 ∧ ∃ m y, DataW.trod enc P w 0 spare held m e c = some y) :
    ∃ (vs : List Value) (ls : List (List Nat)), xss.flatten = vs ∧ ls.length = xss.length ∧ Bys (heapA w) vs ls := by
  induction xss with
  | nil => exact ⟨[], [], rfl, rfl, .nil⟩
  | cons c xss ih =>
    obtain ⟨vs, ls, h1, h2, h3⟩ := ih fun c hc => h c (by simp [hc])
    obtain ⟨_, m, y, h4⟩ := h c (by simp)
    obtain ⟨v, yss, rfl, g2, g3, g4⟩ := in_slice he hc' (by decide) h4
    obtain ⟨ws, k1, k2, k3⟩ := uints_of (k := .u8) rfl he' g4
    refine ⟨v :: vs, ws :: ls, by rw [List.flatten_cons, h1]; rfl, by simp [h2], h3.cons ?_ k3 (by omega)⟩
    rw [k2, ← k1]; exact g3
theorem inBys (ht : P.underlying t = some (.slice e)) (hc : P.cellsOf e = 1) (he : P.underlying e = some (.slice e')) (he' : P.underlying e' = some (.int .u8)) (hc' : P.cellsOf e' = 1) (hv : Value.okWide P w r base t v) (h : DataW.Trod enc P w 0 spare held t v d p) :
    ∃ (vs : List Value) (ls : List (List Nat)), Rd (heapA w) 1 v ls.length vs ∧ Bys (heapA w) vs ls ∧ ls.length ≤ maxLen := by
  obtain ⟨a, len, cap, rfl⟩ := okWide_slice ht hv
  obtain ⟨f, hf⟩ := h
  obtain ⟨v, xss, h1, h2, h3, h4⟩ := in_slice ht hc (by decide) hf
  obtain ⟨vs, ls, h5, h6, h7⟩ := bys_of he he' hc' h4
  obtain rfl : Value.slice a len cap = v := by simpa [Value.cells] using h1
  exact ⟨vs, ls, by rw [h6, ← h5]; exact h3, h7, by omega⟩
end
end Go.Px
