/-
  Arguments that came in, by their types: what the engine's rules ask of them.
-/
import Derived.Test.YthmnlkpikgglbaaGreatDoorIn
import Derived.WalkKit
import Derived.ProofKit
import Derived.OpenShut
import Derived.ShutString
import Derived.ChangeOld
import Derived.Below
set_option linter.unusedVariables false
set_option linter.unusedSimpArgs false
namespace Go.Px
open Go.ChangeShapes Go.WideShapes Go.ChangeAt Go.RowKit
/-- All that lies in a world. -/
def heapA (w : World) : Mem := (List.range w.heap.size).filterMap fun b => (w.heap[b]?).map fun o => (b, o)
theorem heapA_mem {w : World} {b : Nat} {o : Obj} : (b, o) ∈ heapA w ↔ w.heap[b]? = some o := by
  simp only [heapA, List.mem_filterMap, List.mem_range, Option.map_eq_some_iff, Prod.mk.injEq]
  constructor
  · rintro ⟨x, _, y, h, rfl, rfl⟩; exact h
  · intro h; exact ⟨b, lt_of_heap h, o, h, rfl, rfl⟩
theorem heapA_fx (w : World) : Fx (heapA w) w := fun b o h => heapA_mem.1 h
section
variable {H : Type} {enc : TypeId × Value → H} {P : Program} {w : World} {spare : Nat → Bool} {held : Bool} {fuel : Nat} {t e : TypeId} {cs : List Value} {x : DataW H × List MemPlace} {v : Value} {d : DataW H} {p : List MemPlace} {r : Reach} {base : Nat} {k : IntKind}
theorem cells_get {a : Addr} {n : Nat} {c : List Value} (h : w.cells? 0 a n = some c) : c.length = n ∧ ∀ j, j < n → w.cell? (a.add j) = c[j]? := by
  unfold World.cells? at h
  rw [if_pos (Nat.zero_le _)] at h
  exact ⟨by simpa using mapM_some_length h, fun j hj => mapM_some_get h j j (by simp [hj])⟩
theorem in_slice {sz : Nat} (ht : P.underlying t = some (.slice e)) (hsz : P.cellsOf e = sz) (hs0 : 0 < sz) (h : DataW.trod enc P w 0 spare held fuel t cs = some x) :
    ∃ (v : Value) (xss : List (List Value)), cs = [v] ∧ xss.length ≤ maxLen ∧ Rd (heapA w) sz v xss.length xss.flatten ∧ ∀ c ∈ xss, c.length = sz ∧ ∃ m y, DataW.trod enc P w 0 spare held m e c = some y := by
  rcases DataW.trod_slice ht h with ⟨rfl, _⟩ | ⟨a, len, cap, elems, rest, n, _, rfl, _, _, hl, hm, hlen, hel, _, _⟩
  · exact ⟨_, [], rfl, by simp, Rd.nil, fun c hc => by cases hc⟩
  · rw [hsz] at hel
    have hrow : ∀ i, i < len → ∃ c y, w.cells? 0 (a.add (i * sz)) sz = some c ∧ DataW.trod enc P w 0 spare held n e c = some y := by
      intro i hi
      have h1 := hel i hi
      rw [List.getElem?_eq_getElem (by omega)] at h1
      obtain ⟨c, h2, h3⟩ := Option.bind_eq_some_iff.1 h1
      exact ⟨c, _, h2, h3⟩
    have hget : ∀ i, i < len → ((List.range len).map fun i => (w.cells? 0 (a.add (i * sz)) sz).getD [])[i]? = some ((w.cells? 0 (a.add (i * sz)) sz).getD []) := by
      intro i hi; simp [hi]
    have hlen2 : ∀ c ∈ (List.range len).map (fun i => (w.cells? 0 (a.add (i * sz)) sz).getD []), c.length = sz ∧ ∃ m y, DataW.trod enc P w 0 spare held m e c = some y := by
      intro c hc
      obtain ⟨i, hi, rfl⟩ := List.mem_map.1 hc
      obtain ⟨c, y, h1, h2⟩ := hrow i (List.mem_range.1 hi)
      rw [h1, Option.getD_some]
      exact ⟨(cells_get h1).1, n, y, h2⟩
    refine ⟨_, (List.range len).map fun i => (w.cells? 0 (a.add (i * sz)) sz).getD [], rfl, by simp; omega, ?_, hlen2⟩
    have hl1 : ((List.range len).map fun i => (w.cells? 0 (a.add (i * sz)) sz).getD []).length = len := by simp
    have hfl := flat_len (rows := (List.range len).map fun i => (w.cells? 0 (a.add (i * sz)) sz).getD []) (s := sz) fun c hc => (hlen2 c hc).1
    rw [hl1]
    rw [hl1] at hfl
    by_cases h0 : len * sz = 0
    · refine ⟨some a, cap, rfl, hfl, hl, .inl ?_⟩
      rcases Nat.mul_eq_zero.1 h0 with h | h <;> omega
    · have hlp : 0 < len := Nat.pos_of_ne_zero (by rintro rfl; simp at h0)
      have hsp : 0 < sz := Nat.pos_of_ne_zero (by rintro rfl; simp at h0)
      obtain ⟨c0, y0, h1, _⟩ := hrow 0 hlp
      have h2 := (cells_get h1).2 0 hsp
      have h3 := (cells_get h1).1
      obtain ⟨b, o, sp⟩ := a
      have hadd : ((⟨b, o, sp⟩ : Addr).add (0 * sz)).add 0 = ⟨b, o, sp⟩ := by simp [Addr.add]
      rw [hadd, List.getElem?_eq_getElem (by omega)] at h2
      cases hb : w.heap[b]? with
      | none => simp [World.cell?, hb] at h2
      | some ob =>
        cases ob <;> simp [World.cell?, hb] at h2
        rename_i cells et fr
        obtain ⟨rfl, h2⟩ := h2
        refine ⟨_, cap, rfl, hfl, hl, .inr ⟨b, o, cells.toList, et, fr, rfl, heapA_mem.2 (by simpa using hb), fun j u hj => ?_⟩⟩
        have hjl : j < len * sz := by have := (List.getElem?_eq_some_iff.1 hj).1; rwa [hfl] at this
        have hi : j / sz < len := Nat.div_lt_of_lt_mul (by rw [Nat.mul_comm]; exact hjl)
        have hr : j % sz < sz := Nat.mod_lt _ hsp
        have hj2 := flat_get (fun c hc => (hlen2 c hc).1) (hget _ hi) (j % sz) hr
        have ej : j / sz * sz + j % sz = j := by rw [Nat.mul_comm]; exact Nat.div_add_mod j sz
        rw [ej, hj] at hj2
        obtain ⟨c, y, h5, _⟩ := hrow _ hi
        rw [h5, Option.getD_some] at hj2
        have h6 := (cells_get h5).2 _ hr
        rw [← hj2, Addr.add_mid, Addr.add_mid, World.cell?, hb] at h6
        simp only [Option.isSome_none, Bool.false_eq_true, if_false] at h6
        rw [Array.getElem?_toList, show o + j = o + j / sz * sz + j % sz by omega, h6]
/-! ### Scalars -/
theorem nat_of_wf (hk : k.signed = false) {n : Int} (h : (Lit.int k n).wf = true) : ∃ m : Nat, n = (m : Int) ∧ m < 2 ^ k.bits := by
  obtain ⟨h1, h2⟩ := wf_u hk h
  obtain ⟨m, rfl⟩ := Int.eq_ofNat_of_zero_le h1
  refine ⟨m, rfl, ?_⟩
  have h3 : ((m : Nat) : Int) < ((2 ^ k.bits : Nat) : Int) := by simpa using h2
  exact Int.ofNat_lt.1 h3
theorem cells_scalar {u : Value} (h : v.cells.toList = [u]) (hv : ∀ cs, v ≠ .agg cs) : v = u := by
  cases v <;> simp [Value.cells] at h <;> first | exact h | exact absurd rfl (hv _)
theorem inU (ht : P.underlying t = some (.int k)) (hk : k.signed = false) (hv : Value.okWide P w r base t v) (h : DataW.Trod enc P w 0 spare held t v d p) : ∃ n : Nat, v = .int k (n : Int) ∧ n < 2 ^ k.bits := by
  obtain ⟨n, rfl⟩ := okWide_int ht hv
  obtain ⟨f, hf⟩ := h
  obtain ⟨m, h1, _, h2⟩ := DataW.trod_int ht hf
  obtain ⟨q, rfl, h3⟩ := nat_of_wf hk h2
  exact ⟨q, by simpa [Value.cells] using h1, h3⟩
theorem inI (ht : P.underlying t = some (.int k)) (hv : Value.okWide P w r base t v) (h : DataW.Trod enc P w 0 spare held t v d p) : ∃ n : Int, v = .int k n ∧ (Lit.int k n).wf = true := by
  obtain ⟨n, rfl⟩ := okWide_int ht hv
  obtain ⟨f, hf⟩ := h
  obtain ⟨m, h1, _, h2⟩ := DataW.trod_int ht hf
  exact ⟨m, by simpa [Value.cells] using h1, h2⟩
theorem inB (ht : P.underlying t = some .bool) (hv : Value.okWide P w r base t v) : ∃ b, v = .bool b := okWide_bool ht hv
theorem inS (ht : P.underlying t = some .string) (hv : Value.okWide P w r base t v) (h : DataW.Trod enc P w 0 spare held t v d p) : ∃ s, v = .string s ∧ s.size ≤ maxLen := by
  obtain ⟨n, rfl⟩ := okWide_string ht hv
  obtain ⟨f, hf⟩ := h
  obtain ⟨m, h1, _, h2⟩ := DataW.trod_string ht hf
  exact ⟨m, by simpa [Value.cells] using h1, h2⟩
/-! ### Slices and arrays -/
theorem uints_of (hk : k.signed = false) (he : P.underlying e = some (.int k)) {xss : List (List Value)} (h : ∀ c ∈ xss, c.length = 1 ∧ ∃ m y, DataW.trod enc P w 0 spare held m e c = some y) :
    ∃ ws : List Nat, xss.flatten = nums k ws ∧ ws.length = xss.length ∧ ∀ x ∈ ws, x < 2 ^ k.bits := by
  induction xss with
  | nil => exact ⟨[], rfl, rfl, fun x hx => by cases hx⟩
  | cons c xss ih =>
    obtain ⟨ws, h1, h2, h3⟩ := ih fun c hc => h c (by simp [hc])
    obtain ⟨_, m, y, h4⟩ := h c (by simp)
    obtain ⟨n, rfl, _, h5⟩ := DataW.trod_int he h4
    obtain ⟨q, rfl, h6⟩ := nat_of_wf hk h5
    refine ⟨q :: ws, by rw [List.flatten_cons, h1]; rfl, by simp [h2], fun x hx => ?_⟩
    rcases List.mem_cons.1 hx with rfl | hx
    · exact h6
    · exact h3 x hx
theorem inSlU (ht : P.underlying t = some (.slice e)) (he : P.underlying e = some (.int k)) (hc : P.cellsOf e = 1) (hk : k.signed = false) (hv : Value.okWide P w r base t v) (h : DataW.Trod enc P w 0 spare held t v d p) :
    ∃ ws, Rd (heapA w) 1 v ws.length (nums k ws) ∧ (∀ x ∈ ws, x < 2 ^ k.bits) ∧ ws.length ≤ maxLen := by
  obtain ⟨a, len, cap, rfl⟩ := okWide_slice ht hv
  obtain ⟨f, hf⟩ := h
  obtain ⟨v, xss, h1, h2, h3, h4⟩ := in_slice ht hc (by decide) hf
  obtain ⟨ws, h5, h6, h7⟩ := uints_of hk he h4
  obtain rfl : Value.slice a len cap = v := by simpa [Value.cells] using h1
  exact ⟨ws, by rw [h6, ← h5]; exact h3, h7, by omega⟩
theorem inArrU {n : Nat} (ht : P.underlying t = some (.array n e)) (he : P.underlying e = some (.int k)) (hc : P.cellsOf e = 1) (hct : P.cellsOf t = n) (hk : k.signed = false) (hv : Value.okWide P w r base t v) (h : DataW.Trod enc P w 0 spare held t v d p) :
    ∃ ws, v = .agg (nums k ws).toArray ∧ ws.length = n ∧ ∀ x ∈ ws, x < 2 ^ k.bits := by
  have hv2 := hv
  simp only [Value.okWide, ht] at hv2
  obtain ⟨cs, rfl, _⟩ := hv2
  obtain ⟨f, hf⟩ := h
  obtain ⟨xs, m, _, _, h1, h2, h3⟩ := DataW.trod_array ht hf
  have hcs : (Value.agg cs).cells.toList = cs.toList := by simp [Value.cells]
  rw [hcs] at h1 h3
  rw [hc] at h3
  have hfl : ((List.range n).map fun i => ((cs.toList.drop (i * 1)).take 1)).flatten = cs.toList := by
    apply List.ext_getElem?
    intro j
    have hlen : ∀ c ∈ (List.range n).map (fun i => ((cs.toList.drop (i * 1)).take 1)), c.length = 1 := by
      intro c hc
      obtain ⟨i, hi, rfl⟩ := List.mem_map.1 hc
      have := List.mem_range.1 hi
      simp at h1
      simp; omega
    by_cases hj : j < n
    · have := flat_get hlen (k := j) (r := (cs.toList.drop (j * 1)).take 1) (by simp [hj]) 0 (by decide)
      rw [show j * 1 + 0 = j by omega] at this
      rw [this, List.getElem?_take_of_lt (by decide), List.getElem?_drop]
      congr 1; omega
    · have h5 := flat_len hlen
      rw [List.length_map, List.length_range] at h5
      rw [List.getElem?_eq_none (by omega), List.getElem?_eq_none (by omega)]
  obtain ⟨ws, h5, h6, h7⟩ := uints_of (e := e) (xss := (List.range n).map fun i => ((cs.toList.drop (i * 1)).take 1)) (enc := enc) (P := P) (w := w) (spare := spare) (held := held) hk he (by
    intro c hcm
    obtain ⟨i, hi, rfl⟩ := List.mem_map.1 hcm
    have hi := List.mem_range.1 hi
    have h8 := h3 i hi
    rw [List.getElem?_eq_getElem (by omega)] at h8
    refine ⟨?_, m, _, h8⟩
    simp at h1
    simp; omega)
  rw [hfl] at h5
  refine ⟨ws, ?_, by simpa using h6, h7⟩
  rw [← h5]
end
end Go.Px
