/-
  Slices of unsigned numbers that came in.
-/
import Derived.Test.YthmnlkpikgglbaaGreatDoorEx
set_option linter.unusedVariables false
set_option linter.unusedSimpArgs false
namespace Go.Px
theorem wf_u {k : IntKind} (hk : k.signed = false) {n : Int} (h : (Lit.int k n).wf = true) : 0 ≤ n ∧ n < 2 ^ k.bits := by
  cases k <;> simp_all [Lit.wf, IntKind.min, IntKind.max, IntKind.bits, IntKind.signed] <;> omega
theorem row_nums {k : IntKind} (hk : k.signed = false) {w : World} {a : Option Addr} {len cap : Nat} {zs : List Int}
    (h : (a = none ∧ len = 0 ∧ cap = 0 ∧ zs = []) ∨ ∃ x, a = some x ∧ len ≤ cap ∧ cap ≤ maxLen ∧ zs.length = cap ∧ (∀ i, i < zs.length → w.cell? (x.add i) = some (.int k (zs.getD i 0))) ∧ ∀ n ∈ zs, (Lit.int k n).wf = true) :
    ∃ A ws, Fx A w ∧ Rd A 1 (.slice a len cap) ws.length (nums k ws) ∧ (∀ x ∈ ws, x < 2 ^ k.bits) ∧ ws.length ≤ maxLen := by
  obtain ⟨A, hf, hr, hl, hm, hw⟩ := row_rd h
  obtain ⟨ws, e, h1⟩ := nats_of (k := k) (zs := zs.take len) fun n hn => (wf_u hk (hw n hn)).1
  have hlen : ws.length = len := by
    have := congrArg List.length e
    simp only [List.length_map, nums_len] at this
    omega
  refine ⟨A, ws, hf, ?_, fun x hx => ?_, by omega⟩
  · rw [hlen, ← e]; exact hr
  · have := (wf_u hk (hw _ (h1 x hx))).2
    have h2 : ((x : Nat) : Int) < ((2 ^ k.bits : Nat) : Int) := by simpa using this
    exact Int.ofNat_lt.1 h2
theorem fx_app {A B : Mem} {w : World} (h1 : Fx A w) (h2 : Fx B w) : Fx (A ++ B) w := fun b o hb => (List.mem_append.1 hb).elim (h1 b o) (h2 b o)
theorem fx_one {b : Nat} {o : Obj} {w : World} (h : w.heap[b]? = some o) : Fx [(b, o)] w := fun b' o' hb => by cases List.mem_singleton.1 hb; exact h
end Go.Px
