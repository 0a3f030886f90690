/- Slices of terms that came in. -/
import Derived.Test.YtibemhcnjdgemaaDoorTrmIn
import Derived.Test.YtibemhcnjdgemaaDoorTrm6
set_option linter.unusedVariables false
set_option linter.unusedSimpArgs false
namespace Go.Proofs.YtibemhcnjdgemaaDoor
open Go.Px Go.ChangeShapes Go.WideShapes Go.ChangeAt Go.RowKit
theorem i64_of {n : Int} (h : (Lit.int .i64 n).wf = true) : i64 n := by
  simp [Lit.wf, IntKind.min, IntKind.max, IntKind.signed, IntKind.bits] at h
  unfold i64
  omega
theorem TmI.of_ {k : Nat} {vo : Value} {tx : List Nat} {n : Int} {zs : List Int} (h1 : k < 256) (h2 : zs.length ≤ maxLen) (h3 : B256 tx) (h4 : tx.length ≤ maxLen) (h5 : (Lit.int .i64 n).wf = true) (h6 : ∀ z ∈ zs, (Lit.int .i64 z).wf = true) : TmI ⟨k, zs, tx, n⟩ := ⟨h1, i64_of h5, fun z hz => i64_of (h6 z hz), h2, h3, h4⟩
section
variable {H : Type} {enc : TypeId × Value → H} {P : Program} {w : World} {spare : Nat → Bool} {held : Bool} {fuel : Nat} {t e : TypeId} {cs : List Value} {x : DataW H × List MemPlace} {v : Value} {d : DataW H} {p : List MemPlace} {r : Reach} {base : Nat} {k : IntKind}
theorem in_tms {tk to te ts tn : TypeId} {f0 f1 f2 f3 : Field} (hsl : P.underlying t = some (.slice e)) (ht : P.underlying e = some (.struct #[f0, f1, f2, f3])) (hc : P.cellsOf e = 4) (o0 : f0.offset = 0) (o1 : f1.offset = 1) (o2 : f2.offset = 2) (o3 : f3.offset = 3)
    (t0 : f0.type = tk) (t1 : f1.type = to) (t2 : f2.type = ts) (t3 : f3.type = tn) (c0 : P.cellsOf tk = 1) (c1 : P.cellsOf to = 1) (c2 : P.cellsOf ts = 1) (c3 : P.cellsOf tn = 1) (hk : P.underlying tk = some (.int .u8)) (ho : P.underlying to = some (.slice te)) (he : P.underlying te = some (.int .i64)) (ce : P.cellsOf te = 1)
    (hs : P.underlying ts = some .string) (hn : P.underlying tn = some (.int .i64)) (h : DataW.trod enc P w 0 spare held fuel t cs = some x) :
    ∃ (v : Value) (rows : List (List Value)) (ts : List Tm), cs = [v] ∧ Rd (heapA w) 4 v ts.length rows.flatten ∧ Rws (heapA w) rows ts ∧ ∀ t ∈ ts, TmI t := by
  obtain ⟨v, xss, h1, h2, h3, h4⟩ := in_slice hsl hc (by decide) h
  have key : ∀ xss : List (List Value), (∀ c ∈ xss, c.length = 4 ∧ ∃ m y, DataW.trod enc P w 0 spare held m e c = some y) → ∃ ts : List Tm, Rws (heapA w) xss ts ∧ ∀ t ∈ ts, TmI t := by
    intro xss h4
    suffices hh : ∀ (a b : List (List Value)), xss = a ++ b → ∀ (ta : List Tm), Rws (heapA w) a ta → (∀ t ∈ ta, TmI t) → ∃ ts : List Tm, Rws (heapA w) xss ts ∧ ∀ t ∈ ts, TmI t from hh [] xss rfl [] ⟨rfl, (fun r h => by cases h), fun j t h => by simp at h⟩ (fun t h => by cases h)
    intro a b
    induction b generalizing a with
    | nil => intro e ta h1 h2; rw [e, List.append_nil]; exact ⟨ta, h1, h2⟩
    | cons c b ih =>
      intro e ta h1 h2
      obtain ⟨_, m, y, h5⟩ := h4 c (by rw [e]; simp)
      obtain ⟨k, vo, tx, n, zs, rfl, g1, g2, g3, g4, g5, g6, g7⟩ := in_tm ht hc o0 o1 o2 o3 t0 t1 t2 t3 c0 c1 c2 c3 hk ho he ce hs hn h5
      refine ih (a ++ [tmc k vo tx n]) (by rw [e]; simp) (ta ++ [⟨k, zs, tx, n⟩]) (h1.snoc (t := ⟨k, zs, tx, n⟩) g2) fun t ht => ?_
      rcases List.mem_append.1 ht with ht | ht
      · exact h2 t ht
      · rw [List.mem_singleton.1 ht]; exact TmI.of_ (vo := vo) g1 g3 g4 g5 g6 g7
  obtain ⟨ts, k1, k2⟩ := key xss h4
  exact ⟨v, xss, ts, h1, by rw [← k1.1]; exact h3, k1, k2⟩
end
