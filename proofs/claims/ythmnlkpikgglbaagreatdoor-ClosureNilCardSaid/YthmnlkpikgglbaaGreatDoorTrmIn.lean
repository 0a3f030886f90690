/- Terms that came in; what the rows' lists give. -/
import Derived.Test.YthmnlkpikgglbaaGreatDoorTrm2
import Derived.Test.YthmnlkpikgglbaaGreatDoorIn2
import Derived.Lib.LaidTab
import Derived.Stop.LaidErr
import Derived.MakeChecks
set_option linter.unusedVariables false
set_option linter.unusedSimpArgs false
namespace Go.Proofs.YthmnlkpikgglbaaGreatDoor
open Go.Px Go.ChangeShapes Go.WideShapes Go.ChangeAt Go.RowKit
section
variable {H : Type} {enc : TypeId × Value → H} {P : Program} {w : World} {spare : Nat → Bool} {held : Bool} {fuel : Nat} {t e : TypeId} {cs : List Value} {x : DataW H × List MemPlace} {v : Value} {d : DataW H} {p : List MemPlace} {r : Reach} {base : Nat} {k : IntKind}
theorem ba_txt (s : ByteArray) : ∃ ws : List Nat, s = txt ws ∧ B256 ws ∧ ws.length = s.size := by
  refine ⟨s.data.toList.map UInt8.toNat, ?_, ⟨fun x hx => ?_⟩, by rw [List.length_map, Array.length_toList]; rfl⟩
  · apply ByteArray.ext
    have e : (UInt8.ofNat ∘ UInt8.toNat) = id := by funext c; simp
    simp [txt, e]
  · obtain ⟨c, _, rfl⟩ := List.mem_map.1 hx
    exact c.toNat_lt
theorem ints_of (he : P.underlying e = some (.int k)) {xss : List (List Value)} (h : ∀ c ∈ xss, c.length = 1 ∧ ∃ m y, DataW.trod enc P w 0 spare held m e c = some y) :
    ∃ zs : List Int, xss.flatten = zs.map (.int k) ∧ zs.length = xss.length ∧ ∀ z ∈ zs, (Lit.int k z).wf = true := by
  induction xss with
  | nil => exact ⟨[], rfl, rfl, fun x hx => by cases hx⟩
  | cons c xss ih =>
    obtain ⟨zs, h1, h2, h3⟩ := ih fun c hc => h c (by simp [hc])
    obtain ⟨_, m, y, h4⟩ := h c (by simp)
    obtain ⟨n, rfl, _, h5⟩ := DataW.trod_int he h4
    refine ⟨n :: zs, by rw [List.flatten_cons, h1]; rfl, by simp [h2], fun x hx => ?_⟩
    rcases List.mem_cons.1 hx with rfl | hx
    · exact h5
    · exact h3 x hx
theorem in_tm {tk to te ts tn : TypeId} {f0 f1 f2 f3 : Field} (ht : P.underlying t = some (.struct #[f0, f1, f2, f3])) (hc : P.cellsOf t = 4) (o0 : f0.offset = 0) (o1 : f1.offset = 1) (o2 : f2.offset = 2) (o3 : f3.offset = 3)
    (t0 : f0.type = tk) (t1 : f1.type = to) (t2 : f2.type = ts) (t3 : f3.type = tn) (c0 : P.cellsOf tk = 1) (c1 : P.cellsOf to = 1) (c2 : P.cellsOf ts = 1) (c3 : P.cellsOf tn = 1) (hk : P.underlying tk = some (.int .u8)) (ho : P.underlying to = some (.slice te)) (he : P.underlying te = some (.int .i64)) (ce : P.cellsOf te = 1)
    (hs : P.underlying ts = some .string) (hn : P.underlying tn = some (.int .i64)) (h : DataW.trod enc P w 0 spare held fuel t cs = some x) :
    ∃ (k : Nat) (vo : Value) (tx : List Nat) (n : Int) (zs : List Int), cs = tmc k vo tx n ∧ k < 256 ∧ Rd (heapA w) 1 vo zs.length (ints zs) ∧ zs.length ≤ maxLen ∧ B256 tx ∧ tx.length ≤ maxLen ∧ (Lit.int .i64 n).wf = true ∧ ∀ z ∈ zs, (Lit.int .i64 z).wf = true := by
  obtain ⟨xs, m, _, _, h1, h2, h3⟩ := DataW.trod_struct ht h
  rw [hc] at h1
  match cs, h1 with
  | [a, b, c, d], _ =>
    have hx : xs.length = 4 := by simpa using h2
    have g : ∀ i (hi : i < 4), xs[i]? = some (xs[i]'(by omega)) := fun i hi => List.getElem?_eq_getElem (by omega)
    have e0 := h3 0 f0 rfl
    have e1 := h3 1 f1 rfl
    have e2 := h3 2 f2 rfl
    have e3 := h3 3 f3 rfl
    rw [o0, t0, c0, g 0 (by decide)] at e0
    rw [o1, t1, c1, g 1 (by decide)] at e1
    rw [o2, t2, c2, g 2 (by decide)] at e2
    rw [o3, t3, c3, g 3 (by decide)] at e3
    obtain ⟨n0, k0, _, w0⟩ := DataW.trod_int hk e0
    obtain ⟨q, rfl, hq⟩ := nat_of_wf rfl w0
    obtain ⟨v1, xss, k1, l1, r1, i1⟩ := in_slice ho ce (by decide) e1
    obtain ⟨zs, z1, z2, z3⟩ := ints_of he i1
    obtain ⟨s, k2, _, l2⟩ := DataW.trod_string hs e2
    obtain ⟨tx, rfl, b2, ls⟩ := ba_txt s
    obtain ⟨n3, k3, _, w3⟩ := DataW.trod_int hn e3
    simp only [List.drop, List.take, List.cons.injEq, and_true] at k0 k1 k2 k3
    subst k0 k1 k2 k3
    refine ⟨q, b, tx, n3, zs, rfl, hq, ?_, by omega, b2, by omega, w3, z3⟩
    rw [z2, show ints zs = xss.flatten from z1.symm]; exact r1
end
theorem var_heap {P : Program} {W : World} {name : String} {g : Nat} {cs : Array Value} (hg : P.globalNamed name = some g) (h : W.var? P name = some cs) : ∃ e fr, W.heap[g]? = some (.cells cs e fr) := by
  unfold World.var? at h
  rw [hg] at h
  simp only [Option.bind_some] at h
  split at h
  · rename_i c e fr hh
    cases h
    exact ⟨e, fr, hh⟩
  · cases h
def zints (ws : List Nat) : List Int := ws.map fun n : Nat => (n : Int)
theorem zints_nums (k : IntKind) (ws : List Nat) : ((zints ws).map fun z => Value.int k z).toArray = (nums k ws).toArray := by simp [zints, nums]
set_option maxRecDepth 100000 in
theorem pow_tab {W : World} {a b : String × DataW Unit} {rest : List (String × DataW Unit)} (h : laidMet Tryz.prog (a :: b :: ("internal/strconv.uint64pow10", Rows.laid_internal_strconv_uint64pow10) :: rest) W) : ∃ e fr, W.heap[4]? = some (Obj.cells (nums .u64 pow10T).toArray e fr) := by
  have h' : laidMet Tryz.prog (("internal/strconv.uint64pow10", Lib.tabData .u64 (zints pow10T)) :: rest) W := h.tail.tail
  have h1 := Lib.tabIs_of_head (g := 4) (t := 226) (e := 85) (n := 20) (by kernel_rfl) (by kernel_rfl) (by kernel_rfl) (by kernel_rfl) (by kernel_rfl) (by kernel_rfl) h'
  obtain ⟨ek, fk, h3⟩ := var_heap (g := 4) (by kernel_rfl) h1
  rw [zints_nums] at h3
  exact ⟨ek, fk, h3⟩
end Go.Proofs.YthmnlkpikgglbaaGreatDoor
