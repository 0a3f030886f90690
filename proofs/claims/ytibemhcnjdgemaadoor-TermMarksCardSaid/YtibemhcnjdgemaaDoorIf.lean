/-
  Interface values that hold numbers: made, compared.
-/
import Derived.Test.YtibemhcnjdgemaaDoorStr
set_option linter.unusedVariables false
set_option linter.unusedSimpArgs false
namespace Go.Px
section
variable {P : Program} {R R' : Mem} {l : Env} {d : Option Nat} {ty t t' e u : TypeId} {pos : String} {af : Array Edge} {g : Option (Nat × Bool)} {x y : Operand} {v : Value} {k : IntKind} {ms : Array (String × TypeId)}
def notIf (P : Program) (t : TypeId) : Bool :=
  match P.underlying t with
  | some (.interface _) => false
  | some _ => true
  | none => false
theorem q_mkIf (hx : ev l x = some v) (hi : notIf P u = true) : OpQ P R ⟨d, .makeInterface u x, ty, pos, af, g⟩ l (.iface u v) := fun N a w ha hw => by
  unfold notIf at hi
  split at hi
  · cases hi
  · rename_i td hn hu
    simp only [execOp, ha.ev hx, Instr.makeInterface, Sem.run_bind, run_underlying hu, Result.andThen_ok]
    cases td <;> simp_all
  · cases hi
def cmpI (P : Program) (u : TypeId) : Bool :=
  match P.info? u with
  | some i => i.comparable
  | none => false
/-- No fault, or one by its number. -/
def errV (u : TypeId) : Option Int → Value
  | none => .nilIface
  | some n => .iface u (.int .i64 n)
theorem run_errEq {p : Option Int} {n : Int} (w : World) (h : P.underlying t = some (.interface ms)) (hc : cmpI P u = true) (hu : P.underlying u = some (.int .i64)) : (Op.equal t (errV u p) (.iface u (.int .i64 n))).run P w = .ok (p == some n) w := by
  show (Op.equalIn (9999 + 1) t (errV u p) (.iface u (.int .i64 n))).run P w = .ok (p == some n) w
  rw [Op.equalIn]
  cases p with
  | none => simp [run_underlying h, errV]
  | some m =>
    unfold cmpI at hc
    split at hc
    · rename_i i hi
      simp only [errV, Sem.run_bind, run_underlying h, Result.andThen_ok, ne_eq, not_true_eq_false, if_false, typeInfo]
      simp [hi, hc]
      show (Op.equalIn (9998 + 1) u (.int .i64 m) (.int .i64 n)).run P w = _
      rw [Op.equalIn]
      simp [run_underlying hu]
    · cases hc
theorem q_errEq {p : Option Int} {n : Int} (hx : ev l x = some (errV u p)) (hy : ev l y = some (.iface u (.int .i64 n))) (hi : isIf P t = true) (hc : cmpI P u = true) (hu : P.underlying u = some (.int .i64)) : OpQ P R ⟨d, .binOp .eql t x y t', ty, pos, af, g⟩ l (.bool (p == some n)) := fun N a w ha hw => by
  obtain ⟨ms, h⟩ := isIf_spec hi
  simp only [execOp, ha.ev hx, ha.ev hy, Sem.run_bind]
  have := run_errEq (p := p) (n := n) w h hc hu
  cases p <;> simp_all [eqGuard, binOp, errV]
theorem q_errNe {p : Option Int} {n : Int} (hx : ev l x = some (errV u p)) (hy : ev l y = some (.iface u (.int .i64 n))) (hi : isIf P t = true) (hc : cmpI P u = true) (hu : P.underlying u = some (.int .i64)) : OpQ P R ⟨d, .binOp .neq t x y t', ty, pos, af, g⟩ l (.bool !(p == some n)) := fun N a w ha hw => by
  obtain ⟨ms, h⟩ := isIf_spec hi
  simp only [execOp, ha.ev hx, ha.ev hy, Sem.run_bind]
  have := run_errEq (p := p) (n := n) w h hc hu
  cases p <;> simp_all [eqGuard, binOp, errV]
theorem q_errNeN {p : Option Int} (hx : ev l x = some (errV u p)) (hi : isIf P t = true) : OpQ P R ⟨d, .binOp .neq t x (.const .nilIface) t', ty, pos, af, g⟩ l (.bool p.isSome) := by
  cases p with
  | none => exact q_ifNe0 hx hi
  | some n => exact q_ifNe1 hx hi
end
end Go.Px
