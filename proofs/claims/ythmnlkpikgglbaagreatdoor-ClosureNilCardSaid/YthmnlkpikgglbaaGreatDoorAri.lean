/-
  Unsigned arithmetic by numbers: each rule names its value outright. Constants of the text are handed in by (a := ..), (b := ..).
-/
import Derived.Test.YthmnlkpikgglbaaGreatDoorEx
import Derived.Test.YthmnlkpikgglbaaGreatDoorGrp
import Derived.Laws.Externs
set_option linter.unusedVariables false
set_option linter.unusedSimpArgs false
namespace Go.Px
section rules
variable {P : Program} {R : Mem} {l : Env} {d : Option Nat} {ty t t' : TypeId} {pos : String} {af : Array Edge} {g : Option (Nat × Bool)} {x y : Operand} {k k' : IntKind} {i j : Int} {a b : Nat}
theorem q_addM (m : Nat) (hk : k.signed = false) (hm : 2 ^ k.bits = m) (hx : ev l x = some (.int k i)) (hy : ev l y = some (.int k j)) (hi : i = (a : Int)) (hj : j = (b : Int)) :
    OpQ P R ⟨d, .binOp .add t x y t', ty, pos, af, g⟩ l (.int k (((a + b) % m : Nat) : Int)) := by
  subst hi; subst hj; exact q_bin hx hy (addU hk _ (by rw [hm]))
theorem q_mulM (m : Nat) (hk : k.signed = false) (hm : 2 ^ k.bits = m) (hx : ev l x = some (.int k i)) (hy : ev l y = some (.int k j)) (hi : i = (a : Int)) (hj : j = (b : Int)) :
    OpQ P R ⟨d, .binOp .mul t x y t', ty, pos, af, g⟩ l (.int k (((a * b) % m : Nat) : Int)) := by
  subst hi; subst hj; exact q_bin hx hy (mulU hk _ (by rw [hm]))
theorem q_subM (m : Nat) (hk : k.signed = false) (hm : 2 ^ k.bits = m) (hx : ev l x = some (.int k i)) (hy : ev l y = some (.int k j)) (hi : i = (a : Int)) (hj : j = (b : Int)) (hb : b ≤ m) :
    OpQ P R ⟨d, .binOp .sub t x y t', ty, pos, af, g⟩ l (.int k (((a + (m - b)) % m : Nat) : Int)) := by
  subst hi; subst hj; subst hm; exact q_bin hx hy (subU hk _ hb rfl)
/-- .. that don't pass their bounds. -/
theorem q_addS (m : Nat) (hk : k.signed = false) (hm : 2 ^ k.bits = m) (hx : ev l x = some (.int k i)) (hy : ev l y = some (.int k j)) (hi : i = (a : Int)) (hj : j = (b : Int)) (h : a + b < m) :
    OpQ P R ⟨d, .binOp .add t x y t', ty, pos, af, g⟩ l (.int k ((a + b : Nat) : Int)) := by
  have := q_addM (P := P) (R := R) (d := d) (ty := ty) (pos := pos) (af := af) (g := g) (t := t) (t' := t') m hk hm hx hy hi hj
  rwa [Nat.mod_eq_of_lt h] at this
theorem q_mulS (m : Nat) (hk : k.signed = false) (hm : 2 ^ k.bits = m) (hx : ev l x = some (.int k i)) (hy : ev l y = some (.int k j)) (hi : i = (a : Int)) (hj : j = (b : Int)) (h : a * b < m) :
    OpQ P R ⟨d, .binOp .mul t x y t', ty, pos, af, g⟩ l (.int k ((a * b : Nat) : Int)) := by
  have := q_mulM (P := P) (R := R) (d := d) (ty := ty) (pos := pos) (af := af) (g := g) (t := t) (t' := t') m hk hm hx hy hi hj
  rwa [Nat.mod_eq_of_lt h] at this
theorem q_subS (m : Nat) (hk : k.signed = false) (hm : 2 ^ k.bits = m) (hx : ev l x = some (.int k i)) (hy : ev l y = some (.int k j)) (hi : i = (a : Int)) (hj : j = (b : Int)) (ha : a < m) (h : b ≤ a) :
    OpQ P R ⟨d, .binOp .sub t x y t', ty, pos, af, g⟩ l (.int k ((a - b : Nat) : Int)) := by
  have := q_subM (P := P) (R := R) (d := d) (ty := ty) (pos := pos) (af := af) (g := g) (t := t) (t' := t') m hk hm hx hy hi hj (by omega)
  rwa [show a + (m - b) = (a - b) + m by omega, Nat.add_mod_right, Nat.mod_eq_of_lt (by omega)] at this
/-- Shifts by a constant; bits by a mask. -/
theorem q_shrD (s D : Nat) (hD : 2 ^ s = D) (hx : ev l x = some (.int k (a : Int))) (hy : ev l y = some (.int k' i)) (hi : i = s) (hs : s ≤ k.bits) : OpQ P R ⟨d, .binOp .shr t x y t', ty, pos, af, g⟩ l (.int k ((a / D : Nat) : Int)) := by
  have := q_shrN (P := P) (R := R) (d := d) (ty := ty) (pos := pos) (af := af) (g := g) (t := t) (t' := t') s hx hy hi hs
  rwa [Nat.shiftRight_eq_div_pow, hD] at this
theorem q_shlD (s D m : Nat) (hk : k.signed = false) (hD : 2 ^ s = D) (hm : 2 ^ k.bits = m) (hx : ev l x = some (.int k (a : Int))) (hy : ev l y = some (.int k' i)) (hi : i = s) (hs : s ≤ k.bits) : OpQ P R ⟨d, .binOp .shl t x y t', ty, pos, af, g⟩ l (.int k ((a * D % m : Nat) : Int)) := by
  have := q_shlN (P := P) (R := R) (d := d) (ty := ty) (pos := pos) (af := af) (g := g) (t := t) (t' := t') hk s hx hy hi hs
  rwa [Nat.shiftLeft_eq, hD, hm] at this
theorem q_andD (s D : Nat) (hk : k.signed = false) (hD : 2 ^ s = D) (hx : ev l x = some (.int k (a : Int))) (hy : ev l y = some (.int k j)) (hj : j = ((D - 1 : Nat) : Int)) (ha : a < 2 ^ k.bits) (hs : s ≤ k.bits) : OpQ P R ⟨d, .binOp .and t x y t', ty, pos, af, g⟩ l (.int k ((a % D : Nat) : Int)) := by
  subst hj; subst hD
  have h2 : 2 ^ s - 1 < 2 ^ k.bits := Nat.lt_of_lt_of_le (Nat.sub_lt (Nat.two_pow_pos _) (by decide)) (Nat.pow_le_pow_right (by decide) hs)
  have := q_and (P := P) (R := R) (d := d) (ty := ty) (pos := pos) (af := af) (g := g) (t := t) (t' := t') hk hx hy ha h2
  rwa [Nat.and_two_pow_sub_one_eq_mod] at this
theorem q_quoD (D : Nat) (hx : ev l x = some (.int k (a : Int))) (hy : ev l y = some (.int k j)) (hj : j = (D : Int)) (hD : D ≠ 0) (h : k.wrap ((a / D : Nat) : Int) = ((a / D : Nat) : Int)) : OpQ P R ⟨d, .binOp .quo t x y t', ty, pos, af, g⟩ l (.int k ((a / D : Nat) : Int)) := by
  subst hj; exact q_quoN hx hy hD h
theorem q_remD (D : Nat) (hx : ev l x = some (.int k (a : Int))) (hy : ev l y = some (.int k j)) (hj : j = (D : Int)) (hD : D ≠ 0) : OpQ P R ⟨d, .binOp .rem t x y t', ty, pos, af, g⟩ l (.int k ((a % D : Nat) : Int)) := by
  subst hj; exact q_remN hx hy hD
/-- The address of an element of an array, its place written out. -/
theorem q_idxAN (off : Nat) {t e : TypeId} {b o n i sz : Nat} {k : IntKind} {ii : Int} (hx : ev l x = some (.pointer (some ⟨b, o, none⟩))) (hy : ev l y = some (.int k ii))
    (hu : P.underlying t = some (.array n e)) (hs : sizeT P e = some sz) (hi : ii = i) (hlt : i < n) (ho : o + i * sz = off) :
    OpQ P R ⟨d, .indexAddr t x y, ty, pos, af, g⟩ l (.pointer (some ⟨b, off, none⟩)) := ho ▸ q_idxA hx hy hu hs hi hlt
theorem q_quoR (r : Int) (hx : ev l x = some (.int k i)) (hy : ev l y = some (.int k j)) (hj : j ≠ 0) (h : k.wrap (i.tdiv j) = r) : OpQ P R ⟨d, .binOp .quo t x y t', ty, pos, af, g⟩ l (.int k r) := h ▸ q_quo hx hy hj
theorem q_remR (r : Int) (hx : ev l x = some (.int k i)) (hy : ev l y = some (.int k j)) (hj : j ≠ 0) (h : i.tmod j = r) : OpQ P R ⟨d, .binOp .rem t x y t', ty, pos, af, g⟩ l (.int k r) := h ▸ q_rem hx hy hj
end rules
/-- Some cells out of the middle. -/
class TakeC (cs : List Value) (o n : Nat) (vs : outParam (List Value)) : Prop where
  take : vs.length = n ∧ ∀ j v, vs[j]? = some v → cs[o + j]? = some v
instance TakeC.nil {cs : List Value} : TakeC cs 0 0 [] := ⟨rfl, fun j v h => by simp at h⟩
instance TakeC.put {x : Value} {r vs : List Value} {n : Nat} [h : TakeC r 0 n vs] : TakeC (x :: r) 0 (n + 1) (x :: vs) := ⟨by simp [h.take.1], fun j v hv => by
  cases j with
  | zero => simpa using hv
  | succ j => have := h.take.2 j v (by simpa using hv); rw [Nat.zero_add] at this ⊢; simpa using this⟩
instance TakeC.skip {x : Value} {r vs : List Value} {o n : Nat} [h : TakeC r o n vs] : TakeC (x :: r) (o + 1) n vs := ⟨h.take.1, fun j v hv => by
  have := h.take.2 j v hv
  rw [show o + 1 + j = (o + j) + 1 by omega]; simpa using this⟩
theorem q_loadT {P : Program} {R : Mem} {l : Env} {d : Option Nat} {ty t : TypeId} {pos : String} {af : Array Edge} {g : Option (Nat × Bool)} {x : Operand} {n b o : Nat} {cs vs : List Value} {e : TypeId} {fr : Nat × Nat} (hx : ev l x = some (.pointer (some ⟨b, o, none⟩))) (ht : rowT P t = some n)
    (hb : (b, Obj.cells cs.toArray e fr) ∈ R) (h : vs.length = n ∧ ∀ j v, vs[j]? = some v → cs[o + j]? = some v) : OpQ P R ⟨d, .load t x, ty, pos, af, g⟩ l (.agg vs.toArray) := q_loadR hx ht hb h.1 h.2
theorem l_storeS {C : Cx} {l : Env} {M J : Mem} {K : Env → Mem → Mem → Prop} {ty : TypeId} {pos : String} {af : Array Edge} {g : Option (Nat × Bool)} {x y : Operand} {t : TypeId} {b o : Nat} {cs vs cs' : List Value} {e : TypeId} {M' : Mem} (hx : ev l x = some (.pointer (some ⟨b, o, none⟩))) (hy : ev l y = some (.agg vs.toArray))
    (ht : sizeT C.P t = some vs.length) (h1 : ∀ u ∈ vs, u.oneCell' = true) [hs : SetR cs o vs cs'] (hu : Upd M b (blk cs e) (blk cs' e) M') (k : K l M' J) :
    OpL C ⟨none, .store t x y, ty, pos, af, g⟩ l M J K := l_storeR hx hy rfl ht hs.set.1 h1 hs.set.2.symm hu k
section tuples
variable {P : Program} {R : Mem} {l : Env} {d : Option Nat} {ty : TypeId} {pos : String} {af : Array Edge} {g : Option (Nat × Bool)} {x : Operand} {a b c e : Value} {r : List Value}
theorem q_x0 (hx : ev l x = some (.tuple (a :: r).toArray)) : OpQ P R ⟨d, .extract x 0, ty, pos, af, g⟩ l a := q_extract hx rfl
theorem q_x1 (hx : ev l x = some (.tuple (a :: b :: r).toArray)) : OpQ P R ⟨d, .extract x 1, ty, pos, af, g⟩ l b := q_extract hx rfl
theorem q_x2 (hx : ev l x = some (.tuple (a :: b :: c :: r).toArray)) : OpQ P R ⟨d, .extract x 2, ty, pos, af, g⟩ l c := q_extract hx rfl
theorem q_x3 (hx : ev l x = some (.tuple (a :: b :: c :: e :: r).toArray)) : OpQ P R ⟨d, .extract x 3, ty, pos, af, g⟩ l e := q_extract hx rfl
end tuples
/-- math/bits.Add64: the model stands in for it. -/
theorem q_bitsAdd {P : Program} {R : Mem} {l : Env} {d : Option Nat} {ty : TypeId} {pos : String} {af : Array Edge} {g : Option (Nat × Bool)} {x y z : Operand} {f : FuncId} {fn : Func} {ts : Array TypeId} {a b c : Nat} {i j k : Int} (hf : P.funcs[f]? = some fn)
    (h1 : fn.body.isNone = true) (h2 : (fn.name == "runtime.NumGoroutine") = false) (h3 : Extern.findNext fn = none) (h4 : Extern.find fn = some add64Entry)
    (hx : ev l x = some (.int .u64 i)) (hy : ev l y = some (.int .u64 j)) (hz : ev l z = some (.int .u64 k)) (hc : c ≤ 1) (hi : i = (a : Int) := by rfl) (hj : j = (b : Int) := by rfl) (hk : k = (c : Int) := by rfl) :
    OpQ P R ⟨d, .call { callee := .value (.func f), args := #[x, y, z], argTypes := ts }, ty, pos, af, g⟩ l (.tuple #[.int .u64 (((a + b + c) % 18446744073709551616 : Nat) : Int), .int .u64 (((a + b + c) / 18446744073709551616 : Nat) : Int)]) := fun N A w ha hw => by
  subst hi; subst hj; subst hk
  have hcall : (callFunc f #[.int .u64 (a : Int), .int .u64 (b : Int), .int .u64 (c : Int)]).run P w = .ok (.value (.tuple #[.int .u64 (((a + b + c) % 18446744073709551616 : Nat) : Int), .int .u64 (((a + b + c) / 18446744073709551616 : Nat) : Int)])) w := by
    rw [run_callFunc_extern hf h2 h1 h3 (e := add64Entry) h4, run_add64 a b c (by omega) (by omega) (by omega) (by omega)]
    simp only [Result.andThen]
    congr 5 <;> omega
  have e : (#[x, y, z] : Array Operand).map A.eval = #[.int .u64 (a : Int), .int .u64 (b : Int), .int .u64 (c : Int)] := by simp [ha.ev hx, ha.ev hy, ha.ev hz]
  simp only [execOp, resolve, e, Sem.run_bind]
  simp only [Act.eval, Deferred.ofValue, invoke, Sem.run_pure, Result.andThen_ok, Array.append_empty, Array.empty_append, hcall]
end Go.Px
