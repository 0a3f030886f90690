/- Part 3 of the texts of this claim, one behind the other. -/
import Derived.Test.YtphcaiplgpmnnaaGreatDoorB2
import Derived.Laws.Externs
import Derived.Lib.ConvBytes
import Derived.Test.YtphcaiplgpmnnaaGreatDoorRows
set_option linter.unusedVariables false
set_option linter.unusedSimpArgs false
set_option maxRecDepth 100000
namespace Go.Px
section rules
variable {P : Program} {R : Mem} {l : Env} {d : Option Nat} {ty t t' : TypeId} {pos : String} {af : Array Edge} {g : Option (Nat × Bool)} {x y : Operand} {k k' : IntKind} {i j : Int} {a b : Nat}
theorem q_addM (m : Nat) (hk : k.signed = false) (hm : 2 ^ k.bits = m) (hx : ev l x = some (.int k i)) (hy : ev l y = some (.int k j)) (hi : i = (a : Int)) (hj : j = (b : Int)) :
    OpQ P R ⟨d, .binOp .add t x y t', ty, pos, af, g⟩ l (.int k (((a + b) % m : Nat) : Int)) := by
  subst hi; subst hj; exact q_bin hx hy (addU hk _ (by rw [hm]))
theorem q_mulM (m : Nat) (hk : k.signed = false) (hm : 2 ^ k.bits = m) (hx : ev l x = some (.int k i)) (hy : ev l y = some (.int k j)) (hi : i = (a : Int)) (hj : j = (b : Int)) :
    OpQ P R ⟨d, .binOp .mul t x y t', ty, pos, af, g⟩ l (.int k (((a * b) % m : Nat) : Int)) := by
  subst hi; subst hj; exact q_bin hx hy (mulU hk _ (by rw [hm]))
theorem q_subM (m : Nat) (hk : k.signed = false) (hm : 2 ^ k.bits = m) (hx : ev l x = some (.int k i)) (hy : ev l y = some (.int k j)) (hi : i = (a : Int)) (hj : j = (b : Int)) (hb : b ≤ m) :
    OpQ P R ⟨d, .binOp .sub t x y t', ty, pos, af, g⟩ l (.int k (((a + (m - b)) % m : Nat) : Int)) := by
  subst hi; subst hj; subst hm; exact q_bin hx hy (subU hk _ hb rfl)
/-- .. that don't pass their bounds. -/
theorem q_addS (m : Nat) (hk : k.signed = false) (hm : 2 ^ k.bits = m) (hx : ev l x = some (.int k i)) (hy : ev l y = some (.int k j)) (hi : i = (a : Int)) (hj : j = (b : Int)) (h : a + b < m) :
    OpQ P R ⟨d, .binOp .add t x y t', ty, pos, af, g⟩ l (.int k ((a + b : Nat) : Int)) := by
  have := q_addM (P := P) (R := R) (d := d) (ty := ty) (pos := pos) (af := af) (g := g) (t := t) (t' := t') m hk hm hx hy hi hj
  rwa [Nat.mod_eq_of_lt h] at this
theorem q_subS (m : Nat) (hk : k.signed = false) (hm : 2 ^ k.bits = m) (hx : ev l x = some (.int k i)) (hy : ev l y = some (.int k j)) (hi : i = (a : Int)) (hj : j = (b : Int)) (ha : a < m) (h : b ≤ a) :
    OpQ P R ⟨d, .binOp .sub t x y t', ty, pos, af, g⟩ l (.int k ((a - b : Nat) : Int)) := by
  have := q_subM (P := P) (R := R) (d := d) (ty := ty) (pos := pos) (af := af) (g := g) (t := t) (t' := t') m hk hm hx hy hi hj (by omega)
  rwa [show a + (m - b) = (a - b) + m by omega, Nat.add_mod_right, Nat.mod_eq_of_lt (by omega)] at this
/-- Shifts by a constant; bits by a mask. -/
theorem q_shrD (s D : Nat) (hD : 2 ^ s = D) (hx : ev l x = some (.int k (a : Int))) (hy : ev l y = some (.int k' i)) (hi : i = s) (hs : s ≤ k.bits) : OpQ P R ⟨d, .binOp .shr t x y t', ty, pos, af, g⟩ l (.int k ((a / D : Nat) : Int)) := by
  have := q_shrN (P := P) (R := R) (d := d) (ty := ty) (pos := pos) (af := af) (g := g) (t := t) (t' := t') s hx hy hi hs
  rwa [Nat.shiftRight_eq_div_pow, hD] at this
theorem q_shlD (s D m : Nat) (hk : k.signed = false) (hD : 2 ^ s = D) (hm : 2 ^ k.bits = m) (hx : ev l x = some (.int k (a : Int))) (hy : ev l y = some (.int k' i)) (hi : i = s) (hs : s ≤ k.bits) : OpQ P R ⟨d, .binOp .shl t x y t', ty, pos, af, g⟩ l (.int k ((a * D % m : Nat) : Int)) := by
  have := q_shlN (P := P) (R := R) (d := d) (ty := ty) (pos := pos) (af := af) (g := g) (t := t) (t' := t') hk s hx hy hi hs
  rwa [Nat.shiftLeft_eq, hD, hm] at this
theorem q_andD (s D : Nat) (hk : k.signed = false) (hD : 2 ^ s = D) (hx : ev l x = some (.int k (a : Int))) (hy : ev l y = some (.int k j)) (hj : j = ((D - 1 : Nat) : Int)) (ha : a < 2 ^ k.bits) (hs : s ≤ k.bits) : OpQ P R ⟨d, .binOp .and t x y t', ty, pos, af, g⟩ l (.int k ((a % D : Nat) : Int)) := by
  subst hj; subst hD
  have h2 : 2 ^ s - 1 < 2 ^ k.bits := Nat.lt_of_lt_of_le (Nat.sub_lt (Nat.two_pow_pos _) (by decide)) (Nat.pow_le_pow_right (by decide) hs)
  have := q_and (P := P) (R := R) (d := d) (ty := ty) (pos := pos) (af := af) (g := g) (t := t) (t' := t') hk hx hy ha h2
  rwa [Nat.and_two_pow_sub_one_eq_mod] at this
theorem q_quoD (D : Nat) (hx : ev l x = some (.int k (a : Int))) (hy : ev l y = some (.int k j)) (hj : j = (D : Int)) (hD : D ≠ 0) (h : k.wrap ((a / D : Nat) : Int) = ((a / D : Nat) : Int)) : OpQ P R ⟨d, .binOp .quo t x y t', ty, pos, af, g⟩ l (.int k ((a / D : Nat) : Int)) := by
  subst hj; exact q_quoN hx hy hD h
theorem q_remD (D : Nat) (hx : ev l x = some (.int k (a : Int))) (hy : ev l y = some (.int k j)) (hj : j = (D : Int)) (hD : D ≠ 0) : OpQ P R ⟨d, .binOp .rem t x y t', ty, pos, af, g⟩ l (.int k ((a % D : Nat) : Int)) := by
  subst hj; exact q_remN hx hy hD
/-- The address of an element of an array, its place written out. -/
theorem q_idxAN (off : Nat) {t e : TypeId} {b o n i sz : Nat} {k : IntKind} {ii : Int} (hx : ev l x = some (.pointer (some ⟨b, o, none⟩))) (hy : ev l y = some (.int k ii))
    (hu : P.underlying t = some (.array n e)) (hs : sizeT P e = some sz) (hi : ii = i) (hlt : i < n) (ho : o + i * sz = off) :
    OpQ P R ⟨d, .indexAddr t x y, ty, pos, af, g⟩ l (.pointer (some ⟨b, off, none⟩)) := ho ▸ q_idxA hx hy hu hs hi hlt
end rules
/-- Some cells out of the middle. -/
class TakeC (cs : List Value) (o n : Nat) (vs : outParam (List Value)) : Prop where
  take : vs.length = n ∧ ∀ j v, vs[j]? = some v → cs[o + j]? = some v
instance TakeC.nil {cs : List Value} : TakeC cs 0 0 [] := ⟨rfl, fun j v h => by simp at h⟩
instance TakeC.put {x : Value} {r vs : List Value} {n : Nat} [h : TakeC r 0 n vs] : TakeC (x :: r) 0 (n + 1) (x :: vs) := ⟨by simp [h.take.1], fun j v hv => by
  cases j with
  | zero => simpa using hv
  | succ j => have := h.take.2 j v (by simpa using hv); rw [Nat.zero_add] at this ⊢; simpa using this⟩
instance TakeC.skip {x : Value} {r vs : List Value} {o n : Nat} [h : TakeC r o n vs] : TakeC (x :: r) (o + 1) n vs := ⟨h.take.1, fun j v hv => by
  have := h.take.2 j v hv
  rw [show o + 1 + j = (o + j) + 1 by omega]; simpa using this⟩
theorem q_loadT {P : Program} {R : Mem} {l : Env} {d : Option Nat} {ty t : TypeId} {pos : String} {af : Array Edge} {g : Option (Nat × Bool)} {x : Operand} {n b o : Nat} {cs vs : List Value} {e : TypeId} {fr : Nat × Nat} (hx : ev l x = some (.pointer (some ⟨b, o, none⟩))) (ht : rowT P t = some n)
    (hb : (b, Obj.cells cs.toArray e fr) ∈ R) (h : vs.length = n ∧ ∀ j v, vs[j]? = some v → cs[o + j]? = some v) : OpQ P R ⟨d, .load t x, ty, pos, af, g⟩ l (.agg vs.toArray) := q_loadR hx ht hb h.1 h.2
theorem l_storeS {C : Cx} {l : Env} {M J : Mem} {K : Env → Mem → Mem → Prop} {ty : TypeId} {pos : String} {af : Array Edge} {g : Option (Nat × Bool)} {x y : Operand} {t : TypeId} {b o : Nat} {cs vs cs' : List Value} {e : TypeId} {M' : Mem} (hx : ev l x = some (.pointer (some ⟨b, o, none⟩))) (hy : ev l y = some (.agg vs.toArray))
    (ht : sizeT C.P t = some vs.length) (h1 : ∀ u ∈ vs, u.oneCell' = true) [hs : SetR cs o vs cs'] (hu : Upd M b (blk cs e) (blk cs' e) M') (k : K l M' J) :
    OpL C ⟨none, .store t x y, ty, pos, af, g⟩ l M J K := l_storeR hx hy rfl ht hs.set.1 h1 hs.set.2.symm hu k
section tuples
variable {P : Program} {R : Mem} {l : Env} {d : Option Nat} {ty : TypeId} {pos : String} {af : Array Edge} {g : Option (Nat × Bool)} {x : Operand} {a b c e : Value} {r : List Value}
theorem q_x0 (hx : ev l x = some (.tuple (a :: r).toArray)) : OpQ P R ⟨d, .extract x 0, ty, pos, af, g⟩ l a := q_extract hx rfl
theorem q_x1 (hx : ev l x = some (.tuple (a :: b :: r).toArray)) : OpQ P R ⟨d, .extract x 1, ty, pos, af, g⟩ l b := q_extract hx rfl
theorem q_x2 (hx : ev l x = some (.tuple (a :: b :: c :: r).toArray)) : OpQ P R ⟨d, .extract x 2, ty, pos, af, g⟩ l c := q_extract hx rfl
theorem q_x3 (hx : ev l x = some (.tuple (a :: b :: c :: e :: r).toArray)) : OpQ P R ⟨d, .extract x 3, ty, pos, af, g⟩ l e := q_extract hx rfl
end tuples
/-- math/bits.Add64: the model stands in for it. -/
theorem q_bitsAdd {P : Program} {R : Mem} {l : Env} {d : Option Nat} {ty : TypeId} {pos : String} {af : Array Edge} {g : Option (Nat × Bool)} {x y z : Operand} {f : FuncId} {fn : Func} {ts : Array TypeId} {a b c : Nat} {i j k : Int} (hf : P.funcs[f]? = some fn)
    (h1 : fn.body.isNone = true) (h2 : (fn.name == "runtime.NumGoroutine") = false) (h3 : Extern.findNext fn = none) (h4 : Extern.find fn = some add64Entry)
    (hx : ev l x = some (.int .u64 i)) (hy : ev l y = some (.int .u64 j)) (hz : ev l z = some (.int .u64 k)) (hc : c ≤ 1) (hi : i = (a : Int) := by rfl) (hj : j = (b : Int) := by rfl) (hk : k = (c : Int) := by rfl) :
    OpQ P R ⟨d, .call { callee := .value (.func f), args := #[x, y, z], argTypes := ts }, ty, pos, af, g⟩ l (.tuple #[.int .u64 (((a + b + c) % 18446744073709551616 : Nat) : Int), .int .u64 (((a + b + c) / 18446744073709551616 : Nat) : Int)]) := fun N A w ha hw => by
  subst hi; subst hj; subst hk
  have hcall : (callFunc f #[.int .u64 (a : Int), .int .u64 (b : Int), .int .u64 (c : Int)]).run P w = .ok (.value (.tuple #[.int .u64 (((a + b + c) % 18446744073709551616 : Nat) : Int), .int .u64 (((a + b + c) / 18446744073709551616 : Nat) : Int)])) w := by
    rw [run_callFunc_extern hf h2 h1 h3 (e := add64Entry) h4, run_add64 a b c (by omega) (by omega) (by omega) (by omega)]
    simp only [Result.andThen]
    congr 5 <;> omega
  have e : (#[x, y, z] : Array Operand).map A.eval = #[.int .u64 (a : Int), .int .u64 (b : Int), .int .u64 (c : Int)] := by simp [ha.ev hx, ha.ev hy, ha.ev hz]
  simp only [execOp, resolve, e, Sem.run_bind]
  simp only [Act.eval, Deferred.ofValue, invoke, Sem.run_pure, Result.andThen_ok, Array.append_empty, Array.empty_append, hcall]
end Go.Px

namespace Go.Px
theorem qi_ {P : Program} {R : Mem} {l : Env} {d : Option Nat} {ty t : TypeId} {pos : String} {af : Array Edge} {g : Option (Nat × Bool)} {x y : Operand} {b o : Nat} {k : IntKind} {ii : Int} (off : Nat) (e : TypeId) (n sz i : Nat) (hx : ev l x = some (.pointer (some ⟨b, o, none⟩)) := by exact rfl) (hy : ev l y = some (.int k ii) := by exact rfl)
    (hu : P.underlying t = some (.array n e) := by kernel_rfl) (hs : sizeT P e = some sz := by kernel_rfl) (hi : ii = i := by exact rfl) (hlt : i < n := by decide) (ho : o + i * sz = off := by exact rfl) :
    OpQ P R ⟨d, .indexAddr t x y, ty, pos, af, g⟩ l (.pointer (some ⟨b, off, none⟩)) := q_idxAN off hx hy hu hs hi hlt ho
end Go.Px

/-
  Rules whose facts are found by their values: slices that read or are owned, blocks picked out of the owned ones.
-/
namespace Go.Px
/-- The blocks B are among the owned ones M; R are the others. -/
class PickC (M : Mem) (B : Mem) (R : outParam Mem) : Prop where
  perm : M.Perm (B ++ R)
instance (priority := low) PickC.nil {M : Mem} : PickC M [] M := ⟨.refl _⟩
instance (priority := high) PickC.here {B M : Mem} : PickC (B ++ M) B M := ⟨.refl _⟩
instance PickC.sing {x : Nat × Obj} {M : Mem} : PickC (x :: M) [x] M := ⟨.refl _⟩
instance (priority := low) PickC.cons {x : Nat × Obj} {M B R : Mem} [h : PickC M B R] : PickC (x :: M) B (x :: R) := ⟨(List.Perm.cons x h.perm).trans List.perm_middle.symm⟩
instance (priority := low) PickC.app {D M B R : Mem} [h : PickC M B R] : PickC (D ++ M) B (D ++ R) := ⟨(List.Perm.append_left D h.perm).trans (List.perm_append_comm_assoc D B R)⟩
instance PickC.whole {B : Mem} : PickC B B [] := ⟨by simp⟩
/-- The facts X are among Y. -/
class SubC (X Y : Mem) : Prop where
  sub : ∀ x, x ∈ X → x ∈ Y
instance (priority := high) SubC.same {X : Mem} : SubC X X := ⟨fun _ h => h⟩
instance (priority := high) SubC.here {X Y : Mem} : SubC X (X ++ Y) := ⟨fun _ h => List.mem_append_left _ h⟩
instance SubC.left {X Y Z : Mem} [h : SubC X Y] : SubC X (Y ++ Z) := ⟨fun _ hx => List.mem_append_left _ (h.sub _ hx)⟩
instance (priority := low) SubC.right {X Y Z : Mem} [h : SubC X Z] : SubC X (Y ++ Z) := ⟨fun _ hx => List.mem_append_right _ (h.sub _ hx)⟩
instance (priority := low) SubC.tail {X Y : Mem} {y : Nat × Obj} [h : SubC X Y] : SubC X (y :: Y) := ⟨fun _ hx => List.mem_cons_of_mem _ (h.sub _ hx)⟩
instance SubC.nil {Y : Mem} : SubC [] Y := ⟨fun _ h => by simp at h⟩
instance SubC.sing {x : Nat × Obj} {Y : Mem} : SubC [x] (x :: Y) := ⟨fun _ h => by simp at h; simp [h]⟩
theorem Fit.pick {M B R M' : Mem} (h : M.Perm (B ++ R)) (hr : Fit R M') : Fit M (B ++ M') := by
  obtain ⟨M1, h1, h2⟩ := hr
  exact ⟨B ++ M1, h.trans (h1.append_left B), List.Sublist.append (List.Sublist.refl _) h2⟩
theorem Fit.last {M B R : Mem} (h : M.Perm (B ++ R)) : Fit M B := ⟨_, h, List.sublist_append_left _ _⟩
section rules
variable {P : Program} {R R' : Mem} {l : Env} {d : Option Nat} {ty t t' : TypeId} {pos : String} {af : Array Edge} {g : Option (Nat × Bool)} {x y z : Operand} {k k' : IntKind} {i j i' : Int} {a b : Nat} {v : Value} {sz n : Nat} {xs : List Value}
theorem q_addI (hx : ev l x = some (.int .i64 i)) (hy : ev l y = some (.int .i64 j)) (hi : i = (a : Int)) (hj : j = (b : Int)) (h : a + b < 9223372036854775808) : OpQ P R ⟨d, .binOp .add t x y t', ty, pos, af, g⟩ l (.int .i64 ((a + b : Nat) : Int)) := by
  subst hi; subst hj; exact q_num _ hx hy (add64 (by omega) (by omega) (by omega))
theorem q_subI (hx : ev l x = some (.int .i64 i)) (hy : ev l y = some (.int .i64 j)) (hi : i = (a : Int)) (hj : j = (b : Int)) (h : b ≤ a) (h2 : a < 9223372036854775808) : OpQ P R ⟨d, .binOp .sub t x y t', ty, pos, af, g⟩ l (.int .i64 ((a - b : Nat) : Int)) := by
  subst hi; subst hj; exact q_num _ hx hy (sub64 (by omega) (by omega) (by omega))
theorem q_mulI (hx : ev l x = some (.int .i64 i)) (hy : ev l y = some (.int .i64 j)) (hi : i = (a : Int)) (hj : j = (b : Int)) (h : a * b < 9223372036854775808) : OpQ P R ⟨d, .binOp .mul t x y t', ty, pos, af, g⟩ l (.int .i64 ((a * b : Nat) : Int)) := by
  subst hi; subst hj; exact q_num _ hx hy (mul64 (by simp) (by omega) (by omega))
theorem q_remI (hx : ev l x = some (.int k i)) (hy : ev l y = some (.int k j)) (hi : i = (a : Int)) (hj : j = (b : Int)) (hb : 0 < b) : OpQ P R ⟨d, .binOp .rem t x y t', ty, pos, af, g⟩ l (.int k ((a % b : Nat) : Int)) := by
  subst hi; subst hj; exact q_remN hx hy (by omega)
theorem q_quoU {m : Nat} (hk : k.signed = false) (hm : 2 ^ k.bits = m) (hx : ev l x = some (.int k i)) (hy : ev l y = some (.int k j)) (hi : i = (a : Int)) (hj : j = (b : Int)) (hb : 0 < b) (h : a < m) : OpQ P R ⟨d, .binOp .quo t x y t', ty, pos, af, g⟩ l (.int k ((a / b : Nat) : Int)) := by
  subst hi; subst hj; exact q_quoN hx hy (by omega) (by rw [wrap_nat hk, hm, Nat.mod_eq_of_lt (Nat.lt_of_le_of_lt (Nat.div_le_self a b) h)])
/-- Shifts by a number that is known. -/
theorem q_shrI (hx : ev l x = some (.int k i)) (hy : ev l y = some (.int k' j)) (hi : i = (a : Int)) (hj : j = (b : Int)) (hs : b ≤ k.bits) : OpQ P R ⟨d, .binOp .shr t x y t', ty, pos, af, g⟩ l (.int k ((a / 2 ^ b : Nat) : Int)) := by
  subst hi; subst hj; rw [← Nat.shiftRight_eq_div_pow]; exact q_shrN b hx hy rfl hs
theorem q_shlI (m : Nat) (hk : k.signed = false) (hm : 2 ^ k.bits = m) (hx : ev l x = some (.int k i)) (hy : ev l y = some (.int k' j)) (hi : i = (a : Int)) (hj : j = (b : Int)) (hs : b ≤ k.bits) : OpQ P R ⟨d, .binOp .shl t x y t', ty, pos, af, g⟩ l (.int k ((a * 2 ^ b % m : Nat) : Int)) := by
  subst hi; subst hj; subst hm; rw [← Nat.shiftLeft_eq]; exact q_shlN hk b hx hy rfl hs
theorem q_lenV2 (hx : ev l x = some v) (hu : slE P t = some sz) (h : Rd R' sz v n xs) :
    OpQ P R ⟨d, .call { callee := .builtin .len, args := #[x], argTypes := #[t] }, ty, pos, af, g⟩ l (.int .i64 n) := q_lenV h hx hu
theorem q_hiV2 (hx : ev l x = some v) (hy : ev l y = some (.int k i)) (hu : slE P t = some sz) (hi : i = (a : Int)) (h : Rd R' sz v n xs) (hj : a ≤ n) :
    OpQ P R ⟨d, .slice t x none (some y) none, ty, pos, af, g⟩ l (vHi a v) := q_hiV h hx hy hu a hi hj
theorem q_loV2 (hx : ev l x = some v) (hy : ev l y = some (.int k i)) (hu : slE P t = some sz) (hi : i = (a : Int)) (h : Rd R' sz v n xs) (hj : a ≤ n) :
    OpQ P R ⟨d, .slice t x (some y) none none, ty, pos, af, g⟩ l (vLo a sz v) := q_loV h hx hy hu a hi hj
/-- An array is sliced. -/
theorem q_sliceA {e : TypeId} {b o n sz : Nat} {lo hi mx : Option Operand} {nl nh nm : Option Nat} (hx : ev l x = some (.pointer (some ⟨b, o, none⟩))) (hu : P.underlying t = some (.array n e)) (hs : sizeT P e = some sz)
    (h1 : EvO l lo nl) (h2 : EvO l hi nh) (h3 : EvO l mx nm) (hmh : nm.isSome = true → nh.isSome = true) (hm : nm.getD n ≤ n) (hh : nh.getD n ≤ nm.getD n) (hl : nl.getD 0 ≤ nh.getD n) :
    OpQ P R ⟨d, .slice t x lo hi mx, ty, pos, af, g⟩ l (.slice (some (if nm.getD n = nl.getD 0 then ⟨b, o, none⟩ else ⟨b, o + nl.getD 0 * sz, none⟩)) (nh.getD n - nl.getD 0) (nm.getD n - nl.getD 0)) := fun N a w ha hw => by
  unfold sizeT at hs
  cases hq : P.info? e with
  | none => simp [hq] at hs
  | some inf =>
    simp only [hq, Option.map_some, Option.some.injEq] at hs
    subst hs
    simp only [execOp, ha.ev hx, Instr.sliceAt, Sem.run_bind, run_underlying hu, Result.andThen_ok, Instr.sureAddr, Sem.run_pure, sliceBounds_run ha h1 h2 h3 false n n w hm hh hl hmh]
    simp [sizeOf, typeInfo, hq, Addr.add]
    by_cases h0 : nl.getD 0 * inf.size = 0 <;> simp [h0]
theorem q_slArr {e : TypeId} {b o n sz : Nat} (hx : ev l x = some (.pointer (some ⟨b, o, none⟩))) (hu : P.underlying t = some (.array n e)) (hs : sizeT P e = some sz) :
    OpQ P R ⟨d, .slice t x none none none, ty, pos, af, g⟩ l (.slice (some ⟨b, o, none⟩) n n) := by
  have := q_sliceA (R := R) (d := d) (ty := ty) (pos := pos) (af := af) (g := g) hx hu hs o0 o0 o0 (by simp) (by simp) (by simp) (by simp)
  simpa using this
theorem q_slALH (lo hi : Nat) {e : TypeId} {b o n sz : Nat} (hx : ev l x = some (.pointer (some ⟨b, o, none⟩))) (hu : P.underlying t = some (.array n e)) (hs : sizeT P e = some sz) (hy : ev l y = some (.int k i)) (hz : ev l z = some (.int k' i')) (hi1 : i = (lo : Int)) (hi2 : i' = (hi : Int)) (h0 : lo < n) (h1 : lo ≤ hi) (h2 : hi ≤ n) :
    OpQ P R ⟨d, .slice t x (some y) (some z) none, ty, pos, af, g⟩ l (.slice (some ⟨b, o + lo * sz, none⟩) (hi - lo) (n - lo)) := by
  have := q_sliceA (R := R) (d := d) (ty := ty) (pos := pos) (af := af) (g := g) hx hu hs (o1 lo hy hi1) (o1 hi hz hi2) o0 (by simp) (by simp) (by simpa using h2) (by simpa using h1)
  rw [if_neg (by simp; omega)] at this
  simpa using this
theorem q_slAHi (hi : Nat) {e : TypeId} {b o n sz : Nat} (hx : ev l x = some (.pointer (some ⟨b, o, none⟩))) (hu : P.underlying t = some (.array n e)) (hs : sizeT P e = some sz) (hz : ev l z = some (.int k' i')) (hi2 : i' = (hi : Int)) (h2 : hi ≤ n) :
    OpQ P R ⟨d, .slice t x none (some z) none, ty, pos, af, g⟩ l (.slice (some ⟨b, o, none⟩) hi n) := by
  have := q_sliceA (R := R) (d := d) (ty := ty) (pos := pos) (af := af) (g := g) hx hu hs o0 (o1 hi hz hi2) o0 (by simp) (by simp) (by simpa using h2) (by simp)
  simpa using this
/-- Some elements out of the middle of a block. -/
theorem Rd.mid {R : Mem} {b o n cap : Nat} {cs : List Value} {e : TypeId} {fr : Nat × Nat} (hb : (b, Obj.cells cs.toArray e fr) ∈ R) (h : o + n ≤ cs.length) (hc : n ≤ cap) : Rd R 1 (.slice (some ⟨b, o, none⟩) n cap) n ((cs.drop o).take n) := by
  refine ⟨_, cap, rfl, by simp; omega, hc, .inr ⟨b, o, cs, e, fr, rfl, hb, fun j u hj => ?_⟩⟩
  have hjn : j < n := by have := (List.getElem?_eq_some_iff.1 hj).1; simp at this; omega
  rw [List.getElem?_take_of_lt hjn, List.getElem?_drop] at hj
  exact hj
theorem q_atV2 (hx : ev l x = some v) (hy : ev l y = some (.int k i)) (hu : slE P t = some sz) (hi : i = (a : Int)) (h : Rd R' sz v n xs) (hj : a < n) :
    OpQ P R ⟨d, .indexAddr t x y, ty, pos, af, g⟩ l (vAt sz a v) := q_atV h hx hy hu a hi hj
theorem Rd.one {R : Mem} {v : Value} {n sz : Nat} {xs : List Value} (h : Rd R sz v n xs) : v.oneCell' = true := by
  obtain ⟨p, c, rfl, _⟩ := h; rfl
theorem Sl.one {B : Mem} {v : Value} {n sz : Nat} {xs : List Value} (h : Sl sz v n xs B) : v.oneCell' = true := by
  obtain ⟨p, c, rfl, _⟩ := h.val; rfl
/-- An element of several cells. -/
theorem q_ldVR {rows : List (List Value)} {r : List Value} (hx : ev l x = some (vAt sz a v)) (ht : rowT P t = some sz) (h : Rd R sz v n rows.flatten) (hl : ∀ r ∈ rows, r.length = sz) (hs : 0 < sz) (hr : rows[a]? = some r) : OpQ P R ⟨d, .load t x, ty, pos, af, g⟩ l (.agg r.toArray) := by
  obtain ⟨p, c, rfl, h2, h3, h4⟩ := h
  have hal := (List.getElem?_eq_some_iff.1 hr).1
  have hfl := flat_len hl
  rcases h4 with rfl | ⟨b, o, cs, e', fr, rfl, hb, hx'⟩
  · rw [h2, Nat.zero_mul] at hfl
    have := Nat.mul_pos (show 0 < rows.length by omega) hs
    omega
  · simp only [vAt, Addr.add_mid] at hx
    refine q_loadR hx ht hb (hl r (List.mem_of_getElem? hr)) fun j u hj => ?_
    have hjl : j < sz := by have := (List.getElem?_eq_some_iff.1 hj).1; rwa [hl r (List.mem_of_getElem? hr)] at this
    rw [Nat.add_assoc]
    exact hx' _ _ (by rw [flat_get hl hr j hjl]; exact hj)
theorem q_toStr2 {s : TypeId} {ws : List Nat} (hx : ev l x = some v) (hc : bytesT P s t = true) (h : Rd R 1 v n (nums .u8 ws)) : OpQ P R ⟨d, .convert s t x, ty, pos, af, g⟩ l (.string (txt ws)) := q_toStr h hx hc
end rules
section loud
variable {C : Cx} {l : Env} {M J : Mem} {K : Env → Mem → Mem → Prop} {d : Nat} {ty t e : TypeId} {pos : String} {af : Array Edge} {g : Option (Nat × Bool)} {x y : Operand} {k : IntKind}
theorem l_stV2 {v : Value} {ws : List Nat} {n a u : Nat} {B M0 : Mem} {i : Int} (hx : ev l x = some (vAt 1 a v)) (hy : ev l y = some (.int k i)) (hi : i = (u : Int)) (ht : sizeT C.P t = some 1) (h : Sl 1 v n (nums k ws) B) (hj : a < n) (hM : M.Perm (B ++ M0)) (h2 : ∀ B', Sl 1 v n (nums k (ws.set a u)) B' → K l (B' ++ M0) J) :
    OpL C ⟨none, .store t x y, ty, pos, af, g⟩ l M J K := l_stV h hx (hi ▸ hy) ht hj hM h2
theorem l_append2 {sz by_ n m : Nat} {v u : Value} {xs ys : List Value} {B M0 : Mem} (hx : ev l x = some v) (hy : ev l y = some u) (ht : elemT C.P t = some (e, sz, by_)) (hsz : Nat.blt 0 sz = true)
    (hs : Sl sz v n xs B) (hr : Rd (M ++ (J ++ C.A)) sz u m ys) (h1c : ∀ c ∈ ys, c.oneCell' = true) (hM : M.Perm (B ++ M0)) (hmax : n + m ≤ maxLen) (hbytes : (n + m) * by_ ≤ 140737488355328) (hd : Nat.blt d C.N = true)
    (k : ∀ v' B', Sl sz v' (n + m) (xs ++ ys) B' → K ((d, v') :: l) (B' ++ M0) J) :
    OpL C ⟨some d, .call { callee := .builtin .append, args := #[x, y], argTypes := #[t, t] }, ty, pos, af, g⟩ l M J K := l_append hx hy ht hsz hs hr h1c hM hmax hbytes hd k
theorem l_makeV {by_ : Nat} {kl kc : IntKind} {i j : Int} {a : Nat} (hx : ev l x = some (.int kl i)) (hy : ev l y = some (.int kc j)) (ht : mkT C.P t = some (e, k, by_)) (hi : i = (a : Int)) (hj : j = (a : Int))
    (hb : by_ * a ≤ 281474976710656) (hn : a ≤ 140737488355328) (hd : Nat.blt d C.N = true) (h : ∀ v B, Sl 1 v a (nums k (List.replicate a 0)) B → K ((d, v) :: l) (B ++ M) J) :
    OpL C ⟨some d, .makeSlice t x y, ty, pos, af, g⟩ l M J K := l_makeN a hx hy ht hi hj hb (by omega) hd fun b => h _ _ (Sl.fresh (by simp) (by unfold maxLen; omega))
/-- A call that gets blocks. -/
theorem l_callB {f : FuncId} {xs : List Operand} {vs : List Value} {ts : Array TypeId} {Mc R : Mem} {post : Value → Mem → Mem → Prop} (hx : Evs l xs vs) (hc : callable C.P f = true) (hf : FnX C.P f vs Mc (R ++ (J ++ C.A)) post) (hM : M.Perm (Mc ++ R)) (hd : Nat.blt d C.N = true)
    (k : ∀ r M' J', post r M' J' → K ((d, r) :: l) (M' ++ R) (J' ++ J)) : OpL C ⟨some d, .call { callee := .value (.func f), args := xs.toArray, argTypes := ts }, ty, pos, af, g⟩ l M J K := l_call hx hc hM hf hd k
end loud
end Go.Px

/-
  Texts as rows of bytes: lengths, bytes, parts, sums, sameness; a text as bytes.
-/
namespace Go.Px
theorem txt_size' (p : List Nat) : (txt p).size = p.length := by simp [txt, ByteArray.size]
theorem txt_get {ws : List Nat} (h : ∀ x ∈ ws, x < 256) {j : Nat} (hj : j < ws.length) : (txt ws)[j]? = some (UInt8.ofNat (ws.getD j 0)) := by
  have h2 : j < (txt ws).size := by rw [txt_size']; exact hj
  rw [getElem?_pos (txt ws) j h2]
  congr 1
  show ((ws.map UInt8.ofNat).toArray)[j]'_ = _
  simp only [List.getD, List.getElem?_eq_getElem hj, Option.getD_some]
  have : ∀ (l : List Nat) (h : j < l.length) (h' : j < (l.map UInt8.ofNat).toArray.size), (l.map UInt8.ofNat).toArray[j] = UInt8.ofNat l[j] := fun l h h' => by simp
  exact this ws hj _
theorem txt_extract (ws : List Nat) (lo hi : Nat) : (txt ws).extract lo hi = txt ((ws.take hi).drop lo) := by
  apply ByteArray.ext
  simp [txt, ByteArray.data_extract, List.map_take, List.map_drop, List.extract_eq_take_drop, List.drop_take]
section
variable {P : Program} {R : Mem} {l : Env} {d : Option Nat} {ty s t t' e : TypeId} {pos : String} {af : Array Edge} {g : Option (Nat × Bool)} {x y z : Operand} {v : Value} {n a b : Nat} {k k' : IntKind} {i i' : Int} {S S' : ByteArray} {ws ws' : List Nat}
theorem q_sAt (hx : ev l x = some (.string S)) (hS : S = txt ws) (h256 : ∀ x ∈ ws, x < 256) (hy : ev l y = some (.int k i)) (hu : P.underlying t = some .string) (hi : i = (a : Int)) (ha : a < ws.length) :
    OpQ P R ⟨d, .index t x y, ty, pos, af, g⟩ l (.int .u8 ((ws.getD a 0 : Nat) : Int)) := fun N A w hA hw => by
  subst hi; subst hS
  have h1 := getD_lt (i := a) h256 (by decide)
  simp only [execOp, hA.ev hx, hA.ev hy, Instr.index, asIntOf, Sem.run_bind, Sem.run_pure, run_underlying hu, Result.andThen_ok, Int.toNat_natCast, txt_get h256 ha, if_pos (Int.natCast_nonneg a)]
  have : (UInt8.ofNat (ws.getD a 0)).toNat = ws.getD a 0 := by
    generalize ws.getD a 0 = c at h1
    simp; omega
  simp only [this, Sem.run_pure]
theorem q_sSl {lo hi : Option Operand} {nl nh : Option Nat} (hx : ev l x = some (.string S)) (hS : S = txt ws) (hu : P.underlying t = some .string) (h1 : EvO l lo nl) (h2 : EvO l hi nh) (hh : nh.getD ws.length ≤ ws.length) (hl : nl.getD 0 ≤ nh.getD ws.length) :
    OpQ P R ⟨d, .slice t x lo hi none, ty, pos, af, g⟩ l (.string (txt ((ws.take (nh.getD ws.length)).drop (nl.getD 0)))) := fun N A w hA hw => by
  subst hS
  have hb := sliceBounds_run (P := P) (lo := lo) (hi := hi) (mx := none) hA h1 h2 o0 false ws.length ws.length w (by simp) (by simpa using hh) (by simpa using hl) (by simp)
  simp only [Option.map_none] at hb
  simp only [execOp, hA.ev hx, Instr.sliceAt, Sem.run_bind, run_underlying hu, Result.andThen_ok, Instr.slice, Option.map_none, Option.isSome_none, Bool.false_eq_true, if_false, txt_size', hb]
  simp [txt_extract]
theorem q_sLH (hx : ev l x = some (.string S)) (hS : S = txt ws) (hy : ev l y = some (.int k i)) (hz : ev l z = some (.int k' i')) (hu : P.underlying t = some .string) (hi : i = (a : Int)) (hi' : i' = (b : Int)) (hab : a ≤ b) (h : b ≤ ws.length) : OpQ P R ⟨d, .slice t x (some y) (some z) none, ty, pos, af, g⟩ l (.string (txt ((ws.take b).drop a))) := by
  have := q_sSl (P := P) (R := R) (d := d) (ty := ty) (pos := pos) (af := af) (g := g) hx hS hu (o1 a hy hi) (o1 b hz hi') (by simpa using h) (by simpa using hab)
  simpa using this
theorem q_sAdd (hx : ev l x = some (.string S)) (hy : ev l y = some (.string S')) (hS : S = txt ws) (hS' : S' = txt ws') (h : ws.length + ws'.length ≤ 9223372036854775807) : OpQ P R ⟨d, .binOp .add t x y t', ty, pos, af, g⟩ l (.string (txt (ws ++ ws'))) := by
  subst hS; subst hS'
  have := q_strAdd (P := P) (R := R) (d := d) (ty := ty) (pos := pos) (af := af) (g := g) (t := t) (t' := t') hx hy (by rw [txt_size', txt_size']; exact h)
  rwa [txt_append] at this
end
/-! ### Bytes that are below 256, found by themselves -/
class B256 (ws : List Nat) : Prop where
  lt : ∀ x ∈ ws, x < 256
instance B256.nil : B256 [] := ⟨fun _ h => by cases h⟩
instance B256.app {a b : List Nat} [ha : B256 a] [hb : B256 b] : B256 (a ++ b) := ⟨fun x h => (List.mem_append.1 h).elim (ha.lt x) (hb.lt x)⟩
instance B256.take {a : List Nat} {n : Nat} [ha : B256 a] : B256 (a.take n) := ⟨fun x h => ha.lt x (List.mem_of_mem_take h)⟩
instance B256.drop {a : List Nat} {n : Nat} [ha : B256 a] : B256 (a.drop n) := ⟨fun x h => ha.lt x (List.mem_of_mem_drop h)⟩
theorem B256.cons {x : Nat} {a : List Nat} (hx : x < 256) (ha : B256 a) : B256 (x :: a) := ⟨fun y h => (List.mem_cons.1 h).elim (fun h => h ▸ hx) (ha.lt y)⟩
/-! ### Interfaces and slices against nil -/
def isNil : Value → Bool
  | .slice none _ _ => true
  | _ => false
section
variable {P : Program} {R R' : Mem} {l : Env} {d : Option Nat} {ty t t' e : TypeId} {pos : String} {af : Array Edge} {g : Option (Nat × Bool)} {x y : Operand} {v : Value} {n sz : Nat} {xs : List Value} {ms : Array (String × TypeId)}
def isIf (P : Program) (t : TypeId) : Bool :=
  match P.underlying t with
  | some (.interface _) => true
  | _ => false
theorem Rd.isNil {R : Mem} (h : Rd R sz v n xs) (hn : Px.isNil v = true) : n = 0 := by
  obtain ⟨p, c, rfl, _, _, h4⟩ := h
  rcases h4 with h4 | ⟨b, o, cs, e', fr, rfl, _⟩
  · exact h4
  · cases hn
theorem q_slEqNil (hx : ev l x = some v) (hu : P.underlying t = some (.slice e)) (h : Rd R' sz v n xs) : OpQ P R ⟨d, .binOp .eql t x (.const (.slice none 0 0)) t', ty, pos, af, g⟩ l (.bool (isNil v)) := fun N a w ha hw => by
  have hy : a.eval (.const (.slice none 0 0)) = .slice none 0 0 := rfl
  obtain ⟨p, c, rfl, _⟩ := h
  simp only [execOp, ha.ev hx, hy, Sem.run_bind]
  have : (Op.equal t (.slice p n c) (.slice none 0 0)).run P w = .ok p.isNone w := by
    show (Op.equalIn (9999 + 1) t (.slice p n c) (.slice none 0 0)).run P w = .ok p.isNone w
    rw [Op.equalIn]
    cases p <;> simp [run_underlying hu]
  simp [eqGuard, binOp, this]
  cases p <;> rfl
end
section
variable {C : Cx} {l : Env} {M J : Mem} {K : Env → Mem → Mem → Prop} {d : Nat} {s t e ty : TypeId} {pos : String} {af : Array Edge} {g : Option (Nat × Bool)} {x y : Operand} {ws : List Nat} {S : ByteArray}
end
end Go.Px

/-
  Slices of byte slices.
-/
namespace Go.Px
open Go.ChangeShapes Go.WideShapes Go.ChangeAt Go.RowKit
/-- The values 'vs' are slices of the bytes 'ls'. -/
structure Bys (R : Mem) (vs : List Value) (ls : List (List Nat)) : Prop where
  len : vs.length = ls.length
  get : ∀ (j : Nat) (w : List Nat), ls[j]? = some w → ∃ v, vs[j]? = some v ∧ Rd R 1 v w.length (nums .u8 w) ∧ (∀ x ∈ w, x < 256) ∧ w.length ≤ maxLen
theorem Bys.mono {R R' : Mem} {vs : List Value} {ls : List (List Nat)} (h : Bys R vs ls) (hR : ∀ x, x ∈ R → x ∈ R') : Bys R' vs ls := ⟨h.len, fun j w hj => by
  obtain ⟨v, h1, h2, h3, h4⟩ := h.get j w hj
  exact ⟨v, h1, h2.mono hR, h3, h4⟩⟩
theorem Bys.at {R : Mem} {vs : List Value} {ls : List (List Nat)} (h : Bys R vs ls) {j : Nat} (hj : j < ls.length) : ∃ v, vs[j]? = some v ∧ Rd R 1 v ls[j].length (nums .u8 ls[j]) ∧ B256 ls[j] ∧ ls[j].length ≤ maxLen := by
  obtain ⟨v, h1, h2, h3, h4⟩ := h.get j ls[j] (List.getElem?_eq_getElem hj)
  exact ⟨v, h1, h2, ⟨h3⟩, h4⟩
theorem Bys.nil {R : Mem} : Bys R [] [] := ⟨rfl, fun j w h => by simp at h⟩
theorem Bys.cons {R : Mem} {vs : List Value} {ls : List (List Nat)} (h : Bys R vs ls) {v : Value} {w : List Nat} (hv : Rd R 1 v w.length (nums .u8 w)) (hb : ∀ x ∈ w, x < 256) (hl : w.length ≤ maxLen) : Bys R (v :: vs) (w :: ls) := ⟨by simp [h.len], fun j u hj => by
  cases j with
  | zero => simp at hj; subst hj; exact ⟨v, rfl, hv, hb, hl⟩
  | succ j => exact h.get j u hj⟩
theorem Bys.one {R : Mem} {vs : List Value} {ls : List (List Nat)} (h : Bys R vs ls) : ∀ c ∈ vs, c.oneCell' = true := by
  intro c hc
  obtain ⟨j, hj⟩ := List.getElem?_of_mem hc
  have hlt := (List.getElem?_eq_some_iff.1 hj).1
  rw [h.len] at hlt
  obtain ⟨v, h1, h2, _⟩ := h.at hlt
  rw [hj] at h1
  cases h1
  obtain ⟨p, cap, rfl, _⟩ := h2
  rfl
section
variable {H : Type} {enc : TypeId × Value → H} {P : Program} {w : World} {spare : Nat → Bool} {held : Bool} {fuel : Nat} {t e e' : TypeId} {cs : List Value} {x : DataW H × List MemPlace} {v : Value} {d : DataW H} {p : List MemPlace} {r : Reach} {base : Nat}
end
end Go.Px

/-
  Owned blocks that are read alone from now on; byte slices to be read; copy of a part.
-/
namespace Go.Px
section
variable {C : Cx} {Q : XQ} {l : Env} {M J B R M' : Mem} {w : World}
theorem St.freezes (h : St C (B ++ M) J w) : St C M (B ++ J) w := by
  induction B generalizing J with
  | nil => exact h
  | cons x B ih =>
    have h1 := ih (J := x :: J) (St.freeze (by simpa using h))
    refine h1.drop (List.Sublist.refl _) fun y hy => ?_
    simp only [List.cons_append, List.mem_cons, List.mem_append] at hy ⊢
    rcases hy with h | h | h <;> simp [h]
theorem St.frz (hp : M.Perm (B ++ M')) (h : St C M J w) : St C M' (B ++ J) w := (h.perm hp).freezes
theorem XC.frz {c : Code} (hp : M.Perm (B ++ M')) (h : XC C c Q l M' (B ++ J)) : XC C c Q l M J := fun a w ha hw => h a w ha (hw.frz hp)
theorem XL.frz {ops : Array Oper} {rest : List Oper} (hp : M.Perm (B ++ M')) (h : XL C ops rest Q l M' (B ++ J)) : XL C ops rest Q l M J := fun a w ha hw => h a w ha (hw.frz hp)
end
theorem FnX.frz0 {P : Program} {f : FuncId} {args : List Value} {A : Mem} {φ : Value → Mem → Prop} (h : FnX P f args [] A fun r M J => J = [] ∧ φ r M) : FnX P f args [] A fun r M J => M = [] ∧ φ r J := by
  intro w hw
  refine Calls.mono (h w hw) ?_
  rintro e w' ⟨v, M', J, rfl, ⟨rfl, hq⟩, hs⟩
  exact ⟨v, [], M', rfl, ⟨rfl, hq⟩, by have := St.frz (B := M') (M' := []) (by simp) hs; simpa using this⟩
/-- A slice of bytes, to be read. -/
structure By (R : Mem) (v : Value) (w : List Nat) : Prop where
  rd : Rd R 1 v w.length (nums .u8 w)
  lt : ∀ x ∈ w, x < 256
  len : w.length ≤ 16777216
theorem By.mono {R R' : Mem} {v : Value} {w : List Nat} (h : By R v w) (hR : ∀ x, x ∈ R → x ∈ R') : By R' v w := ⟨h.rd.mono hR, h.lt, h.len⟩
theorem By.one {R : Mem} {v : Value} {w : List Nat} (h : By R v w) : v.oneCell' = true := h.rd.one
theorem By.cel {R : Mem} {v : Value} {w : List Nat} (h : By R v w) : Cel v [v] := h.rd.cel
theorem By.nil {R : Mem} : By R (.slice none 0 0) [] := ⟨Rd.nil, (fun x h => by cases h), by decide⟩
theorem By.max {R : Mem} {v : Value} {w : List Nat} (h : By R v w) : w.length ≤ maxLen := Nat.le_trans h.len (by unfold maxLen; omega)
/-- Slices of bytes, to be read. -/
structure Lst (R : Mem) (vs : List Value) (ls : List (List Nat)) : Prop where
  len : vs.length = ls.length
  get : ∀ (j : Nat) (w : List Nat), ls[j]? = some w → ∃ v, vs[j]? = some v ∧ By R v w
theorem Lst.mono {R R' : Mem} {vs : List Value} {ls : List (List Nat)} (h : Lst R vs ls) (hR : ∀ x, x ∈ R → x ∈ R') : Lst R' vs ls := ⟨h.len, fun j w hj => by
  obtain ⟨v, h1, h2⟩ := h.get j w hj
  exact ⟨v, h1, h2.mono hR⟩⟩
theorem Lst.at {R : Mem} {vs : List Value} {ls : List (List Nat)} (h : Lst R vs ls) {j : Nat} (hj : j < ls.length) : ∃ v, vs[j]? = some v ∧ By R v ls[j] := h.get j ls[j] (List.getElem?_eq_getElem hj)
theorem Lst.nil {R : Mem} : Lst R [] [] := ⟨rfl, fun j w h => by simp at h⟩
theorem Lst.cons {R : Mem} {vs : List Value} {ls : List (List Nat)} {v : Value} {w : List Nat} (hv : By R v w) (h : Lst R vs ls) : Lst R (v :: vs) (w :: ls) := ⟨by simp [h.len], fun j u hj => by
  cases j with
  | zero => simp at hj; subst hj; exact ⟨v, rfl, hv⟩
  | succ j => exact h.get j u hj⟩
theorem Lst.one {R : Mem} {vs : List Value} {ls : List (List Nat)} (h : Lst R vs ls) : ∀ c ∈ vs, c.oneCell' = true := by
  intro c hc
  obtain ⟨j, hj⟩ := List.getElem?_of_mem hc
  have hlt := (List.getElem?_eq_some_iff.1 hj).1
  rw [h.len] at hlt
  obtain ⟨v, h1, h2⟩ := h.at hlt
  rw [hj] at h1
  cases h1
  exact h2.one
/-- A slice of slices of bytes, to be read. -/
structure LsV (R : Mem) (v : Value) (ls : List (List Nat)) : Prop where
  ex : ∃ vs, Rd R 1 v ls.length vs ∧ Lst R vs ls
theorem LsV.mono {R R' : Mem} {v : Value} {ls : List (List Nat)} (h : LsV R v ls) (hR : ∀ x, x ∈ R → x ∈ R') : LsV R' v ls := by
  obtain ⟨vs, h1, h2⟩ := h.ex
  exact ⟨vs, h1.mono hR, h2.mono hR⟩
theorem LsV.nil {R : Mem} : LsV R (.slice none 0 0) [] := ⟨[], Rd.nil, Lst.nil⟩
section loud
variable {C : Cx} {l : Env} {M J : Mem} {K : Env → Mem → Mem → Prop} {d : Nat} {ty t e : TypeId} {pos : String} {af : Array Edge} {g : Option (Nat × Bool)} {x y : Operand}
/-- copy of a part, into the whole of an owned array of numbers. -/
theorem l_copyP {b m n : Nat} {u : Value} {k : IntKind} {ws us ws' : List Nat} {e' : TypeId} {by_ : Nat} {M' : Mem} (hx : ev l x = some (.slice (some ⟨b, 0, none⟩) m m)) (hy : ev l y = some u) (ht : elemT C.P t = some (e, 1, by_))
    (hr : Rd (M ++ (J ++ C.A)) 1 u n (nums k us)) (hm : ws.length = m) (hw' : ws' = us.take m ++ ws.drop n) (hu : Upd M b (blk (nums k ws) e') (blk (nums k ws') e') M') (hd : Nat.blt d C.N = true) (h : K ((d, .int .i64 ((min n m : Nat) : Int)) :: l) M' J) :
    OpL C ⟨some d, .call { callee := .builtin .copy, args := #[x, y], argTypes := #[t, t] }, ty, pos, af, g⟩ l M J K := by
  intro Qp a w ha hw
  obtain ⟨i, z, hut, hi, hz, hzs, his, hib⟩ := elemT_spec ht
  obtain ⟨pu, cu, rfl, hul, huc, hub⟩ := hr
  have hru : Rd (M ++ (J ++ C.A)) 1 (.slice pu n cu) n (nums k us) := ⟨pu, cu, rfl, hul, huc, hub⟩
  have hb := hw.mem _ _ (List.mem_append_left _ hu.mem)
  have hf := first_rd (P := C.P) (m := n) (c2 := cu) (hru.hi (min n m) (Nat.min_le_left _ _)) hw.fx
  have hus : us.length = n := by simpa using hul
  rw [Nat.mul_one, show (nums k us).take (min n m) = nums k (us.take (min n m)) by simp [nums]] at hf
  have hst := run_storeCells_at (P := C.P) b 0 e' (nums k (us.take (min n m))) 0 (nums k ws).toArray w hb (by simp [hus, hm]; omega) nums_one
  simp only [Nat.add_zero, Nat.zero_add, List.take_zero, List.nil_append, nums_len, List.length_take, hus] at hst
  rw [← nums_drop, ← nums_append] at hst
  have e1 : us.take (min n m) ++ ws.drop (min (min n m) n) = ws' := by
    rw [hw']
    rcases Nat.le_total m n with h | h
    · rw [Nat.min_eq_right h, Nat.min_eq_left h, List.drop_of_length_le (l := ws) (i := m) (by omega), List.drop_of_length_le (l := ws) (i := n) (by omega)]
    · rw [Nat.min_eq_left h, Nat.min_self, List.take_of_length_le (l := us) (i := n) (by omega), List.take_of_length_le (l := us) (i := m) (by omega)]
  rw [e1] at hst
  have hrun : (execOp a.eval ⟨some d, .call { callee := .builtin .copy, args := #[x, y], argTypes := #[t, t] }, ty, pos, af, g⟩).run C.P w = .ok (.value (.int .i64 ((min n m : Nat) : Int))) (w.setRow b (nums k ws').toArray) := by
    simp [execOp, resolve, invoke, builtin, ha.ev hx, ha.ev hy, Builtin.copy_, run_underlying hut, sizeOf, typeInfo, hi, his, Builtin.lenOf, hf, hst, goInt]
  unfold Oper.wp
  rw [hrun]
  exact ⟨_, M', J, ha.put (blt_lt hd) _, hw.setRow hu, h⟩
/-- An append behind a slice without room, of what is read alone: a new array. -/
theorem l_appendC {sz by_ n m b o : Nat} {u : Value} {xs ys : List Value} (hx : ev l x = some (.slice (some ⟨b, o, none⟩) n n)) (hy : ev l y = some u) (ht : elemT C.P t = some (e, sz, by_)) (hsz : Nat.blt 0 sz = true)
    (hs : Rd (M ++ (J ++ C.A)) sz (.slice (some ⟨b, o, none⟩) n n) n xs) (hr : Rd (M ++ (J ++ C.A)) sz u m ys) (hm : 0 < m) (hmax : n + m ≤ maxLen) (hbytes : (n + m) * by_ ≤ 140737488355328) (hd : Nat.blt d C.N = true)
    (k : ∀ v' B', Sl sz v' (n + m) (xs ++ ys) B' → K ((d, v') :: l) (B' ++ M) J) :
    OpL C ⟨some d, .call { callee := .builtin .append, args := #[x, y], argTypes := #[t, t] }, ty, pos, af, g⟩ l M J K := by
  intro Qp a w ha hw
  obtain ⟨i, z, hu, hi, hz, hzs, his, hib⟩ := elemT_spec ht
  obtain ⟨pu, cu, rfl, hul, huc, hub⟩ := hr
  obtain ⟨p', c', e', hxl, hcc, hxb⟩ := hs
  cases e'
  subst his; subst hib
  obtain ⟨bu, ou, csu, eu, fru, rfl, hbu, hxu⟩ : ∃ (b o : Nat) (cs : List Value) (e : TypeId) (fr : Nat × Nat), pu = some ⟨b, o, none⟩ ∧ (b, Obj.cells cs.toArray e fr) ∈ M ++ (J ++ C.A) ∧ ∀ j u, ys[j]? = some u → cs[o + j]? = some u := by
    rcases hub with h | h
    · omega
    · exact h
  have hnews : ∀ j u, ys[j]? = some u → w.cell? ((⟨bu, ou, none⟩ : Addr).add j) = some u := fun j u hj => by rw [Addr.add_mid, cell_fx hw.fx hbu]; simpa using hxu j u hj
  have holds : ∀ j u, xs[j]? = some u → w.cell? ((⟨b, o, none⟩ : Addr).add j) = some u := fun j u hj => by
    rcases hxb with h | ⟨b2, o2, cs2, e2, f2, h1, h2, h3⟩
    · subst h
      have : xs = [] := List.eq_nil_of_length_eq_zero (by simpa using hxl)
      subst this; simp at hj
    · cases h1
      rw [Addr.add_mid, cell_fx hw.fx h2]; simpa using h3 j u hj
  have hsmall : n + m ≤ 9223372036854775807 := by simp only [maxLen] at hmax; omega
  have hge := grownCap_ge w (n + m) n e
  have hcm : grownCap w (n + m) n e ≤ maxLen := grownCap_le_maxLen w (n + m) n e hmax
  have hrg := run_append_grow (P := C.P) w t ty e i z hu hi hz ⟨b, o, none⟩ n n xs hxl holds ⟨bu, ou, none⟩ m cu ys hul hnews (by omega) (by omega) (growslice_fits (by omega) hbytes)
  have hexec : (execOp a.eval ⟨some d, .call { callee := .builtin .append, args := #[x, y], argTypes := #[t, t] }, ty, pos, af, g⟩).run C.P w = .ok (.value (.slice (some ⟨w.heap.size, 0, none⟩) (n + m) (grownCap w (n + m) n e))) (w.drew.alloc (.cells (xs.toArray ++ ys.toArray ++ Builtin.zeroCells z.cells (grownCap w (n + m) n e - (n + m))) e (0, 0))) := by
    simp [execOp, resolve, invoke, builtin, ha.ev hx, ha.ev hy, hrg]
  unfold Oper.wp
  rw [hexec]
  have hsl : Sl i.size (.slice (some ⟨w.heap.size, 0, none⟩) (n + m) (grownCap w (n + m) n e)) (n + m) (xs ++ ys) [(w.heap.size, .cells (xs.toArray ++ ys.toArray ++ Builtin.zeroCells z.cells (grownCap w (n + m) n e - (n + m))) e (0, 0))] := by
    refine .inr ⟨w.heap.size, 0, _, (xs.toArray ++ ys.toArray ++ Builtin.zeroCells z.cells (grownCap w (n + m) n e - (n + m))).toList, e, rfl, by simp [blk], hge, hcm, ?_, ?_, ?_⟩
    · simp only [Array.length_toList, Array.size_append, List.size_toArray, size_zeroCells, hzs, hxl, hul, ← Nat.add_mul, Nat.zero_add]
      refine Nat.mul_le_mul_right _ ?_
      omega
    · simp [hxl, hul, Nat.add_mul]
    · intro j u hj
      have hlt : j < (xs ++ ys).length := (List.getElem?_eq_some_iff.1 hj).1
      rw [Nat.zero_add]
      simp only [Array.toList_append, List.append_assoc]
      rw [← List.append_assoc, List.getElem?_append_left (by simpa using hlt)]
      exact hj
  exact ⟨_, _, J, ha.put (blt_lt hd) _, St.alloc (w := w.drew) hw.drew _, k _ _ hsl⟩
end loud
/-- The return, in a free form: what is owned still, what is read alone from now on. -/
def retZ (P : Program) (fn : Func) (A : Mem) (post : Value → Mem → Mem → Prop) : XQ
  | .ret, l, M, J => ∃ v M' B, Res P fn l (M ++ (J ++ A)) v ∧ Fit M (B ++ M') ∧ post v M' (B ++ J)
  | .normal, l, M, J => ∃ v M' B, Res P fn l (M ++ (J ++ A)) v ∧ Fit M (B ++ M') ∧ post v M' (B ++ J)
  | _, _, _, _ => False
theorem FnX.enterZ {P : Program} {f : FuncId} {fn : Func} {c : Code} {N : Nat} {args : List Value} {M A : Mem} {post : Value → Mem → Mem → Prop}
    (hf : P.funcs[f]? = some fn) (hb : fn.body = some c) (hn : fn.ntmps = N) (hN : Nat.ble args.length N = true)
    (h : ∀ w, XC ⟨P, w, M.map Prod.fst, A, N⟩ c (retZ P fn A post) (argE args 0) M []) : FnX P f args M A post := by
  intro w hw
  refine calls_of_wp hf hb ?_
  have hle : args.length ≤ N := by simpa using hN
  refine Code.wp_mono ?_ (h w _ w ?_ hw.cx)
  · rintro e a' w' ⟨l, M', J, ha, hw', hq⟩
    cases e <;> first | exact hq.elim | skip
    all_goals
      obtain ⟨v, M2, B, hv, hM2, hp⟩ := hq
      exact ⟨ha.defers, v, hv N a' w' ha hw'.fx, v, M2, B ++ J, rfl, hp, (hw'.fit hM2 (fun _ h => h)).freezes.cx⟩
  · refine ⟨rfl, by simp [hn]; omega, ?_⟩
    intro i v hi
    obtain ⟨_, h2⟩ := argE_lk args 0 i v hi
    simp only [Nat.sub_zero] at h2
    have hlt : i < args.length := (List.getElem?_eq_some_iff.1 h2).1
    rw [Array.getElem?_append_left (by simpa using hlt)]
    simpa using h2
theorem Fit.nil {M : Mem} : Fit M ([] ++ []) := Fit.sub (List.nil_sublist _)
theorem Fit.none {M M' : Mem} (h : Fit M M') : Fit M ([] ++ M') := h
instance PickC.two {M X Y R1 R : Mem} [h1 : PickC M X R1] [h2 : PickC R1 Y R] : PickC M (X ++ Y) R := ⟨h1.perm.trans (by rw [List.append_assoc]; exact h2.perm.append_left X)⟩
instance (priority := 50) PickC.left {D M B R : Mem} [h : PickC D B R] : PickC (D ++ M) B (R ++ M) := ⟨(List.Perm.append_right M h.perm).trans (by rw [List.append_assoc])⟩
instance (priority := 60) PickC.consB {M B R1 R : Mem} {x : Nat × Obj} [h1 : PickC M [x] R1] [h2 : PickC R1 B R] : PickC M (x :: B) R := ⟨h1.perm.trans (List.Perm.cons x h2.perm)⟩
theorem uL {B B' r : Mem} {b : Nat} {o o' : Obj} (h : Upd B b o o' B') : Upd (B ++ r) b o o' (B' ++ r) := by
  induction h with
  | hd => exact .hd
  | tl _ ih => exact .tl ih
instance (priority := 50) UpC.lft {b : Nat} {o o' : Obj} {B B' r : Mem} [h : UpC B b o o' B'] : UpC (B ++ r) b o o' (B' ++ r) := ⟨uL h.upd⟩
end Go.Px

/- The walks of package wire: Writer. -/
namespace Go.Proofs.YtphcaiplgpmnnaaGreatDoor
open Go.Px
/-- A number's bytes, the highest first. -/
def bes (n k x : Nat) : List Nat := (List.range x).map fun j => n / 2 ^ (8 * (k - 1 - j)) % 256
def beN (n k : Nat) : List Nat := bes n k k
theorem bes_len (n k x : Nat) : (bes n k x).length = x := by simp [bes]
theorem beN_len (n k : Nat) : (beN n k).length = k := bes_len n k k
theorem bes_succ (n k x : Nat) : bes n k (x + 1) = bes n k x ++ [n / 2 ^ (8 * (k - 1 - x)) % 256] := by simp [bes, List.range_succ]
theorem bes_lt (n k x : Nat) : ∀ y ∈ bes n k x, y < 256 := by
  intro y hy
  simp only [bes, List.mem_map] at hy
  obtain ⟨j, _, rfl⟩ := hy
  exact Nat.mod_lt _ (by decide)
theorem beN_lt (n k : Nat) : ∀ y ∈ beN n k, y < 256 := bes_lt n k k
theorem lt_app {a b : List Nat} (ha : ∀ x ∈ a, x < 256) (hb : ∀ x ∈ b, x < 256) : ∀ x ∈ a ++ b, x < 256 := fun x hx => (List.mem_append.1 hx).elim (ha x) (hb x)
/-- The number of some bytes. -/
def bev (ws : List Nat) : Nat := ws.foldl (fun n b => n * 256 + b) 0
/-- A writer, and what it has laid. -/
structure Wtr (wb : Nat) (ws : List Nat) (M : Mem) : Prop where
  ex : ∃ (v : Value) (B : Mem), M = (wb, blk [v] 89) :: B ∧ Sl 1 v ws.length (nums .u8 ws) B
  lt : ∀ x ∈ ws, x < 256
theorem Wtr.new {b : Nat} : Wtr b [] [(b, blk [.slice none 0 0] 89)] := ⟨⟨_, [], rfl, Sl.nil⟩, fun x h => by cases h⟩
theorem Wtr.eq {wb : Nat} {ws ws' : List Nat} {M : Mem} (h : Wtr wb ws M) (e : ws = ws') : Wtr wb ws' M := e ▸ h

theorem wnum_spec (wb n k : Nat) (ws : List Nat) (M A : Mem) (hW : Wtr wb ws M) (hn : n < 18446744073709551616) (hk : k ≤ 8) (hl : ws.length ≤ 1099511627776) : FnX Tryz.prog 54 [.pointer (some ⟨wb, 0, none⟩), .int .u64 ((n : Nat) : Int), .int .i64 ((k : Nat) : Int)] M A fun q M J => q = .pointer (some ⟨wb, 0, none⟩) ∧ Wtr wb (ws ++ beN n k) M := by
 obtain ⟨⟨v, B, rfl, hsl⟩, hlt⟩ := hW
 haveI := hsl.cel
 refine FnX.enterZ (N := 33) Tryz.func54 rfl rfl rfl fun w_ => ?_
 refine XC.keep (kq 0 (kq 1 (kq 2 kn))) ?_
 refine XC.reg ?_
 refine as_ ?_
 refine XL.fin (kq 0 (kq 1 (kq 2 kn))) ?_
 refine XC.seq ?_
 refine XC.reg ?_
 refine mv_ ?_
 refine XL.q (q_num ((k : Int) - 1) rfl rfl (sub64 rfl (by omega) (by omega))) rfl ?_
 refine as_ ?_
 refine XL.fin (kq 0 (kq 1 (kq 7 kn))) ?_
 refine XC.block ?_
 refine XC.loop (α := Nat × Value × Mem) (fun x => [(0, .pointer (some ⟨wb, 0, none⟩)), (1, .int .u64 ((n : Nat) : Int)), (7, .int .i64 ((k : Int) - 1 - (x.1 : Int)))]) (fun x => (wb, blk [x.2.1] 89) :: x.2.2) (fun _ => []) (fun x => x.1 ≤ k ∧ Sl 1 x.2.1 (ws ++ bes n k x.1).length (nums .u8 (ws ++ bes n k x.1)) x.2.2) (fun x => k - x.1) ⟨0, v, B⟩ ⟨Nat.zero_le _, by simpa [bes] using hsl⟩ (kq 0 (kq 1 (kp 7 (by simp; rfl) kn))) .rfl (fun _ h => h) ?_
 clear hsl
 rintro ⟨x, v, B⟩ ⟨hx, hsl⟩
 dsimp only at hx hsl ⊢
 haveI := hsl.cel
 have hbl := bes_len n k x
 have hll : (ws ++ bes n k x).length = ws.length + x := by rw [List.length_append, hbl]
 refine XC.seq ?_
 refine XC.reg ?_
 refine mv_ ?_
 refine XL.q (q_bin rfl rfl rfl) rfl ?_
 refine mv_ ?_
 refine XL.split (t := 12) rfl (fun hb => ?_) (fun hb => ?_)
 ·
  have hltx : x < k := by simp at hb; omega
  obtain ⟨m, hm, hm2⟩ : ∃ m : Nat, ((k : Int) - 1 - (x : Int)) = (m : Int) ∧ m = k - 1 - x := ⟨k - 1 - x, by omega, rfl⟩
  rw [hm]
  refine XL.gy rfl rfl (OpQ.opL qm_ rfl ?_)
  refine XL.gy rfl rfl (OpQ.opL (q_cmp true rfl rfl (ltT (by omega))) rfl ?_)
  refine XL.q (q_pickT rfl rfl) rfl ?_
  refine XL.fin (kq 0 (kq 1 (kq 7 (kq 15 kn)))) ?_
  refine XC.condT rfl ?_
  refine XC.skip ?_
  refine nx (kq 0 (kq 1 (kq 7 kn))) ?_
  refine XC.seq ?_
  refine XC.block ?_
  refine XC.drawF1 [0, 1, 2, 3, 4, 5, 6, 7, 8, 9, 10, 12, 13] [(0, 0), (1, 0), (2, 0), (3, 0), (4, 1), (5, 0), (6, 0), (7, 0), (8, 0), (9, 0), (10, 2), (11, 2), (12, 0), (13, 0), (14, 2)] (by kernel_rfl) (by kernel_rfl) fun hs => ?_
  refine XF.q hs rfl qm_ rfl ?_
  refine XF.q hs rfl qm_ rfl ?_
  refine XF.q hs rfl (q_nil rfl) rfl ?_
  refine XF.q hs rfl (qf_ 0 0) rfl ?_
  refine XF.r hs rfl ql_ rfl ?_
  refine XF.q hs rfl qm_ rfl ?_
  refine XF.q hs rfl qm_ rfl ?_
  refine XF.q hs rfl (q_mulI (a := 8) rfl rfl rfl rfl (by omega)) rfl ?_
  refine XF.q hs rfl (q_shrI (a := n) (b := 8 * m) rfl rfl rfl rfl (by show _ ≤ 64; omega)) rfl ?_
  refine XF.q hs rfl (q_to8 rfl (by kernel_rfl)) rfl ?_
  refine XF.lo rfl rfl fun _ => (l_buildSlice (e := 5) (sz := 1) (z := [.int .u8 0]) (by kernel_rfl) (eS rfl e0) (bdS 0 1 rfl (by rfl) bd0) rfl fun b28 => ?_)
  refine XF.tl rfl rfl rfl (l_append2 (e := 5) (sz := 1) (by_ := 1) rfl rfl (by kernel_rfl) rfl (by first | assumption | exact Sl.nil) (Rd.whole (n := 1) At.mem (by rfl)) (by first | (simp [Value.oneCell']; done) | (intro c hc; simp only [List.mem_singleton] at hc; subst hc; first | exact Rd.one (by assumption) | exact Sl.one (by assumption))) PickC.perm (by unfold maxLen; omega) (by omega) rfl fun v29 B29 hs29 => ?_)
  refine XF.q hs rfl (q_nil rfl) rfl ?_
  refine XF.q hs rfl (qf_ 0 0) rfl ?_
  refine XF.tl rfl rfl rfl (l_store rfl rfl hs29.one (by kernel_rfl) SetC.set UpC.upd ?_)
  refine XF.nil ?_
  refine nb ?_
  refine nx (kq 0 (kq 1 (kq 7 kn))) ?_
  refine XC.reg1 ?_
  refine mv_ ?_
  refine XL.q (q_num ((m : Int) - 1) rfl rfl (sub64 rfl (by omega) (by omega))) rfl ?_
  refine as_ ?_
  refine XL.nil ?_
  exact rn ⟨x + 1, v29, B29⟩ ⟨by dsimp only; omega, by dsimp only; rw [bes_succ, ← List.append_assoc, ← hm2]; exact sl_eq hs29 (by simp only [List.length_append, List.length_singleton]) (by simp [nums])⟩ (by dsimp only; omega) (kq 0 (kq 1 (kp 7 (by dsimp only; rw [show ((k : Int) - 1 - ((x + 1 : Nat) : Int)) = (m : Int) - 1 by omega]; rfl) kn))) (Fit.pick (B := [_]) PickC.perm (Fit.last PickC.perm)) (fun _ h => by first | exact h | cases h)
 ·
  have hge : x = k := by simp at hb; omega
  subst hge
  refine XL.gn rfl rfl rfl rfl ?_
  refine XL.gn rfl rfl rfl rfl ?_
  refine XL.q (q_pickF rfl rfl) rfl ?_
  refine XL.fin (kq 0 (kq 1 (kq 7 (kq 15 kn)))) ?_
  refine XC.condF rfl ?_
  refine XC.exit ?_
  refine te ?_
  refine re ?_
  refine be rfl ?_
  refine nx (kq 0 kn) ?_
  refine XC.reg ?_
  refine mv_ (as_ ?_)
  refine XL.fin (kq 6 kn) ?_
  refine XC.ret ?_
  exact ⟨_, (wb, blk [v] 89) :: B, [], res1 rfl rfl, Fit.none (Fit.last PickC.perm), rfl, ⟨⟨v, B, rfl, hsl⟩, lt_app hlt (beN_lt n x)⟩⟩

theorem wbytes_spec (wb : Nat) (p : Value) (w ws : List Nat) (M A : Mem) (hW : Wtr wb ws M) (hp : By A p w) (hl : ws.length ≤ 1099511620000) : FnX Tryz.prog 53 [.pointer (some ⟨wb, 0, none⟩), p] M A fun q M J => q = .pointer (some ⟨wb, 0, none⟩) ∧ Wtr wb (ws ++ beN w.length 4 ++ w) M := by
 haveI := hp.cel
 have hpl := hp.len
 refine FnX.enterZ (N := 20) Tryz.func53 rfl rfl rfl fun w_ => ?_
 refine XC.keep (kq 0 (kq 1 kn)) ?_
 refine XC.reg ?_
 refine as_ ?_
 refine XL.fin (kq 0 (kq 1 kn)) ?_
 refine XC.reg ?_
 refine mv_ (mv_ ?_)
 refine XL.q (q_lenV2 (sz := 1) rfl (by kernel_rfl) hp.rd) rfl ?_
 refine XL.q (q_to64 rfl (by kernel_rfl)) rfl ?_
 rw [Nat.mod_eq_of_lt (show w.length < 18446744073709551616 by omega)]
 refine XL.lo rfl (l_call (Mc := _) (R := _) (aS rfl (aS rfl (aS rfl (a0)))) (by kernel_rfl) PickC.perm (wnum_spec wb w.length 4 ws _ _ hW (by omega) (by decide) (by omega)) rfl ?_)
 rintro v9 M9 J9 ⟨rfl, hW9⟩
 obtain ⟨⟨v, B, rfl, hsl⟩, hlt⟩ := hW9
 haveI := hsl.cel
 have hbl := beN_len w.length 4
 have hll : (ws ++ beN w.length 4).length = ws.length + 4 := by rw [List.length_append, hbl]
 refine XL.fin (kq 0 (kq 1 kn)) ?_
 refine XC.reg ?_
 refine mv_ (mv_ ?_)
 refine XL.q (q_nil rfl) rfl ?_
 refine XL.q (qf_ 0 0) rfl ?_
 refine XL.q ql_ rfl ?_
 refine mv_ ?_
 refine XL.lo rfl (l_append2 (e := 5) (sz := 1) (by_ := 1) rfl rfl (by kernel_rfl) rfl hsl (hp.rd.mono SubC.sub) nums_one PickC.perm (by unfold maxLen; omega) (by omega) rfl fun v16 B16 hs16 => ?_)
 refine XL.q (q_nil rfl) rfl ?_
 refine XL.q (qf_ 0 0) rfl ?_
 refine XL.lo rfl (l_store rfl rfl hs16.one (by kernel_rfl) SetC.set UpC.upd ?_)
 refine XL.fin (kq 0 kn) ?_
 refine XC.reg ?_
 refine mv_ (as_ ?_)
 refine XL.fin (kq 4 kn) ?_
 refine XC.ret ?_
 exact ⟨_, (wb, blk [v16] 89) :: B16, [], res1 rfl rfl, Fit.none (Fit.pick (B := [_]) PickC.perm (Fit.last PickC.perm)), rfl, ⟨⟨v16, B16, rfl, sl_eq hs16 (by simp only [List.length_append]) (by simp [nums])⟩, lt_app hlt hp.lt⟩⟩

theorem wdone_spec (wb : Nat) (ws : List Nat) (M A : Mem) (hW : Wtr wb ws M) (hl : ws.length ≤ 16777216) : FnX Tryz.prog 55 [.pointer (some ⟨wb, 0, none⟩)] M A fun q M J => Wtr wb ws M ∧ By J q ws := by
 obtain ⟨⟨v, B, rfl, hsl⟩, hlt⟩ := hW
 haveI := hsl.cel
 refine FnX.enterZ (N := 8) Tryz.func55 rfl rfl rfl fun w_ => ?_
 refine XC.keep (kq 0 kn) ?_
 refine XC.reg ?_
 refine as_ ?_
 refine XL.fin (kq 0 kn) ?_
 refine XC.reg ?_
 refine mv_ ?_
 refine XL.q (q_nil rfl) rfl ?_
 refine XL.q (qf_ 0 0) rfl ?_
 refine XL.q ql_ rfl ?_
 refine XL.lo rfl (l_append2 (e := 5) (sz := 1) (by_ := 1) rfl rfl (by kernel_rfl) rfl Sl.nil (hsl.rd SubC.sub) nums_one PickC.perm (by unfold maxLen; omega) (by omega) rfl fun v7 B7 hs7 => ?_)
 refine as_ ?_
 refine XL.fin (kq 2 kn) ?_
 refine XC.ret ?_
 exact ⟨_, (wb, blk [v] 89) :: B, B7, res1 rfl rfl, Fit.pick PickC.perm (Fit.last PickC.perm), ⟨⟨v, B, rfl, hsl⟩, hlt⟩, ⟨by simpa using hs7.rd (R := B7) SubC.sub, hlt, hl⟩⟩

end Go.Proofs.YtphcaiplgpmnnaaGreatDoor
/- The walks of package wire: Reader. -/
namespace Go.Proofs.YtphcaiplgpmnnaaGreatDoor
open Go.Px
/-- What a reader has left, and whether there was a fault. -/
abbrev Rst := List Nat × Bool
structure Rdr (rb : Nat) (st : Rst) (R M : Mem) : Prop where
  ex : ∃ (v : Value), M = [(rb, blk [v, .bool st.2] 149)] ∧ By R v st.1
def rnN (st : Rst) (k : Nat) : Nat := if st.2 || decide (st.1.length < k) then 0 else bev (st.1.take k)
def rnS (st : Rst) (k : Nat) : Rst := if st.2 || decide (st.1.length < k) then (st.1, true) else (st.1.drop k, false)
def rbN (st : Rst) (most : Nat) : List Nat :=
  if (rnS st 4).2 || decide (rnN st 4 > most) || decide (rnN st 4 > (rnS st 4).1.length) then [] else (rnS st 4).1.take (rnN st 4)
def rbS (st : Rst) (most : Nat) : Rst :=
  if (rnS st 4).2 || decide (rnN st 4 > most) || decide (rnN st 4 > (rnS st 4).1.length) then ((rnS st 4).1, true) else ((rnS st 4).1.drop (rnN st 4), false)
/-- A reader that read all, without a fault. -/
def rEnd (st : Rst) : Bool := !st.2 && decide (st.1.length = 0)
theorem Rdr.rd {rb : Nat} {st : Rst} {R M A : Mem} (h : Rdr rb st R M) (hs : ∀ x, x ∈ M → x ∈ A) : ∃ v, (rb, blk [v, .bool st.2] 149) ∈ A ∧ By R v st.1 := by
  obtain ⟨v, rfl, h2⟩ := h.ex
  exact ⟨v, hs _ (by simp), h2⟩

end Go.Proofs.YtphcaiplgpmnnaaGreatDoor
/- Package wire: what was laid is read again. -/
namespace Go.Proofs.YtphcaiplgpmnnaaGreatDoor
open Go.Px
def u32N (x : Int) : Nat := (x % 4294967296).toNat
def u64N (x : Int) : Nat := (x % 18446744073709551616).toNat
/-- A reader's next number, of two bytes. -/
def ctN (st : Rst) (most : Nat) : Nat := if rnN st 2 > most then 0 else rnN st 2
def ctS (st : Rst) (most : Nat) : Rst := if rnN st 2 > most then ((rnS st 2).1, true) else rnS st 2
end Go.Proofs.YtphcaiplgpmnnaaGreatDoor
/-
  SHA-256 in plain natural numbers, and what is true of it. No program in sight.
-/
namespace Go.Px

def rotr (x n : Nat) : Nat := (x >>> n) ||| ((x <<< (32 - n)) % 4294967296)
def sg0 (a : Nat) : Nat := rotr a 7 ^^^ rotr a 18 ^^^ (a >>> 3)
def sg1 (b : Nat) : Nat := rotr b 17 ^^^ rotr b 19 ^^^ (b >>> 10)
def wnext (w : List Nat) (i : Nat) : Nat :=
  (((w.getD (i - 16) 0 + sg0 (w.getD (i - 15) 0)) % 4294967296 + w.getD (i - 7) 0) % 4294967296 + sg1 (w.getD (i - 2) 0)) % 4294967296
/-- The words, so many more. -/
def wx (w : List Nat) : Nat → List Nat
  | 0 => w
  | n + 1 => wx w n ++ [wnext (wx w n) (w.length + n)]
theorem wx_len (w : List Nat) (n : Nat) : (wx w n).length = w.length + n := by
  induction n with
  | zero => rfl
  | succ n ih => simp [wx, ih]; omega

structure S8 where
  a : Nat
  b : Nat
  c : Nat
  d : Nat
  e : Nat
  f : Nat
  g : Nat
  h : Nat
def S8.list (s : S8) : List Nat := [s.a, s.b, s.c, s.d, s.e, s.f, s.g, s.h]
def S8.ok (s : S8) : Prop := ∀ x ∈ s.list, x < 4294967296
def bs1 (e : Nat) : Nat := rotr e 6 ^^^ rotr e 11 ^^^ rotr e 25
def bs0 (a : Nat) : Nat := rotr a 2 ^^^ rotr a 13 ^^^ rotr a 22
def chz (e f g : Nat) : Nat := (e &&& f) ^^^ ((4294967295 ^^^ e) &&& g)
def maj (a b c : Nat) : Nat := (a &&& b) ^^^ (a &&& c) ^^^ (b &&& c)
def tmp1 (s : S8) (k w : Nat) : Nat := ((((s.h + bs1 s.e) % 4294967296 + chz s.e s.f s.g) % 4294967296 + k) % 4294967296 + w) % 4294967296
def S8.step (s : S8) (k w : Nat) : S8 :=
  ⟨((tmp1 s k w + bs0 s.a) % 4294967296 + maj s.a s.b s.c) % 4294967296, s.a, s.b, s.c, (s.d + tmp1 s k w) % 4294967296, s.e, s.f, s.g⟩
def rounds (ks ws : List Nat) (s : S8) : Nat → S8
  | 0 => s
  | n + 1 => (rounds ks ws s n).step (ks.getD n 0) (ws.getD n 0)
def S8.plus (s t : S8) : S8 :=
  ⟨(s.a + t.a) % 4294967296, (s.b + t.b) % 4294967296, (s.c + t.c) % 4294967296, (s.d + t.d) % 4294967296, (s.e + t.e) % 4294967296, (s.f + t.f) % 4294967296, (s.g + t.g) % 4294967296, (s.h + t.h) % 4294967296⟩
def word (p : List Nat) (i : Nat) : Nat := ((p.getD (4 * i) 0 * 256 + p.getD (4 * i + 1) 0) * 256 + p.getD (4 * i + 2) 0) * 256 + p.getD (4 * i + 3) 0
def words (p : List Nat) (n : Nat) : List Nat := (List.range n).map (word p)
def shaBlock (ks : List Nat) (s : S8) (p : List Nat) : S8 := s.plus (rounds ks (wx (words p 16) 48) s 64)
/-- So many blocks, one behind the other. -/
def shaB (ks : List Nat) : Nat → S8 → List Nat → S8
  | 0, s, _ => s
  | n + 1, s, p => shaB ks n (shaBlock ks s (p.take 64)) (p.drop 64)
def zeros (n : Nat) : Nat := (119 - n % 64) % 64
def len8 (n : Nat) (k : Nat) : List Nat := (List.range k).map fun i => (8 * n) >>> (56 - 8 * i) % 256
def padded (p : List Nat) : List Nat := p ++ (128 :: (List.replicate (zeros p.length) 0 ++ len8 p.length 8))
def out4 (x : Nat) : List Nat := [(x >>> 24) % 256, (x >>> 16) % 256, (x >>> 8) % 256, x % 256]
def S8.bytes (s : S8) : List Nat := s.list.flatMap out4
def kTab : List Nat := [1116352408, 1899447441, 3049323471, 3921009573, 961987163, 1508970993, 2453635748, 2870763221, 3624381080, 310598401, 607225278, 1426881987, 1925078388, 2162078206, 2614888103, 3248222580, 3835390401, 4022224774, 264347078, 604807628, 770255983, 1249150122, 1555081692, 1996064986, 2554220882, 2821834349, 2952996808, 3210313671, 3336571891, 3584528711, 113926993, 338241895, 666307205, 773529912, 1294757372, 1396182291, 1695183700, 1986661051, 2177026350, 2456956037, 2730485921, 2820302411, 3259730800, 3345764771, 3516065817, 3600352804, 4094571909, 275423344, 430227734, 506948616, 659060556, 883997877, 958139571, 1322822218, 1537002063, 1747873779, 1955562222, 2024104815, 2227730452, 2361852424, 2428436474, 2756734187, 3204031479, 3329325298]
def hFirst : S8 := ⟨1779033703, 3144134277, 1013904242, 2773480762, 1359893119, 2600822924, 528734635, 1541459225⟩
def sha256 (p : List Nat) : List Nat := (shaB kTab ((padded p).length / 64) hFirst (padded p)).bytes
def keyPad (key : List Nat) (x : Nat) : List Nat := (key ++ List.replicate (64 - key.length) 0).map (· ^^^ x)
def macKey (key : List Nat) : List Nat := if 64 < key.length then sha256 key else key
def hmac (key p : List Nat) : List Nat := sha256 (keyPad (macKey key) 92 ++ sha256 (keyPad (macKey key) 54 ++ p))

theorem ktab_lt : ∀ x ∈ kTab, x < 4294967296 := by decide
theorem first_ok : hFirst.ok := by unfold S8.ok; decide

theorem rotr_lt {x n : Nat} (h : x < 4294967296) : rotr x n < 4294967296 := by
  unfold rotr
  refine Nat.or_lt_two_pow (n := 32) ?_ (Nat.mod_lt _ (by decide))
  exact Nat.lt_of_le_of_lt (Nat.shiftRight_le _ _) h
theorem xor32 {a b : Nat} (ha : a < 4294967296) (hb : b < 4294967296) : a ^^^ b < 4294967296 := Nat.xor_lt_two_pow (n := 32) ha hb
theorem or32 {a b : Nat} (ha : a < 4294967296) (hb : b < 4294967296) : a ||| b < 4294967296 := Nat.or_lt_two_pow (n := 32) ha hb
theorem and32 {a b : Nat} (ha : a < 4294967296) : a &&& b < 4294967296 := Nat.lt_of_le_of_lt Nat.and_le_left ha
theorem shr32 {a n : Nat} (ha : a < 4294967296) : a >>> n < 4294967296 := Nat.lt_of_le_of_lt (Nat.shiftRight_le _ _) ha
theorem mod32 {a : Nat} : a % 4294967296 < 4294967296 := Nat.mod_lt _ (by decide)
theorem S8.ok_iff {s : S8} : s.ok ↔ s.a < 4294967296 ∧ s.b < 4294967296 ∧ s.c < 4294967296 ∧ s.d < 4294967296 ∧ s.e < 4294967296 ∧ s.f < 4294967296 ∧ s.g < 4294967296 ∧ s.h < 4294967296 := by
  simp [S8.ok, S8.list]
theorem S8.ok.step {s : S8} (h : s.ok) (k w : Nat) : (s.step k w).ok := by
  rw [S8.ok_iff] at h ⊢
  obtain ⟨h1, h2, h3, h4, h5, h6, h7, h8⟩ := h
  exact ⟨mod32, h1, h2, h3, mod32, h5, h6, h7⟩
theorem S8.ok.plus (s t : S8) : (s.plus t).ok := by
  rw [S8.ok_iff]
  exact ⟨mod32, mod32, mod32, mod32, mod32, mod32, mod32, mod32⟩
theorem S8.ok.rounds {s : S8} (h : s.ok) (ks ws : List Nat) (n : Nat) : (rounds ks ws s n).ok := by
  induction n with
  | zero => exact h
  | succ n ih => exact ih.step _ _
theorem shaBlock_ok (ks : List Nat) (s : S8) (p : List Nat) : (shaBlock ks s p).ok := S8.ok.plus _ _
theorem shaB_ok (ks : List Nat) : ∀ (n : Nat) {s : S8} (p : List Nat), s.ok → (shaB ks n s p).ok
  | 0, _, _, h => h
  | n + 1, s, p, _ => shaB_ok ks n _ (shaBlock_ok ks s _)
theorem shaB_succ (ks : List Nat) : ∀ (n : Nat) (s : S8) (p : List Nat), shaB ks (n + 1) s p = shaBlock ks (shaB ks n s p) ((p.drop (64 * n)).take 64)
  | 0, s, p => by simp [shaB]
  | n + 1, s, p => by
    rw [shaB, shaB_succ ks n, shaB, List.drop_drop, show 64 + 64 * n = 64 * (n + 1) by omega]
theorem shaB_pre (ks : List Nat) : ∀ (n : Nat) (s : S8) (p q : List Nat), 64 * n ≤ p.length → shaB ks n s (p ++ q) = shaB ks n s p
  | 0, s, p, q, h => rfl
  | n + 1, s, p, q, h => by
    rw [shaB, shaB, List.take_append_of_le_length (by omega), List.drop_append_of_le_length (by omega), shaB_pre ks n _ _ _ (by rw [List.length_drop]; omega)]
theorem word_lt {p : List Nat} (h : ∀ x ∈ p, x < 256) (i : Nat) : word p i < 4294967296 := by
  have := fun j => getD_lt (i := j) h (by decide)
  have h0 := this (4 * i); have h1 := this (4 * i + 1); have h2 := this (4 * i + 2); have h3 := this (4 * i + 3)
  unfold word; omega
theorem words_lt {p : List Nat} (h : ∀ x ∈ p, x < 256) (n : Nat) : ∀ x ∈ words p n, x < 4294967296 := by
  intro x hx
  obtain ⟨i, _, rfl⟩ := List.mem_map.1 hx
  exact word_lt h i
theorem words_len (p : List Nat) (n : Nat) : (words p n).length = n := by simp [words]
theorem words_succ (p : List Nat) (n : Nat) : words p (n + 1) = words p n ++ [word p n] := by simp [words, List.range_succ]
theorem wx_lt {w : List Nat} (h : ∀ x ∈ w, x < 4294967296) : ∀ n, ∀ x ∈ wx w n, x < 4294967296
  | 0, x, hx => h x hx
  | n + 1, x, hx => by
    rcases List.mem_append.1 hx with hx | hx
    · exact wx_lt h n x hx
    · simp at hx; subst hx; exact mod32
theorem word_or {a b c d : Nat} (ha : a < 256) (hb : b < 256) (hc : c < 256) (hd : d < 256) :
    ((((a <<< 24) % 4294967296 ||| (b <<< 16) % 4294967296) ||| (c <<< 8) % 4294967296) ||| d) = ((a * 256 + b) * 256 + c) * 256 + d := by
  have e1 : a <<< 24 = (a <<< 8) <<< 16 := by rw [← Nat.shiftLeft_add]
  have f1 : (a <<< 24) % 4294967296 = a <<< 24 := Nat.mod_eq_of_lt (by rw [Nat.shiftLeft_eq]; omega)
  have f2 : (b <<< 16) % 4294967296 = b <<< 16 := Nat.mod_eq_of_lt (by rw [Nat.shiftLeft_eq]; omega)
  have f3 : (c <<< 8) % 4294967296 = c <<< 8 := Nat.mod_eq_of_lt (by rw [Nat.shiftLeft_eq]; omega)
  rw [f1, f2, f3]
  have g1 : (a <<< 24 ||| b <<< 16) = (a * 256 + b) <<< 16 := by
    rw [e1, ← Nat.shiftLeft_or_distrib, ← Nat.shiftLeft_add_eq_or_of_lt (i := 8) hb, Nat.shiftLeft_eq a 8]
  have g2 : ((a * 256 + b) <<< 16 ||| c <<< 8) = ((a * 256 + b) * 256 + c) <<< 8 := by
    rw [show (16 : Nat) = 8 + 8 from rfl, Nat.shiftLeft_add, ← Nat.shiftLeft_or_distrib, ← Nat.shiftLeft_add_eq_or_of_lt (i := 8) hc, Nat.shiftLeft_eq (a * 256 + b) 8]
  rw [g1, g2, ← Nat.shiftLeft_add_eq_or_of_lt (i := 8) hd, Nat.shiftLeft_eq _ 8]
end Go.Px

