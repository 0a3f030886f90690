/- Part 5 of the texts of this claim, one behind the other. -/
import Derived.Test.YthmnlkpikgglbaaGreatDoorB4
import Derived.Laws.Externs
import Derived.Lib.ConvBytes
set_option linter.unusedVariables false
set_option linter.unusedSimpArgs false
set_option linter.unusedVariables false
set_option linter.unusedSimpArgs false
namespace Go.Px
section rules
variable {P : Program} {R : Mem} {l : Env} {d : Option Nat} {ty t t' : TypeId} {pos : String} {af : Array Edge} {g : Option (Nat × Bool)} {x y : Operand} {k k' : IntKind} {i j : Int} {a b : Nat}
theorem q_addM (m : Nat) (hk : k.signed = false) (hm : 2 ^ k.bits = m) (hx : ev l x = some (.int k i)) (hy : ev l y = some (.int k j)) (hi : i = (a : Int)) (hj : j = (b : Int)) :
    OpQ P R ⟨d, .binOp .add t x y t', ty, pos, af, g⟩ l (.int k (((a + b) % m : Nat) : Int)) := by
  subst hi; subst hj; exact q_bin hx hy (addU hk _ (by rw [hm]))
theorem q_mulM (m : Nat) (hk : k.signed = false) (hm : 2 ^ k.bits = m) (hx : ev l x = some (.int k i)) (hy : ev l y = some (.int k j)) (hi : i = (a : Int)) (hj : j = (b : Int)) :
    OpQ P R ⟨d, .binOp .mul t x y t', ty, pos, af, g⟩ l (.int k (((a * b) % m : Nat) : Int)) := by
  subst hi; subst hj; exact q_bin hx hy (mulU hk _ (by rw [hm]))
theorem q_subM (m : Nat) (hk : k.signed = false) (hm : 2 ^ k.bits = m) (hx : ev l x = some (.int k i)) (hy : ev l y = some (.int k j)) (hi : i = (a : Int)) (hj : j = (b : Int)) (hb : b ≤ m) :
    OpQ P R ⟨d, .binOp .sub t x y t', ty, pos, af, g⟩ l (.int k (((a + (m - b)) % m : Nat) : Int)) := by
  subst hi; subst hj; subst hm; exact q_bin hx hy (subU hk _ hb rfl)
/-- .. that don't pass their bounds. -/
theorem q_addS (m : Nat) (hk : k.signed = false) (hm : 2 ^ k.bits = m) (hx : ev l x = some (.int k i)) (hy : ev l y = some (.int k j)) (hi : i = (a : Int)) (hj : j = (b : Int)) (h : a + b < m) :
    OpQ P R ⟨d, .binOp .add t x y t', ty, pos, af, g⟩ l (.int k ((a + b : Nat) : Int)) := by
  have := q_addM (P := P) (R := R) (d := d) (ty := ty) (pos := pos) (af := af) (g := g) (t := t) (t' := t') m hk hm hx hy hi hj
  rwa [Nat.mod_eq_of_lt h] at this
theorem q_mulS (m : Nat) (hk : k.signed = false) (hm : 2 ^ k.bits = m) (hx : ev l x = some (.int k i)) (hy : ev l y = some (.int k j)) (hi : i = (a : Int)) (hj : j = (b : Int)) (h : a * b < m) :
    OpQ P R ⟨d, .binOp .mul t x y t', ty, pos, af, g⟩ l (.int k ((a * b : Nat) : Int)) := by
  have := q_mulM (P := P) (R := R) (d := d) (ty := ty) (pos := pos) (af := af) (g := g) (t := t) (t' := t') m hk hm hx hy hi hj
  rwa [Nat.mod_eq_of_lt h] at this
theorem q_subS (m : Nat) (hk : k.signed = false) (hm : 2 ^ k.bits = m) (hx : ev l x = some (.int k i)) (hy : ev l y = some (.int k j)) (hi : i = (a : Int)) (hj : j = (b : Int)) (ha : a < m) (h : b ≤ a) :
    OpQ P R ⟨d, .binOp .sub t x y t', ty, pos, af, g⟩ l (.int k ((a - b : Nat) : Int)) := by
  have := q_subM (P := P) (R := R) (d := d) (ty := ty) (pos := pos) (af := af) (g := g) (t := t) (t' := t') m hk hm hx hy hi hj (by omega)
  rwa [show a + (m - b) = (a - b) + m by omega, Nat.add_mod_right, Nat.mod_eq_of_lt (by omega)] at this
/-- Shifts by a constant; bits by a mask. -/
theorem q_shrD (s D : Nat) (hD : 2 ^ s = D) (hx : ev l x = some (.int k (a : Int))) (hy : ev l y = some (.int k' i)) (hi : i = s) (hs : s ≤ k.bits) : OpQ P R ⟨d, .binOp .shr t x y t', ty, pos, af, g⟩ l (.int k ((a / D : Nat) : Int)) := by
  have := q_shrN (P := P) (R := R) (d := d) (ty := ty) (pos := pos) (af := af) (g := g) (t := t) (t' := t') s hx hy hi hs
  rwa [Nat.shiftRight_eq_div_pow, hD] at this
theorem q_shlD (s D m : Nat) (hk : k.signed = false) (hD : 2 ^ s = D) (hm : 2 ^ k.bits = m) (hx : ev l x = some (.int k (a : Int))) (hy : ev l y = some (.int k' i)) (hi : i = s) (hs : s ≤ k.bits) : OpQ P R ⟨d, .binOp .shl t x y t', ty, pos, af, g⟩ l (.int k ((a * D % m : Nat) : Int)) := by
  have := q_shlN (P := P) (R := R) (d := d) (ty := ty) (pos := pos) (af := af) (g := g) (t := t) (t' := t') hk s hx hy hi hs
  rwa [Nat.shiftLeft_eq, hD, hm] at this
theorem q_andD (s D : Nat) (hk : k.signed = false) (hD : 2 ^ s = D) (hx : ev l x = some (.int k (a : Int))) (hy : ev l y = some (.int k j)) (hj : j = ((D - 1 : Nat) : Int)) (ha : a < 2 ^ k.bits) (hs : s ≤ k.bits) : OpQ P R ⟨d, .binOp .and t x y t', ty, pos, af, g⟩ l (.int k ((a % D : Nat) : Int)) := by
  subst hj; subst hD
  have h2 : 2 ^ s - 1 < 2 ^ k.bits := Nat.lt_of_lt_of_le (Nat.sub_lt (Nat.two_pow_pos _) (by decide)) (Nat.pow_le_pow_right (by decide) hs)
  have := q_and (P := P) (R := R) (d := d) (ty := ty) (pos := pos) (af := af) (g := g) (t := t) (t' := t') hk hx hy ha h2
  rwa [Nat.and_two_pow_sub_one_eq_mod] at this
theorem q_quoD (D : Nat) (hx : ev l x = some (.int k (a : Int))) (hy : ev l y = some (.int k j)) (hj : j = (D : Int)) (hD : D ≠ 0) (h : k.wrap ((a / D : Nat) : Int) = ((a / D : Nat) : Int)) : OpQ P R ⟨d, .binOp .quo t x y t', ty, pos, af, g⟩ l (.int k ((a / D : Nat) : Int)) := by
  subst hj; exact q_quoN hx hy hD h
theorem q_remD (D : Nat) (hx : ev l x = some (.int k (a : Int))) (hy : ev l y = some (.int k j)) (hj : j = (D : Int)) (hD : D ≠ 0) : OpQ P R ⟨d, .binOp .rem t x y t', ty, pos, af, g⟩ l (.int k ((a % D : Nat) : Int)) := by
  subst hj; exact q_remN hx hy hD
/-- The address of an element of an array, its place written out. -/
theorem q_idxAN (off : Nat) {t e : TypeId} {b o n i sz : Nat} {k : IntKind} {ii : Int} (hx : ev l x = some (.pointer (some ⟨b, o, none⟩))) (hy : ev l y = some (.int k ii))
    (hu : P.underlying t = some (.array n e)) (hs : sizeT P e = some sz) (hi : ii = i) (hlt : i < n) (ho : o + i * sz = off) :
    OpQ P R ⟨d, .indexAddr t x y, ty, pos, af, g⟩ l (.pointer (some ⟨b, off, none⟩)) := ho ▸ q_idxA hx hy hu hs hi hlt
theorem q_quoR (r : Int) (hx : ev l x = some (.int k i)) (hy : ev l y = some (.int k j)) (hj : j ≠ 0) (h : k.wrap (i.tdiv j) = r) : OpQ P R ⟨d, .binOp .quo t x y t', ty, pos, af, g⟩ l (.int k r) := h ▸ q_quo hx hy hj
theorem q_remR (r : Int) (hx : ev l x = some (.int k i)) (hy : ev l y = some (.int k j)) (hj : j ≠ 0) (h : i.tmod j = r) : OpQ P R ⟨d, .binOp .rem t x y t', ty, pos, af, g⟩ l (.int k r) := h ▸ q_rem hx hy hj
end rules
/-- Some cells out of the middle. -/
class TakeC (cs : List Value) (o n : Nat) (vs : outParam (List Value)) : Prop where
  take : vs.length = n ∧ ∀ j v, vs[j]? = some v → cs[o + j]? = some v
instance TakeC.nil {cs : List Value} : TakeC cs 0 0 [] := ⟨rfl, fun j v h => by simp at h⟩
instance TakeC.put {x : Value} {r vs : List Value} {n : Nat} [h : TakeC r 0 n vs] : TakeC (x :: r) 0 (n + 1) (x :: vs) := ⟨by simp [h.take.1], fun j v hv => by
  cases j with
  | zero => simpa using hv
  | succ j => have := h.take.2 j v (by simpa using hv); rw [Nat.zero_add] at this ⊢; simpa using this⟩
instance TakeC.skip {x : Value} {r vs : List Value} {o n : Nat} [h : TakeC r o n vs] : TakeC (x :: r) (o + 1) n vs := ⟨h.take.1, fun j v hv => by
  have := h.take.2 j v hv
  rw [show o + 1 + j = (o + j) + 1 by omega]; simpa using this⟩
theorem q_loadT {P : Program} {R : Mem} {l : Env} {d : Option Nat} {ty t : TypeId} {pos : String} {af : Array Edge} {g : Option (Nat × Bool)} {x : Operand} {n b o : Nat} {cs vs : List Value} {e : TypeId} {fr : Nat × Nat} (hx : ev l x = some (.pointer (some ⟨b, o, none⟩))) (ht : rowT P t = some n)
    (hb : (b, Obj.cells cs.toArray e fr) ∈ R) (h : vs.length = n ∧ ∀ j v, vs[j]? = some v → cs[o + j]? = some v) : OpQ P R ⟨d, .load t x, ty, pos, af, g⟩ l (.agg vs.toArray) := q_loadR hx ht hb h.1 h.2
theorem l_storeS {C : Cx} {l : Env} {M J : Mem} {K : Env → Mem → Mem → Prop} {ty : TypeId} {pos : String} {af : Array Edge} {g : Option (Nat × Bool)} {x y : Operand} {t : TypeId} {b o : Nat} {cs vs cs' : List Value} {e : TypeId} {M' : Mem} (hx : ev l x = some (.pointer (some ⟨b, o, none⟩))) (hy : ev l y = some (.agg vs.toArray))
    (ht : sizeT C.P t = some vs.length) (h1 : ∀ u ∈ vs, u.oneCell' = true) [hs : SetR cs o vs cs'] (hu : Upd M b (blk cs e) (blk cs' e) M') (k : K l M' J) :
    OpL C ⟨none, .store t x y, ty, pos, af, g⟩ l M J K := l_storeR hx hy rfl ht hs.set.1 h1 hs.set.2.symm hu k
section tuples
variable {P : Program} {R : Mem} {l : Env} {d : Option Nat} {ty : TypeId} {pos : String} {af : Array Edge} {g : Option (Nat × Bool)} {x : Operand} {a b c e : Value} {r : List Value}
theorem q_x0 (hx : ev l x = some (.tuple (a :: r).toArray)) : OpQ P R ⟨d, .extract x 0, ty, pos, af, g⟩ l a := q_extract hx rfl
theorem q_x1 (hx : ev l x = some (.tuple (a :: b :: r).toArray)) : OpQ P R ⟨d, .extract x 1, ty, pos, af, g⟩ l b := q_extract hx rfl
theorem q_x2 (hx : ev l x = some (.tuple (a :: b :: c :: r).toArray)) : OpQ P R ⟨d, .extract x 2, ty, pos, af, g⟩ l c := q_extract hx rfl
theorem q_x3 (hx : ev l x = some (.tuple (a :: b :: c :: e :: r).toArray)) : OpQ P R ⟨d, .extract x 3, ty, pos, af, g⟩ l e := q_extract hx rfl
end tuples
/-- math/bits.Add64: the model stands in for it. -/
theorem q_bitsAdd {P : Program} {R : Mem} {l : Env} {d : Option Nat} {ty : TypeId} {pos : String} {af : Array Edge} {g : Option (Nat × Bool)} {x y z : Operand} {f : FuncId} {fn : Func} {ts : Array TypeId} {a b c : Nat} {i j k : Int} (hf : P.funcs[f]? = some fn)
    (h1 : fn.body.isNone = true) (h2 : (fn.name == "runtime.NumGoroutine") = false) (h3 : Extern.findNext fn = none) (h4 : Extern.find fn = some add64Entry)
    (hx : ev l x = some (.int .u64 i)) (hy : ev l y = some (.int .u64 j)) (hz : ev l z = some (.int .u64 k)) (hc : c ≤ 1) (hi : i = (a : Int) := by rfl) (hj : j = (b : Int) := by rfl) (hk : k = (c : Int) := by rfl) :
    OpQ P R ⟨d, .call { callee := .value (.func f), args := #[x, y, z], argTypes := ts }, ty, pos, af, g⟩ l (.tuple #[.int .u64 (((a + b + c) % 18446744073709551616 : Nat) : Int), .int .u64 (((a + b + c) / 18446744073709551616 : Nat) : Int)]) := fun N A w ha hw => by
  subst hi; subst hj; subst hk
  have hcall : (callFunc f #[.int .u64 (a : Int), .int .u64 (b : Int), .int .u64 (c : Int)]).run P w = .ok (.value (.tuple #[.int .u64 (((a + b + c) % 18446744073709551616 : Nat) : Int), .int .u64 (((a + b + c) / 18446744073709551616 : Nat) : Int)])) w := by
    rw [run_callFunc_extern hf h2 h1 h3 (e := add64Entry) h4, run_add64 a b c (by omega) (by omega) (by omega) (by omega)]
    simp only [Result.andThen]
    congr 5 <;> omega
  have e : (#[x, y, z] : Array Operand).map A.eval = #[.int .u64 (a : Int), .int .u64 (b : Int), .int .u64 (c : Int)] := by simp [ha.ev hx, ha.ev hy, ha.ev hz]
  simp only [execOp, resolve, e, Sem.run_bind]
  simp only [Act.eval, Deferred.ofValue, invoke, Sem.run_pure, Result.andThen_ok, Array.append_empty, Array.empty_append, hcall]
end Go.Px

/-
  Rules whose facts are found by their values: slices that read or are owned, blocks picked out of the owned ones.
-/
set_option linter.unusedVariables false
set_option linter.unusedSimpArgs false
namespace Go.Px
/-- The blocks B are among the owned ones M; R are the others. -/
class PickC (M : Mem) (B : Mem) (R : outParam Mem) : Prop where
  perm : M.Perm (B ++ R)
instance (priority := low) PickC.nil {M : Mem} : PickC M [] M := ⟨.refl _⟩
instance (priority := high) PickC.here {B M : Mem} : PickC (B ++ M) B M := ⟨.refl _⟩
instance PickC.sing {x : Nat × Obj} {M : Mem} : PickC (x :: M) [x] M := ⟨.refl _⟩
instance (priority := low) PickC.cons {x : Nat × Obj} {M B R : Mem} [h : PickC M B R] : PickC (x :: M) B (x :: R) := ⟨(List.Perm.cons x h.perm).trans List.perm_middle.symm⟩
instance (priority := low) PickC.app {D M B R : Mem} [h : PickC M B R] : PickC (D ++ M) B (D ++ R) := ⟨(List.Perm.append_left D h.perm).trans (List.perm_append_comm_assoc D B R)⟩
instance PickC.whole {B : Mem} : PickC B B [] := ⟨by simp⟩
/-- The facts X are among Y. -/
class SubC (X Y : Mem) : Prop where
  sub : ∀ x, x ∈ X → x ∈ Y
instance (priority := high) SubC.same {X : Mem} : SubC X X := ⟨fun _ h => h⟩
instance (priority := high) SubC.here {X Y : Mem} : SubC X (X ++ Y) := ⟨fun _ h => List.mem_append_left _ h⟩
instance SubC.left {X Y Z : Mem} [h : SubC X Y] : SubC X (Y ++ Z) := ⟨fun _ hx => List.mem_append_left _ (h.sub _ hx)⟩
instance (priority := low) SubC.right {X Y Z : Mem} [h : SubC X Z] : SubC X (Y ++ Z) := ⟨fun _ hx => List.mem_append_right _ (h.sub _ hx)⟩
instance (priority := low) SubC.tail {X Y : Mem} {y : Nat × Obj} [h : SubC X Y] : SubC X (y :: Y) := ⟨fun _ hx => List.mem_cons_of_mem _ (h.sub _ hx)⟩
instance SubC.nil {Y : Mem} : SubC [] Y := ⟨fun _ h => by simp at h⟩
instance SubC.sing {x : Nat × Obj} {Y : Mem} : SubC [x] (x :: Y) := ⟨fun _ h => by simp at h; simp [h]⟩
theorem Fit.pick {M B R M' : Mem} (h : M.Perm (B ++ R)) (hr : Fit R M') : Fit M (B ++ M') := by
  obtain ⟨M1, h1, h2⟩ := hr
  exact ⟨B ++ M1, h.trans (h1.append_left B), List.Sublist.append (List.Sublist.refl _) h2⟩
theorem Fit.last {M B R : Mem} (h : M.Perm (B ++ R)) : Fit M B := ⟨_, h, List.sublist_append_left _ _⟩
section rules
variable {P : Program} {R R' : Mem} {l : Env} {d : Option Nat} {ty t t' : TypeId} {pos : String} {af : Array Edge} {g : Option (Nat × Bool)} {x y z : Operand} {k k' : IntKind} {i j i' : Int} {a b : Nat} {v : Value} {sz n : Nat} {xs : List Value}
theorem q_addI (hx : ev l x = some (.int .i64 i)) (hy : ev l y = some (.int .i64 j)) (hi : i = (a : Int)) (hj : j = (b : Int)) (h : a + b < 9223372036854775808) : OpQ P R ⟨d, .binOp .add t x y t', ty, pos, af, g⟩ l (.int .i64 ((a + b : Nat) : Int)) := by
  subst hi; subst hj; exact q_num _ hx hy (add64 (by omega) (by omega) (by omega))
theorem q_subI (hx : ev l x = some (.int .i64 i)) (hy : ev l y = some (.int .i64 j)) (hi : i = (a : Int)) (hj : j = (b : Int)) (h : b ≤ a) (h2 : a < 9223372036854775808) : OpQ P R ⟨d, .binOp .sub t x y t', ty, pos, af, g⟩ l (.int .i64 ((a - b : Nat) : Int)) := by
  subst hi; subst hj; exact q_num _ hx hy (sub64 (by omega) (by omega) (by omega))
theorem q_mulI (hx : ev l x = some (.int .i64 i)) (hy : ev l y = some (.int .i64 j)) (hi : i = (a : Int)) (hj : j = (b : Int)) (h : a * b < 9223372036854775808) : OpQ P R ⟨d, .binOp .mul t x y t', ty, pos, af, g⟩ l (.int .i64 ((a * b : Nat) : Int)) := by
  subst hi; subst hj; exact q_num _ hx hy (mul64 (by simp) (by omega) (by omega))
theorem q_remI (hx : ev l x = some (.int k i)) (hy : ev l y = some (.int k j)) (hi : i = (a : Int)) (hj : j = (b : Int)) (hb : 0 < b) : OpQ P R ⟨d, .binOp .rem t x y t', ty, pos, af, g⟩ l (.int k ((a % b : Nat) : Int)) := by
  subst hi; subst hj; exact q_remN hx hy (by omega)
theorem q_quoI (hx : ev l x = some (.int .i64 i)) (hy : ev l y = some (.int .i64 j)) (hi : i = (a : Int)) (hj : j = (b : Int)) (hb : 0 < b) (h : a < 9223372036854775808) : OpQ P R ⟨d, .binOp .quo t x y t', ty, pos, af, g⟩ l (.int .i64 ((a / b : Nat) : Int)) := by
  subst hi; subst hj; exact q_quoN hx hy (by omega) (wrapI (Nat.lt_of_le_of_lt (Nat.div_le_self a b) h))
theorem q_quoU {m : Nat} (hk : k.signed = false) (hm : 2 ^ k.bits = m) (hx : ev l x = some (.int k i)) (hy : ev l y = some (.int k j)) (hi : i = (a : Int)) (hj : j = (b : Int)) (hb : 0 < b) (h : a < m) : OpQ P R ⟨d, .binOp .quo t x y t', ty, pos, af, g⟩ l (.int k ((a / b : Nat) : Int)) := by
  subst hi; subst hj; exact q_quoN hx hy (by omega) (by rw [wrap_nat hk, hm, Nat.mod_eq_of_lt (Nat.lt_of_le_of_lt (Nat.div_le_self a b) h)])
/-- Shifts by a number that is known. -/
theorem q_shrI (hx : ev l x = some (.int k i)) (hy : ev l y = some (.int k' j)) (hi : i = (a : Int)) (hj : j = (b : Int)) (hs : b ≤ k.bits) : OpQ P R ⟨d, .binOp .shr t x y t', ty, pos, af, g⟩ l (.int k ((a / 2 ^ b : Nat) : Int)) := by
  subst hi; subst hj; rw [← Nat.shiftRight_eq_div_pow]; exact q_shrN b hx hy rfl hs
theorem q_shlI (m : Nat) (hk : k.signed = false) (hm : 2 ^ k.bits = m) (hx : ev l x = some (.int k i)) (hy : ev l y = some (.int k' j)) (hi : i = (a : Int)) (hj : j = (b : Int)) (hs : b ≤ k.bits) : OpQ P R ⟨d, .binOp .shl t x y t', ty, pos, af, g⟩ l (.int k ((a * 2 ^ b % m : Nat) : Int)) := by
  subst hi; subst hj; subst hm; rw [← Nat.shiftLeft_eq]; exact q_shlN hk b hx hy rfl hs
theorem q_lenV2 (hx : ev l x = some v) (hu : slE P t = some sz) (h : Rd R' sz v n xs) :
    OpQ P R ⟨d, .call { callee := .builtin .len, args := #[x], argTypes := #[t] }, ty, pos, af, g⟩ l (.int .i64 n) := q_lenV h hx hu
theorem q_hiV2 (hx : ev l x = some v) (hy : ev l y = some (.int k i)) (hu : slE P t = some sz) (hi : i = (a : Int)) (h : Rd R' sz v n xs) (hj : a ≤ n) :
    OpQ P R ⟨d, .slice t x none (some y) none, ty, pos, af, g⟩ l (vHi a v) := q_hiV h hx hy hu a hi hj
theorem q_loV2 (hx : ev l x = some v) (hy : ev l y = some (.int k i)) (hu : slE P t = some sz) (hi : i = (a : Int)) (h : Rd R' sz v n xs) (hj : a ≤ n) :
    OpQ P R ⟨d, .slice t x (some y) none none, ty, pos, af, g⟩ l (vLo a sz v) := q_loV h hx hy hu a hi hj
theorem q_lhV2 (hx : ev l x = some v) (hy : ev l y = some (.int k i)) (hz : ev l z = some (.int k' i')) (hu : slE P t = some sz) (hi : i = (a : Int)) (hi' : i' = (b : Int)) (h : Rd R' sz v n xs) (hab : a ≤ b) (hb : b ≤ n) :
    OpQ P R ⟨d, .slice t x (some y) (some z) none, ty, pos, af, g⟩ l (vLo a sz (vHi b v)) := q_lhV h hx hy hz hu a b hi hi' hab hb
/-- An array is sliced. -/
theorem q_sliceA {e : TypeId} {b o n sz : Nat} {lo hi mx : Option Operand} {nl nh nm : Option Nat} (hx : ev l x = some (.pointer (some ⟨b, o, none⟩))) (hu : P.underlying t = some (.array n e)) (hs : sizeT P e = some sz)
    (h1 : EvO l lo nl) (h2 : EvO l hi nh) (h3 : EvO l mx nm) (hmh : nm.isSome = true → nh.isSome = true) (hm : nm.getD n ≤ n) (hh : nh.getD n ≤ nm.getD n) (hl : nl.getD 0 ≤ nh.getD n) :
    OpQ P R ⟨d, .slice t x lo hi mx, ty, pos, af, g⟩ l (.slice (some (if nm.getD n = nl.getD 0 then ⟨b, o, none⟩ else ⟨b, o + nl.getD 0 * sz, none⟩)) (nh.getD n - nl.getD 0) (nm.getD n - nl.getD 0)) := fun N a w ha hw => by
  unfold sizeT at hs
  cases hq : P.info? e with
  | none => simp [hq] at hs
  | some inf =>
    simp only [hq, Option.map_some, Option.some.injEq] at hs
    subst hs
    simp only [execOp, ha.ev hx, Instr.sliceAt, Sem.run_bind, run_underlying hu, Result.andThen_ok, Instr.sureAddr, Sem.run_pure, sliceBounds_run ha h1 h2 h3 false n n w hm hh hl hmh]
    simp [sizeOf, typeInfo, hq, Addr.add]
    by_cases h0 : nl.getD 0 * inf.size = 0 <;> simp [h0]
theorem q_slArr {e : TypeId} {b o n sz : Nat} (hx : ev l x = some (.pointer (some ⟨b, o, none⟩))) (hu : P.underlying t = some (.array n e)) (hs : sizeT P e = some sz) :
    OpQ P R ⟨d, .slice t x none none none, ty, pos, af, g⟩ l (.slice (some ⟨b, o, none⟩) n n) := by
  have := q_sliceA (R := R) (d := d) (ty := ty) (pos := pos) (af := af) (g := g) hx hu hs o0 o0 o0 (by simp) (by simp) (by simp) (by simp)
  simpa using this
theorem q_slALH (lo hi : Nat) {e : TypeId} {b o n sz : Nat} (hx : ev l x = some (.pointer (some ⟨b, o, none⟩))) (hu : P.underlying t = some (.array n e)) (hs : sizeT P e = some sz) (hy : ev l y = some (.int k i)) (hz : ev l z = some (.int k' i')) (hi1 : i = (lo : Int)) (hi2 : i' = (hi : Int)) (h0 : lo < n) (h1 : lo ≤ hi) (h2 : hi ≤ n) :
    OpQ P R ⟨d, .slice t x (some y) (some z) none, ty, pos, af, g⟩ l (.slice (some ⟨b, o + lo * sz, none⟩) (hi - lo) (n - lo)) := by
  have := q_sliceA (R := R) (d := d) (ty := ty) (pos := pos) (af := af) (g := g) hx hu hs (o1 lo hy hi1) (o1 hi hz hi2) o0 (by simp) (by simp) (by simpa using h2) (by simpa using h1)
  rw [if_neg (by simp; omega)] at this
  simpa using this
theorem q_slAHi (hi : Nat) {e : TypeId} {b o n sz : Nat} (hx : ev l x = some (.pointer (some ⟨b, o, none⟩))) (hu : P.underlying t = some (.array n e)) (hs : sizeT P e = some sz) (hz : ev l z = some (.int k' i')) (hi2 : i' = (hi : Int)) (h2 : hi ≤ n) :
    OpQ P R ⟨d, .slice t x none (some z) none, ty, pos, af, g⟩ l (.slice (some ⟨b, o, none⟩) hi n) := by
  have := q_sliceA (R := R) (d := d) (ty := ty) (pos := pos) (af := af) (g := g) hx hu hs o0 (o1 hi hz hi2) o0 (by simp) (by simp) (by simpa using h2) (by simp)
  simpa using this
theorem q_slALo (lo : Nat) {e : TypeId} {b o n sz : Nat} (hx : ev l x = some (.pointer (some ⟨b, o, none⟩))) (hu : P.underlying t = some (.array n e)) (hs : sizeT P e = some sz) (hy : ev l y = some (.int k i)) (hi1 : i = (lo : Int)) (h0 : lo < n) :
    OpQ P R ⟨d, .slice t x (some y) none none, ty, pos, af, g⟩ l (.slice (some ⟨b, o + lo * sz, none⟩) (n - lo) (n - lo)) := by
  have := q_sliceA (R := R) (d := d) (ty := ty) (pos := pos) (af := af) (g := g) hx hu hs (o1 lo hy hi1) o0 o0 (by simp) (by simp) (by simp) (by simp; omega)
  rw [if_neg (by simp; omega)] at this
  simpa using this
/-- Some elements out of the middle of a block. -/
theorem Rd.mid {R : Mem} {b o n cap : Nat} {cs : List Value} {e : TypeId} {fr : Nat × Nat} (hb : (b, Obj.cells cs.toArray e fr) ∈ R) (h : o + n ≤ cs.length) (hc : n ≤ cap) : Rd R 1 (.slice (some ⟨b, o, none⟩) n cap) n ((cs.drop o).take n) := by
  refine ⟨_, cap, rfl, by simp; omega, hc, .inr ⟨b, o, cs, e, fr, rfl, hb, fun j u hj => ?_⟩⟩
  have hjn : j < n := by have := (List.getElem?_eq_some_iff.1 hj).1; simp at this; omega
  rw [List.getElem?_take_of_lt hjn, List.getElem?_drop] at hj
  exact hj
theorem q_atV2 (hx : ev l x = some v) (hy : ev l y = some (.int k i)) (hu : slE P t = some sz) (hi : i = (a : Int)) (h : Rd R' sz v n xs) (hj : a < n) :
    OpQ P R ⟨d, .indexAddr t x y, ty, pos, af, g⟩ l (vAt sz a v) := q_atV h hx hy hu a hi hj
theorem q_ldVN2 {ws : List Nat} (hx : ev l x = some (vAt 1 a v)) (ht : scalarT P t = true) (h : Rd R 1 v n (nums k ws)) (hj : a < n) : OpQ P R ⟨d, .load t x, ty, pos, af, g⟩ l (.int k ((ws.getD a 0 : Nat) : Int)) := q_ldVN h hx ht hj
theorem Rd.one {R : Mem} {v : Value} {n sz : Nat} {xs : List Value} (h : Rd R sz v n xs) : v.oneCell' = true := by
  obtain ⟨p, c, rfl, _⟩ := h; rfl
theorem Sl.one {B : Mem} {v : Value} {n sz : Nat} {xs : List Value} (h : Sl sz v n xs B) : v.oneCell' = true := by
  obtain ⟨p, c, rfl, _⟩ := h.val; rfl
/-- An element of several cells. -/
theorem q_ldVR {rows : List (List Value)} {r : List Value} (hx : ev l x = some (vAt sz a v)) (ht : rowT P t = some sz) (h : Rd R sz v n rows.flatten) (hl : ∀ r ∈ rows, r.length = sz) (hs : 0 < sz) (hr : rows[a]? = some r) : OpQ P R ⟨d, .load t x, ty, pos, af, g⟩ l (.agg r.toArray) := by
  obtain ⟨p, c, rfl, h2, h3, h4⟩ := h
  have hal := (List.getElem?_eq_some_iff.1 hr).1
  have hfl := flat_len hl
  rcases h4 with rfl | ⟨b, o, cs, e', fr, rfl, hb, hx'⟩
  · rw [h2, Nat.zero_mul] at hfl
    have := Nat.mul_pos (show 0 < rows.length by omega) hs
    omega
  · simp only [vAt, Addr.add_mid] at hx
    refine q_loadR hx ht hb (hl r (List.mem_of_getElem? hr)) fun j u hj => ?_
    have hjl : j < sz := by have := (List.getElem?_eq_some_iff.1 hj).1; rwa [hl r (List.mem_of_getElem? hr)] at this
    rw [Nat.add_assoc]
    exact hx' _ _ (by rw [flat_get hl hr j hjl]; exact hj)
theorem q_toStr2 {s : TypeId} {ws : List Nat} (hx : ev l x = some v) (hc : bytesT P s t = true) (h : Rd R 1 v n (nums .u8 ws)) : OpQ P R ⟨d, .convert s t x, ty, pos, af, g⟩ l (.string (txt ws)) := q_toStr h hx hc
end rules
section loud
variable {C : Cx} {l : Env} {M J : Mem} {K : Env → Mem → Mem → Prop} {d : Nat} {ty t e : TypeId} {pos : String} {af : Array Edge} {g : Option (Nat × Bool)} {x y : Operand} {k : IntKind}
theorem l_stV2 {v : Value} {ws : List Nat} {n a u : Nat} {B M0 : Mem} {i : Int} (hx : ev l x = some (vAt 1 a v)) (hy : ev l y = some (.int k i)) (hi : i = (u : Int)) (ht : sizeT C.P t = some 1) (h : Sl 1 v n (nums k ws) B) (hj : a < n) (hM : M.Perm (B ++ M0)) (h2 : ∀ B', Sl 1 v n (nums k (ws.set a u)) B' → K l (B' ++ M0) J) :
    OpL C ⟨none, .store t x y, ty, pos, af, g⟩ l M J K := l_stV h hx (hi ▸ hy) ht hj hM h2
theorem l_append2 {sz by_ n m : Nat} {v u : Value} {xs ys : List Value} {B M0 : Mem} (hx : ev l x = some v) (hy : ev l y = some u) (ht : elemT C.P t = some (e, sz, by_)) (hsz : Nat.blt 0 sz = true)
    (hs : Sl sz v n xs B) (hr : Rd (M ++ (J ++ C.A)) sz u m ys) (h1c : ∀ c ∈ ys, c.oneCell' = true) (hM : M.Perm (B ++ M0)) (hmax : n + m ≤ maxLen) (hbytes : (n + m) * by_ ≤ 140737488355328) (hd : Nat.blt d C.N = true)
    (k : ∀ v' B', Sl sz v' (n + m) (xs ++ ys) B' → K ((d, v') :: l) (B' ++ M0) J) :
    OpL C ⟨some d, .call { callee := .builtin .append, args := #[x, y], argTypes := #[t, t] }, ty, pos, af, g⟩ l M J K := l_append hx hy ht hsz hs hr h1c hM hmax hbytes hd k
theorem l_makeV {by_ : Nat} {kl kc : IntKind} {i j : Int} {a : Nat} (hx : ev l x = some (.int kl i)) (hy : ev l y = some (.int kc j)) (ht : mkT C.P t = some (e, k, by_)) (hi : i = (a : Int)) (hj : j = (a : Int))
    (hb : by_ * a ≤ 281474976710656) (hn : a ≤ 140737488355328) (hd : Nat.blt d C.N = true) (h : ∀ v B, Sl 1 v a (nums k (List.replicate a 0)) B → K ((d, v) :: l) (B ++ M) J) :
    OpL C ⟨some d, .makeSlice t x y, ty, pos, af, g⟩ l M J K := l_makeN a hx hy ht hi hj hb (by omega) hd fun b => h _ _ (Sl.fresh (by simp) (by unfold maxLen; omega))
/-- A call that gets blocks. -/
theorem l_callB {f : FuncId} {xs : List Operand} {vs : List Value} {ts : Array TypeId} {Mc R : Mem} {post : Value → Mem → Mem → Prop} (hx : Evs l xs vs) (hc : callable C.P f = true) (hf : FnX C.P f vs Mc (R ++ (J ++ C.A)) post) (hM : M.Perm (Mc ++ R)) (hd : Nat.blt d C.N = true)
    (k : ∀ r M' J', post r M' J' → K ((d, r) :: l) (M' ++ R) (J' ++ J)) : OpL C ⟨some d, .call { callee := .value (.func f), args := xs.toArray, argTypes := ts }, ty, pos, af, g⟩ l M J K := l_call hx hc hM hf hd k
end loud
end Go.Px

/-
  Texts as rows of bytes: lengths, bytes, parts, sums, sameness; a text as bytes.
-/
set_option linter.unusedVariables false
set_option linter.unusedSimpArgs false
namespace Go.Px
theorem txt_size' (p : List Nat) : (txt p).size = p.length := by simp [txt, ByteArray.size]
theorem txt_get {ws : List Nat} (h : ∀ x ∈ ws, x < 256) {j : Nat} (hj : j < ws.length) : (txt ws)[j]? = some (UInt8.ofNat (ws.getD j 0)) := by
  have h2 : j < (txt ws).size := by rw [txt_size']; exact hj
  rw [getElem?_pos (txt ws) j h2]
  congr 1
  show ((ws.map UInt8.ofNat).toArray)[j]'_ = _
  simp only [List.getD, List.getElem?_eq_getElem hj, Option.getD_some]
  have : ∀ (l : List Nat) (h : j < l.length) (h' : j < (l.map UInt8.ofNat).toArray.size), (l.map UInt8.ofNat).toArray[j] = UInt8.ofNat l[j] := fun l h h' => by simp
  exact this ws hj _
theorem txt_beq {a b : List Nat} (ha : ∀ x ∈ a, x < 256) (hb : ∀ x ∈ b, x < 256) : ((txt a).toList == (txt b).toList) = decide (a = b) := by
  have e : ∀ w : List Nat, (txt w).toList = w.map UInt8.ofNat := fun w => by
    rw [ByteArray.toList_eq] <;> simp [txt]
  by_cases h : a = b
  · subst h; simp
  · rw [decide_eq_false h]
    rw [e, e, beq_eq_false_iff_ne]
    intro hc
    exact h (txt_inj ha hb (by unfold txt; rw [hc]))
theorem txt_extract (ws : List Nat) (lo hi : Nat) : (txt ws).extract lo hi = txt ((ws.take hi).drop lo) := by
  apply ByteArray.ext
  simp [txt, ByteArray.data_extract, List.map_take, List.map_drop, List.extract_eq_take_drop, List.drop_take]
section
variable {P : Program} {R : Mem} {l : Env} {d : Option Nat} {ty s t t' e : TypeId} {pos : String} {af : Array Edge} {g : Option (Nat × Bool)} {x y z : Operand} {v : Value} {n a b : Nat} {k k' : IntKind} {i i' : Int} {S S' : ByteArray} {ws ws' : List Nat}
theorem q_sLen (hx : ev l x = some (.string S)) (hS : S = txt ws) (hu : P.underlying t = some .string) : OpQ P R ⟨d, .call { callee := .builtin .len, args := #[x], argTypes := #[t] }, ty, pos, af, g⟩ l (.int .i64 ((ws.length : Nat) : Int)) := by
  have := q_lenStr (P := P) (R := R) (d := d) (ty := ty) (pos := pos) (af := af) (g := g) hx hu
  rwa [hS, txt_size'] at this
theorem q_sAt (hx : ev l x = some (.string S)) (hS : S = txt ws) (h256 : ∀ x ∈ ws, x < 256) (hy : ev l y = some (.int k i)) (hu : P.underlying t = some .string) (hi : i = (a : Int)) (ha : a < ws.length) :
    OpQ P R ⟨d, .index t x y, ty, pos, af, g⟩ l (.int .u8 ((ws.getD a 0 : Nat) : Int)) := fun N A w hA hw => by
  subst hi; subst hS
  have h1 := getD_lt (i := a) h256 (by decide)
  simp only [execOp, hA.ev hx, hA.ev hy, Instr.index, asIntOf, Sem.run_bind, Sem.run_pure, run_underlying hu, Result.andThen_ok, Int.toNat_natCast, txt_get h256 ha, if_pos (Int.natCast_nonneg a)]
  have : (UInt8.ofNat (ws.getD a 0)).toNat = ws.getD a 0 := by
    generalize ws.getD a 0 = c at h1
    simp; omega
  simp only [this, Sem.run_pure]
theorem q_sSl {lo hi : Option Operand} {nl nh : Option Nat} (hx : ev l x = some (.string S)) (hS : S = txt ws) (hu : P.underlying t = some .string) (h1 : EvO l lo nl) (h2 : EvO l hi nh) (hh : nh.getD ws.length ≤ ws.length) (hl : nl.getD 0 ≤ nh.getD ws.length) :
    OpQ P R ⟨d, .slice t x lo hi none, ty, pos, af, g⟩ l (.string (txt ((ws.take (nh.getD ws.length)).drop (nl.getD 0)))) := fun N A w hA hw => by
  subst hS
  have hb := sliceBounds_run (P := P) (lo := lo) (hi := hi) (mx := none) hA h1 h2 o0 false ws.length ws.length w (by simp) (by simpa using hh) (by simpa using hl) (by simp)
  simp only [Option.map_none] at hb
  simp only [execOp, hA.ev hx, Instr.sliceAt, Sem.run_bind, run_underlying hu, Result.andThen_ok, Instr.slice, Option.map_none, Option.isSome_none, Bool.false_eq_true, if_false, txt_size', hb]
  simp [txt_extract]
theorem q_sHi (hx : ev l x = some (.string S)) (hS : S = txt ws) (hy : ev l y = some (.int k i)) (hu : P.underlying t = some .string) (hi : i = (a : Int)) (h : a ≤ ws.length) : OpQ P R ⟨d, .slice t x none (some y) none, ty, pos, af, g⟩ l (.string (txt (ws.take a))) := by
  have := q_sSl (P := P) (R := R) (d := d) (ty := ty) (pos := pos) (af := af) (g := g) hx hS hu o0 (o1 a hy hi) (by simpa using h) (by simp)
  simpa using this
theorem q_sLo (hx : ev l x = some (.string S)) (hS : S = txt ws) (hy : ev l y = some (.int k i)) (hu : P.underlying t = some .string) (hi : i = (a : Int)) (h : a ≤ ws.length) : OpQ P R ⟨d, .slice t x (some y) none none, ty, pos, af, g⟩ l (.string (txt (ws.drop a))) := by
  have := q_sSl (P := P) (R := R) (d := d) (ty := ty) (pos := pos) (af := af) (g := g) hx hS hu (o1 a hy hi) o0 (by simp) (by simpa using h)
  simpa using this
theorem q_sLH (hx : ev l x = some (.string S)) (hS : S = txt ws) (hy : ev l y = some (.int k i)) (hz : ev l z = some (.int k' i')) (hu : P.underlying t = some .string) (hi : i = (a : Int)) (hi' : i' = (b : Int)) (hab : a ≤ b) (h : b ≤ ws.length) : OpQ P R ⟨d, .slice t x (some y) (some z) none, ty, pos, af, g⟩ l (.string (txt ((ws.take b).drop a))) := by
  have := q_sSl (P := P) (R := R) (d := d) (ty := ty) (pos := pos) (af := af) (g := g) hx hS hu (o1 a hy hi) (o1 b hz hi') (by simpa using h) (by simpa using hab)
  simpa using this
theorem q_sAdd (hx : ev l x = some (.string S)) (hy : ev l y = some (.string S')) (hS : S = txt ws) (hS' : S' = txt ws') (h : ws.length + ws'.length ≤ 9223372036854775807) : OpQ P R ⟨d, .binOp .add t x y t', ty, pos, af, g⟩ l (.string (txt (ws ++ ws'))) := by
  subst hS; subst hS'
  have := q_strAdd (P := P) (R := R) (d := d) (ty := ty) (pos := pos) (af := af) (g := g) (t := t) (t' := t') hx hy (by rw [txt_size', txt_size']; exact h)
  rwa [txt_append] at this
theorem q_sEq (hx : ev l x = some (.string S)) (hy : ev l y = some (.string S')) (hS : S = txt ws) (hS' : S' = txt ws') (h : ∀ x ∈ ws, x < 256) (h' : ∀ x ∈ ws', x < 256) : OpQ P R ⟨d, .binOp .eql t x y t', ty, pos, af, g⟩ l (.bool (decide (ws = ws'))) := by
  subst hS; subst hS'
  have := q_strEq (P := P) (R := R) (d := d) (ty := ty) (pos := pos) (af := af) (g := g) (t := t) (t' := t') hx hy
  rwa [txt_beq h h'] at this
theorem q_sNe (hx : ev l x = some (.string S)) (hy : ev l y = some (.string S')) (hS : S = txt ws) (hS' : S' = txt ws') (h : ∀ x ∈ ws, x < 256) (h' : ∀ x ∈ ws', x < 256) : OpQ P R ⟨d, .binOp .neq t x y t', ty, pos, af, g⟩ l (.bool !(decide (ws = ws'))) := by
  subst hS; subst hS'
  have := q_strNe (P := P) (R := R) (d := d) (ty := ty) (pos := pos) (af := af) (g := g) (t := t) (t' := t') hx hy
  rwa [txt_beq h h'] at this
end
/-! ### Bytes that are below 256, found by themselves -/
class B256 (ws : List Nat) : Prop where
  lt : ∀ x ∈ ws, x < 256
instance B256.nil : B256 [] := ⟨fun _ h => by cases h⟩
instance B256.app {a b : List Nat} [ha : B256 a] [hb : B256 b] : B256 (a ++ b) := ⟨fun x h => (List.mem_append.1 h).elim (ha.lt x) (hb.lt x)⟩
instance B256.take {a : List Nat} {n : Nat} [ha : B256 a] : B256 (a.take n) := ⟨fun x h => ha.lt x (List.mem_of_mem_take h)⟩
instance B256.drop {a : List Nat} {n : Nat} [ha : B256 a] : B256 (a.drop n) := ⟨fun x h => ha.lt x (List.mem_of_mem_drop h)⟩
theorem B256.cons {x : Nat} {a : List Nat} (hx : x < 256) (ha : B256 a) : B256 (x :: a) := ⟨fun y h => (List.mem_cons.1 h).elim (fun h => h ▸ hx) (ha.lt y)⟩
/-! ### Interfaces and slices against nil -/
def isNil : Value → Bool
  | .slice none _ _ => true
  | _ => false
section
variable {P : Program} {R R' : Mem} {l : Env} {d : Option Nat} {ty t t' e : TypeId} {pos : String} {af : Array Edge} {g : Option (Nat × Bool)} {x y : Operand} {v : Value} {n sz : Nat} {xs : List Value} {ms : Array (String × TypeId)}
def isIf (P : Program) (t : TypeId) : Bool :=
  match P.underlying t with
  | some (.interface _) => true
  | _ => false
theorem isIf_spec (h : isIf P t = true) : ∃ ms, P.underlying t = some (.interface ms) := by
  unfold isIf at h
  split at h
  · exact ⟨_, by assumption⟩
  · cases h
theorem run_ifNil (w : World) (h : P.underlying t = some (.interface ms)) : (Op.equal t .nilIface .nilIface).run P w = .ok true w := by
  show (Op.equalIn (9999 + 1) t .nilIface .nilIface).run P w = .ok true w
  rw [Op.equalIn]; simp [run_underlying h]
theorem run_ifSome (w : World) {u : TypeId} {z : Value} (h : P.underlying t = some (.interface ms)) : (Op.equal t (.iface u z) .nilIface).run P w = .ok false w := by
  show (Op.equalIn (9999 + 1) t (.iface u z) .nilIface).run P w = .ok false w
  rw [Op.equalIn]; simp [run_underlying h]
theorem q_ifNe0 (hx : ev l x = some .nilIface) (hi : isIf P t = true) : OpQ P R ⟨d, .binOp .neq t x (.const .nilIface) t', ty, pos, af, g⟩ l (.bool false) := fun N a w ha hw => by
  obtain ⟨ms, hu⟩ := isIf_spec hi
  have hy : a.eval (.const .nilIface) = .nilIface := rfl
  simp only [execOp, ha.ev hx, hy, Sem.run_bind]
  simp [eqGuard, binOp, run_ifNil w hu]
theorem q_ifNe1 {u : TypeId} {z : Value} (hx : ev l x = some (.iface u z)) (hi : isIf P t = true) : OpQ P R ⟨d, .binOp .neq t x (.const .nilIface) t', ty, pos, af, g⟩ l (.bool true) := fun N a w ha hw => by
  obtain ⟨ms, hu⟩ := isIf_spec hi
  have hy : a.eval (.const .nilIface) = .nilIface := rfl
  simp only [execOp, ha.ev hx, hy, Sem.run_bind]
  simp [eqGuard, binOp, run_ifSome w hu]
theorem Rd.isNil {R : Mem} (h : Rd R sz v n xs) (hn : Px.isNil v = true) : n = 0 := by
  obtain ⟨p, c, rfl, _, _, h4⟩ := h
  rcases h4 with h4 | ⟨b, o, cs, e', fr, rfl, _⟩
  · exact h4
  · cases hn
theorem q_slEqNil (hx : ev l x = some v) (hu : P.underlying t = some (.slice e)) (h : Rd R' sz v n xs) : OpQ P R ⟨d, .binOp .eql t x (.const (.slice none 0 0)) t', ty, pos, af, g⟩ l (.bool (isNil v)) := fun N a w ha hw => by
  have hy : a.eval (.const (.slice none 0 0)) = .slice none 0 0 := rfl
  obtain ⟨p, c, rfl, _⟩ := h
  simp only [execOp, ha.ev hx, hy, Sem.run_bind]
  have : (Op.equal t (.slice p n c) (.slice none 0 0)).run P w = .ok p.isNone w := by
    show (Op.equalIn (9999 + 1) t (.slice p n c) (.slice none 0 0)).run P w = .ok p.isNone w
    rw [Op.equalIn]
    cases p <;> simp [run_underlying hu]
  simp [eqGuard, binOp, this]
  cases p <;> rfl
end
section
variable {C : Cx} {l : Env} {M J : Mem} {K : Env → Mem → Mem → Prop} {d : Nat} {s t e ty : TypeId} {pos : String} {af : Array Edge} {g : Option (Nat × Bool)} {x y : Operand} {ws : List Nat} {S : ByteArray}
/-- '[]byte(s)', to be read alone. -/
theorem l_toBytes (hx : ev l x = some (.string S)) (hS : S = txt ws) (h256 : ∀ x ∈ ws, x < 256) (hs : C.P.underlying s = some .string) (ht : C.P.underlying t = some (.slice e)) (he : C.P.underlying e = some (.int .u8)) (hd : Nat.blt d C.N = true)
    (k : ∀ v B, Rd B 1 v ws.length (nums .u8 ws) → K ((d, v) :: l) (B ++ M) J) : OpL C ⟨some d, .convert s t x, ty, pos, af, g⟩ l M J K := by
  subst hS
  intro Qp a w ha hw
  unfold Oper.wp
  simp only [execOp, ha.ev hx, Sem.run_bind, Lib.run_convert_string_bytes w s t e (txt ws) hs ht he, Result.andThen_ok, Sem.run_pure]
  have hsz : (txt ws).size = ws.length := txt_size' ws
  have e1 : Lib.bytesWorld w e (txt ws) = w.drew.alloc (.cells (Lib.bytesCells w e (txt ws)) e ((Lib.bytesCells w e (txt ws)).size, (Lib.bytesCells w e (txt ws)).size + 1)) := by
    have hh : (Lib.bytesWorld w e (txt ws)).heap = (w.drew.alloc (.cells (Lib.bytesCells w e (txt ws)) e ((Lib.bytesCells w e (txt ws)).size, (Lib.bytesCells w e (txt ws)).size + 1))).heap := by
      apply Array.ext_getElem?
      intro i
      rcases Nat.lt_trichotomy i w.heap.size with h | h | h
      · rw [Lib.bytesWorld_at_old w e _ i h]; simp [World.alloc, World.drew, Array.getElem?_push, -World.alloc_eq, -World.drew_eq]; omega
      · subst h; rw [Lib.bytesWorld_at_new]; simp [World.alloc, World.drew, -World.alloc_eq, -World.drew_eq]
      · rw [Array.getElem?_eq_none (by rw [Lib.bytesWorld_size]; omega), Array.getElem?_eq_none (by simp [World.alloc, World.drew, -World.alloc_eq, -World.drew_eq]; omega)]
    have : Lib.bytesWorld w e (txt ws) = { w.drew with heap := (Lib.bytesWorld w e (txt ws)).heap } := rfl
    rw [this, hh]; rfl
  rw [e1]
  have hg : ws.length ≤ grownCap w (txt ws).size 0 e := hsz ▸ grownCap_ge w (txt ws).size 0 e
  refine ⟨_, _, J, ha.put (blt_lt hd) _, hw.drew.alloc _, k _ [(_, _)] ⟨some ⟨w.heap.size, 0, none⟩, grownCap w (txt ws).size 0 e, by rw [hsz], by simp, hg, .inr ⟨w.heap.size, 0, (Lib.bytesCells w e (txt ws)).toList, e, _, rfl, List.mem_singleton.2 rfl, fun j u hj => ?_⟩⟩⟩
  have hjl : j < ws.length := by have := (List.getElem?_eq_some_iff.1 hj).1; simpa using this
  rw [nums_get hjl] at hj
  cases hj
  have h1 := getD_lt (i := j) h256 (by decide)
  rw [Nat.zero_add, Array.getElem?_toList]
  unfold Lib.bytesCells
  rw [Array.getElem?_append_left (by simpa [txt] using hjl)]
  simp [txt, hjl, List.getD]
  have : ws[j]?.getD 0 < 256 := h1
  rw [List.getElem?_eq_getElem hjl] at this
  simp at this
  omega
end
end Go.Px

/-
  Numbers as decimal texts, and names made of them. No program in sight.
-/
set_option linter.unusedVariables false
set_option linter.unusedSimpArgs false
namespace Go.Px
/-- How many digits a number has. -/
def ndF : Nat → Nat → Nat
  | 0, _ => 1
  | f + 1, u => if u < 10 then 1 else ndF f (u / 10) + 1
def nd10 (u : Nat) : Nat := ndF 64 u
/-- So many digits of a number, the highest first. -/
def dgs (n u : Nat) : List Nat := (List.range n).map fun j => 48 + u / 10 ^ (n - 1 - j) % 10
def dec (u : Nat) : List Nat := dgs (nd10 u) u
/-- What digits are as a number. -/
def dv (l : List Nat) : Nat := l.foldl (fun a c => a * 10 + (c - 48)) 0
theorem ndF_pos : ∀ f u, 1 ≤ ndF f u
  | 0, _ => Nat.le_refl _
  | f + 1, u => by unfold ndF; split <;> omega
theorem ndF_lt : ∀ f u, u < 10 ^ (f + 1) → u < 10 ^ ndF f u
  | 0, u, h => by simpa [ndF] using h
  | f + 1, u, h => by
    unfold ndF
    split
    · simpa using by assumption
    · have h1 : u / 10 < 10 ^ (f + 1) := Nat.div_lt_of_lt_mul (by rw [← Nat.pow_succ']; exact h)
      have := ndF_lt f (u / 10) h1
      rw [Nat.pow_succ]
      omega
theorem ndF_ge : ∀ f u, 10 ≤ u → 10 ^ (ndF f u - 1) ≤ u
  | 0, u, h => by simp [ndF]; omega
  | f + 1, u, h => by
    unfold ndF
    rw [if_neg (by omega), Nat.add_sub_cancel]
    by_cases h2 : 10 ≤ u / 10
    · have h3 := ndF_ge f (u / 10) h2
      have h4 := ndF_pos f (u / 10)
      rw [show ndF f (u / 10) = (ndF f (u / 10) - 1) + 1 by omega, Nat.pow_succ]
      omega
    · have : ndF f (u / 10) = 1 := by
        cases f with
        | zero => rfl
        | succ f => unfold ndF; rw [if_pos (by omega)]
      rw [this]; simpa using h
theorem nd10_uniq {u n : Nat} (hn : 0 < n) (h : u < 10 ^ n) (h2 : n = 1 ∨ 10 ^ (n - 1) ≤ u) (hu : u < 18446744073709551616) : nd10 u = n := by
  have h1 : u < 10 ^ nd10 u := ndF_lt 64 u (Nat.lt_trans hu (by decide))
  have h0 : 1 ≤ nd10 u := ndF_pos 64 u
  by_cases h10 : 10 ≤ u
  · have h3 : 10 ^ (nd10 u - 1) ≤ u := ndF_ge 64 u h10
    have h4 : 10 ^ (n - 1) ≤ u := by
      rcases h2 with rfl | h2
      · simp; omega
      · exact h2
    have a : nd10 u - 1 < n := (Nat.pow_lt_pow_iff_right (by decide : 1 < 10)).1 (Nat.lt_of_le_of_lt h3 h)
    have b : n - 1 < nd10 u := (Nat.pow_lt_pow_iff_right (by decide : 1 < 10)).1 (Nat.lt_of_le_of_lt h4 h1)
    omega
  · have hd : nd10 u = 1 := by unfold nd10 ndF; rw [if_pos (by omega)]
    rcases h2 with rfl | h2
    · exact hd
    · have : 10 ^ (n - 1) < 10 ^ 1 := by omega
      have := (Nat.pow_lt_pow_iff_right (by decide : 1 < 10)).1 this
      omega
theorem nd10_le {u : Nat} (hu : u < 18446744073709551616) : nd10 u ≤ 20 := by
  by_cases h10 : 10 ≤ u
  · have h3 : 10 ^ (nd10 u - 1) ≤ u := ndF_ge 64 u h10
    have : 10 ^ (nd10 u - 1) < 10 ^ 20 := Nat.lt_of_le_of_lt h3 (Nat.lt_trans hu (by decide))
    have := (Nat.pow_lt_pow_iff_right (by decide : 1 < 10)).1 this
    omega
  · have hd : nd10 u = 1 := by unfold nd10 ndF; rw [if_pos (by omega)]
    omega
theorem dgs_len (n u : Nat) : (dgs n u).length = n := by simp [dgs]
theorem dgs_mem {n u c : Nat} (h : c ∈ dgs n u) : 48 ≤ c ∧ c < 58 := by
  simp only [dgs, List.mem_map] at h
  obtain ⟨j, _, rfl⟩ := h
  omega
theorem dgs_succ (n u : Nat) : dgs (n + 1) u = dgs n (u / 10) ++ [48 + u % 10] := by
  unfold dgs
  rw [List.range_succ, List.map_append]
  congr 1
  · apply List.map_congr_left
    intro j hj
    have := List.mem_range.1 hj
    rw [Nat.div_div_eq_div_mul, ← Nat.pow_succ']
    congr 4; omega
  · simp
theorem dv_app (l : List Nat) (c : Nat) : dv (l ++ [c]) = dv l * 10 + (c - 48) := by simp [dv]
theorem dv_dgs : ∀ n u, dv (dgs n u) = u % 10 ^ n
  | 0, u => by simp [dgs, dv, Nat.mod_one]
  | n + 1, u => by
    rw [dgs_succ, dv_app, dv_dgs n, Nat.pow_succ', Nat.mod_mul]
    omega
theorem dv_dec {u : Nat} (hu : u < 18446744073709551616) : dv (dec u) = u := by
  unfold dec nd10
  rw [dv_dgs, Nat.mod_eq_of_lt (ndF_lt 64 u (Nat.lt_trans hu (by decide)))]
theorem dec_mem {u c : Nat} (h : c ∈ dec u) : 48 ≤ c ∧ c < 58 := dgs_mem h
theorem dec_len (u : Nat) : (dec u).length = nd10 u := dgs_len _ _
/-- A whole number's text. -/
def decI (i : Int) : List Nat := if i < 0 then 45 :: dec i.natAbs else dec i.natAbs
theorem decI_mem {i : Int} {c : Nat} (h : c ∈ decI i) : c = 45 ∨ (48 ≤ c ∧ c < 58) := by
  unfold decI at h
  split at h
  · rcases List.mem_cons.1 h with h | h
    · exact .inl h
    · exact .inr (dec_mem h)
  · exact .inr (dec_mem h)
theorem dec_ne (u : Nat) : dec u ≠ [] := by
  intro h
  have := congrArg List.length h
  rw [dec_len] at this
  have := ndF_pos 64 u
  unfold nd10 at *
  simp at *; omega
theorem decI_inj {i j : Int} (hi : i.natAbs < 18446744073709551616) (hj : j.natAbs < 18446744073709551616) (h : decI i = decI j) : i = j := by
  have head : ∀ (u : Nat) (l : List Nat), dec u ≠ 45 :: l := by
    intro u l e
    have : 45 ∈ dec u := by rw [e]; exact List.mem_cons_self
    have := dec_mem this; omega
  unfold decI at h
  split at h <;> split at h
  · have := congrArg dv (List.cons.inj h).2
    rw [dv_dec hi, dv_dec hj] at this; omega
  · exact absurd h.symm (head _ _)
  · exact absurd h (head _ _)
  · have := congrArg dv h
    rw [dv_dec hi, dv_dec hj] at this; omega
theorem decI_len {i : Int} (h : i.natAbs < 18446744073709551616) : (decI i).length ≤ 21 := by
  have := nd10_le h
  unfold decI
  split <;> simp [dec_len] <;> omega
/-! ### Names -/
def sepd (f : List Nat) (fs : List (List Nat)) : List Nat := f ++ fs.flatMap (fun x => 32 :: x)
theorem span_eq {c : Nat} : ∀ {a b x y : List Nat}, c ∉ a → c ∉ b → a ++ c :: x = b ++ c :: y → a = b ∧ x = y
  | [], [], x, y, _, _, h => ⟨rfl, (List.cons.inj h).2⟩
  | [], b :: bs, x, y, _, hb, h => by
    have := (List.cons.inj h).1
    exact absurd (this ▸ List.mem_cons_self) hb
  | a :: as_, [], x, y, ha, _, h => by
    have := (List.cons.inj h).1
    exact absurd (this ▸ List.mem_cons_self) ha
  | a :: as_, b :: bs, x, y, ha, hb, h => by
    obtain ⟨h1, h2⟩ := List.cons.inj h
    obtain ⟨h3, h4⟩ := span_eq (fun h => ha (List.mem_cons_of_mem _ h)) (fun h => hb (List.mem_cons_of_mem _ h)) h2
    exact ⟨by rw [h1, h3], h4⟩
theorem sepd_inj : ∀ {fs gs : List (List Nat)} {f g : List Nat}, 32 ∉ f → 32 ∉ g → (∀ x ∈ fs, 32 ∉ x) → (∀ x ∈ gs, 32 ∉ x) → sepd f fs = sepd g gs → f = g ∧ fs = gs
  | [], [], f, g, _, _, _, _, h => ⟨by simpa [sepd] using h, rfl⟩
  | [], y :: gs, f, g, hf, hg, _, _, h => by
    have : 32 ∈ f := by
      have e : f = g ++ 32 :: (y ++ gs.flatMap fun x => 32 :: x) := by simpa [sepd] using h
      rw [e]; simp
    exact absurd this hf
  | y :: fs, [], f, g, hf, hg, _, _, h => by
    have : 32 ∈ g := by
      have e : f ++ 32 :: (y ++ fs.flatMap fun x => 32 :: x) = g := by simpa [sepd] using h
      rw [← e]; simp
    exact absurd this hg
  | y :: fs, z :: gs, f, g, hf, hg, h1, h2, h => by
    have e : f ++ 32 :: sepd y fs = g ++ 32 :: sepd z gs := by simpa [sepd] using h
    obtain ⟨a, b⟩ := span_eq hf hg e
    obtain ⟨c, d⟩ := sepd_inj (h1 y (by simp)) (h2 z (by simp)) (fun x hx => h1 x (by simp [hx])) (fun x hx => h2 x (by simp [hx])) b
    exact ⟨a, by rw [c, d]⟩
/-- A term: its kind, those it is made of, its text, its number. -/
structure Tm where
  kind : Nat
  of : List Int
  text : List Nat
  n : Int
def Tm.nm (t : Tm) : List Nat := sepd (dec t.kind) (decI t.n :: t.of.map decI) ++ 58 :: t.text
/-- What a term that came out of Go is. -/
structure Tm.ok (t : Tm) : Prop where
  kind : t.kind < 256
  n : t.n.natAbs < 18446744073709551616
  of : ∀ i ∈ t.of, i.natAbs < 18446744073709551616
  text : ∀ c ∈ t.text, c < 256
theorem not_mem_decI {i : Int} {c : Nat} (h : c = 32 ∨ c = 58) : c ∉ decI i := fun hc => by have := decI_mem hc; omega
theorem not_mem_dec {u c : Nat} (h : c = 32 ∨ c = 58) : c ∉ dec u := fun hc => by have := dec_mem hc; omega
theorem Tm.nm_inj {s t : Tm} (hs : s.ok) (ht : t.ok) (h : s.nm = t.nm) : s = t := by
  have no58 : ∀ (u : Tm), 58 ∉ sepd (dec u.kind) (decI u.n :: u.of.map decI) := by
    intro u hc
    simp only [sepd, List.mem_append, List.mem_flatMap, List.mem_cons, List.mem_map] at hc
    rcases hc with hc | ⟨x, hx, hc⟩
    · exact not_mem_dec (.inr rfl) hc
    · rcases hc with hc | hc
      · omega
      · rcases hx with rfl | ⟨i, _, rfl⟩
        · exact not_mem_decI (.inr rfl) hc
        · exact not_mem_decI (.inr rfl) hc
  have no32 : ∀ (u : Tm), ∀ x ∈ decI u.n :: u.of.map decI, 32 ∉ x := by
    intro u x hx
    rcases List.mem_cons.1 hx with rfl | hx
    · exact not_mem_decI (.inl rfl)
    · obtain ⟨i, _, rfl⟩ := List.mem_map.1 hx
      exact not_mem_decI (.inl rfl)
  obtain ⟨h1, h2⟩ := span_eq (no58 s) (no58 t) h
  obtain ⟨h3, h4⟩ := sepd_inj (not_mem_dec (.inl rfl)) (not_mem_dec (.inl rfl)) (no32 s) (no32 t) h1
  obtain ⟨h5, h6⟩ := List.cons.inj h4
  have e1 : s.kind = t.kind := by
    have := congrArg dv h3
    have a := hs.kind
    have b := ht.kind
    rwa [dv_dec (by omega), dv_dec (by omega)] at this
  have e2 := decI_inj hs.n ht.n h5
  have e3 : s.of = t.of := by
    have a := hs.of
    have b := ht.of
    generalize s.of = l at h6 a
    generalize t.of = m at h6 b
    clear h4 h1 h h3 h5 h2
    induction l generalizing m with
    | nil => cases m with
      | nil => rfl
      | cons y m => simp at h6
    | cons x l ih =>
      cases m with
      | nil => simp at h6
      | cons y m =>
        simp only [List.map_cons, List.cons.injEq] at h6
        rw [decI_inj (a x (by simp)) (b y (by simp)) h6.1, ih (fun i hi => a i (by simp [hi])) m h6.2 (fun i hi => b i (by simp [hi]))]
  cases s; cases t
  simp_all
end Go.Px

/-
  Groups of operations of a drawn region that come up in any order; each makes new blocks alone, which stay owned behind it.
-/
set_option linter.unusedVariables false
set_option linter.unusedSimpArgs false
namespace Go.Px
structure Gw where
  i : Nat
  d : Nat
  φ : Value → Mem → Mem → Prop
def gEnvO (G : List Gw) (vs : Nat → Value) : Env := G.map fun g => (g.d, vs g.i)
def GrowsO (φ : Value → Mem → Mem → Prop) : Prop := ∀ v B R R', (∀ x ∈ R, x ∈ R') → φ v B R → φ v B R'
def toG (G : List Gw) : List Gm := G.map fun g => ⟨g.i, g.d, fun _ _ => True⟩
theorem toG_i (G : List Gw) : (toG G).map (·.i) = G.map (·.i) := by simp [toG]
theorem toG_d (G : List Gw) : (toG G).map (·.d) = G.map (·.d) := by simp [toG]
theorem toG_env (G : List Gw) (vs : Nat → Value) : gEnv (toG G) vs = gEnvO G vs := by simp [gEnv, gEnvO, toG]
theorem gw_inj {G : List Gw} (h : (G.map (·.i)).Nodup) {g g' : Gw} (hg : g ∈ G) (hg' : g' ∈ G) (e : g.i = g'.i) : g = g' := by
  induction G with
  | nil => cases hg
  | cons x G ih =>
    simp only [List.map_cons, List.nodup_cons] at h
    rcases List.mem_cons.1 hg with h1 | h1 <;> rcases List.mem_cons.1 hg' with h2 | h2
    · rw [h1, h2]
    · exact absurd (by rw [← h1, e]; exact List.mem_map_of_mem (f := Gw.i) h2) h.1
    · exact absurd (by rw [← h2, ← e]; exact List.mem_map_of_mem (f := Gw.i) h1) h.1
    · exact ih h.2 h1 h2
theorem perm_of_nodup {X : List Nat} : ∀ {Y : List Nat}, X.Nodup → Y.Nodup → (∀ x, x ∈ X ↔ x ∈ Y) → X.Perm Y := by
  induction X with
  | nil =>
    intro Y _ _ h
    cases Y with
    | nil => exact .refl _
    | cons y Y => exact absurd ((h y).2 List.mem_cons_self) (by simp)
  | cons x X ih =>
    intro Y hX hY h
    simp only [List.nodup_cons] at hX
    have hx : x ∈ Y := (h x).1 List.mem_cons_self
    refine List.Perm.trans (List.Perm.cons x (ih hX.2 (hY.erase x) fun z => ?_)) (List.perm_cons_erase hx).symm
    constructor
    · intro hz
      exact (List.mem_erase_of_ne (fun e : z = x => hX.1 (by rw [← e]; exact hz))).2 ((h z).1 (List.mem_cons_of_mem _ hz))
    · intro hz
      have hne : z ≠ x := fun e => by rw [e] at hz; exact (List.Nodup.not_mem_erase hY) hz
      rcases List.mem_cons.1 ((h z).2 (List.mem_of_mem_erase hz)) with e | hm
      · exact absurd e hne
      · exact hm
section group
variable {C : Cx} {Q : XQ} {l : Env} {M J : Mem} {os : List Oper} {K : Nat → Prop} {n0 : Nat} {nd : List Nat} {plan : List (Nat × Nat)}
def ownOf (X : List Nat) (bs : Nat → Mem) : Mem := (X.map bs).flatten
def OwesO (C : Cx) (os : List Oper) (l : Env) (M J : Mem) (G : List Gw) (g : Gw) : Prop :=
  ∃ o, nth os g.i = some o ∧ ∀ (vs : Nat → Value) (bs : Nat → Mem) (R : Mem) (w : World), (∀ x ∈ M ++ (J ++ C.A), x ∈ R) → (∀ g' ∈ G, anc os.toArray os.toArray.size g.i g'.i = true → g'.φ (vs g'.i) (bs g'.i) R) →
    Asked os (gEnvO G vs ++ l) o ∧ OpL ⟨C.P, w, [], R, C.N⟩ o (gEnvO G vs ++ l) [] [] (fun l' M' J' => ∃ v, l' = (g.d, v) :: (gEnvO G vs ++ l) ∧ g.φ v M' (M' ++ (J' ++ R)))
theorem groupO_go {G : List Gw} (hmono : ∀ g ∈ G, GrowsO g.φ) (hd : (G.map (·.d)).Nodup) (hi : (G.map (·.i)).Nodup) (hob : ∀ g ∈ G, OwesO C os l M J G g) {A B : Array Bool} (hok : GOk os.toArray A (G.map (·.i)) B)
    (hfin : ∀ (vs : Nat → Value) (bs : Nat → Mem) Jn a w, (∀ g ∈ G, g.φ (vs g.i) (bs g.i) ((ownOf (G.map (·.i)) bs ++ M) ++ ((Jn ++ J) ++ C.A))) → Ag C.N (gEnvO G vs ++ l) a → St C (ownOf (G.map (·.i)) bs ++ M) (Jn ++ J) w → n0 ≤ w.heap.size → wpAnyS C.P os.toArray (noPanicX (lift C Q)) (Sk K) nd.contains plan.length B a w) :
    ∀ (n : Nat) (X : List Nat) (vs : Nat → Value) (bs : Nat → Mem) (Jn : Mem) (a : Act) (w : World), X.Nodup → (∀ i ∈ X, i ∈ G.map (·.i)) → n + X.length = G.length → Closed os.toArray (mark A X) →
      (∀ g ∈ G, g.i ∈ X → g.φ (vs g.i) (bs g.i) ((ownOf X bs ++ M) ++ ((Jn ++ J) ++ C.A))) → Ag C.N (gEnvO G vs ++ l) a → St C (ownOf X bs ++ M) (Jn ++ J) w → n0 ≤ w.heap.size →
      wpAnyS C.P os.toArray (noPanicX (lift C Q)) (Sk K) nd.contains (n + plan.length) (mark A X) a w := by
  intro n
  induction n with
  | zero =>
    intro X vs bs Jn a w hnd hX hlen hcl hφ ha hw hn
    have hall : ∀ i, i ∈ X ↔ i ∈ G.map (·.i) := fun i => ⟨hX i, nodup_all hnd hX (by simp; omega) i⟩
    have hperm : (ownOf X bs ++ M).Perm (ownOf (G.map (·.i)) bs ++ M) := List.Perm.append_right _ (List.Perm.flatten ((perm_of_nodup hnd hi hall).map bs))
    rw [Nat.zero_add, mark_eq hall, ← hok.mark]
    refine hfin vs bs Jn a w (fun g hg => hmono g hg _ _ _ _ (fun x hx => ?_) (hφ g hg ((hall _).2 (List.mem_map_of_mem (f := Gw.i) hg)))) ha (hw.perm hperm) hn
    rcases List.mem_append.1 hx with h | h
    · exact List.mem_append_left _ (hperm.mem_iff.1 h)
    · exact List.mem_append_right _ h
  | succ n ih =>
    intro X vs bs Jn a w hnd hX hlen hcl hφ ha hw hn
    have hmiss : ∃ k ∈ G.map (·.i), k ∉ X := by
      apply Classical.byContradiction
      intro hno
      have hs : ∀ k ∈ G.map (·.i), k ∈ X := fun k hk => Classical.byContradiction fun h => hno ⟨k, hk, h⟩
      have := nodup_le hi hs
      simp at this; omega
    obtain ⟨k, hkG, hkX⟩ := hmiss
    have hun : ∀ i ∈ G.map (·.i), A.getD i true = false := by
      have : ∀ {is A B}, GOk os.toArray A is B → ∀ i ∈ is, A.getD i true = false := by
        intro is A B h
        induction h with
        | nil => intro i hi; cases hi
        | @cons A B i r hr ho h ih =>
          intro k hk
          rcases List.mem_cons.1 hk with rfl | hk
          · exact ready_un hr
          · have h2 := ih k hk
            by_cases e : i = k
            · subst e; exact ready_un hr
            · rwa [getD_set_ne true e] at h2
      exact this hok
    have hkun : (mark A X).getD k true = false := mark_getD_f.2 ⟨hun k hkG, fun h => hkX h.1⟩
    rw [show n + 1 + plan.length = (n + plan.length) + 1 by omega]
    refine ⟨fun h0 => ?_, fun i hir => ?_⟩
    · obtain ⟨i, hir⟩ := hok.first (mark_size A X) (fun j hj => mark_mono hj) hkG hkun
      rw [h0] at hir; cases hir
    · have hiG : i ∈ G.map (·.i) := by
        apply Classical.byContradiction
        intro hno
        have h1 := mark_getD_f.1 (ready_un hir)
        have h2 := hok.outer k hkG i (ready_lt hir) h1.1 hno
        exact not_both hkun (anc_ready hcl h2 hir)
      obtain ⟨g, hg, rfl⟩ := List.mem_map.1 hiG
      have hiX : g.i ∉ X := fun h => (mark_getD_f.1 (ready_un hir)).2 ⟨h, getD_f_lt (hun _ hiG)⟩
      obtain ⟨o, hget, howe⟩ := hob g hg
      have hi' : os.toArray[g.i]? = some o := by rw [nth_eq] at hget; simpa using hget
      obtain ⟨hask, hop⟩ := howe vs bs ((ownOf X bs ++ M) ++ ((Jn ++ J) ++ C.A)) w (fun x hx => by simp only [List.mem_append] at hx ⊢; rcases hx with h | h | h <;> simp [h]) (fun g' hg' hanc => hφ g' hg' (by
        have h3 := anc_ready hcl hanc hir
        rcases mark_getD_t h3 with h4 | h4
        · exact (not_both (hun _ (List.mem_map_of_mem (f := Gw.i) hg')) h4).elim
        · exact h4))
      unfold wpOp
      simp only [hi']
      rw [if_pos (hask.wanted ha)]
      have hcal := hw.callee (Mc := []) (R := ownOf X bs ++ M) (.refl _)
      refine .inl (Oper.wp_mono ?_ (hop _ a w ha hcal.cx))
      rintro a' w' ⟨l', M', J', ha', hs', v, rfl, hφv⟩
      have hsz : w.heap.size ≤ w'.heap.size := hs'.size
      have hb := hw.back (Mc := []) (R := ownOf X bs ++ M) (.refl _) hs'.cx
      let bs' : Nat → Mem := fun k => if k = g.i then M' else bs k
      have hown : ownOf (X ++ [g.i]) bs' = ownOf X bs ++ M' := by
        have e1 : X.map bs' = X.map bs := List.map_congr_left fun x hx => by
          have : x ≠ g.i := fun e => hiX (e ▸ hx)
          simp [bs', this]
        simp [ownOf, List.map_append, e1, bs']
      have hperm : (M' ++ (ownOf X bs ++ M)).Perm (ownOf (X ++ [g.i]) bs' ++ M) := by
        rw [hown, ← List.append_assoc]
        exact List.Perm.append_right _ List.perm_append_comm
      have hfr2 : St C (ownOf (X ++ [g.i]) bs' ++ M) ((J' ++ Jn) ++ J) w' := (hb.perm hperm).drop (List.Sublist.refl _) fun x hx => by
        simp only [List.mem_append] at hx ⊢
        rcases hx with (h | h) | h <;> simp [h]
      refine ⟨fun _ b hb' hnk => hs'.frame b hb' (by simp), ?_⟩
      rw [← mark_snoc]
      have henv := gEnv_set (N := C.N) (G := toG G) (l := l) (vs := vs) (g := ⟨g.i, g.d, fun _ _ => True⟩) (a := a') (v := v) (List.mem_map_of_mem (f := fun g : Gw => (⟨g.i, g.d, fun _ _ => True⟩ : Gm)) hg) (by rw [toG_d]; exact hd) (by rw [toG_i]; exact hi) (by rw [toG_env]; exact ha')
      rw [toG_env] at henv
      refine ih (X ++ [g.i]) (fun k => if k = g.i then v else vs k) bs' (J' ++ Jn) a' w' ?_ ?_ (by simp; omega) ?_ ?_ henv hfr2 (Nat.le_trans hn hsz)
      · rw [List.nodup_append]; exact ⟨hnd, by simp, fun x hx y hy e => hiX (by simp at hy; subst hy; exact e ▸ hx)⟩
      · intro j hj
        rcases List.mem_append.1 hj with hj | hj
        · exact hX j hj
        · simp at hj; subst hj; exact hiG
      · rw [mark_snoc]; exact closed_set hcl hir
      · intro g' hg' hm
        rw [hown]
        by_cases e : g'.i = g.i
        · have : g' = g := gw_inj hi hg' hg e
          subst this
          simp only [if_true, bs']
          exact hmono g' hg' _ _ _ _ (fun x hx => by simp only [List.mem_append] at hx ⊢; rcases hx with h | h | (h | h) | (h | h) | h <;> simp [h]) hφv
        · simp only [e, if_false, bs']
          have hm' : g'.i ∈ X := by simpa [e] using hm
          exact hmono g' hg' _ _ _ _ (fun x hx => by simp only [List.mem_append] at hx ⊢; rcases hx with (h | h) | (h | h) | h <;> simp [h]) (hφ g' hg' hm')
theorem XK.groupO (G : List Gw) (hmono : ∀ g ∈ G, GrowsO g.φ) (hd : (G.map (·.d)).Nodup) (hi : (G.map (·.i)).Nodup) (hdN : ∀ g ∈ G, g.d < C.N) (hob : ∀ g ∈ G, OwesO C os l M J G g)
    (h : ∀ (vs : Nat → Value) (bs : Nat → Mem) Jn, (∀ g ∈ G, g.φ (vs g.i) (bs g.i) ((ownOf (G.map (·.i)) bs ++ M) ++ ((Jn ++ J) ++ C.A))) → XK C os Q K n0 nd plan (gEnvO G vs ++ l) (ownOf (G.map (·.i)) bs ++ M) (Jn ++ J)) : XK C os Q K n0 nd (enc (G.map (·.i)) ++ plan) l M J := by
  intro listed hcl hp a w ha hw hn
  obtain ⟨B, hok, hp2⟩ := enc_ok hp
  have hBcl : Closed os.toArray B := by
    have : ∀ {A is B}, GOk os.toArray A is B → Closed os.toArray A → Closed os.toArray B := by
      intro A is B h
      induction h with
      | nil => exact id
      | cons hr _ _ ih => exact fun hc => ih (closed_set hc hr)
    exact this hok hcl
  have hlen : (enc (G.map (·.i)) ++ plan).length = G.length + plan.length := by
    have : ∀ is : List Nat, (enc is).length = is.length := by
      intro is
      induction is with
      | nil => rfl
      | cons i r ih => cases r with
        | nil => rfl
        | cons j r => simp only [enc, List.length_cons] at ih ⊢; rw [ih]
    simp [this]
  rw [hlen]
  let vs : Nat → Value := fun k => match G.find? (fun g => g.i == k) with
    | some g => (a.tmps[g.d]?).getD undef
    | none => undef
  have hag : Ag C.N (gEnvO G vs ++ l) a := by
    refine ⟨ha.defers, ha.size, ?_⟩
    intro k u hk
    have key : ∀ G' : List Gw, (∀ g ∈ G', g ∈ G) → lk (gEnvO G' vs ++ l) k = some u → a.tmps[k]? = some u := by
      intro G'
      induction G' with
      | nil => intro _ h; exact ha.slot k u h
      | cons g G' ih =>
        intro hs h
        simp only [gEnvO, List.map_cons, List.cons_append, lk] at h
        by_cases e : g.d = k
        · subst e
          simp at h
          have hf : G.find? (fun x => x.i == g.i) = some g := by
            have hgG := hs g List.mem_cons_self
            cases hq : G.find? (fun x => x.i == g.i) with
            | none => have := List.find?_eq_none.1 hq g hgG; simp at this
            | some x =>
              have h1 := List.find?_some hq
              have h2 := List.mem_of_find?_eq_some hq
              rw [gw_inj hi h2 hgG (by simpa using h1)]
          have hlt : g.d < a.tmps.size := by rw [ha.size]; exact hdN g (hs g List.mem_cons_self)
          rw [← h]
          show a.tmps[g.d]? = some (vs g.i)
          simp only [vs, hf, Array.getElem?_eq_getElem hlt, Option.getD_some]
        · simp only [beq_ne e, cond_false] at h
          exact ih (fun x hx => hs x (List.mem_cons_of_mem _ hx)) h
    exact key G (fun _ h => h) hk
  exact groupO_go (n0 := n0) (K := K) hmono hd hi hob hok (fun vs bs Jn a w hφ ha hw hn => h vs bs Jn hφ B hBcl hp2 a w ha hw hn) G.length [] vs (fun _ => []) [] a w .nil (fun _ h => by cases h) (by simp) hcl (fun _ _ h => by cases h) hag hw hn
theorem XF.groupO (G : List Gw) (hmono : ∀ g ∈ G, GrowsO g.φ) (hd : (G.map (·.d)).Nodup) (hi : (G.map (·.i)).Nodup) (hdN : ∀ g ∈ G, g.d < C.N) (hob : ∀ g ∈ G, OwesO C os l M J G g)
    (h : ∀ (vs : Nat → Value) (bs : Nat → Mem) Jn, (∀ g ∈ G, g.φ (vs g.i) (bs g.i) ((ownOf (G.map (·.i)) bs ++ M) ++ ((Jn ++ J) ++ C.A))) → XF C os Q nd plan (gEnvO G vs ++ l) (ownOf (G.map (·.i)) bs ++ M) (Jn ++ J)) : XF C os Q nd (enc (G.map (·.i)) ++ plan) l M J := XK.groupO G hmono hd hi hdN hob h
end group
end Go.Px

