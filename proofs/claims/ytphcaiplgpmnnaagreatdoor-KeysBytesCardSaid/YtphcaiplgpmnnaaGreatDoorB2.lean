/- Part 2 of the texts of this claim, one behind the other. -/
import Derived.Test.YtphcaiplgpmnnaaGreatDoorB1
import Derived.Laws.BytesString
import Derived.Laws.MakeOwn
import Derived.WalkKit
import Derived.ProofKit
import Derived.OpenShut
import Derived.ShutString
import Derived.ChangeOld
import Derived.Below
import Derived.LoopN
set_option linter.unusedVariables false
set_option linter.unusedSimpArgs false
set_option maxRecDepth 100000
namespace Go.Px

theorem wrap_nat {k : IntKind} (hk : k.signed = false) (n : Nat) : k.wrap (n : Int) = ((n % 2 ^ k.bits : Nat) : Int) := by
  unfold IntKind.wrap
  simp only [hk, Bool.false_and, Bool.false_eq_true, if_false]
  rw [Int.natCast_emod]; simp
theorem wrap8 (n : Nat) : IntKind.u8.wrap (n : Int) = ((n % 256 : Nat) : Int) := wrap_nat rfl n
theorem wrap32 (n : Nat) : IntKind.u32.wrap (n : Int) = ((n % 4294967296 : Nat) : Int) := wrap_nat rfl n
theorem wrap64 (n : Nat) : IntKind.u64.wrap (n : Int) = ((n % 18446744073709551616 : Nat) : Int) := wrap_nat rfl n
theorem wrapI {n : Nat} (h : n < 9223372036854775808) : IntKind.i64.wrap (n : Int) = (n : Int) := wrap_i64 (by omega) (by omega)

section ops
variable {k : IntKind} {a b : Nat}
theorem addU (hk : k.signed = false) (r : Nat) (h : (a + b) % 2 ^ k.bits = r) : arith .add k (a : Int) (b : Int) = some (.int k (r : Int)) := by
  simp only [arith]
  rw [show (a : Int) + b = ((a + b : Nat) : Int) from by omega, wrap_nat hk, h]
theorem mulU (hk : k.signed = false) (r : Nat) (h : (a * b) % 2 ^ k.bits = r) : arith .mul k (a : Int) (b : Int) = some (.int k (r : Int)) := by
  simp only [arith]
  rw [show (a : Int) * b = ((a * b : Nat) : Int) from by simp, wrap_nat hk, h]
theorem subU (hk : k.signed = false) (r : Nat) (hb : b ≤ 2 ^ k.bits) (h : (a + (2 ^ k.bits - b)) % 2 ^ k.bits = r) : arith .sub k (a : Int) (b : Int) = some (.int k (r : Int)) := by
  simp only [arith]
  have e : (a : Int) - b = ((a + (2 ^ k.bits - b) : Nat) : Int) - (2 ^ k.bits : Nat) := by omega
  have e2 : k.wrap ((a : Int) - b) = k.wrap ((a + (2 ^ k.bits - b) : Nat) : Int) := by
    unfold IntKind.wrap
    simp only [hk, Bool.false_and, Bool.false_eq_true, if_false]
    rw [e]
    simp
  rw [e2, wrap_nat hk, h]
theorem bv_nat (n m : Nat) : BitVec.ofInt n (m : Int) = BitVec.ofNat n m := by
  apply BitVec.eq_of_toNat_eq; simp
theorem andU (hk : k.signed = false) (ha : a < 2 ^ k.bits) (hb : b < 2 ^ k.bits) : arith .and k (a : Int) (b : Int) = some (.int k ((a &&& b : Nat) : Int)) := by
  simp only [arith, bv_nat]
  rw [BitVec.toNat_and, BitVec.toNat_ofNat, BitVec.toNat_ofNat, Nat.mod_eq_of_lt ha, Nat.mod_eq_of_lt hb, wrap_nat hk, Nat.mod_eq_of_lt (Nat.lt_of_le_of_lt Nat.and_le_left ha)]
theorem orU (hk : k.signed = false) (ha : a < 2 ^ k.bits) (hb : b < 2 ^ k.bits) : arith .or k (a : Int) (b : Int) = some (.int k ((a ||| b : Nat) : Int)) := by
  simp only [arith, bv_nat]
  rw [BitVec.toNat_or, BitVec.toNat_ofNat, BitVec.toNat_ofNat, Nat.mod_eq_of_lt ha, Nat.mod_eq_of_lt hb, wrap_nat hk, Nat.mod_eq_of_lt (Nat.or_lt_two_pow ha hb)]
theorem xorU (hk : k.signed = false) (ha : a < 2 ^ k.bits) (hb : b < 2 ^ k.bits) : arith .xor k (a : Int) (b : Int) = some (.int k ((a ^^^ b : Nat) : Int)) := by
  simp only [arith, bv_nat]
  rw [BitVec.toNat_xor, BitVec.toNat_ofNat, BitVec.toNat_ofNat, Nat.mod_eq_of_lt ha, Nat.mod_eq_of_lt hb, wrap_nat hk, Nat.mod_eq_of_lt (Nat.xor_lt_two_pow ha hb)]
end ops

section rules
variable {P : Program} {R : Mem} {l : Env} {d : Option Nat} {ty t t' : TypeId} {pos : String} {af : Array Edge} {g : Option (Nat × Bool)} {x y : Operand} {k k' : IntKind} {a b : Nat}
theorem q_add32 (hx : ev l x = some (.int .u32 (a : Int))) (hy : ev l y = some (.int .u32 (b : Int))) : OpQ P R ⟨d, .binOp .add t x y t', ty, pos, af, g⟩ l (.int .u32 (((a + b) % 4294967296 : Nat) : Int)) := q_bin hx hy (addU rfl _ rfl)
theorem q_and (hk : k.signed = false) (hx : ev l x = some (.int k (a : Int))) (hy : ev l y = some (.int k (b : Int))) (ha : a < 2 ^ k.bits) (hb : b < 2 ^ k.bits) : OpQ P R ⟨d, .binOp .and t x y t', ty, pos, af, g⟩ l (.int k ((a &&& b : Nat) : Int)) := q_bin hx hy (andU hk ha hb)
theorem q_or (hk : k.signed = false) (hx : ev l x = some (.int k (a : Int))) (hy : ev l y = some (.int k (b : Int))) (ha : a < 2 ^ k.bits) (hb : b < 2 ^ k.bits) : OpQ P R ⟨d, .binOp .or t x y t', ty, pos, af, g⟩ l (.int k ((a ||| b : Nat) : Int)) := q_bin hx hy (orU hk ha hb)
theorem q_xor (hk : k.signed = false) (hx : ev l x = some (.int k (a : Int))) (hy : ev l y = some (.int k (b : Int))) (ha : a < 2 ^ k.bits) (hb : b < 2 ^ k.bits) : OpQ P R ⟨d, .binOp .xor t x y t', ty, pos, af, g⟩ l (.int k ((a ^^^ b : Nat) : Int)) := q_bin hx hy (xorU hk ha hb)
/-- A shift to the right by less than all bits. -/
theorem q_shrN (s : Nat) (hx : ev l x = some (.int k (a : Int))) {i : Int} (hy : ev l y = some (.int k' i)) (hi : i = s) (hs : s ≤ k.bits) : OpQ P R ⟨d, .binOp .shr t x y t', ty, pos, af, g⟩ l (.int k ((a >>> s : Nat) : Int)) := by
  subst hi
  have := q_shr (P := P) (R := R) (d := d) (ty := ty) (pos := pos) (af := af) (g := g) (t := t) (t' := t') hx hy (by omega)
  rw [Int.toNat_natCast, Nat.min_eq_left hs] at this
  have e : (a : Int).fdiv (2 ^ s) = ((a >>> s : Nat) : Int) := by
    rw [Int.fdiv_eq_ediv_of_nonneg _ (Int.pow_nonneg (by decide)), Nat.shiftRight_eq_div_pow, Int.natCast_ediv]; simp
  rwa [e] at this
theorem q_shlN (hk : k.signed = false) (s : Nat) (hx : ev l x = some (.int k (a : Int))) {i : Int} (hy : ev l y = some (.int k' i)) (hi : i = s) (hs : s ≤ k.bits) : OpQ P R ⟨d, .binOp .shl t x y t', ty, pos, af, g⟩ l (.int k (((a <<< s) % 2 ^ k.bits : Nat) : Int)) := by
  subst hi
  have := q_shl (P := P) (R := R) (d := d) (ty := ty) (pos := pos) (af := af) (g := g) (t := t) (t' := t') hx hy (by omega)
  rw [Int.toNat_natCast, Nat.min_eq_left hs, show (a : Int) * 2 ^ s = ((a <<< s : Nat) : Int) from by rw [Nat.shiftLeft_eq]; simp, wrap_nat hk] at this
  exact this
theorem q_comN (hk : k.signed = false) (hx : ev l x = some (.int k (a : Int))) (ha : a < 2 ^ k.bits) : OpQ P R ⟨d, .unOp .xor t x, ty, pos, af, g⟩ l (.int k (((2 ^ k.bits - 1) ^^^ a : Nat) : Int)) := by
  have := q_com (P := P) (R := R) (d := d) (ty := ty) (pos := pos) (af := af) (g := g) (t := t) hx
  have e : (if k.signed = true then -1 else k.max : Int) = ((2 ^ k.bits - 1 : Nat) : Int) := by
    simp only [hk, Bool.false_eq_true, if_false, IntKind.max]
    cases k <;> simp_all [IntKind.bits, IntKind.signed]
  have h2 : 2 ^ k.bits - 1 < 2 ^ k.bits := Nat.sub_lt (Nat.two_pow_pos _) (by decide)
  rw [e, bv_nat, bv_nat, BitVec.toNat_xor, BitVec.toNat_ofNat, BitVec.toNat_ofNat, Nat.mod_eq_of_lt ha, Nat.mod_eq_of_lt h2, wrap_nat hk, Nat.mod_eq_of_lt (Nat.xor_lt_two_pow h2 ha)] at this
  exact this
theorem q_convN {s : TypeId} (r : Nat) (hx : ev l x = some (.int k (a : Int))) (hc : convI P s t = some k') (h : k'.wrap (a : Int) = (r : Int)) : OpQ P R ⟨d, .convert s t x, ty, pos, af, g⟩ l (.int k' (r : Int)) := q_convR _ hx hc h
theorem q_remN (hx : ev l x = some (.int k (a : Int))) (hy : ev l y = some (.int k (b : Int))) (hb : b ≠ 0) : OpQ P R ⟨d, .binOp .rem t x y t', ty, pos, af, g⟩ l (.int k ((a % b : Nat) : Int)) := by
  have := q_rem (P := P) (R := R) (d := d) (ty := ty) (pos := pos) (af := af) (g := g) (t := t) (t' := t') hx hy (by omega)
  rw [Int.tmod_eq_emod_of_nonneg (by omega), ← Int.natCast_emod] at this
  exact this
theorem q_quoN (hx : ev l x = some (.int k (a : Int))) (hy : ev l y = some (.int k (b : Int))) (hb : b ≠ 0) (h : k.wrap ((a / b : Nat) : Int) = ((a / b : Nat) : Int)) : OpQ P R ⟨d, .binOp .quo t x y t', ty, pos, af, g⟩ l (.int k ((a / b : Nat) : Int)) := by
  have := q_quo (P := P) (R := R) (d := d) (ty := ty) (pos := pos) (af := af) (g := g) (t := t) (t' := t') hx hy (by omega)
  rw [Int.tdiv_eq_ediv_of_nonneg (by omega), ← Int.natCast_ediv, h] at this
  exact this
end rules

/-! ### Rows of numbers -/
def nums (k : IntKind) (ws : List Nat) : List Value := ws.map fun n : Nat => Value.int k (n : Int)
section nums
variable {k : IntKind} {ws us : List Nat}
@[simp] theorem nums_len : (nums k ws).length = ws.length := by simp [nums]
theorem nums_append : nums k (ws ++ us) = nums k ws ++ nums k us := by simp [nums]
theorem nums_take (n : Nat) : nums k (ws.take n) = (nums k ws).take n := by simp [nums, List.map_take]
theorem nums_drop (n : Nat) : nums k (ws.drop n) = (nums k ws).drop n := by simp [nums, List.map_drop]
theorem nums_set (i n : Nat) : nums k (ws.set i n) = (nums k ws).set i (.int k (n : Int)) := by simp [nums, List.map_set]
theorem nums_one : ∀ c ∈ nums k ws, c.oneCell' = true := by
  intro c hc
  obtain ⟨n, _, rfl⟩ := List.mem_map.1 hc
  rfl
theorem nums_get {i : Nat} (h : i < ws.length) : (nums k ws)[i]? = some (.int k ((ws.getD i 0 : Nat) : Int)) := by
  simp [nums, List.getElem?_eq_getElem h, List.getD]
theorem getD_lt {ws : List Nat} {b i : Nat} (h : ∀ n ∈ ws, n < b) (hb : 0 < b) : ws.getD i 0 < b := by
  rw [List.getD]
  cases hi : ws[i]? with
  | none => exact hb
  | some n => exact h n (List.mem_of_getElem? hi)
end nums

/-! ### Blocks of numbers; 32 and 8 bits -/
theorem Fit.eq {M M' : Mem} (h : M = M') : Fit M M' := h ▸ .rfl
theorem setL_set {v : Value} : ∀ {cs : List Value} {o : Nat}, o < cs.length → SetL cs o v (cs.set o v)
  | [], _, h => by simp at h
  | x :: r, 0, _ => .hd
  | x :: r, o + 1, h => .tl (setL_set (by simpa using h))
theorem getD_app {ws us : List Nat} {i : Nat} (h : i < ws.length) : (ws ++ us).getD i 0 = ws.getD i 0 := by
  simp [List.getD, List.getElem?_append_left h]
theorem set_ext {ws : List Nat} {i n x : Nat} (h : ws.length = i) (hi : i < n) : (ws ++ List.replicate (n - i) 0).set i x = (ws ++ [x]) ++ List.replicate (n - (i + 1)) 0 := by
  rw [List.set_append_right _ _ (by omega), h, Nat.sub_self, show n - i = (n - (i + 1)) + 1 by omega, List.replicate_succ]
  simp
section rules2
variable {P : Program} {R : Mem} {l : Env} {d : Option Nat} {ty t t' : TypeId} {pos : String} {af : Array Edge} {g : Option (Nat × Bool)} {x y : Operand} {k k' : IntKind} {a b : Nat}
theorem q_and32 (hx : ev l x = some (.int .u32 (a : Int))) (hy : ev l y = some (.int .u32 (b : Int))) (ha : a < 4294967296) (hb : b < 4294967296) : OpQ P R ⟨d, .binOp .and t x y t', ty, pos, af, g⟩ l (.int .u32 ((a &&& b : Nat) : Int)) := q_and rfl hx hy ha hb
theorem q_or32 (hx : ev l x = some (.int .u32 (a : Int))) (hy : ev l y = some (.int .u32 (b : Int))) (ha : a < 4294967296) (hb : b < 4294967296) : OpQ P R ⟨d, .binOp .or t x y t', ty, pos, af, g⟩ l (.int .u32 ((a ||| b : Nat) : Int)) := q_or rfl hx hy ha hb
theorem q_xor32 (hx : ev l x = some (.int .u32 (a : Int))) (hy : ev l y = some (.int .u32 (b : Int))) (ha : a < 4294967296) (hb : b < 4294967296) : OpQ P R ⟨d, .binOp .xor t x y t', ty, pos, af, g⟩ l (.int .u32 ((a ^^^ b : Nat) : Int)) := q_xor rfl hx hy ha hb
theorem q_com32 (hx : ev l x = some (.int .u32 (a : Int))) (ha : a < 4294967296) : OpQ P R ⟨d, .unOp .xor t x, ty, pos, af, g⟩ l (.int .u32 ((4294967295 ^^^ a : Nat) : Int)) := q_comN (k := .u32) rfl hx ha
theorem q_shl32 (s : Nat) (hx : ev l x = some (.int .u32 (a : Int))) {i : Int} (hy : ev l y = some (.int k' i)) (hi : i = s) (hs : s ≤ 32) : OpQ P R ⟨d, .binOp .shl t x y t', ty, pos, af, g⟩ l (.int .u32 (((a <<< s) % 4294967296 : Nat) : Int)) := q_shlN (k := .u32) rfl s hx hy hi hs
theorem q_xor8 (hx : ev l x = some (.int .u8 (a : Int))) (hy : ev l y = some (.int .u8 (b : Int))) (ha : a < 256) (hb : b < 256) : OpQ P R ⟨d, .binOp .xor t x y t', ty, pos, af, g⟩ l (.int .u8 ((a ^^^ b : Nat) : Int)) := q_xor rfl hx hy ha hb
theorem q_to8 {s : TypeId} (hx : ev l x = some (.int k (a : Int))) (hc : convI P s t = some .u8) : OpQ P R ⟨d, .convert s t x, ty, pos, af, g⟩ l (.int .u8 ((a % 256 : Nat) : Int)) := q_convN _ hx hc (wrap8 a)
theorem q_to32 {s : TypeId} (hx : ev l x = some (.int k (a : Int))) (hc : convI P s t = some .u32) : OpQ P R ⟨d, .convert s t x, ty, pos, af, g⟩ l (.int .u32 ((a % 4294967296 : Nat) : Int)) := q_convN _ hx hc (wrap32 a)
theorem q_to64 {s : TypeId} (hx : ev l x = some (.int k (a : Int))) (hc : convI P s t = some .u64) : OpQ P R ⟨d, .convert s t x, ty, pos, af, g⟩ l (.int .u64 ((a % 18446744073709551616 : Nat) : Int)) := q_convN _ hx hc (wrap64 a)
/-- A conversion that changes nothing. -/
theorem q_same {s : TypeId} (hx : ev l x = some (.int k (a : Int))) (hc : convI P s t = some k') (h : a < 2 ^ (k'.bits - 1)) : OpQ P R ⟨d, .convert s t x, ty, pos, af, g⟩ l (.int k' (a : Int)) := by
  refine q_convN _ hx hc ?_
  have h2 : 2 ^ k'.bits = 2 * 2 ^ (k'.bits - 1) := by cases k' <;> rfl
  cases hs : k'.signed with
  | false => rw [wrap_nat hs, Nat.mod_eq_of_lt (by omega)]
  | true =>
    have h3 : (2 : Int) ^ k'.bits = 2 * ((2 ^ (k'.bits - 1) : Nat) : Int) := by
      have e0 : (2 : Int) ^ k'.bits = ((2 ^ k'.bits : Nat) : Int) := by simp
      rw [e0, h2]; omega
    unfold IntKind.wrap
    have e1 : (a : Int) % 2 ^ k'.bits = a := Int.emod_eq_of_lt (by omega) (by rw [h3]; omega)
    simp only [e1, hs, Bool.true_and]
    have e2 : ¬ ((2 : Int) ^ (k'.bits - 1) ≤ (a : Int)) := by
      have : ((2 ^ (k'.bits - 1) : Nat) : Int) = 2 ^ (k'.bits - 1) := by simp
      omega
    simp [e2]
theorem q_ldN {k : IntKind} {ws : List Nat} {e : TypeId} {fr : Nat × Nat} {b o : Nat} (i : Nat) (hx : ev l x = some (.pointer (some ⟨b, o, none⟩))) (ht : scalarT P t = true) (hb : (b, Obj.cells (nums k ws).toArray e fr) ∈ R) (ho : o = i) (hi : i < ws.length) :
    OpQ P R ⟨d, .load t x, ty, pos, af, g⟩ l (.int k ((ws.getD i 0 : Nat) : Int)) := q_load hx ht hb (by rw [ho]; exact nums_get hi)
end rules2
theorem l_stN {C : Cx} {l : Env} {M J : Mem} {K : Env → Mem → Mem → Prop} {ty t : TypeId} {pos : String} {af : Array Edge} {g : Option (Nat × Bool)} {x y : Operand} {k : IntKind} {ws : List Nat} {e : TypeId} {b o n : Nat} {M' : Mem} (i : Nat)
    (hx : ev l x = some (.pointer (some ⟨b, o, none⟩))) (hy : ev l y = some (.int k (n : Int))) (ht : sizeT C.P t = some 1) (ho : o = i) (hi : i < ws.length) (hu : Upd M b (blk (nums k ws) e) (blk (nums k (ws.set i n)) e) M') (h : K l M' J) :
    OpL C ⟨none, .store t x y, ty, pos, af, g⟩ l M J K :=
  l_store hx hy rfl ht (cs' := nums k (ws.set i n)) (by rw [nums_set, ho]; exact setL_set (by simpa using hi)) hu h
theorem Rd.nums {R : Mem} {k : IntKind} {ws : List Nat} {v : Value} {n : Nat} (h : Rd R 1 v n (nums k ws)) (hn : 0 < n) :
    ∃ b o c cs e fr, v = .slice (some ⟨b, o, none⟩) n c ∧ (b, Obj.cells (List.toArray cs) e fr) ∈ R ∧ ∀ i, i < n → cs[o + i * 1]? = some (.int k ((ws.getD i 0 : Nat) : Int)) := by
  obtain ⟨p, c, rfl, hl, hc, hb⟩ := h
  rcases hb with hb | ⟨b, o, cs, e, fr, rfl, hb, hx⟩
  · omega
  · refine ⟨b, o, c, cs, e, fr, rfl, hb, fun i hi => ?_⟩
    rw [Nat.mul_one]
    simp at hl
    exact hx i _ (nums_get (by omega))
end Go.Px

/-
  More rules of the engine: slices as opaque values (vHi, vLo, vAt), texts and bytes, arrays, copy, make. No program in sight.
-/
namespace Go.Px
theorem Fit.head1' {M D : Mem} {x : Nat × Obj} {E : Mem} (h : E.Sublist D) : Fit (M ++ (x :: D)) (M ++ E) := Fit.sub (List.Sublist.append (List.Sublist.refl _) (.cons _ h))
theorem pkB0 {B : Mem} {x : Nat × Obj} : (x :: B).Perm (B ++ [x]) := (List.perm_append_comm (l₁ := [x]))

def vHi (h : Nat) : Value → Value
  | .slice p _ c => .slice p h c
  | v => v
def vLo (k sz : Nat) : Value → Value
  | .slice p n c => .slice (if c = k then p else p.map (·.add (k * sz))) (n - k) (c - k)
  | v => v
def vAt (sz : Nat) (i : Nat) : Value → Value
  | .slice (some a) _ _ => .pointer (some (a.add (i * sz)))
  | v => v

theorem Rd.hiV {R : Mem} {sz n : Nat} {v : Value} {xs : List Value} (h : Rd R sz v n xs) (k : Nat) (hk : k ≤ n) : Rd R sz (vHi k v) k (xs.take (k * sz)) := by
  obtain ⟨p, c, rfl, h2, h3, h4⟩ := h
  exact Rd.hi ⟨p, c, rfl, h2, h3, h4⟩ k hk
theorem Rd.loV {R : Mem} {sz n : Nat} {v : Value} {xs : List Value} (h : Rd R sz v n xs) (k : Nat) (hk : k ≤ n) : Rd R sz (vLo k sz v) (n - k) (xs.drop (k * sz)) := by
  obtain ⟨p, c, rfl, h2, h3, h4⟩ := h
  exact Rd.lo ⟨p, c, rfl, h2, h3, h4⟩ k hk
theorem Sl.hiV {sz n : Nat} {v : Value} {xs : List Value} {B : Mem} (h : Sl sz v n xs B) (k : Nat) (hk : k ≤ n) : Sl sz (vHi k v) k (xs.take (k * sz)) B := by
  obtain ⟨p, c, rfl, _⟩ := h.val
  exact h.hi k hk
theorem Sl.loV {sz n : Nat} {v : Value} {xs : List Value} {B : Mem} (h : Sl sz v n xs B) (k : Nat) (hk : k ≤ n) : ∃ B', B'.Sublist B ∧ Sl sz (vLo k sz v) (n - k) (xs.drop (k * sz)) B' := by
  obtain ⟨p, c, rfl, _⟩ := h.val
  exact h.lo k hk
theorem Rd.len {R : Mem} {sz n : Nat} {v : Value} {xs : List Value} (h : Rd R sz v n xs) : xs.length = n * sz := by
  obtain ⟨p, c, rfl, h2, h3, h4⟩ := h; exact h2

/-- A slice type's elements' size, in cells. -/
def slE (P : Program) (t : TypeId) : Option Nat :=
  match P.underlying t with
  | some (.slice e) => sizeT P e
  | _ => none
theorem slE_spec {P : Program} {t : TypeId} {sz : Nat} (h : slE P t = some sz) : ∃ e, P.underlying t = some (.slice e) ∧ sizeT P e = some sz := by
  unfold slE at h
  split at h
  · rename_i e hu; exact ⟨e, hu, h⟩
  · cases h
section rules
variable {P : Program} {R : Mem} {l : Env} {d : Option Nat} {ty t t' e : TypeId} {pos : String} {af : Array Edge} {g : Option (Nat × Bool)} {x y z : Operand} {v : Value} {sz n : Nat} {xs : List Value} {R' : Mem}
theorem q_lenV (h : Rd R' sz v n xs) (hx : ev l x = some v) (hu : slE P t = some sz) :
    OpQ P R ⟨d, .call { callee := .builtin .len, args := #[x], argTypes := #[t] }, ty, pos, af, g⟩ l (.int .i64 n) := by
  obtain ⟨p, c, rfl, _⟩ := h
  obtain ⟨e, hu, hs⟩ := slE_spec hu
  exact q_lenS hx hu
theorem q_hiV (h : Rd R' sz v n xs) (hx : ev l x = some v) {k : IntKind} {i : Int} (hy : ev l y = some (.int k i)) (hu : slE P t = some sz) (j : Nat) (hi : i = j) (hj : j ≤ n) :
    OpQ P R ⟨d, .slice t x none (some y) none, ty, pos, af, g⟩ l (vHi j v) := by
  obtain ⟨p, c, rfl, h2, h3, h4⟩ := h
  obtain ⟨e, hu, hs⟩ := slE_spec hu
  exact q_slHi hx hy hu hs hi (by omega)
theorem q_loV (h : Rd R' sz v n xs) (hx : ev l x = some v) {k : IntKind} {i : Int} (hy : ev l y = some (.int k i)) (hu : slE P t = some sz) (j : Nat) (hi : i = j) (hj : j ≤ n) :
    OpQ P R ⟨d, .slice t x (some y) none none, ty, pos, af, g⟩ l (vLo j sz v) := by
  obtain ⟨p, c, rfl, h2, h3, h4⟩ := h
  obtain ⟨e, hu, hs⟩ := slE_spec hu
  exact q_slLo hx hy hu hs hi (by omega) (by omega)
theorem q_atV (h : Rd R' sz v n xs) (hx : ev l x = some v) {k : IntKind} {i : Int} (hy : ev l y = some (.int k i)) (hu : slE P t = some sz) (j : Nat) (hi : i = j) (hj : j < n) :
    OpQ P R ⟨d, .indexAddr t x y, ty, pos, af, g⟩ l (vAt sz j v) := by
  obtain ⟨p, c, rfl, h2, h3, h4⟩ := h
  rcases h4 with h4 | ⟨b, o, cs, e', fr, rfl, hb, hx'⟩
  · omega
  · obtain ⟨e, hu, hs⟩ := slE_spec hu
    simp only [vAt, Addr.add_mid]; exact q_idxS hx hy hu hs hi hj
theorem q_ldV (h : Rd R 1 v n xs) {j : Nat} {u : Value} (hx : ev l x = some (vAt 1 j v)) (ht : scalarT P t = true) (hj : xs[j]? = some u) : OpQ P R ⟨d, .load t x, ty, pos, af, g⟩ l u := by
  obtain ⟨p, c, rfl, h2, h3, h4⟩ := h
  have := (List.getElem?_eq_some_iff.1 hj).1
  rcases h4 with h4 | ⟨b, o, cs, e', fr, rfl, hb, hx'⟩
  · omega
  · simp only [vAt, Addr.add_mid] at hx
    refine q_load (b := b) (o := o + j * 1) hx ht hb ?_
    rw [Nat.mul_one]; exact hx' j u hj
theorem q_ldVN {k : IntKind} {ws : List Nat} (h : Rd R 1 v n (nums k ws)) {j : Nat} (hx : ev l x = some (vAt 1 j v)) (ht : scalarT P t = true) (hj : j < n) : OpQ P R ⟨d, .load t x, ty, pos, af, g⟩ l (.int k ((ws.getD j 0 : Nat) : Int)) :=
  q_ldV h hx ht (nums_get (by have := h.len; simp at this; omega))
/-- An element of an array that is a value. -/
theorem q_index {m j : Nat} {k : IntKind} {i : Int} {cs : List Value} {u : Value} (hx : ev l x = some (.agg cs.toArray)) (hy : ev l y = some (.int k i)) (hu : P.underlying t = some (.array m e)) (hs : sizeT P e = some 1) (he : scalarT P e = true) (hi : i = j) (hj : j < m) (hu' : cs[j]? = some u) :
    OpQ P R ⟨d, .index t x y, ty, pos, af, g⟩ l u := fun N a w ha hw => by
  subst hi
  unfold sizeT at hs
  cases hq : P.info? e with
  | none => simp [hq] at hs
  | some inf =>
    simp only [hq, Option.map_some, Option.some.injEq] at hs
    have h1 : (0 : Int) ≤ (j : Int) ∧ (j : Int) < (m : Int) := ⟨by omega, by omega⟩
    simp only [execOp, ha.ev hx, ha.ev hy, Instr.index, asIntOf, Sem.run_bind, Sem.run_pure, Result.andThen_ok, run_underlying hu]
    simp [h1, sizeOf, typeInfo, hq, hs, part, isAgg_scalar he, hu']
/-- A slice of a whole array. -/
theorem q_all {m b : Nat} (hx : ev l x = some (.pointer (some ⟨b, 0, none⟩))) (hu : P.underlying t = some (.array m e)) (hs : sizeT P e = some sz) :
    OpQ P R ⟨d, .slice t x none none none, ty, pos, af, g⟩ l (.slice (some ⟨b, 0, none⟩) m m) := fun N a w ha hw => by
  unfold sizeT at hs
  cases hq : P.info? e with
  | none => simp [hq] at hs
  | some inf =>
    simp only [execOp, ha.ev hx, Instr.sliceAt, Instr.sureAddr, Sem.run_bind, Sem.run_pure, run_underlying hu, Result.andThen_ok]
    have := sliceBounds_run (P := P) (lo := none) (hi := none) (mx := none) ha o0 o0 o0 false m m w (by simp) (by simp) (by simp) (by simp)
    simp only [Option.map_none] at this ⊢
    simp only [this, Result.andThen_ok]
    simp [sizeOf, typeInfo, hq, Addr.add]
end rules

/-! ### Texts and bytes -/
def txt (ws : List Nat) : ByteArray := ⟨(ws.map UInt8.ofNat).toArray⟩
theorem fold_txt (ns : List Nat) : ∀ s : ByteArray, (ns.map fun n : Nat => (n : Int)).foldl (fun r n => r.push (UInt8.ofNat n.toNat)) s = s ++ txt ns := by
  induction ns with
  | nil => intro s; apply ByteArray.ext; simp [txt, ByteArray.data_append]
  | cons n ns ih =>
    intro s
    simp only [List.map_cons, List.foldl_cons, ih]
    apply ByteArray.ext
    simp [txt, ByteArray.data_append]
section texts
variable {P : Program} {R : Mem} {l : Env} {d : Option Nat} {ty s t e : TypeId} {pos : String} {af : Array Edge} {g : Option (Nat × Bool)} {x y : Operand} {v : Value} {n : Nat}
def bytesT (P : Program) (s t : TypeId) : Bool :=
  match P.underlying s, P.underlying t with
  | some (.slice e), some .string => match P.underlying e with
    | some (.int .u8) => true
    | _ => false
  | _, _ => false
theorem q_toStr {ws : List Nat} (h : Rd R 1 v n (nums .u8 ws)) (hx : ev l x = some v) (hc : bytesT P s t = true) : OpQ P R ⟨d, .convert s t x, ty, pos, af, g⟩ l (.string (txt ws)) := fun N a w ha hw => by
  unfold bytesT at hc
  split at hc <;> try cases hc
  rename_i e h1 h2
  split at hc <;> try cases hc
  rename_i h3
  obtain ⟨p, c, rfl, hl, hcc, hb⟩ := h
  have hn : ws.length = n := by simpa using hl
  have he : nums .u8 ws = (ws.map fun n : Nat => (n : Int)).map (Value.int .u8) := by simp [nums]
  simp only [execOp, ha.ev hx, Sem.run_bind, run_convert_bytes_string w s t e _ _ _ h1 h3 h2]
  cases p with
  | none =>
    rcases hb with hb | ⟨b, o, cs, e', fr, hp, hb, hx'⟩
    · have : ws = [] := List.eq_nil_of_length_eq_zero (by omega)
      subst this
      simp [Conv.bytesToString, Sem.run_pure, txt]; rfl
    · cases hp
  | some ad =>
    have hload : (loadCells ad n).run P w = .ok (nums .u8 ws).toArray w := by
      rcases hb with hb | ⟨b, o, cs, e', fr, hp, hb, hx'⟩
      · have : ws = [] := List.eq_nil_of_length_eq_zero (by omega)
        subst this; subst hb
        simp [loadCells, loadCellsFrom, nums]
      · cases hp
        have := run_loadCells_list (P := P) w ⟨b, o, none⟩ (nums .u8 ws) (fun j v hv => by rw [Addr.add_mid, cell_fx hw hb]; simpa using hx' j v hv)
        rw [nums_len, hn] at this
        exact this
    rw [he] at hload
    rw [run_bytesToString w ad n c _ hload, fold_txt]
    simp [Sem.run_pure]
theorem txt_inj {a b : List Nat} (ha : ∀ x ∈ a, x < 256) (hb : ∀ x ∈ b, x < 256) (h : txt a = txt b) : a = b := by
  have h1 : a.map UInt8.ofNat = b.map UInt8.ofNat := by
    have := congrArg ByteArray.data h
    simpa [txt] using this
  have h2 := congrArg (List.map UInt8.toNat) h1
  simp only [List.map_map] at h2
  have key : ∀ l : List Nat, (∀ x ∈ l, x < 256) → List.map (UInt8.toNat ∘ UInt8.ofNat) l = l := by
    intro l hl
    conv => rhs; rw [← List.map_id l]
    refine List.map_congr_left fun x hx => ?_
    have := hl x hx
    simp; omega
  rwa [key a ha, key b hb] at h2
theorem txt_append (a b : List Nat) : txt a ++ txt b = txt (a ++ b) := by
  apply ByteArray.ext
  simp [txt, ByteArray.data_append]
end texts

section loud
variable {C : Cx} {l : Env} {M J : Mem} {K : Env → Mem → Mem → Prop} {ty t e : TypeId} {pos : String} {af : Array Edge} {g : Option (Nat × Bool)} {x y : Operand} {d : Nat}
/-- A text's bytes: the row is marked, and only read from there on. -/
def markT (P : Program) (t : TypeId) : Bool :=
  match P.underlying t with
  | some (.slice e) => match P.underlying e with
    | some (.int .u8) => true
    | _ => false
  | _ => false
theorem l_mark {b n c : Nat} {cs : List Value} {e' : TypeId} {M' : Mem} (hx : ev l x = some (.slice (some ⟨b, 0, none⟩) n c)) (hc : markT C.P t = true) (hu : Upd M b (blk cs e') (.cells cs.toArray e' (cs.length, cs.length + 1)) M')
    (hd : Nat.blt d C.N = true) (k : K ((d, .slice (some ⟨b, 0, none⟩) n c) :: l) M' J) : OpL C ⟨some d, .convert t t x, ty, pos, af, g⟩ l M J K := by
  intro Qp a w ha hw
  unfold markT at hc
  split at hc <;> try cases hc
  rename_i e h1
  split at hc <;> try cases hc
  rename_i h2
  have hb := hw.mem _ _ (List.mem_append_left _ hu.mem)
  have hsh : w.shape? b = some (e', cs.length) := by unfold World.shape?; rw [hb]; simp [blk]
  have hlt := lt_of_heap hb
  have hrun : (execOp a.eval ⟨some d, .convert t t x, ty, pos, af, g⟩).run C.P w = .ok (.value (.slice (some ⟨b, 0, none⟩) n c)) (w.freeze ⟨b, cs.length, none⟩ 1) := by
    simp [execOp, ha.ev hx, convert, run_underlying h1, run_underlying h2, markStringish, hsh]
  unfold Oper.wp
  rw [hrun]
  refine ⟨_, M', J, ha.put (blt_lt hd) _, hw.upd hu ?_ ?_ ?_ rfl rfl rfl, k⟩
  · simp only [World.freeze]
    rw [if_neg (by decide)]
    simp [Array.getElem?_modify, hb, blk]
  · intro j hj
    simp only [World.freeze]
    rw [if_neg (by decide)]
    simp [Array.getElem?_modify, Ne.symm hj]
  · simp [World.freeze]
/-- copy into the whole of an owned array of numbers. -/
theorem l_copy {b m n : Nat} {u : Value} {k : IntKind} {ws us ws' : List Nat} {e' : TypeId} {by_ : Nat} {M' : Mem} (hx : ev l x = some (.slice (some ⟨b, 0, none⟩) m m)) (hy : ev l y = some u) (ht : elemT C.P t = some (e, 1, by_))
    (hr : Rd (M ++ (J ++ C.A)) 1 u n (nums k us)) (hn : n ≤ m) (hm : ws.length = m) (hw' : ws' = us ++ ws.drop n) (hu : Upd M b (blk (nums k ws) e') (blk (nums k ws') e') M') (hd : Nat.blt d C.N = true) (h : K ((d, .int .i64 n) :: l) M' J) :
    OpL C ⟨some d, .call { callee := .builtin .copy, args := #[x, y], argTypes := #[t, t] }, ty, pos, af, g⟩ l M J K := by
  intro Qp a w ha hw
  obtain ⟨i, z, hut, hi, hz, hzs, his, hib⟩ := elemT_spec ht
  obtain ⟨pu, cu, rfl, hul, huc, hub⟩ := hr
  have hru : Rd (M ++ (J ++ C.A)) 1 (.slice pu n cu) n (nums k us) := ⟨pu, cu, rfl, hul, huc, hub⟩
  have hb := hw.mem _ _ (List.mem_append_left _ hu.mem)
  have hf := first_rd (P := C.P) (m := n) (c2 := cu) hru hw.fx
  have hus : us.length = n := by simpa using hul
  have hst := run_storeCells_at (P := C.P) b 0 e' (nums k us) 0 (nums k ws).toArray w hb (by simp [hus, hm]; exact hn) nums_one
  simp only [Nat.add_zero, Nat.zero_add, List.take_zero, List.nil_append, nums_len, hus] at hst
  rw [← nums_drop, ← nums_append, ← hw'] at hst
  have hrun : (execOp a.eval ⟨some d, .call { callee := .builtin .copy, args := #[x, y], argTypes := #[t, t] }, ty, pos, af, g⟩).run C.P w = .ok (.value (.int .i64 n)) (w.setRow b (nums k ws').toArray) := by
    simp [execOp, resolve, invoke, builtin, ha.ev hx, ha.ev hy, Builtin.copy_, run_underlying hut, sizeOf, typeInfo, hi, his, Builtin.lenOf, Nat.min_eq_left hn, hf, hst, goInt]
  unfold Oper.wp
  rw [hrun]
  exact ⟨_, M', J, ha.put (blt_lt hd) _, hw.setRow hu, h⟩
end loud
theorem Sl.fresh {b n sz : Nat} {cs : List Value} {e : TypeId} (h : cs.length = n * sz) (hn : n ≤ maxLen) : Sl sz (.slice (some ⟨b, 0, none⟩) n n) n cs [(b, blk cs e)] :=
  .inr ⟨b, 0, n, cs, e, rfl, rfl, Nat.le_refl _, hn, by omega, h, fun j u hj => by rwa [Nat.zero_add]⟩
theorem Rd.cel {R : Mem} {v : Value} {n sz : Nat} {xs : List Value} (h : Rd R sz v n xs) : Cel v [v] := by
  obtain ⟨p, c, rfl, _⟩ := h; exact ⟨rfl⟩
theorem Sl.cel {B : Mem} {v : Value} {n sz : Nat} {xs : List Value} (h : Sl sz v n xs B) : Cel v [v] := by
  obtain ⟨p, c, rfl, _⟩ := h.val; exact ⟨rfl⟩

/-- What make of a row of numbers asks of the type. -/
def mkT (P : Program) (t : TypeId) : Option (TypeId × IntKind × Nat) :=
  match P.underlying t with
  | some (.slice e) => match P.info? e with
    | some i => match i.zero with
      | some (.int k 0) => if i.size = 1 then some (e, k, i.bytes) else none
      | _ => none
    | none => none
  | _ => none
theorem made_nums (k : IntKind) (n : Nat) : madeCells #[.int k 0] n = (nums k (List.replicate n 0)).toArray := by
  apply Array.ext
  · simp [madeCells]
  · intro i h1 h2
    simp [madeCells, nums, Nat.mod_one]
theorem l_makeN {C : Cx} {l : Env} {M J : Mem} {K : Env → Mem → Mem → Prop} {ty t e : TypeId} {pos : String} {af : Array Edge} {g : Option (Nat × Bool)} {x y : Operand} {d by_ : Nat} {k kl kc : IntKind} {i j : Int} (n : Nat) (hx : ev l x = some (.int kl i)) (hy : ev l y = some (.int kc j)) (ht : mkT C.P t = some (e, k, by_)) (hi : i = n) (hj : j = n)
    (hb : by_ * n ≤ 281474976710656) (hn : n ≤ 9223372036854775807) (hd : Nat.blt d C.N = true) (h : ∀ b, K ((d, .slice (some ⟨b, 0, none⟩) n n) :: l) ((b, blk (nums k (List.replicate n 0)) e) :: M) J) :
    OpL C ⟨some d, .makeSlice t x y, ty, pos, af, g⟩ l M J K := by
  intro Qp a w ha hw
  subst hi; subst hj
  unfold mkT at ht
  split at ht <;> try cases ht
  rename_i e' hu
  split at ht <;> try cases ht
  rename_i inf hi
  split at ht <;> try cases ht
  rename_i k' hz
  split at ht <;> simp only [Option.some.injEq, Prod.mk.injEq, reduceCtorEq] at ht
  rename_i hs
  obtain ⟨rfl, rfl, rfl⟩ := ht
  have hb' : (inf.bytes : Int) * (n : Int) ≤ 281474976710656 := by rw [← Int.natCast_mul]; omega
  have hr := run_make (P := C.P) w t e' inf _ hu hi hz kl kc n n (by omega) (by omega) hb' (by omega)
  simp only [Int.toNat_natCast, hs, Nat.mul_one] at hr
  rw [show (Value.int k' 0).cells = #[.int k' 0] from rfl, made_nums] at hr
  unfold Oper.wp
  simp only [execOp, ha.ev hx, ha.ev hy, Sem.run_bind, hr, Result.andThen_ok, Sem.run_pure]
  exact ⟨_, _, J, ha.put (blt_lt hd) _, hw.alloc _, h _⟩
/-- A store into an owned slice of numbers. -/
theorem l_stV {C : Cx} {l : Env} {M J : Mem} {K : Env → Mem → Mem → Prop} {ty t : TypeId} {pos : String} {af : Array Edge} {g : Option (Nat × Bool)} {x y : Operand} {v : Value} {k : IntKind} {ws : List Nat} {n j u : Nat} {B M0 : Mem} (h : Sl 1 v n (nums k ws) B) (hx : ev l x = some (vAt 1 j v)) (hy : ev l y = some (.int k (u : Int)))
    (ht : sizeT C.P t = some 1) (hj : j < n) (hM : M.Perm (B ++ M0)) (h2 : ∀ B', Sl 1 v n (nums k (ws.set j u)) B' → K l (B' ++ M0) J) :
    OpL C ⟨none, .store t x y, ty, pos, af, g⟩ l M J K := by
  suffices hh : OpL C ⟨none, .store t x y, ty, pos, af, g⟩ l (B ++ M0) J K from fun Qp a w ha hw => hh Qp a w ha (hw.fit (Fit.perm hM) fun _ h => h)
  clear hM
  rcases h with ⟨p, rfl, rfl, hx2, rfl⟩ | ⟨b, o, cap, cs, e, rfl, rfl, h3, h4, h5, h6, h7⟩
  · omega
  · simp only [vAt, Addr.add_mid, Nat.mul_one] at hx
    refine l_store hx hy rfl ht (setL_set (by omega)) .hd (h2 [_] (.inr ⟨b, o, cap, _, e, rfl, rfl, h3, h4, by simpa using h5, by simpa using h6, ?_⟩))
    intro i w hi
    rw [nums_set] at hi
    rw [List.getElem?_set] at hi ⊢
    by_cases hij : j = i
    · subst hij
      simp only [if_true] at hi ⊢
      simp at hi h6
      rw [if_pos (by omega)]
      rw [← hi.2]
    · rw [if_neg hij] at hi
      rw [if_neg (by omega)]
      exact h7 i w hi
theorem rd_eq {R : Mem} {v : Value} {n n' : Nat} {xs xs' : List Value} (h : Rd R 1 v n xs) (h1 : n = n') (h2 : xs = xs') : Rd R 1 v n' xs' := by subst h1; subst h2; exact h
theorem sl_eq {v : Value} {n n' : Nat} {xs xs' : List Value} {B : Mem} (h : Sl 1 v n xs B) (h1 : n = n') (h2 : xs = xs') : Sl 1 v n' xs' B := by subst h1; subst h2; exact h
end Go.Px

/-
  Slices of unsigned numbers that came in.
-/
namespace Go.Px
theorem wf_u {k : IntKind} (hk : k.signed = false) {n : Int} (h : (Lit.int k n).wf = true) : 0 ≤ n ∧ n < 2 ^ k.bits := by
  cases k <;> simp_all [Lit.wf, IntKind.min, IntKind.max, IntKind.bits, IntKind.signed] <;> omega
end Go.Px

/-
  Arguments that came in, by their types: what the engine's rules ask of them.
-/
namespace Go.Px
open Go.ChangeShapes Go.WideShapes Go.ChangeAt Go.RowKit
/-- All that lies in a world. -/
def heapA (w : World) : Mem := (List.range w.heap.size).filterMap fun b => (w.heap[b]?).map fun o => (b, o)
theorem heapA_mem {w : World} {b : Nat} {o : Obj} : (b, o) ∈ heapA w ↔ w.heap[b]? = some o := by
  simp only [heapA, List.mem_filterMap, List.mem_range, Option.map_eq_some_iff, Prod.mk.injEq]
  constructor
  · rintro ⟨x, _, y, h, rfl, rfl⟩; exact h
  · intro h; exact ⟨b, lt_of_heap h, o, h, rfl, rfl⟩
theorem heapA_fx (w : World) : Fx (heapA w) w := fun b o h => heapA_mem.1 h
section
variable {H : Type} {enc : TypeId × Value → H} {P : Program} {w : World} {spare : Nat → Bool} {held : Bool} {fuel : Nat} {t e : TypeId} {cs : List Value} {x : DataW H × List MemPlace} {v : Value} {d : DataW H} {p : List MemPlace} {r : Reach} {base : Nat} {k : IntKind}
theorem cells_get {a : Addr} {n : Nat} {c : List Value} (h : w.cells? 0 a n = some c) : c.length = n ∧ ∀ j, j < n → w.cell? (a.add j) = c[j]? := by
  unfold World.cells? at h
  rw [if_pos (Nat.zero_le _)] at h
  exact ⟨by simpa using mapM_some_length h, fun j hj => mapM_some_get h j j (by simp [hj])⟩
theorem in_slice {sz : Nat} (ht : P.underlying t = some (.slice e)) (hsz : P.cellsOf e = sz) (hs0 : 0 < sz) (h : DataW.trod enc P w 0 spare held fuel t cs = some x) :
    ∃ (v : Value) (xss : List (List Value)), cs = [v] ∧ xss.length ≤ maxLen ∧ Rd (heapA w) sz v xss.length xss.flatten ∧ ∀ c ∈ xss, c.length = sz ∧ ∃ m y, DataW.trod enc P w 0 spare held m e c = some y := by
  rcases DataW.trod_slice ht h with ⟨rfl, _⟩ | ⟨a, len, cap, elems, rest, n, _, rfl, _, _, hl, hm, hlen, hel, _, _⟩
  · exact ⟨_, [], rfl, by simp, Rd.nil, fun c hc => by cases hc⟩
  · rw [hsz] at hel
    have hrow : ∀ i, i < len → ∃ c y, w.cells? 0 (a.add (i * sz)) sz = some c ∧ DataW.trod enc P w 0 spare held n e c = some y := by
      intro i hi
      have h1 := hel i hi
      rw [List.getElem?_eq_getElem (by omega)] at h1
      obtain ⟨c, h2, h3⟩ := Option.bind_eq_some_iff.1 h1
      exact ⟨c, _, h2, h3⟩
    have hget : ∀ i, i < len → ((List.range len).map fun i => (w.cells? 0 (a.add (i * sz)) sz).getD [])[i]? = some ((w.cells? 0 (a.add (i * sz)) sz).getD []) := by
      intro i hi; simp [hi]
    have hlen2 : ∀ c ∈ (List.range len).map (fun i => (w.cells? 0 (a.add (i * sz)) sz).getD []), c.length = sz ∧ ∃ m y, DataW.trod enc P w 0 spare held m e c = some y := by
      intro c hc
      obtain ⟨i, hi, rfl⟩ := List.mem_map.1 hc
      obtain ⟨c, y, h1, h2⟩ := hrow i (List.mem_range.1 hi)
      rw [h1, Option.getD_some]
      exact ⟨(cells_get h1).1, n, y, h2⟩
    refine ⟨_, (List.range len).map fun i => (w.cells? 0 (a.add (i * sz)) sz).getD [], rfl, by simp; omega, ?_, hlen2⟩
    have hl1 : ((List.range len).map fun i => (w.cells? 0 (a.add (i * sz)) sz).getD []).length = len := by simp
    have hfl := flat_len (rows := (List.range len).map fun i => (w.cells? 0 (a.add (i * sz)) sz).getD []) (s := sz) fun c hc => (hlen2 c hc).1
    rw [hl1]
    rw [hl1] at hfl
    by_cases h0 : len * sz = 0
    · refine ⟨some a, cap, rfl, hfl, hl, .inl ?_⟩
      rcases Nat.mul_eq_zero.1 h0 with h | h <;> omega
    · have hlp : 0 < len := Nat.pos_of_ne_zero (by rintro rfl; simp at h0)
      have hsp : 0 < sz := Nat.pos_of_ne_zero (by rintro rfl; simp at h0)
      obtain ⟨c0, y0, h1, _⟩ := hrow 0 hlp
      have h2 := (cells_get h1).2 0 hsp
      have h3 := (cells_get h1).1
      obtain ⟨b, o, sp⟩ := a
      have hadd : ((⟨b, o, sp⟩ : Addr).add (0 * sz)).add 0 = ⟨b, o, sp⟩ := by simp [Addr.add]
      rw [hadd, List.getElem?_eq_getElem (by omega)] at h2
      cases hb : w.heap[b]? with
      | none => simp [World.cell?, hb] at h2
      | some ob =>
        cases ob <;> simp [World.cell?, hb] at h2
        rename_i cells et fr
        obtain ⟨rfl, h2⟩ := h2
        refine ⟨_, cap, rfl, hfl, hl, .inr ⟨b, o, cells.toList, et, fr, rfl, heapA_mem.2 (by simpa using hb), fun j u hj => ?_⟩⟩
        have hjl : j < len * sz := by have := (List.getElem?_eq_some_iff.1 hj).1; rwa [hfl] at this
        have hi : j / sz < len := Nat.div_lt_of_lt_mul (by rw [Nat.mul_comm]; exact hjl)
        have hr : j % sz < sz := Nat.mod_lt _ hsp
        have hj2 := flat_get (fun c hc => (hlen2 c hc).1) (hget _ hi) (j % sz) hr
        have ej : j / sz * sz + j % sz = j := by rw [Nat.mul_comm]; exact Nat.div_add_mod j sz
        rw [ej, hj] at hj2
        obtain ⟨c, y, h5, _⟩ := hrow _ hi
        rw [h5, Option.getD_some] at hj2
        have h6 := (cells_get h5).2 _ hr
        rw [← hj2, Addr.add_mid, Addr.add_mid, World.cell?, hb] at h6
        simp only [Option.isSome_none, Bool.false_eq_true, if_false] at h6
        rw [Array.getElem?_toList, show o + j = o + j / sz * sz + j % sz by omega, h6]
/-! ### Scalars -/
theorem nat_of_wf (hk : k.signed = false) {n : Int} (h : (Lit.int k n).wf = true) : ∃ m : Nat, n = (m : Int) ∧ m < 2 ^ k.bits := by
  obtain ⟨h1, h2⟩ := wf_u hk h
  obtain ⟨m, rfl⟩ := Int.eq_ofNat_of_zero_le h1
  refine ⟨m, rfl, ?_⟩
  have h3 : ((m : Nat) : Int) < ((2 ^ k.bits : Nat) : Int) := by simpa using h2
  exact Int.ofNat_lt.1 h3
theorem inU (ht : P.underlying t = some (.int k)) (hk : k.signed = false) (hv : Value.okWide P w r base t v) (h : DataW.Trod enc P w 0 spare held t v d p) : ∃ n : Nat, v = .int k (n : Int) ∧ n < 2 ^ k.bits := by
  obtain ⟨n, rfl⟩ := okWide_int ht hv
  obtain ⟨f, hf⟩ := h
  obtain ⟨m, h1, _, h2⟩ := DataW.trod_int ht hf
  obtain ⟨q, rfl, h3⟩ := nat_of_wf hk h2
  exact ⟨q, by simpa [Value.cells] using h1, h3⟩
/-! ### Slices and arrays -/
theorem uints_of (hk : k.signed = false) (he : P.underlying e = some (.int k)) {xss : List (List Value)} (h : ∀ c ∈ xss, c.length = 1 ∧ ∃ m y, DataW.trod enc P w 0 spare held m e c = some y) :
    ∃ ws : List Nat, xss.flatten = nums k ws ∧ ws.length = xss.length ∧ ∀ x ∈ ws, x < 2 ^ k.bits := by
  induction xss with
  | nil => exact ⟨[], rfl, rfl, fun x hx => by cases hx⟩
  | cons c xss ih =>
    obtain ⟨ws, h1, h2, h3⟩ := ih fun c hc => h c (by simp [hc])
    obtain ⟨_, m, y, h4⟩ := h c (by simp)
    obtain ⟨n, rfl, _, h5⟩ := DataW.trod_int he h4
    obtain ⟨q, rfl, h6⟩ := nat_of_wf hk h5
    refine ⟨q :: ws, by rw [List.flatten_cons, h1]; rfl, by simp [h2], fun x hx => ?_⟩
    rcases List.mem_cons.1 hx with rfl | hx
    · exact h6
    · exact h3 x hx
theorem inSlU (ht : P.underlying t = some (.slice e)) (he : P.underlying e = some (.int k)) (hc : P.cellsOf e = 1) (hk : k.signed = false) (hv : Value.okWide P w r base t v) (h : DataW.Trod enc P w 0 spare held t v d p) :
    ∃ ws, Rd (heapA w) 1 v ws.length (nums k ws) ∧ (∀ x ∈ ws, x < 2 ^ k.bits) ∧ ws.length ≤ maxLen := by
  obtain ⟨a, len, cap, rfl⟩ := okWide_slice ht hv
  obtain ⟨f, hf⟩ := h
  obtain ⟨v, xss, h1, h2, h3, h4⟩ := in_slice ht hc (by decide) hf
  obtain ⟨ws, h5, h6, h7⟩ := uints_of hk he h4
  obtain rfl : Value.slice a len cap = v := by simpa [Value.cells] using h1
  exact ⟨ws, by rw [h6, ← h5]; exact h3, h7, by omega⟩
end
end Go.Px

/-
  Drawn regions, the second form: what isn't of K stands still. XK: the general one. XF: nothing that is there changes.
-/
namespace Go.Px
/-- What isn't of K stands still. -/
def Sk (K : Nat → Prop) (w w' : World) : Prop := ∀ b, b < w.heap.size → ¬ K b → w'.heap[b]? = w.heap[b]?
theorem Sk.fx {K : Nat → Prop} {w w' : World} (h : Sk K w w') {R : Mem} (hR : ∀ x ∈ R, ¬ K x.1) (hw : Fx R w) : Fx R w' := fun b o hb => by
  have h1 := hw b o hb
  rw [h b (lt_of_heap h1) (hR _ hb)]; exact h1

def XK (C : Cx) (os : List Oper) (Q : XQ) (K : Nat → Prop) (n0 : Nat) (nd : List Nat) (plan : List (Nat × Nat)) (l : Env) (M J : Mem) : Prop :=
  ∀ listed, Closed os.toArray listed → planOk os.toArray nd plan listed = true → ∀ a w, Ag C.N l a → St C M J w → n0 ≤ w.heap.size →
    wpAnyS C.P os.toArray (noPanicX (lift C Q)) (Sk K) nd.contains plan.length listed a w

section plan
variable {C : Cx} {Q : XQ} {l : Env} {M J : Mem} {os : List Oper} {K : Nat → Prop} {n0 : Nat} {nd : List Nat} {plan : List (Nat × Nat)}

theorem readOk_skp {T : World → Prop} {S : World → World → Prop} {ops : Array Oper} {nd : List Nat} {listed : Array Bool} {i : Nat} (h : readOk ops nd listed i = true) (hT : ∀ w w', T w → S w w' → T w') (j : Nat) (hlt : j < ops.size) (hji : j ≠ i) (hun : listed.getD j true = false) : anc ops ops.size j i = true ∨ ∀ w w', T w → (nd.contains j = true → S w w') → T w' := by
  have h1 := List.all_eq_true.1 h j (List.mem_range.2 hlt)
  simp only [Bool.or_eq_true, beq_iff_eq, hji, hun, false_or, Bool.false_eq_true] at h1
  rcases h1 with h1 | h1
  · exact .inr fun w w' hS hw => hT w w' hS (hw h1)
  · exact .inl h1

/-- Into a drawn region: Mv are the blocks that may change, and what is new counts as such if 'nv'. -/
theorem XC.drawK1 {id : Nat} (Mv Ms : Mem) (nv : Bool) (nd : List Nat) (plan : List (Nat × Nat)) (hm : C.P.follows .mixedOrders = true) (hp : planGood os nd plan = true) (hM : M.Perm (Mv ++ Ms))
    (h : Region.noSelect os.toArray = true → ∀ (K : Nat → Prop) n0, (∀ x ∈ Mv, K x.1) → (∀ x ∈ Ms ++ (J ++ C.A), ¬ K x.1) → (nv = true → ∀ b, n0 ≤ b → K b) → XK C os Q K n0 nd plan l (Mv ++ Ms) J) : XC C (.region id os.toArray true) Q l M J := by
  intro a w ha hw0
  have hw := hw0.perm hM
  simp only [planGood, Bool.and_eq_true, beq_iff_eq] at hp
  obtain ⟨⟨h1, h3⟩, h4⟩ := hp
  refine Code.wp_mono (Q := noPanicX (lift C Q)) (fun e a w h => by cases e <;> first | exact h | exact h.elim) ?_
  let K : Nat → Prop := fun b => b ∈ Mv.map Prod.fst ∨ (nv = true ∧ w.heap.size ≤ b)
  refine wp_region_any hm (wpAny_of_S (S := Sk K) (need := nd.contains) _ _ _ _ ?_)
  have hK1 : ∀ x ∈ Mv, K x.1 := fun x hx => .inl (List.mem_map_of_mem (f := Prod.fst) hx)
  have hcal := hw.callee (.refl _)
  have hK2 : ∀ x ∈ Ms ++ (J ++ C.A), ¬ K x.1 := by
    rintro ⟨b, o⟩ hx hk
    have h5 := hcal.sepA b o hx
    rcases hk with hk | ⟨_, hk⟩
    · exact h5.1 hk
    · exact absurd h5.2 (Nat.not_lt.2 hk)
  have := h h1 K w.heap.size hK1 hK2 (fun hn b hb => .inr ⟨hn, hb⟩) (Array.replicate os.length false) (fun j oj _ hl => by simp [Array.getElem?_replicate] at hl; split at hl <;> simp at hl) h4 a _ ha hw.drew (Nat.le_refl _)
  rw [h3] at this
  simpa using this
theorem XC.drawK {id : Nat} {c2 : Code} (Mv Ms : Mem) (nv : Bool) (nd : List Nat) (plan : List (Nat × Nat)) (hm : C.P.follows .mixedOrders = true) (hp : planGood os nd plan = true) (hM : M.Perm (Mv ++ Ms))
    (h : Region.noSelect os.toArray = true → ∀ (K : Nat → Prop) n0, (∀ x ∈ Mv, K x.1) → (∀ x ∈ Ms ++ (J ++ C.A), ¬ K x.1) → (nv = true → ∀ b, n0 ≤ b → K b) → XK C os (thenX C c2 Q) K n0 nd plan l (Mv ++ Ms) J) : XC C (.seq (.region id os.toArray true) c2) Q l M J :=
  XC.seq (XC.drawK1 Mv Ms nv nd plan hm hp hM h)

theorem XK.nil (h : Q .normal l M J) : XK C os Q K n0 nd [] l M J := by
  intro listed hcl hp a w ha hw hf
  simp only [planOk, List.isEmpty_iff] at hp
  exact ⟨hp, l, M, J, ha, hw, h⟩
theorem XK.fin {c : Code} {l' : Env} (hk : Keep l l') (h : XC C c Q l' M J) : XK C os (thenX C c Q) K n0 nd [] l M J := XK.nil (XC.keep hk h)
theorem XK.perm {M' : Mem} (hM : M.Perm M') (h : XK C os Q K n0 nd plan l M' J) : XK C os Q K n0 nd plan l M J := fun listed hcl hp a w ha hw hn => h listed hcl hp a w ha (hw.perm hM) hn
theorem XK.drop {M' : Mem} (hM : M'.Sublist M) (h : XK C os Q K n0 nd plan l M' J) : XK C os Q K n0 nd plan l M J := fun listed hcl hp a w ha hw hn => h listed hcl hp a w ha (hw.drop hM (fun _ h => h)) hn

/-- A reading operation is taken first. -/
theorem XK.take1 {i d : Nat} {op : Op} {ty : TypeId} {pos : String} {af : Array Edge} {g : Option (Nat × Bool)} {v : Value} {R : Mem} (hs : Region.noSelect os.toArray = true)
    (hget : nth os i = some ⟨some d, op, ty, pos, af, g⟩) (hR : ∀ x ∈ R, x ∈ M ++ (J ++ C.A)) (hn : ∀ x ∈ R, ¬ K x.1)
    (hy : ∀ a, Ag C.N l a → YieldsIf C.P os.toArray (Fx R) ⟨some d, op, ty, pos, af, g⟩ v a) (hd : Nat.blt d C.N = true)
    (h : XK C os Q K n0 nd plan ((d, v) :: l) M J) : XK C os Q K n0 nd ((i, 1) :: plan) l M J := by
  intro listed hcl hp a w ha hw hf
  simp only [planOk, Bool.and_eq_true] at hp
  obtain ⟨⟨⟨h1, h2⟩, h5⟩, h4⟩ := hp
  have hi : os.toArray[i]? = some ⟨some d, op, ty, pos, af, g⟩ := by rw [nth_eq] at hget; simpa using hget
  have hr : i ∈ Region.ready .any os.toArray listed := by simpa using h1
  exact wpAnyS_first (S := Sk K) (T := Fx R) (N := os.toArray.size) hi (Region.noSelect_spec hs) (fun _ _ _ h => h) (fun _ _ _ _ => rfl) _ listed a w hcl (Region.free_spec hi h2) (readOk_skp h5 fun w w' hT hS => hS.fx hn hT) hr (hy a ha) (fun b o hb => hw.fx b o (hR _ hb))
    (h _ (closed_set hcl hr) h4 _ w (ha.put (blt_lt hd) v) hw hf)
theorem XK.take0 {i d : Nat} {op : Op} {ty : TypeId} {pos : String} {af : Array Edge} {g : Option (Nat × Bool)} {v : Value} (hs : Region.noSelect os.toArray = true)
    (hget : nth os i = some ⟨some d, op, ty, pos, af, g⟩)
    (hy : ∀ a, Ag C.N l a → YieldsIf C.P os.toArray (fun _ => True) ⟨some d, op, ty, pos, af, g⟩ v a) (hd : Nat.blt d C.N = true)
    (h : XK C os Q K n0 nd plan ((d, v) :: l) M J) : XK C os Q K n0 nd ((i, 0) :: plan) l M J := by
  intro listed hcl hp a w ha hw hf
  simp only [planOk, Bool.and_eq_true] at hp
  obtain ⟨⟨h1, h2⟩, h4⟩ := hp
  have hi : os.toArray[i]? = some ⟨some d, op, ty, pos, af, g⟩ := by rw [nth_eq] at hget; simpa using hget
  have hr : i ∈ Region.ready .any os.toArray listed := by simpa using h1
  exact wpAnyS_first (S := Sk K) (T := fun _ => True) (N := 0) hi (Region.noSelect_spec hs) (fun _ _ _ h => h) (fun _ _ _ _ => rfl) _ listed a w hcl (Region.free_spec hi h2) (fun _ _ _ _ => .inr fun _ _ _ _ => trivial) hr (hy a ha) trivial
    (h _ (closed_set hcl hr) h4 _ w (ha.put (blt_lt hd) v) hw hf)

section ops
variable {i d j t : Nat} {op : Op} {ty : TypeId} {pos : String} {af : Array Edge} {b b' : Bool} {v : Value} {oj : Oper} {R : Mem}
theorem XK.q (hs : Region.noSelect os.toArray = true) (hget : nth os i = some ⟨some d, op, ty, pos, af, none⟩) (hq : OpQ C.P [] ⟨some d, op, ty, pos, af, none⟩ l v) (hd : Nat.blt d C.N = true)
    (h : XK C os Q K n0 nd plan ((d, v) :: l) M J) : XK C os Q K n0 nd ((i, 0) :: plan) l M J :=
  XK.take0 hs hget (fun a ha => .inl ⟨rfl, fun w hw => hq C.N a w ha (fun _ _ hb => by cases hb)⟩) hd h
theorem XK.r (hs : Region.noSelect os.toArray = true) (hget : nth os i = some ⟨some d, op, ty, pos, af, none⟩) (hR : ∀ x ∈ R, x ∈ M ++ (J ++ C.A)) (hn : ∀ x ∈ R, ¬ K x.1) (hq : OpQ C.P R ⟨some d, op, ty, pos, af, none⟩ l v) (hd : Nat.blt d C.N = true)
    (h : XK C os Q K n0 nd plan ((d, v) :: l) M J) : XK C os Q K n0 nd ((i, 1) :: plan) l M J :=
  XK.take1 hs hget hR hn (fun a ha => .inl ⟨rfl, fun w hw => hq C.N a w ha hw⟩) hd h
theorem XK.qg (hs : Region.noSelect os.toArray = true) (hget : nth os i = some ⟨some d, op, ty, pos, af, some (j, b)⟩) (hj : nth os j = some oj) (ht : oj.dst = some t) (hl : lk l t = some (.bool b)) (hq : OpQ C.P [] ⟨some d, op, ty, pos, af, some (j, b)⟩ l v) (hd : Nat.blt d C.N = true)
    (h : XK C os Q K n0 nd plan ((d, v) :: l) M J) : XK C os Q K n0 nd ((i, 0) :: plan) l M J :=
  XK.take0 hs hget (fun a ha => .inl ⟨wantedY (i := i) ha hj ht hl, fun w hw => hq C.N a w ha (fun _ _ hb => by cases hb)⟩) hd h
theorem XK.rg (hs : Region.noSelect os.toArray = true) (hget : nth os i = some ⟨some d, op, ty, pos, af, some (j, b)⟩) (hj : nth os j = some oj) (ht : oj.dst = some t) (hl : lk l t = some (.bool b)) (hR : ∀ x ∈ R, x ∈ M ++ (J ++ C.A)) (hn : ∀ x ∈ R, ¬ K x.1) (hq : OpQ C.P R ⟨some d, op, ty, pos, af, some (j, b)⟩ l v) (hd : Nat.blt d C.N = true)
    (h : XK C os Q K n0 nd plan ((d, v) :: l) M J) : XK C os Q K n0 nd ((i, 1) :: plan) l M J :=
  XK.take1 hs hget hR hn (fun a ha => .inl ⟨wantedY (i := i) ha hj ht hl, fun w hw => hq C.N a w ha hw⟩) hd h
theorem XK.qn (hs : Region.noSelect os.toArray = true) (hget : nth os i = some ⟨some d, op, ty, pos, af, some (j, b)⟩) (hj : nth os j = some oj) (ht : oj.dst = some t) (hl : lk l t = some (.bool b')) (hb : (b' == b) = false) (hd : Nat.blt d C.N = true)
    (h : XK C os Q K n0 nd plan ((d, undef) :: l) M J) : XK C os Q K n0 nd ((i, 0) :: plan) l M J :=
  XK.take0 hs hget (fun a ha => .inr ⟨wantedN (i := i) ha hj ht hl hb, rfl⟩) hd h
theorem XK.rn (hs : Region.noSelect os.toArray = true) (hget : nth os i = some ⟨some d, op, ty, pos, af, some (j, b)⟩) (hj : nth os j = some oj) (ht : oj.dst = some t) (hl : lk l t = some (.bool b')) (hb : (b' == b) = false) (hd : Nat.blt d C.N = true)
    (h : XK C os Q K n0 nd plan ((d, undef) :: l) M J) : XK C os Q K n0 nd ((i, 1) :: plan) l M J :=
  XK.take1 (R := []) hs hget (fun _ h => by cases h) (fun _ h => by cases h) (fun a ha => .inr ⟨wantedN (i := i) ha hj ht hl hb, rfl⟩) hd h
theorem XK.qu (hs : Region.noSelect os.toArray = true) (hget : nth os i = some ⟨some d, op, ty, pos, af, some (j, b)⟩) (hj : nth os j = some oj) (ht : oj.dst = some t) (hl : lk l t = some undef) (hd : Nat.blt d C.N = true)
    (h : XK C os Q K n0 nd plan ((d, undef) :: l) M J) : XK C os Q K n0 nd ((i, 0) :: plan) l M J :=
  XK.take0 hs hget (fun a ha => .inr ⟨wantedU (i := i) ha hj ht hl, rfl⟩) hd h
end ops

/-- A loud operation that works on the blocks Mc alone. -/
theorem XK.loud {i : Nat} {o : Oper} {Mc R : Mem} (hget : nth os i = some o) (hw' : ∀ a, Ag C.N l a → Region.wanted o (yielded os.toArray a.tmps) = true) (hM : M.Perm (Mc ++ R)) (hK : ∀ x ∈ Mc, K x.1)
    (h : ∀ w, OpL ⟨C.P, w, Mc.map Prod.fst, R ++ (J ++ C.A), C.N⟩ o l Mc [] (fun l' M' J' => ((∀ b, n0 ≤ b → K b) → ∀ x ∈ M', K x.1) → XK C os Q K n0 nd plan l' (M' ++ R) (J' ++ J))) :
    XK C os Q K n0 nd ((i, 2) :: plan) l M J := by
  intro listed hcl hp a w ha hw hf
  simp only [planOk, Bool.and_eq_true, beq_iff_eq] at hp
  obtain ⟨h1, h2⟩ := hp
  have hi : os.toArray[i]? = some o := by rw [nth_eq] at hget; simpa using hget
  refine ⟨fun h0 => (by rw [h1] at h0; cases h0), fun j hj => ?_⟩
  have hr := hj
  rw [h1] at hj
  simp only [List.mem_singleton] at hj
  subst hj
  unfold wpOp
  simp only [hi]
  rw [if_pos (hw' a ha)]
  refine .inl (Oper.wp_mono ?_ (h w _ a w ha (hw.callee hM).cx))
  rintro a' w' ⟨l', M', J', ha', hs', hk⟩
  have hsz : w.heap.size ≤ w'.heap.size := hs'.size
  refine ⟨fun _ b hb hnk => hs'.frame b hb fun hm => ?_, hk ?_ _ (closed_set hcl hr) h2 a' w' ha' (hw.back hM hs'.cx) (Nat.le_trans hf hsz)⟩
  · obtain ⟨x, hx, e⟩ := List.mem_map.1 hm
    exact hnk (e ▸ hK x hx)
  · rintro hup ⟨b, o'⟩ hx
    rcases hs'.own b o' (by simp [hx]) with h6 | h6
    · obtain ⟨x, hx, e⟩ := List.mem_map.1 h6
      exact e ▸ hK x hx
    · exact hup b (Nat.le_trans hf h6)
theorem XK.lo {i : Nat} {o : Oper} (Mc R : Mem) (hget : nth os i = some o) (hg : o.guard = none) (hM : M.Perm (Mc ++ R)) (hK : ∀ x ∈ Mc, K x.1)
    (h : ∀ w, OpL ⟨C.P, w, Mc.map Prod.fst, R ++ (J ++ C.A), C.N⟩ o l Mc [] (fun l' M' J' => ((∀ b, n0 ≤ b → K b) → ∀ x ∈ M', K x.1) → XK C os Q K n0 nd plan l' (M' ++ R) (J' ++ J))) :
    XK C os Q K n0 nd ((i, 2) :: plan) l M J := XK.loud hget (fun a ha => by simp [Region.wanted, hg]) hM hK h
theorem XK.lg {i j t : Nat} {d : Option Nat} {op : Op} {ty : TypeId} {pos : String} {af : Array Edge} {b : Bool} {oj : Oper} (Mc R : Mem) (hget : nth os i = some ⟨d, op, ty, pos, af, some (j, b)⟩) (hj : nth os j = some oj) (ht : oj.dst = some t) (hl : lk l t = some (.bool b)) (hM : M.Perm (Mc ++ R)) (hK : ∀ x ∈ Mc, K x.1)
    (h : ∀ w, OpL ⟨C.P, w, Mc.map Prod.fst, R ++ (J ++ C.A), C.N⟩ ⟨d, op, ty, pos, af, some (j, b)⟩ l Mc [] (fun l' M' J' => ((∀ b, n0 ≤ b → K b) → ∀ x ∈ M', K x.1) → XK C os Q K n0 nd plan l' (M' ++ R) (J' ++ J))) :
    XK C os Q K n0 nd ((i, 2) :: plan) l M J := XK.loud hget (fun a ha => by
      have hj' : os.toArray[j]? = some oj := by rw [nth_eq] at hj; simpa using hj
      simp only [Region.wanted, yielded, hj', Option.bind_some, ht, ha.slot _ _ hl]; simp) hM hK h
/-- A loud operation that isn't asked. -/
theorem XK.skip {i d : Nat} {op : Op} {ty : TypeId} {pos : String} {af : Array Edge} {g : Option (Nat × Bool)} (hget : nth os i = some ⟨some d, op, ty, pos, af, g⟩) (hw' : ∀ a, Ag C.N l a → Region.wanted ⟨some d, op, ty, pos, af, g⟩ (yielded os.toArray a.tmps) = false) (hd : Nat.blt d C.N = true)
    (h : XK C os Q K n0 nd plan ((d, undef) :: l) M J) : XK C os Q K n0 nd ((i, 2) :: plan) l M J := by
  intro listed hcl hp a w ha hw hf
  simp only [planOk, Bool.and_eq_true, beq_iff_eq] at hp
  obtain ⟨h1, h2⟩ := hp
  have hi : os.toArray[i]? = some ⟨some d, op, ty, pos, af, g⟩ := by rw [nth_eq] at hget; simpa using hget
  refine ⟨fun h0 => (by rw [h1] at h0; cases h0), fun j hj => ?_⟩
  have hr := hj
  rw [h1] at hj
  simp only [List.mem_singleton] at hj
  subst hj
  unfold wpOp
  simp only [hi]
  rw [if_neg (by rw [hw' a ha]; simp)]
  exact ⟨fun _ _ _ _ => rfl, h _ (closed_set hcl hr) h2 _ w (ha.put (blt_lt hd) undef) hw hf⟩
theorem XK.ln {i d j t : Nat} {op : Op} {ty : TypeId} {pos : String} {af : Array Edge} {b b' : Bool} {oj : Oper} (hget : nth os i = some ⟨some d, op, ty, pos, af, some (j, b)⟩) (hj : nth os j = some oj) (ht : oj.dst = some t) (hl : lk l t = some (.bool b')) (hb : (b' == b) = false) (hd : Nat.blt d C.N = true)
    (h : XK C os Q K n0 nd plan ((d, undef) :: l) M J) : XK C os Q K n0 nd ((i, 2) :: plan) l M J :=
  XK.skip hget (fun a ha => wantedN (i := i) ha hj ht hl hb) hd h
theorem XK.split {t : Nat} {b : Bool} (hl : lk l t = some (.bool b)) (h1 : b = true → XK C os Q K n0 nd plan ((t, .bool true) :: l) M J) (h2 : b = false → XK C os Q K n0 nd plan ((t, .bool false) :: l) M J) :
    XK C os Q K n0 nd plan l M J := by
  intro listed hcl hp a w ha hw hf
  have key : ∀ b', b = b' → Ag C.N ((t, .bool b') :: l) a := by
    rintro b' rfl
    refine ha.sub ?_
    intro i v hi
    simp only [lk] at hi
    by_cases e : t = i
    · subst e; simp at hi; subst hi; exact hl
    · simpa only [beq_ne e, cond_false] using hi
  cases b
  · exact h2 rfl listed hcl hp a w (key _ rfl) hw hf
  · exact h1 rfl listed hcl hp a w (key _ rfl) hw hf
end plan

/-! ### Nothing that is there changes -/
def XF (C : Cx) (os : List Oper) (Q : XQ) (nd : List Nat) (plan : List (Nat × Nat)) (l : Env) (M J : Mem) : Prop := XK C os Q (fun _ => False) 0 nd plan l M J
section free
variable {C : Cx} {Q : XQ} {l : Env} {M J : Mem} {os : List Oper} {nd : List Nat} {plan : List (Nat × Nat)}
theorem XC.drawF1 {id : Nat} (nd : List Nat) (plan : List (Nat × Nat)) (hm : C.P.follows .mixedOrders = true) (hp : planGood os nd plan = true) (h : Region.noSelect os.toArray = true → XF C os Q nd plan l M J) : XC C (.region id os.toArray true) Q l M J := by
  intro a w ha hw
  simp only [planGood, Bool.and_eq_true, beq_iff_eq] at hp
  obtain ⟨⟨h1, h3⟩, h4⟩ := hp
  refine Code.wp_mono (Q := noPanicX (lift C Q)) (fun e a w h => by cases e <;> first | exact h | exact h.elim) ?_
  refine wp_region_any hm (wpAny_of_S (S := Sk fun _ => False) (need := nd.contains) _ _ _ _ ?_)
  have := h h1 (Array.replicate os.length false) (fun j oj _ hl => by simp [Array.getElem?_replicate] at hl; split at hl <;> simp at hl) h4 a _ ha hw.drew (Nat.zero_le _)
  rw [h3] at this
  simpa using this
theorem XC.drawF {id : Nat} {c2 : Code} (nd : List Nat) (plan : List (Nat × Nat)) (hm : C.P.follows .mixedOrders = true) (hp : planGood os nd plan = true) (h : Region.noSelect os.toArray = true → XF C os (thenX C c2 Q) nd plan l M J) : XC C (.seq (.region id os.toArray true) c2) Q l M J :=
  XC.seq (XC.drawF1 nd plan hm hp h)
theorem XF.nil (h : Q .normal l M J) : XF C os Q nd [] l M J := XK.nil h
theorem XF.fin {c : Code} {l' : Env} (hk : Keep l l') (h : XC C c Q l' M J) : XF C os (thenX C c Q) nd [] l M J := XK.fin hk h
theorem XF.split {t : Nat} {b : Bool} (hl : lk l t = some (.bool b)) (h1 : b = true → XF C os Q nd plan ((t, .bool true) :: l) M J) (h2 : b = false → XF C os Q nd plan ((t, .bool false) :: l) M J) : XF C os Q nd plan l M J := XK.split hl h1 h2
section ops
variable {i d j t : Nat} {op : Op} {ty : TypeId} {pos : String} {af : Array Edge} {b b' : Bool} {v : Value} {oj : Oper}
theorem XF.q (hs : Region.noSelect os.toArray = true) (hget : nth os i = some ⟨some d, op, ty, pos, af, none⟩) (hq : OpQ C.P [] ⟨some d, op, ty, pos, af, none⟩ l v) (hd : Nat.blt d C.N = true)
    (h : XF C os Q nd plan ((d, v) :: l) M J) : XF C os Q nd ((i, 0) :: plan) l M J := XK.q hs hget hq hd h
theorem XF.r (hs : Region.noSelect os.toArray = true) (hget : nth os i = some ⟨some d, op, ty, pos, af, none⟩) (hq : OpQ C.P (M ++ (J ++ C.A)) ⟨some d, op, ty, pos, af, none⟩ l v) (hd : Nat.blt d C.N = true)
    (h : XF C os Q nd plan ((d, v) :: l) M J) : XF C os Q nd ((i, 1) :: plan) l M J := XK.r hs hget (fun _ h => h) (fun _ _ h => h) hq hd h
theorem XF.qg (hs : Region.noSelect os.toArray = true) (hget : nth os i = some ⟨some d, op, ty, pos, af, some (j, b)⟩) (hj : nth os j = some oj) (ht : oj.dst = some t) (hl : lk l t = some (.bool b)) (hq : OpQ C.P [] ⟨some d, op, ty, pos, af, some (j, b)⟩ l v) (hd : Nat.blt d C.N = true)
    (h : XF C os Q nd plan ((d, v) :: l) M J) : XF C os Q nd ((i, 0) :: plan) l M J := XK.qg hs hget hj ht hl hq hd h
theorem XF.rg (hs : Region.noSelect os.toArray = true) (hget : nth os i = some ⟨some d, op, ty, pos, af, some (j, b)⟩) (hj : nth os j = some oj) (ht : oj.dst = some t) (hl : lk l t = some (.bool b)) (hq : OpQ C.P (M ++ (J ++ C.A)) ⟨some d, op, ty, pos, af, some (j, b)⟩ l v) (hd : Nat.blt d C.N = true)
    (h : XF C os Q nd plan ((d, v) :: l) M J) : XF C os Q nd ((i, 1) :: plan) l M J := XK.rg hs hget hj ht hl (fun _ h => h) (fun _ _ h => h) hq hd h
theorem XF.qn (hs : Region.noSelect os.toArray = true) (hget : nth os i = some ⟨some d, op, ty, pos, af, some (j, b)⟩) (hj : nth os j = some oj) (ht : oj.dst = some t) (hl : lk l t = some (.bool b')) (hb : (b' == b) = false) (hd : Nat.blt d C.N = true)
    (h : XF C os Q nd plan ((d, undef) :: l) M J) : XF C os Q nd ((i, 0) :: plan) l M J := XK.qn hs hget hj ht hl hb hd h
theorem XF.rn (hs : Region.noSelect os.toArray = true) (hget : nth os i = some ⟨some d, op, ty, pos, af, some (j, b)⟩) (hj : nth os j = some oj) (ht : oj.dst = some t) (hl : lk l t = some (.bool b')) (hb : (b' == b) = false) (hd : Nat.blt d C.N = true)
    (h : XF C os Q nd plan ((d, undef) :: l) M J) : XF C os Q nd ((i, 1) :: plan) l M J := XK.rn hs hget hj ht hl hb hd h
theorem XF.ln (hs : Region.noSelect os.toArray = true) (hget : nth os i = some ⟨some d, op, ty, pos, af, some (j, b)⟩) (hj : nth os j = some oj) (ht : oj.dst = some t) (hl : lk l t = some (.bool b')) (hb : (b' == b) = false) (hd : Nat.blt d C.N = true)
    (h : XF C os Q nd plan ((d, undef) :: l) M J) : XF C os Q nd ((i, 2) :: plan) l M J := XK.ln hget hj ht hl hb hd h
theorem XF.qu (hs : Region.noSelect os.toArray = true) (hget : nth os i = some ⟨some d, op, ty, pos, af, some (j, b)⟩) (hj : nth os j = some oj) (ht : oj.dst = some t) (hl : lk l t = some undef) (hd : Nat.blt d C.N = true)
    (h : XF C os Q nd plan ((d, undef) :: l) M J) : XF C os Q nd ((i, 0) :: plan) l M J := XK.qu hs hget hj ht hl hd h
end ops
/-- A loud operation that makes new blocks alone. -/
theorem XF.lo {i : Nat} {o : Oper} (hget : nth os i = some o) (hg : o.guard = none)
    (h : ∀ w, OpL ⟨C.P, w, [], M ++ (J ++ C.A), C.N⟩ o l [] [] (fun l' M' J' => XF C os Q nd plan l' (M' ++ M) (J' ++ J))) : XF C os Q nd ((i, 2) :: plan) l M J :=
  XK.lo [] M hget hg (.refl _) (fun _ h => by cases h) fun w => (h w).mono fun _ _ _ hh _ => hh
theorem XF.lg {i j t : Nat} {d : Option Nat} {op : Op} {ty : TypeId} {pos : String} {af : Array Edge} {b : Bool} {oj : Oper} (hget : nth os i = some ⟨d, op, ty, pos, af, some (j, b)⟩) (hj : nth os j = some oj) (ht : oj.dst = some t) (hl : lk l t = some (.bool b))
    (h : ∀ w, OpL ⟨C.P, w, [], M ++ (J ++ C.A), C.N⟩ ⟨d, op, ty, pos, af, some (j, b)⟩ l [] [] (fun l' M' J' => XF C os Q nd plan l' (M' ++ M) (J' ++ J))) : XF C os Q nd ((i, 2) :: plan) l M J :=
  XK.lg [] M hget hj ht hl (.refl _) (fun _ h => by cases h) fun w => (h w).mono fun _ _ _ hh _ => hh
end free

/-! ### What comes last in a drawn region may change what is there -/
section tails
variable {C : Cx} {Q : XQ} {l : Env} {M J : Mem} {os : List Oper} {K : Nat → Prop} {n0 : Nat} {nd : List Nat} {plan : List (Nat × Nat)}
theorem XK.last {i : Nat} {o : Oper} (hget : nth os i = some o) (hw' : ∀ a, Ag C.N l a → Region.wanted o (yielded os.toArray a.tmps) = true) (hnd : nd.contains i = false)
    (h : OpL C o l M J (fun l' M' J' => XK C os Q K 0 nd plan l' M' J')) : XK C os Q K 0 nd ((i, 2) :: plan) l M J := by
  intro listed hcl hp a w ha hw hf
  simp only [planOk, Bool.and_eq_true, beq_iff_eq] at hp
  obtain ⟨h1, h2⟩ := hp
  have hi : os.toArray[i]? = some o := by rw [nth_eq] at hget; simpa using hget
  refine ⟨fun h0 => (by rw [h1] at h0; cases h0), fun j hj => ?_⟩
  have hr := hj
  rw [h1] at hj
  simp only [List.mem_singleton] at hj
  subst hj
  unfold wpOp
  simp only [hi]
  rw [if_pos (hw' a ha)]
  refine .inl (Oper.wp_mono ?_ (h _ a w ha hw))
  rintro a' w' ⟨l', M', J', ha', hs', hk⟩
  exact ⟨fun hn => absurd hn (by rw [hnd]; decide), hk _ (closed_set hcl hr) h2 a' w' ha' hs' (Nat.zero_le _)⟩
theorem XF.tl {i : Nat} {o : Oper} (hget : nth os i = some o) (hg : o.guard = none) (hnd : nd.contains i = false) (h : OpL C o l M J (fun l' M' J' => XF C os Q nd plan l' M' J')) : XF C os Q nd ((i, 2) :: plan) l M J :=
  XK.last hget (fun a ha => by simp [Region.wanted, hg]) hnd h
end tails

/-! ### A loop, round by round -/
def XR (C : Cx) (c : Code) (Q : XQ) (n : Nat) (l : Env) (M J : Mem) : Prop := ∀ a w, Ag C.N l a → St C M J w → Code.rounds C.P c (lift C Q) n a w
def unX (C : Cx) (c : Code) (Q : XQ) (n : Nat) : XQ
  | .normal, l, M, J => XR C c Q n l M J
  | e, l, M, J => Q e l M J
section unroll
variable {C : Cx} {Q : XQ} {l l' : Env} {M J : Mem} {c : Code} {n : Nat}
theorem XC.rounds (n : Nat) (h : XR C c Q n l M J) : XC C (.loop c) Q l M J := fun a w ha hw => wp_loop_rounds n (h a w ha hw)
theorem XR.step (h : XC C c (unX C c Q n) l M J) : XR C c Q (n + 1) l M J := by
  intro a w ha hw
  refine Code.wp_mono ?_ (h a w ha hw)
  rintro e a' w' ⟨l', M', J', ha', hw', hq⟩
  cases e with
  | normal => exact hq a' w' ha' hw'
  | _ => exact ⟨l', M', J', ha', hw', hq⟩
theorem un (hk : Keep l l') (h : XR C c Q n l' M J) : unX C c Q n .normal l M J := fun a w ha hw => h a w (ha.sub hk.lk) hw
theorem ue {i : Nat} (h : Q (.exit i) l M J) : unX C c Q n (.exit i) l M J := h
end unroll

/-! ### A call that gets no blocks -/
section call
variable {C : Cx} {Q : XQ} {l : Env} {M J : Mem} {d i j t : Nat} {ty : TypeId} {pos : String} {af : Array Edge} {b : Bool} {f : FuncId} {xs : List Operand} {vs : List Value} {ts : Array TypeId} {post : Value → Mem → Mem → Prop} {K : Env → Mem → Mem → Prop} {g : Option (Nat × Bool)}
theorem l_call0 (hx : Evs l xs vs) (hc : callable C.P f = true)
    (hf : FnX C.P f vs [] (M ++ (J ++ C.A)) post) (hd : Nat.blt d C.N = true) (k : ∀ v M' J', post v M' J' → K ((d, v) :: l) (M' ++ M) (J' ++ J)) :
    OpL C ⟨some d, .call { callee := .value (.func f), args := xs.toArray, argTypes := ts }, ty, pos, af, g⟩ l M J K := l_call (Mc := []) (R := M) hx hc (.refl _) hf hd k
theorem XL.call {ops : Array Oper} {rest : List Oper} (hx : Evs l xs vs) (hc : callable C.P f = true) (hf : FnX C.P f vs [] (M ++ (J ++ C.A)) post) (hd : Nat.blt d C.N = true)
    (k : ∀ v M' J', post v M' J' → XL C ops rest Q ((d, v) :: l) (M' ++ M) (J' ++ J)) :
    XL C ops (⟨some d, .call { callee := .value (.func f), args := xs.toArray, argTypes := ts }, ty, pos, af, none⟩ :: rest) Q l M J := XL.lo rfl (l_call0 hx hc hf hd k)
theorem XL.callg {ops : Array Oper} {rest : List Oper} (ht : (ops[j]?).bind (·.dst) = some t) (hl : lk l t = some (.bool b)) (hx : Evs l xs vs) (hc : callable C.P f = true) (hf : FnX C.P f vs [] (M ++ (J ++ C.A)) post) (hd : Nat.blt d C.N = true)
    (k : ∀ v M' J', post v M' J' → XL C ops rest Q ((d, v) :: l) (M' ++ M) (J' ++ J)) :
    XL C ops (⟨some d, .call { callee := .value (.func f), args := xs.toArray, argTypes := ts }, ty, pos, af, some (j, b)⟩ :: rest) Q l M J := XL.gy ht hl (l_call0 hx hc hf hd k)
variable {os : List Oper} {nd : List Nat} {plan : List (Nat × Nat)} {oj : Oper}
theorem XF.call (hget : nth os i = some ⟨some d, .call { callee := .value (.func f), args := xs.toArray, argTypes := ts }, ty, pos, af, none⟩) (hx : Evs l xs vs) (hc : callable C.P f = true) (hf : FnX C.P f vs [] (M ++ (J ++ C.A)) post) (hd : Nat.blt d C.N = true)
    (k : ∀ v M' J', post v M' J' → XF C os Q nd plan ((d, v) :: l) (M' ++ M) (J' ++ J)) : XF C os Q nd ((i, 2) :: plan) l M J :=
  XF.lo hget rfl fun w => l_call0 hx hc hf hd fun v M' J' hp => by simpa using k v M' J' hp
theorem XF.callg (hget : nth os i = some ⟨some d, .call { callee := .value (.func f), args := xs.toArray, argTypes := ts }, ty, pos, af, some (j, b)⟩) (hj : nth os j = some oj) (ht : oj.dst = some t) (hl : lk l t = some (.bool b)) (hx : Evs l xs vs) (hc : callable C.P f = true) (hf : FnX C.P f vs [] (M ++ (J ++ C.A)) post) (hd : Nat.blt d C.N = true)
    (k : ∀ v M' J', post v M' J' → XF C os Q nd plan ((d, v) :: l) (M' ++ M) (J' ++ J)) : XF C os Q nd ((i, 2) :: plan) l M J :=
  XF.lg hget hj ht hl fun w => l_call0 hx hc hf hd fun v M' J' hp => by simpa using k v M' J' hp
/-- .. and only computes. -/
theorem XL.callV {ops : Array Oper} {rest : List Oper} {v : Value} (hx : Evs l xs vs) (hc : callable C.P f = true) (hf : FnV C.P f vs (M ++ (J ++ C.A)) v) (hd : Nat.blt d C.N = true) (k : XL C ops rest Q ((d, v) :: l) M J) :
    XL C ops (⟨some d, .call { callee := .value (.func f), args := xs.toArray, argTypes := ts }, ty, pos, af, none⟩ :: rest) Q l M J := XL.call hx hc hf hd fun r M' J' h => by obtain ⟨rfl, rfl, rfl⟩ := h; exact k
theorem XL.callVg {ops : Array Oper} {rest : List Oper} {v : Value} (ht : (ops[j]?).bind (·.dst) = some t) (hl : lk l t = some (.bool b)) (hx : Evs l xs vs) (hc : callable C.P f = true) (hf : FnV C.P f vs (M ++ (J ++ C.A)) v) (hd : Nat.blt d C.N = true) (k : XL C ops rest Q ((d, v) :: l) M J) :
    XL C ops (⟨some d, .call { callee := .value (.func f), args := xs.toArray, argTypes := ts }, ty, pos, af, some (j, b)⟩ :: rest) Q l M J := XL.callg ht hl hx hc hf hd fun r M' J' h => by obtain ⟨rfl, rfl, rfl⟩ := h; exact k
theorem XF.callV {v : Value} (hget : nth os i = some ⟨some d, .call { callee := .value (.func f), args := xs.toArray, argTypes := ts }, ty, pos, af, none⟩) (hx : Evs l xs vs) (hc : callable C.P f = true) (hf : FnV C.P f vs (M ++ (J ++ C.A)) v) (hd : Nat.blt d C.N = true)
    (k : XF C os Q nd plan ((d, v) :: l) M J) : XF C os Q nd ((i, 2) :: plan) l M J := XF.call hget hx hc hf hd fun r M' J' h => by obtain ⟨rfl, rfl, rfl⟩ := h; exact k
theorem XF.callVg {v : Value} (hget : nth os i = some ⟨some d, .call { callee := .value (.func f), args := xs.toArray, argTypes := ts }, ty, pos, af, some (j, b)⟩) (hj : nth os j = some oj) (ht : oj.dst = some t) (hl : lk l t = some (.bool b)) (hx : Evs l xs vs) (hc : callable C.P f = true) (hf : FnV C.P f vs (M ++ (J ++ C.A)) v) (hd : Nat.blt d C.N = true)
    (k : XF C os Q nd plan ((d, v) :: l) M J) : XF C os Q nd ((i, 2) :: plan) l M J := XF.callg hget hj ht hl hx hc hf hd fun r M' J' h => by obtain ⟨rfl, rfl, rfl⟩ := h; exact k
end call
end Go.Px

namespace Go.Px
theorem kr_ {X Z Y : Mem} : ∀ x ∈ Z ++ Y, x ∈ (X ++ Z) ++ Y := fun x hx => by rw [List.append_assoc]; exact List.mem_append_right _ hx
end Go.Px

