/- Part 2 of the texts of this claim, one behind the other. -/
import Derived.Test.YtphcaiplgpmnnaaGreatDoorB1
import Derived.Laws.BytesString
import Derived.Laws.MakeOwn
import Derived.WalkKit
import Derived.ProofKit
import Derived.OpenShut
import Derived.ShutString
import Derived.ChangeOld
import Derived.Below
import Derived.LoopN
set_option linter.unusedVariables false
set_option linter.unusedSimpArgs false
set_option maxRecDepth 100000
namespace Go.Px

theorem wrap_nat {k : IntKind} (hk : k.signed = false) (n : Nat) : k.wrap (n : Int) = ((n % 2 ^ k.bits : Nat) : Int) := by
  unfold IntKind.wrap
  simp only [hk, Bool.false_and, Bool.false_eq_true, if_false]
  rw [Int.natCast_emod]; simp
theorem wrap8 (n : Nat) : IntKind.u8.wrap (n : Int) = ((n % 256 : Nat) : Int) := wrap_nat rfl n
theorem wrap32 (n : Nat) : IntKind.u32.wrap (n : Int) = ((n % 4294967296 : Nat) : Int) := wrap_nat rfl n
theorem wrap64 (n : Nat) : IntKind.u64.wrap (n : Int) = ((n % 18446744073709551616 : Nat) : Int) := wrap_nat rfl n
theorem wrapI {n : Nat} (h : n < 9223372036854775808) : IntKind.i64.wrap (n : Int) = (n : Int) := wrap_i64 (by omega) (by omega)

section ops
variable {k : IntKind} {a b : Nat}
theorem addU (hk : k.signed = false) (r : Nat) (h : (a + b) % 2 ^ k.bits = r) : arith .add k (a : Int) (b : Int) = some (.int k (r : Int)) := by
  simp only [arith]
  rw [show (a : Int) + b = ((a + b : Nat) : Int) from by omega, wrap_nat hk, h]
theorem mulU (hk : k.signed = false) (r : Nat) (h : (a * b) % 2 ^ k.bits = r) : arith .mul k (a : Int) (b : Int) = some (.int k (r : Int)) := by
  simp only [arith]
  rw [show (a : Int) * b = ((a * b : Nat) : Int) from by simp, wrap_nat hk, h]
theorem subU (hk : k.signed = false) (r : Nat) (hb : b ≤ 2 ^ k.bits) (h : (a + (2 ^ k.bits - b)) % 2 ^ k.bits = r) : arith .sub k (a : Int) (b : Int) = some (.int k (r : Int)) := by
  simp only [arith]
  have e : (a : Int) - b = ((a + (2 ^ k.bits - b) : Nat) : Int) - (2 ^ k.bits : Nat) := by omega
  have e2 : k.wrap ((a : Int) - b) = k.wrap ((a + (2 ^ k.bits - b) : Nat) : Int) := by
    unfold IntKind.wrap
    simp only [hk, Bool.false_and, Bool.false_eq_true, if_false]
    rw [e]
    simp
  rw [e2, wrap_nat hk, h]
theorem bv_nat (n m : Nat) : BitVec.ofInt n (m : Int) = BitVec.ofNat n m := by
  apply BitVec.eq_of_toNat_eq; simp
theorem andU (hk : k.signed = false) (ha : a < 2 ^ k.bits) (hb : b < 2 ^ k.bits) : arith .and k (a : Int) (b : Int) = some (.int k ((a &&& b : Nat) : Int)) := by
  simp only [arith, bv_nat]
  rw [BitVec.toNat_and, BitVec.toNat_ofNat, BitVec.toNat_ofNat, Nat.mod_eq_of_lt ha, Nat.mod_eq_of_lt hb, wrap_nat hk, Nat.mod_eq_of_lt (Nat.lt_of_le_of_lt Nat.and_le_left ha)]
theorem orU (hk : k.signed = false) (ha : a < 2 ^ k.bits) (hb : b < 2 ^ k.bits) : arith .or k (a : Int) (b : Int) = some (.int k ((a ||| b : Nat) : Int)) := by
  simp only [arith, bv_nat]
  rw [BitVec.toNat_or, BitVec.toNat_ofNat, BitVec.toNat_ofNat, Nat.mod_eq_of_lt ha, Nat.mod_eq_of_lt hb, wrap_nat hk, Nat.mod_eq_of_lt (Nat.or_lt_two_pow ha hb)]
theorem xorU (hk : k.signed = false) (ha : a < 2 ^ k.bits) (hb : b < 2 ^ k.bits) : arith .xor k (a : Int) (b : Int) = some (.int k ((a ^^^ b : Nat) : Int)) := by
  simp only [arith, bv_nat]
  rw [BitVec.toNat_xor, BitVec.toNat_ofNat, BitVec.toNat_ofNat, Nat.mod_eq_of_lt ha, Nat.mod_eq_of_lt hb, wrap_nat hk, Nat.mod_eq_of_lt (Nat.xor_lt_two_pow ha hb)]
end ops

section rules
variable {P : Program} {R : Mem} {l : Env} {d : Option Nat} {ty t t' : TypeId} {pos : String} {af : Array Edge} {g : Option (Nat × Bool)} {x y : Operand} {k k' : IntKind} {a b : Nat}
theorem q_add32 (hx : ev l x = some (.int .u32 (a : Int))) (hy : ev l y = some (.int .u32 (b : Int))) : OpQ P R ⟨d, .binOp .add t x y t', ty, pos, af, g⟩ l (.int .u32 (((a + b) % 4294967296 : Nat) : Int)) := q_bin hx hy (addU rfl _ rfl)
theorem q_and (hk : k.signed = false) (hx : ev l x = some (.int k (a : Int))) (hy : ev l y = some (.int k (b : Int))) (ha : a < 2 ^ k.bits) (hb : b < 2 ^ k.bits) : OpQ P R ⟨d, .binOp .and t x y t', ty, pos, af, g⟩ l (.int k ((a &&& b : Nat) : Int)) := q_bin hx hy (andU hk ha hb)
theorem q_or (hk : k.signed = false) (hx : ev l x = some (.int k (a : Int))) (hy : ev l y = some (.int k (b : Int))) (ha : a < 2 ^ k.bits) (hb : b < 2 ^ k.bits) : OpQ P R ⟨d, .binOp .or t x y t', ty, pos, af, g⟩ l (.int k ((a ||| b : Nat) : Int)) := q_bin hx hy (orU hk ha hb)
theorem q_xor (hk : k.signed = false) (hx : ev l x = some (.int k (a : Int))) (hy : ev l y = some (.int k (b : Int))) (ha : a < 2 ^ k.bits) (hb : b < 2 ^ k.bits) : OpQ P R ⟨d, .binOp .xor t x y t', ty, pos, af, g⟩ l (.int k ((a ^^^ b : Nat) : Int)) := q_bin hx hy (xorU hk ha hb)
/-- A shift to the right by less than all bits. -/
theorem q_shrN (s : Nat) (hx : ev l x = some (.int k (a : Int))) {i : Int} (hy : ev l y = some (.int k' i)) (hi : i = s) (hs : s ≤ k.bits) : OpQ P R ⟨d, .binOp .shr t x y t', ty, pos, af, g⟩ l (.int k ((a >>> s : Nat) : Int)) := by
  subst hi
  have := q_shr (P := P) (R := R) (d := d) (ty := ty) (pos := pos) (af := af) (g := g) (t := t) (t' := t') hx hy (by omega)
  rw [Int.toNat_natCast, Nat.min_eq_left hs] at this
  have e : (a : Int).fdiv (2 ^ s) = ((a >>> s : Nat) : Int) := by
    rw [Int.fdiv_eq_ediv_of_nonneg _ (Int.pow_nonneg (by decide)), Nat.shiftRight_eq_div_pow, Int.natCast_ediv]; simp
  rwa [e] at this
theorem q_shlN (hk : k.signed = false) (s : Nat) (hx : ev l x = some (.int k (a : Int))) {i : Int} (hy : ev l y = some (.int k' i)) (hi : i = s) (hs : s ≤ k.bits) : OpQ P R ⟨d, .binOp .shl t x y t', ty, pos, af, g⟩ l (.int k (((a <<< s) % 2 ^ k.bits : Nat) : Int)) := by
  subst hi
  have := q_shl (P := P) (R := R) (d := d) (ty := ty) (pos := pos) (af := af) (g := g) (t := t) (t' := t') hx hy (by omega)
  rw [Int.toNat_natCast, Nat.min_eq_left hs, show (a : Int) * 2 ^ s = ((a <<< s : Nat) : Int) from by rw [Nat.shiftLeft_eq]; simp, wrap_nat hk] at this
  exact this
theorem q_comN (hk : k.signed = false) (hx : ev l x = some (.int k (a : Int))) (ha : a < 2 ^ k.bits) : OpQ P R ⟨d, .unOp .xor t x, ty, pos, af, g⟩ l (.int k (((2 ^ k.bits - 1) ^^^ a : Nat) : Int)) := by
  have := q_com (P := P) (R := R) (d := d) (ty := ty) (pos := pos) (af := af) (g := g) (t := t) hx
  have e : (if k.signed = true then -1 else k.max : Int) = ((2 ^ k.bits - 1 : Nat) : Int) := by
    simp only [hk, Bool.false_eq_true, if_false, IntKind.max]
    cases k <;> simp_all [IntKind.bits, IntKind.signed]
  have h2 : 2 ^ k.bits - 1 < 2 ^ k.bits := Nat.sub_lt (Nat.two_pow_pos _) (by decide)
  rw [e, bv_nat, bv_nat, BitVec.toNat_xor, BitVec.toNat_ofNat, BitVec.toNat_ofNat, Nat.mod_eq_of_lt ha, Nat.mod_eq_of_lt h2, wrap_nat hk, Nat.mod_eq_of_lt (Nat.xor_lt_two_pow h2 ha)] at this
  exact this
theorem q_convN {s : TypeId} (r : Nat) (hx : ev l x = some (.int k (a : Int))) (hc : convI P s t = some k') (h : k'.wrap (a : Int) = (r : Int)) : OpQ P R ⟨d, .convert s t x, ty, pos, af, g⟩ l (.int k' (r : Int)) := q_convR _ hx hc h
theorem q_remN (hx : ev l x = some (.int k (a : Int))) (hy : ev l y = some (.int k (b : Int))) (hb : b ≠ 0) : OpQ P R ⟨d, .binOp .rem t x y t', ty, pos, af, g⟩ l (.int k ((a % b : Nat) : Int)) := by
  have := q_rem (P := P) (R := R) (d := d) (ty := ty) (pos := pos) (af := af) (g := g) (t := t) (t' := t') hx hy (by omega)
  rw [Int.tmod_eq_emod_of_nonneg (by omega), ← Int.natCast_emod] at this
  exact this
theorem q_quoN (hx : ev l x = some (.int k (a : Int))) (hy : ev l y = some (.int k (b : Int))) (hb : b ≠ 0) (h : k.wrap ((a / b : Nat) : Int) = ((a / b : Nat) : Int)) : OpQ P R ⟨d, .binOp .quo t x y t', ty, pos, af, g⟩ l (.int k ((a / b : Nat) : Int)) := by
  have := q_quo (P := P) (R := R) (d := d) (ty := ty) (pos := pos) (af := af) (g := g) (t := t) (t' := t') hx hy (by omega)
  rw [Int.tdiv_eq_ediv_of_nonneg (by omega), ← Int.natCast_ediv, h] at this
  exact this
end rules

/-! ### Rows of numbers -/
def nums (k : IntKind) (ws : List Nat) : List Value := ws.map fun n : Nat => Value.int k (n : Int)
section nums
variable {k : IntKind} {ws us : List Nat}
@[simp] theorem nums_len : (nums k ws).length = ws.length := by simp [nums]
theorem nums_append : nums k (ws ++ us) = nums k ws ++ nums k us := by simp [nums]
theorem nums_take (n : Nat) : nums k (ws.take n) = (nums k ws).take n := by simp [nums, List.map_take]
theorem nums_drop (n : Nat) : nums k (ws.drop n) = (nums k ws).drop n := by simp [nums, List.map_drop]
theorem nums_set (i n : Nat) : nums k (ws.set i n) = (nums k ws).set i (.int k (n : Int)) := by simp [nums, List.map_set]
theorem nums_one : ∀ c ∈ nums k ws, c.oneCell' = true := by
  intro c hc
  obtain ⟨n, _, rfl⟩ := List.mem_map.1 hc
  rfl
theorem nums_get {i : Nat} (h : i < ws.length) : (nums k ws)[i]? = some (.int k ((ws.getD i 0 : Nat) : Int)) := by
  simp [nums, List.getElem?_eq_getElem h, List.getD]
theorem getD_lt {ws : List Nat} {b i : Nat} (h : ∀ n ∈ ws, n < b) (hb : 0 < b) : ws.getD i 0 < b := by
  rw [List.getD]
  cases hi : ws[i]? with
  | none => exact hb
  | some n => exact h n (List.mem_of_getElem? hi)
end nums

/-! ### Blocks of numbers; 32 and 8 bits -/
theorem Fit.eq {M M' : Mem} (h : M = M') : Fit M M' := h ▸ .rfl
theorem setL_set {v : Value} : ∀ {cs : List Value} {o : Nat}, o < cs.length → SetL cs o v (cs.set o v)
  | [], _, h => by simp at h
  | x :: r, 0, _ => .hd
  | x :: r, o + 1, h => .tl (setL_set (by simpa using h))
theorem getD_app {ws us : List Nat} {i : Nat} (h : i < ws.length) : (ws ++ us).getD i 0 = ws.getD i 0 := by
  simp [List.getD, List.getElem?_append_left h]
theorem set_ext {ws : List Nat} {i n x : Nat} (h : ws.length = i) (hi : i < n) : (ws ++ List.replicate (n - i) 0).set i x = (ws ++ [x]) ++ List.replicate (n - (i + 1)) 0 := by
  rw [List.set_append_right _ _ (by omega), h, Nat.sub_self, show n - i = (n - (i + 1)) + 1 by omega, List.replicate_succ]
  simp
section rules2
variable {P : Program} {R : Mem} {l : Env} {d : Option Nat} {ty t t' : TypeId} {pos : String} {af : Array Edge} {g : Option (Nat × Bool)} {x y : Operand} {k k' : IntKind} {a b : Nat}
theorem q_and32 (hx : ev l x = some (.int .u32 (a : Int))) (hy : ev l y = some (.int .u32 (b : Int))) (ha : a < 4294967296) (hb : b < 4294967296) : OpQ P R ⟨d, .binOp .and t x y t', ty, pos, af, g⟩ l (.int .u32 ((a &&& b : Nat) : Int)) := q_and rfl hx hy ha hb
theorem q_or32 (hx : ev l x = some (.int .u32 (a : Int))) (hy : ev l y = some (.int .u32 (b : Int))) (ha : a < 4294967296) (hb : b < 4294967296) : OpQ P R ⟨d, .binOp .or t x y t', ty, pos, af, g⟩ l (.int .u32 ((a ||| b : Nat) : Int)) := q_or rfl hx hy ha hb
theorem q_xor32 (hx : ev l x = some (.int .u32 (a : Int))) (hy : ev l y = some (.int .u32 (b : Int))) (ha : a < 4294967296) (hb : b < 4294967296) : OpQ P R ⟨d, .binOp .xor t x y t', ty, pos, af, g⟩ l (.int .u32 ((a ^^^ b : Nat) : Int)) := q_xor rfl hx hy ha hb
theorem q_com32 (hx : ev l x = some (.int .u32 (a : Int))) (ha : a < 4294967296) : OpQ P R ⟨d, .unOp .xor t x, ty, pos, af, g⟩ l (.int .u32 ((4294967295 ^^^ a : Nat) : Int)) := q_comN (k := .u32) rfl hx ha
theorem q_shl32 (s : Nat) (hx : ev l x = some (.int .u32 (a : Int))) {i : Int} (hy : ev l y = some (.int k' i)) (hi : i = s) (hs : s ≤ 32) : OpQ P R ⟨d, .binOp .shl t x y t', ty, pos, af, g⟩ l (.int .u32 (((a <<< s) % 4294967296 : Nat) : Int)) := q_shlN (k := .u32) rfl s hx hy hi hs
theorem q_xor8 (hx : ev l x = some (.int .u8 (a : Int))) (hy : ev l y = some (.int .u8 (b : Int))) (ha : a < 256) (hb : b < 256) : OpQ P R ⟨d, .binOp .xor t x y t', ty, pos, af, g⟩ l (.int .u8 ((a ^^^ b : Nat) : Int)) := q_xor rfl hx hy ha hb
theorem q_to8 {s : TypeId} (hx : ev l x = some (.int k (a : Int))) (hc : convI P s t = some .u8) : OpQ P R ⟨d, .convert s t x, ty, pos, af, g⟩ l (.int .u8 ((a % 256 : Nat) : Int)) := q_convN _ hx hc (wrap8 a)
theorem q_to32 {s : TypeId} (hx : ev l x = some (.int k (a : Int))) (hc : convI P s t = some .u32) : OpQ P R ⟨d, .convert s t x, ty, pos, af, g⟩ l (.int .u32 ((a % 4294967296 : Nat) : Int)) := q_convN _ hx hc (wrap32 a)
theorem q_to64 {s : TypeId} (hx : ev l x = some (.int k (a : Int))) (hc : convI P s t = some .u64) : OpQ P R ⟨d, .convert s t x, ty, pos, af, g⟩ l (.int .u64 ((a % 18446744073709551616 : Nat) : Int)) := q_convN _ hx hc (wrap64 a)
/-- A conversion that changes nothing. -/
theorem q_same {s : TypeId} (hx : ev l x = some (.int k (a : Int))) (hc : convI P s t = some k') (h : a < 2 ^ (k'.bits - 1)) : OpQ P R ⟨d, .convert s t x, ty, pos, af, g⟩ l (.int k' (a : Int)) := by
  refine q_convN _ hx hc ?_
  have h2 : 2 ^ k'.bits = 2 * 2 ^ (k'.bits - 1) := by cases k' <;> rfl
  cases hs : k'.signed with
  | false => rw [wrap_nat hs, Nat.mod_eq_of_lt (by omega)]
  | true =>
    have h3 : (2 : Int) ^ k'.bits = 2 * ((2 ^ (k'.bits - 1) : Nat) : Int) := by
      have e0 : (2 : Int) ^ k'.bits = ((2 ^ k'.bits : Nat) : Int) := by simp
      rw [e0, h2]; omega
    unfold IntKind.wrap
    have e1 : (a : Int) % 2 ^ k'.bits = a := Int.emod_eq_of_lt (by omega) (by rw [h3]; omega)
    simp only [e1, hs, Bool.true_and]
    have e2 : ¬ ((2 : Int) ^ (k'.bits - 1) ≤ (a : Int)) := by
      have : ((2 ^ (k'.bits - 1) : Nat) : Int) = 2 ^ (k'.bits - 1) := by simp
      omega
    simp [e2]
theorem q_ldN {k : IntKind} {ws : List Nat} {e : TypeId} {fr : Nat × Nat} {b o : Nat} (i : Nat) (hx : ev l x = some (.pointer (some ⟨b, o, none⟩))) (ht : scalarT P t = true) (hb : (b, Obj.cells (nums k ws).toArray e fr) ∈ R) (ho : o = i) (hi : i < ws.length) :
    OpQ P R ⟨d, .load t x, ty, pos, af, g⟩ l (.int k ((ws.getD i 0 : Nat) : Int)) := q_load hx ht hb (by rw [ho]; exact nums_get hi)
end rules2
theorem l_stN {C : Cx} {l : Env} {M J : Mem} {K : Env → Mem → Mem → Prop} {ty t : TypeId} {pos : String} {af : Array Edge} {g : Option (Nat × Bool)} {x y : Operand} {k : IntKind} {ws : List Nat} {e : TypeId} {b o n : Nat} {M' : Mem} (i : Nat)
    (hx : ev l x = some (.pointer (some ⟨b, o, none⟩))) (hy : ev l y = some (.int k (n : Int))) (ht : sizeT C.P t = some 1) (ho : o = i) (hi : i < ws.length) (hu : Upd M b (blk (nums k ws) e) (blk (nums k (ws.set i n)) e) M') (h : K l M' J) :
    OpL C ⟨none, .store t x y, ty, pos, af, g⟩ l M J K :=
  l_store hx hy rfl ht (cs' := nums k (ws.set i n)) (by rw [nums_set, ho]; exact setL_set (by simpa using hi)) hu h
theorem Rd.nums {R : Mem} {k : IntKind} {ws : List Nat} {v : Value} {n : Nat} (h : Rd R 1 v n (nums k ws)) (hn : 0 < n) :
    ∃ b o c cs e fr, v = .slice (some ⟨b, o, none⟩) n c ∧ (b, Obj.cells (List.toArray cs) e fr) ∈ R ∧ ∀ i, i < n → cs[o + i * 1]? = some (.int k ((ws.getD i 0 : Nat) : Int)) := by
  obtain ⟨p, c, rfl, hl, hc, hb⟩ := h
  rcases hb with hb | ⟨b, o, cs, e, fr, rfl, hb, hx⟩
  · omega
  · refine ⟨b, o, c, cs, e, fr, rfl, hb, fun i hi => ?_⟩
    rw [Nat.mul_one]
    simp at hl
    exact hx i _ (nums_get (by omega))
end Go.Px

/-
  More rules of the engine: slices as opaque values (vHi, vLo, vAt), texts and bytes, arrays, copy, make. No program in sight.
-/
namespace Go.Px
theorem Fit.head1' {M D : Mem} {x : Nat × Obj} {E : Mem} (h : E.Sublist D) : Fit (M ++ (x :: D)) (M ++ E) := Fit.sub (List.Sublist.append (List.Sublist.refl _) (.cons _ h))
theorem pkB0 {B : Mem} {x : Nat × Obj} : (x :: B).Perm (B ++ [x]) := (List.perm_append_comm (l₁ := [x]))

def vHi (h : Nat) : Value → Value
  | .slice p _ c => .slice p h c
  | v => v
def vLo (k sz : Nat) : Value → Value
  | .slice p n c => .slice (if c = k then p else p.map (·.add (k * sz))) (n - k) (c - k)
  | v => v
def vAt (sz : Nat) (i : Nat) : Value → Value
  | .slice (some a) _ _ => .pointer (some (a.add (i * sz)))
  | v => v

theorem Rd.hiV {R : Mem} {sz n : Nat} {v : Value} {xs : List Value} (h : Rd R sz v n xs) (k : Nat) (hk : k ≤ n) : Rd R sz (vHi k v) k (xs.take (k * sz)) := by
  obtain ⟨p, c, rfl, h2, h3, h4⟩ := h
  exact Rd.hi ⟨p, c, rfl, h2, h3, h4⟩ k hk
theorem Rd.loV {R : Mem} {sz n : Nat} {v : Value} {xs : List Value} (h : Rd R sz v n xs) (k : Nat) (hk : k ≤ n) : Rd R sz (vLo k sz v) (n - k) (xs.drop (k * sz)) := by
  obtain ⟨p, c, rfl, h2, h3, h4⟩ := h
  exact Rd.lo ⟨p, c, rfl, h2, h3, h4⟩ k hk
theorem Sl.hiV {sz n : Nat} {v : Value} {xs : List Value} {B : Mem} (h : Sl sz v n xs B) (k : Nat) (hk : k ≤ n) : Sl sz (vHi k v) k (xs.take (k * sz)) B := by
  obtain ⟨p, c, rfl, _⟩ := h.val
  exact h.hi k hk
theorem Sl.loV {sz n : Nat} {v : Value} {xs : List Value} {B : Mem} (h : Sl sz v n xs B) (k : Nat) (hk : k ≤ n) : ∃ B', B'.Sublist B ∧ Sl sz (vLo k sz v) (n - k) (xs.drop (k * sz)) B' := by
  obtain ⟨p, c, rfl, _⟩ := h.val
  exact h.lo k hk
theorem Rd.len {R : Mem} {sz n : Nat} {v : Value} {xs : List Value} (h : Rd R sz v n xs) : xs.length = n * sz := by
  obtain ⟨p, c, rfl, h2, h3, h4⟩ := h; exact h2

/-- A slice type's elements' size, in cells. -/
def slE (P : Program) (t : TypeId) : Option Nat :=
  match P.underlying t with
  | some (.slice e) => sizeT P e
  | _ => none
theorem slE_spec {P : Program} {t : TypeId} {sz : Nat} (h : slE P t = some sz) : ∃ e, P.underlying t = some (.slice e) ∧ sizeT P e = some sz := by
  unfold slE at h
  split at h
  · rename_i e hu; exact ⟨e, hu, h⟩
  · cases h
section rules
variable {P : Program} {R : Mem} {l : Env} {d : Option Nat} {ty t t' e : TypeId} {pos : String} {af : Array Edge} {g : Option (Nat × Bool)} {x y z : Operand} {v : Value} {sz n : Nat} {xs : List Value} {R' : Mem}
theorem q_lenV (h : Rd R' sz v n xs) (hx : ev l x = some v) (hu : slE P t = some sz) :
    OpQ P R ⟨d, .call { callee := .builtin .len, args := #[x], argTypes := #[t] }, ty, pos, af, g⟩ l (.int .i64 n) := by
  obtain ⟨p, c, rfl, _⟩ := h
  obtain ⟨e, hu, hs⟩ := slE_spec hu
  exact q_lenS hx hu
theorem q_hiV (h : Rd R' sz v n xs) (hx : ev l x = some v) {k : IntKind} {i : Int} (hy : ev l y = some (.int k i)) (hu : slE P t = some sz) (j : Nat) (hi : i = j) (hj : j ≤ n) :
    OpQ P R ⟨d, .slice t x none (some y) none, ty, pos, af, g⟩ l (vHi j v) := by
  obtain ⟨p, c, rfl, h2, h3, h4⟩ := h
  obtain ⟨e, hu, hs⟩ := slE_spec hu
  exact q_slHi hx hy hu hs hi (by omega)
theorem q_loV (h : Rd R' sz v n xs) (hx : ev l x = some v) {k : IntKind} {i : Int} (hy : ev l y = some (.int k i)) (hu : slE P t = some sz) (j : Nat) (hi : i = j) (hj : j ≤ n) :
    OpQ P R ⟨d, .slice t x (some y) none none, ty, pos, af, g⟩ l (vLo j sz v) := by
  obtain ⟨p, c, rfl, h2, h3, h4⟩ := h
  obtain ⟨e, hu, hs⟩ := slE_spec hu
  exact q_slLo hx hy hu hs hi (by omega) (by omega)
theorem q_atV (h : Rd R' sz v n xs) (hx : ev l x = some v) {k : IntKind} {i : Int} (hy : ev l y = some (.int k i)) (hu : slE P t = some sz) (j : Nat) (hi : i = j) (hj : j < n) :
    OpQ P R ⟨d, .indexAddr t x y, ty, pos, af, g⟩ l (vAt sz j v) := by
  obtain ⟨p, c, rfl, h2, h3, h4⟩ := h
  rcases h4 with h4 | ⟨b, o, cs, e', fr, rfl, hb, hx'⟩
  · omega
  · obtain ⟨e, hu, hs⟩ := slE_spec hu
    simp only [vAt, Addr.add_mid]; exact q_idxS hx hy hu hs hi hj
theorem q_ldV (h : Rd R 1 v n xs) {j : Nat} {u : Value} (hx : ev l x = some (vAt 1 j v)) (ht : scalarT P t = true) (hj : xs[j]? = some u) : OpQ P R ⟨d, .load t x, ty, pos, af, g⟩ l u := by
  obtain ⟨p, c, rfl, h2, h3, h4⟩ := h
  have := (List.getElem?_eq_some_iff.1 hj).1
  rcases h4 with h4 | ⟨b, o, cs, e', fr, rfl, hb, hx'⟩
  · omega
  · simp only [vAt, Addr.add_mid] at hx
    refine q_load (b := b) (o := o + j * 1) hx ht hb ?_
    rw [Nat.mul_one]; exact hx' j u hj
theorem q_ldVN {k : IntKind} {ws : List Nat} (h : Rd R 1 v n (nums k ws)) {j : Nat} (hx : ev l x = some (vAt 1 j v)) (ht : scalarT P t = true) (hj : j < n) : OpQ P R ⟨d, .load t x, ty, pos, af, g⟩ l (.int k ((ws.getD j 0 : Nat) : Int)) :=
  q_ldV h hx ht (nums_get (by have := h.len; simp at this; omega))
/-- An element of an array that is a value. -/
theorem q_index {m j : Nat} {k : IntKind} {i : Int} {cs : List Value} {u : Value} (hx : ev l x = some (.agg cs.toArray)) (hy : ev l y = some (.int k i)) (hu : P.underlying t = some (.array m e)) (hs : sizeT P e = some 1) (he : scalarT P e = true) (hi : i = j) (hj : j < m) (hu' : cs[j]? = some u) :
    OpQ P R ⟨d, .index t x y, ty, pos, af, g⟩ l u := fun N a w ha hw => by
  subst hi
  unfold sizeT at hs
  cases hq : P.info? e with
  | none => simp [hq] at hs
  | some inf =>
    simp only [hq, Option.map_some, Option.some.injEq] at hs
    have h1 : (0 : Int) ≤ (j : Int) ∧ (j : Int) < (m : Int) := ⟨by omega, by omega⟩
    simp only [execOp, ha.ev hx, ha.ev hy, Instr.index, asIntOf, Sem.run_bind, Sem.run_pure, Result.andThen_ok, run_underlying hu]
    simp [h1, sizeOf, typeInfo, hq, hs, part, isAgg_scalar he, hu']
/-- A slice of a whole array. -/
theorem q_all {m b : Nat} (hx : ev l x = some (.pointer (some ⟨b, 0, none⟩))) (hu : P.underlying t = some (.array m e)) (hs : sizeT P e = some sz) :
    OpQ P R ⟨d, .slice t x none none none, ty, pos, af, g⟩ l (.slice (some ⟨b, 0, none⟩) m m) := fun N a w ha hw => by
  unfold sizeT at hs
  cases hq : P.info? e with
  | none => simp [hq] at hs
  | some inf =>
    simp only [execOp, ha.ev hx, Instr.sliceAt, Instr.sureAddr, Sem.run_bind, Sem.run_pure, run_underlying hu, Result.andThen_ok]
    have := sliceBounds_run (P := P) (lo := none) (hi := none) (mx := none) ha o0 o0 o0 false m m w (by simp) (by simp) (by simp) (by simp)
    simp only [Option.map_none] at this ⊢
    simp only [this, Result.andThen_ok]
    simp [sizeOf, typeInfo, hq, Addr.add]
end rules

/-! ### Texts and bytes -/
def txt (ws : List Nat) : ByteArray := ⟨(ws.map UInt8.ofNat).toArray⟩
theorem fold_txt (ns : List Nat) : ∀ s : ByteArray, (ns.map fun n : Nat => (n : Int)).foldl (fun r n => r.push (UInt8.ofNat n.toNat)) s = s ++ txt ns := by
  induction ns with
  | nil => intro s; apply ByteArray.ext; simp [txt, ByteArray.data_append]
  | cons n ns ih =>
    intro s
    simp only [List.map_cons, List.foldl_cons, ih]
    apply ByteArray.ext
    simp [txt, ByteArray.data_append]
section texts
variable {P : Program} {R : Mem} {l : Env} {d : Option Nat} {ty s t e : TypeId} {pos : String} {af : Array Edge} {g : Option (Nat × Bool)} {x y : Operand} {v : Value} {n : Nat}
def bytesT (P : Program) (s t : TypeId) : Bool :=
  match P.underlying s, P.underlying t with
  | some (.slice e), some .string => match P.underlying e with
    | some (.int .u8) => true
    | _ => false
  | _, _ => false
theorem q_toStr {ws : List Nat} (h : Rd R 1 v n (nums .u8 ws)) (hx : ev l x = some v) (hc : bytesT P s t = true) : OpQ P R ⟨d, .convert s t x, ty, pos, af, g⟩ l (.string (txt ws)) := fun N a w ha hw => by
  unfold bytesT at hc
  split at hc <;> try cases hc
  rename_i e h1 h2
  split at hc <;> try cases hc
  rename_i h3
  obtain ⟨p, c, rfl, hl, hcc, hb⟩ := h
  have hn : ws.length = n := by simpa using hl
  have he : nums .u8 ws = (ws.map fun n : Nat => (n : Int)).map (Value.int .u8) := by simp [nums]
  simp only [execOp, ha.ev hx, Sem.run_bind, run_convert_bytes_string w s t e _ _ _ h1 h3 h2]
  cases p with
  | none =>
    rcases hb with hb | ⟨b, o, cs, e', fr, hp, hb, hx'⟩
    · have : ws = [] := List.eq_nil_of_length_eq_zero (by omega)
      subst this
      simp [Conv.bytesToString, Sem.run_pure, txt]; rfl
    · cases hp
  | some ad =>
    have hload : (loadCells ad n).run P w = .ok (nums .u8 ws).toArray w := by
      rcases hb with hb | ⟨b, o, cs, e', fr, hp, hb, hx'⟩
      · have : ws = [] := List.eq_nil_of_length_eq_zero (by omega)
        subst this; subst hb
        simp [loadCells, loadCellsFrom, nums]
      · cases hp
        have := run_loadCells_list (P := P) w ⟨b, o, none⟩ (nums .u8 ws) (fun j v hv => by rw [Addr.add_mid, cell_fx hw hb]; simpa using hx' j v hv)
        rw [nums_len, hn] at this
        exact this
    rw [he] at hload
    rw [run_bytesToString w ad n c _ hload, fold_txt]
    simp [Sem.run_pure]
theorem txt_inj {a b : List Nat} (ha : ∀ x ∈ a, x < 256) (hb : ∀ x ∈ b, x < 256) (h : txt a = txt b) : a = b := by
  have h1 : a.map UInt8.ofNat = b.map UInt8.ofNat := by
    have := congrArg ByteArray.data h
    simpa [txt] using this
  have h2 := congrArg (List.map UInt8.toNat) h1
  simp only [List.map_map] at h2
  have key : ∀ l : List Nat, (∀ x ∈ l, x < 256) → List.map (UInt8.toNat ∘ UInt8.ofNat) l = l := by
    intro l hl
    conv => rhs; rw [← List.map_id l]
    refine List.map_congr_left fun x hx => ?_
    have := hl x hx
    simp; omega
  rwa [key a ha, key b hb] at h2
theorem txt_append (a b : List Nat) : txt a ++ txt b = txt (a ++ b) := by
  apply ByteArray.ext
  simp [txt, ByteArray.data_append]
end texts

section loud
variable {C : Cx} {l : Env} {M J : Mem} {K : Env → Mem → Mem → Prop} {ty t e : TypeId} {pos : String} {af : Array Edge} {g : Option (Nat × Bool)} {x y : Operand} {d : Nat}
/-- A text's bytes: the row is marked, and only read from there on. -/
def markT (P : Program) (t : TypeId) : Bool :=
  match P.underlying t with
  | some (.slice e) => match P.underlying e with
    | some (.int .u8) => true
    | _ => false
  | _ => false
theorem l_mark {b n c : Nat} {cs : List Value} {e' : TypeId} {M' : Mem} (hx : ev l x = some (.slice (some ⟨b, 0, none⟩) n c)) (hc : markT C.P t = true) (hu : Upd M b (blk cs e') (.cells cs.toArray e' (cs.length, cs.length + 1)) M')
    (hd : Nat.blt d C.N = true) (k : K ((d, .slice (some ⟨b, 0, none⟩) n c) :: l) M' J) : OpL C ⟨some d, .convert t t x, ty, pos, af, g⟩ l M J K := by
  intro Qp a w ha hw
  unfold markT at hc
  split at hc <;> try cases hc
  rename_i e h1
  split at hc <;> try cases hc
  rename_i h2
  have hb := hw.mem _ _ (List.mem_append_left _ hu.mem)
  have hsh : w.shape? b = some (e', cs.length) := by unfold World.shape?; rw [hb]; simp [blk]
  have hlt := lt_of_heap hb
  have hrun : (execOp a.eval ⟨some d, .convert t t x, ty, pos, af, g⟩).run C.P w = .ok (.value (.slice (some ⟨b, 0, none⟩) n c)) (w.freeze ⟨b, cs.length, none⟩ 1) := by
    simp [execOp, ha.ev hx, convert, run_underlying h1, run_underlying h2, markStringish, hsh]
  unfold Oper.wp
  rw [hrun]
  refine ⟨_, M', J, ha.put (blt_lt hd) _, hw.upd hu ?_ ?_ ?_ rfl rfl rfl, k⟩
  · simp only [World.freeze]
    rw [if_neg (by decide)]
    simp [Array.getElem?_modify, hb, blk]
  · intro j hj
    simp only [World.freeze]
    rw [if_neg (by decide)]
    simp [Array.getElem?_modify, Ne.symm hj]
  · simp [World.freeze]
/-- copy into the whole of an owned array of numbers. -/
theorem l_copy {b m n : Nat} {u : Value} {k : IntKind} {ws us ws' : List Nat} {e' : TypeId} {by_ : Nat} {M' : Mem} (hx : ev l x = some (.slice (some ⟨b, 0, none⟩) m m)) (hy : ev l y = some u) (ht : elemT C.P t = some (e, 1, by_))
    (hr : Rd (M ++ (J ++ C.A)) 1 u n (nums k us)) (hn : n ≤ m) (hm : ws.length = m) (hw' : ws' = us ++ ws.drop n) (hu : Upd M b (blk (nums k ws) e') (blk (nums k ws') e') M') (hd : Nat.blt d C.N = true) (h : K ((d, .int .i64 n) :: l) M' J) :
    OpL C ⟨some d, .call { callee := .builtin .copy, args := #[x, y], argTypes := #[t, t] }, ty, pos, af, g⟩ l M J K := by
  intro Qp a w ha hw
  obtain ⟨i, z, hut, hi, hz, hzs, his, hib⟩ := elemT_spec ht
  obtain ⟨pu, cu, rfl, hul, huc, hub⟩ := hr
  have hru : Rd (M ++ (J ++ C.A)) 1 (.slice pu n cu) n (nums k us) := ⟨pu, cu, rfl, hul, huc, hub⟩
  have hb := hw.mem _ _ (List.mem_append_left _ hu.mem)
  have hf := first_rd (P := C.P) (m := n) (c2 := cu) hru hw.fx
  have hus : us.length = n := by simpa using hul
  have hst := run_storeCells_at (P := C.P) b 0 e' (nums k us) 0 (nums k ws).toArray w hb (by simp [hus, hm]; exact hn) nums_one
  simp only [Nat.add_zero, Nat.zero_add, List.take_zero, List.nil_append, nums_len, hus] at hst
  rw [← nums_drop, ← nums_append, ← hw'] at hst
  have hrun : (execOp a.eval ⟨some d, .call { callee := .builtin .copy, args := #[x, y], argTypes := #[t, t] }, ty, pos, af, g⟩).run C.P w = .ok (.value (.int .i64 n)) (w.setRow b (nums k ws').toArray) := by
    simp [execOp, resolve, invoke, builtin, ha.ev hx, ha.ev hy, Builtin.copy_, run_underlying hut, sizeOf, typeInfo, hi, his, Builtin.lenOf, Nat.min_eq_left hn, hf, hst, goInt]
  unfold Oper.wp
  rw [hrun]
  exact ⟨_, M', J, ha.put (blt_lt hd) _, hw.setRow hu, h⟩
end loud
theorem Sl.fresh {b n sz : Nat} {cs : List Value} {e : TypeId} (h : cs.length = n * sz) (hn : n ≤ maxLen) : Sl sz (.slice (some ⟨b, 0, none⟩) n n) n cs [(b, blk cs e)] :=
  .inr ⟨b, 0, n, cs, e, rfl, rfl, Nat.le_refl _, hn, by omega, h, fun j u hj => by rwa [Nat.zero_add]⟩
theorem Rd.cel {R : Mem} {v : Value} {n sz : Nat} {xs : List Value} (h : Rd R sz v n xs) : Cel v [v] := by
  obtain ⟨p, c, rfl, _⟩ := h; exact ⟨rfl⟩
theorem Sl.cel {B : Mem} {v : Value} {n sz : Nat} {xs : List Value} (h : Sl sz v n xs B) : Cel v [v] := by
  obtain ⟨p, c, rfl, _⟩ := h.val; exact ⟨rfl⟩

/-- What make of a row of numbers asks of the type. -/
def mkT (P : Program) (t : TypeId) : Option (TypeId × IntKind × Nat) :=
  match P.underlying t with
  | some (.slice e) => match P.info? e with
    | some i => match i.zero with
      | some (.int k 0) => if i.size = 1 then some (e, k, i.bytes) else none
      | _ => none
    | none => none
  | _ => none
theorem made_nums (k : IntKind) (n : Nat) : madeCells #[.int k 0] n = (nums k (List.replicate n 0)).toArray := by
  apply Array.ext
  · simp [madeCells]
  · intro i h1 h2
    simp [madeCells, nums, Nat.mod_one]
theorem l_makeN {C : Cx} {l : Env} {M J : Mem} {K : Env → Mem → Mem → Prop} {ty t e : TypeId} {pos : String} {af : Array Edge} {g : Option (Nat × Bool)} {x y : Operand} {d by_ : Nat} {k kl kc : IntKind} {i j : Int} (n : Nat) (hx : ev l x = some (.int kl i)) (hy : ev l y = some (.int kc j)) (ht : mkT C.P t = some (e, k, by_)) (hi : i = n) (hj : j = n)
    (hb : by_ * n ≤ 281474976710656) (hn : n ≤ 9223372036854775807) (hd : Nat.blt d C.N = true) (h : ∀ b, K ((d, .slice (some ⟨b, 0, none⟩) n n) :: l) ((b, blk (nums k (List.replicate n 0)) e) :: M) J) :
    OpL C ⟨some d, .makeSlice t x y, ty, pos, af, g⟩ l M J K := by
  intro Qp a w ha hw
  subst hi; subst hj
  unfold mkT at ht
  split at ht <;> try cases ht
  rename_i e' hu
  split at ht <;> try cases ht
  rename_i inf hi
  split at ht <;> try cases ht
  rename_i k' hz
  split at ht <;> simp only [Option.some.injEq, Prod.mk.injEq, reduceCtorEq] at ht
  rename_i hs
  obtain ⟨rfl, rfl, rfl⟩ := ht
  have hb' : (inf.bytes : Int) * (n : Int) ≤ 281474976710656 := by rw [← Int.natCast_mul]; omega
  have hr := run_make (P := C.P) w t e' inf _ hu hi hz kl kc n n (by omega) (by omega) hb' (by omega)
  simp only [Int.toNat_natCast, hs, Nat.mul_one] at hr
  rw [show (Value.int k' 0).cells = #[.int k' 0] from rfl, made_nums] at hr
  unfold Oper.wp
  simp only [execOp, ha.ev hx, ha.ev hy, Sem.run_bind, hr, Result.andThen_ok, Sem.run_pure]
  exact ⟨_, _, J, ha.put (blt_lt hd) _, hw.alloc _, h _⟩
/-- A store into an owned slice of numbers. -/
theorem l_stV {C : Cx} {l : Env} {M J : Mem} {K : Env → Mem → Mem → Prop} {ty t : TypeId} {pos : String} {af : Array Edge} {g : Option (Nat × Bool)} {x y : Operand} {v : Value} {k : IntKind} {ws : List Nat} {n j u : Nat} {B M0 : Mem} (h : Sl 1 v n (nums k ws) B) (hx : ev l x = some (vAt 1 j v)) (hy : ev l y = some (.int k (u : Int)))
    (ht : sizeT C.P t = some 1) (hj : j < n) (hM : M.Perm (B ++ M0)) (h2 : ∀ B', Sl 1 v n (nums k (ws.set j u)) B' → K l (B' ++ M0) J) :
    OpL C ⟨none, .store t x y, ty, pos, af, g⟩ l M J K := by
  suffices hh : OpL C ⟨none, .store t x y, ty, pos, af, g⟩ l (B ++ M0) J K from fun Qp a w ha hw => hh Qp a w ha (hw.fit (Fit.perm hM) fun _ h => h)
  clear hM
  rcases h with ⟨p, rfl, rfl, hx2, rfl⟩ | ⟨b, o, cap, cs, e, rfl, rfl, h3, h4, h5, h6, h7⟩
  · omega
  · simp only [vAt, Addr.add_mid, Nat.mul_one] at hx
    refine l_store hx hy rfl ht (setL_set (by omega)) .hd (h2 [_] (.inr ⟨b, o, cap, _, e, rfl, rfl, h3, h4, by simpa using h5, by simpa using h6, ?_⟩))
    intro i w hi
    rw [nums_set] at hi
    rw [List.getElem?_set] at hi ⊢
    by_cases hij : j = i
    · subst hij
      simp only [if_true] at hi ⊢
      simp at hi h6
      rw [if_pos (by omega)]
      rw [← hi.2]
    · rw [if_neg hij] at hi
      rw [if_neg (by omega)]
      exact h7 i w hi
theorem rd_eq {R : Mem} {v : Value} {n n' : Nat} {xs xs' : List Value} (h : Rd R 1 v n xs) (h1 : n = n') (h2 : xs = xs') : Rd R 1 v n' xs' := by subst h1; subst h2; exact h
theorem sl_eq {v : Value} {n n' : Nat} {xs xs' : List Value} {B : Mem} (h : Sl 1 v n xs B) (h1 : n = n') (h2 : xs = xs') : Sl 1 v n' xs' B := by subst h1; subst h2; exact h
end Go.Px

/-
  Slices of unsigned numbers that came in.
-/
namespace Go.Px
theorem wf_u {k : IntKind} (hk : k.signed = false) {n : Int} (h : (Lit.int k n).wf = true) : 0 ≤ n ∧ n < 2 ^ k.bits := by
  cases k <;> simp_all [Lit.wf, IntKind.min, IntKind.max, IntKind.bits, IntKind.signed] <;> omega
end Go.Px

/-
  Arguments that came in, by their types: what the engine's rules ask of them.
-/
namespace Go.Px
open Go.ChangeShapes Go.WideShapes Go.ChangeAt Go.RowKit
/-- All that lies in a world. -/
def heapA (w : World) : Mem := (List.range w.heap.size).filterMap fun b => (w.heap[b]?).map fun o => (b, o)
theorem heapA_mem {w : World} {b : Nat} {o : Obj} : (b, o) ∈ heapA w ↔ w.heap[b]? = some o := by
  simp only [heapA, List.mem_filterMap, List.mem_range, Option.map_eq_some_iff, Prod.mk.injEq]
  constructor
  · rintro ⟨x, _, y, h, rfl, rfl⟩; exact h
  · intro h; exact ⟨b, lt_of_heap h, o, h, rfl, rfl⟩
theorem heapA_fx (w : World) : Fx (heapA w) w := fun b o h => heapA_mem.1 h
section
variable {H : Type} {enc : TypeId × Value → H} {P : Program} {w : World} {spare : Nat → Bool} {held : Bool} {fuel : Nat} {t e : TypeId} {cs : List Value} {x : DataW H × List MemPlace} {v : Value} {d : DataW H} {p : List MemPlace} {r : Reach} {base : Nat} {k : IntKind}
/-! ### Scalars -/
theorem nat_of_wf (hk : k.signed = false) {n : Int} (h : (Lit.int k n).wf = true) : ∃ m : Nat, n = (m : Int) ∧ m < 2 ^ k.bits := by
  obtain ⟨h1, h2⟩ := wf_u hk h
  obtain ⟨m, rfl⟩ := Int.eq_ofNat_of_zero_le h1
  refine ⟨m, rfl, ?_⟩
  have h3 : ((m : Nat) : Int) < ((2 ^ k.bits : Nat) : Int) := by simpa using h2
  exact Int.ofNat_lt.1 h3
theorem inU (ht : P.underlying t = some (.int k)) (hk : k.signed = false) (hv : Value.okWide P w r base t v) (h : DataW.Trod enc P w 0 spare held t v d p) : ∃ n : Nat, v = .int k (n : Int) ∧ n < 2 ^ k.bits := by
  obtain ⟨n, rfl⟩ := okWide_int ht hv
  obtain ⟨f, hf⟩ := h
  obtain ⟨m, h1, _, h2⟩ := DataW.trod_int ht hf
  obtain ⟨q, rfl, h3⟩ := nat_of_wf hk h2
  exact ⟨q, by simpa [Value.cells] using h1, h3⟩
/-! ### Slices and arrays -/
end
end Go.Px

/-
  Drawn regions, the second form: what isn't of K stands still. XK: the general one. XF: nothing that is there changes.
-/
namespace Go.Px
/-- What isn't of K stands still. -/
def Sk (K : Nat → Prop) (w w' : World) : Prop := ∀ b, b < w.heap.size → ¬ K b → w'.heap[b]? = w.heap[b]?
theorem Sk.fx {K : Nat → Prop} {w w' : World} (h : Sk K w w') {R : Mem} (hR : ∀ x ∈ R, ¬ K x.1) (hw : Fx R w) : Fx R w' := fun b o hb => by
  have h1 := hw b o hb
  rw [h b (lt_of_heap h1) (hR _ hb)]; exact h1

def XK (C : Cx) (os : List Oper) (Q : XQ) (K : Nat → Prop) (n0 : Nat) (nd : List Nat) (plan : List (Nat × Nat)) (l : Env) (M J : Mem) : Prop :=
  ∀ listed, Closed os.toArray listed → planOk os.toArray nd plan listed = true → ∀ a w, Ag C.N l a → St C M J w → n0 ≤ w.heap.size →
    wpAnyS C.P os.toArray (noPanicX (lift C Q)) (Sk K) nd.contains plan.length listed a w

section plan
variable {C : Cx} {Q : XQ} {l : Env} {M J : Mem} {os : List Oper} {K : Nat → Prop} {n0 : Nat} {nd : List Nat} {plan : List (Nat × Nat)}

theorem readOk_skp {T : World → Prop} {S : World → World → Prop} {ops : Array Oper} {nd : List Nat} {listed : Array Bool} {i : Nat} (h : readOk ops nd listed i = true) (hT : ∀ w w', T w → S w w' → T w') (j : Nat) (hlt : j < ops.size) (hji : j ≠ i) (hun : listed.getD j true = false) : anc ops ops.size j i = true ∨ ∀ w w', T w → (nd.contains j = true → S w w') → T w' := by
  have h1 := List.all_eq_true.1 h j (List.mem_range.2 hlt)
  simp only [Bool.or_eq_true, beq_iff_eq, hji, hun, false_or, Bool.false_eq_true] at h1
  rcases h1 with h1 | h1
  · exact .inr fun w w' hS hw => hT w w' hS (hw h1)
  · exact .inl h1

/-- Into a drawn region: Mv are the blocks that may change, and what is new counts as such if 'nv'. -/
theorem XC.drawK1 {id : Nat} (Mv Ms : Mem) (nv : Bool) (nd : List Nat) (plan : List (Nat × Nat)) (hm : C.P.follows .mixedOrders = true) (hp : planGood os nd plan = true) (hM : M.Perm (Mv ++ Ms))
    (h : Region.noSelect os.toArray = true → ∀ (K : Nat → Prop) n0, (∀ x ∈ Mv, K x.1) → (∀ x ∈ Ms ++ (J ++ C.A), ¬ K x.1) → (nv = true → ∀ b, n0 ≤ b → K b) → XK C os Q K n0 nd plan l (Mv ++ Ms) J) : XC C (.region id os.toArray true) Q l M J := by
  intro a w ha hw0
  have hw := hw0.perm hM
  simp only [planGood, Bool.and_eq_true, beq_iff_eq] at hp
  obtain ⟨⟨h1, h3⟩, h4⟩ := hp
  refine Code.wp_mono (Q := noPanicX (lift C Q)) (fun e a w h => by cases e <;> first | exact h | exact h.elim) ?_
  let K : Nat → Prop := fun b => b ∈ Mv.map Prod.fst ∨ (nv = true ∧ w.heap.size ≤ b)
  refine wp_region_any hm (wpAny_of_S (S := Sk K) (need := nd.contains) _ _ _ _ ?_)
  have hK1 : ∀ x ∈ Mv, K x.1 := fun x hx => .inl (List.mem_map_of_mem (f := Prod.fst) hx)
  have hcal := hw.callee (.refl _)
  have hK2 : ∀ x ∈ Ms ++ (J ++ C.A), ¬ K x.1 := by
    rintro ⟨b, o⟩ hx hk
    have h5 := hcal.sepA b o hx
    rcases hk with hk | ⟨_, hk⟩
    · exact h5.1 hk
    · exact absurd h5.2 (Nat.not_lt.2 hk)
  have := h h1 K w.heap.size hK1 hK2 (fun hn b hb => .inr ⟨hn, hb⟩) (Array.replicate os.length false) (fun j oj _ hl => by simp [Array.getElem?_replicate] at hl; split at hl <;> simp at hl) h4 a _ ha hw.drew (Nat.le_refl _)
  rw [h3] at this
  simpa using this
theorem XC.drawK {id : Nat} {c2 : Code} (Mv Ms : Mem) (nv : Bool) (nd : List Nat) (plan : List (Nat × Nat)) (hm : C.P.follows .mixedOrders = true) (hp : planGood os nd plan = true) (hM : M.Perm (Mv ++ Ms))
    (h : Region.noSelect os.toArray = true → ∀ (K : Nat → Prop) n0, (∀ x ∈ Mv, K x.1) → (∀ x ∈ Ms ++ (J ++ C.A), ¬ K x.1) → (nv = true → ∀ b, n0 ≤ b → K b) → XK C os (thenX C c2 Q) K n0 nd plan l (Mv ++ Ms) J) : XC C (.seq (.region id os.toArray true) c2) Q l M J :=
  XC.seq (XC.drawK1 Mv Ms nv nd plan hm hp hM h)

theorem XK.nil (h : Q .normal l M J) : XK C os Q K n0 nd [] l M J := by
  intro listed hcl hp a w ha hw hf
  simp only [planOk, List.isEmpty_iff] at hp
  exact ⟨hp, l, M, J, ha, hw, h⟩
theorem XK.fin {c : Code} {l' : Env} (hk : Keep l l') (h : XC C c Q l' M J) : XK C os (thenX C c Q) K n0 nd [] l M J := XK.nil (XC.keep hk h)
theorem XK.perm {M' : Mem} (hM : M.Perm M') (h : XK C os Q K n0 nd plan l M' J) : XK C os Q K n0 nd plan l M J := fun listed hcl hp a w ha hw hn => h listed hcl hp a w ha (hw.perm hM) hn
theorem XK.drop {M' : Mem} (hM : M'.Sublist M) (h : XK C os Q K n0 nd plan l M' J) : XK C os Q K n0 nd plan l M J := fun listed hcl hp a w ha hw hn => h listed hcl hp a w ha (hw.drop hM (fun _ h => h)) hn

/-- A reading operation is taken first. -/
theorem XK.take1 {i d : Nat} {op : Op} {ty : TypeId} {pos : String} {af : Array Edge} {g : Option (Nat × Bool)} {v : Value} {R : Mem} (hs : Region.noSelect os.toArray = true)
    (hget : nth os i = some ⟨some d, op, ty, pos, af, g⟩) (hR : ∀ x ∈ R, x ∈ M ++ (J ++ C.A)) (hn : ∀ x ∈ R, ¬ K x.1)
    (hy : ∀ a, Ag C.N l a → YieldsIf C.P os.toArray (Fx R) ⟨some d, op, ty, pos, af, g⟩ v a) (hd : Nat.blt d C.N = true)
    (h : XK C os Q K n0 nd plan ((d, v) :: l) M J) : XK C os Q K n0 nd ((i, 1) :: plan) l M J := by
  intro listed hcl hp a w ha hw hf
  simp only [planOk, Bool.and_eq_true] at hp
  obtain ⟨⟨⟨h1, h2⟩, h5⟩, h4⟩ := hp
  have hi : os.toArray[i]? = some ⟨some d, op, ty, pos, af, g⟩ := by rw [nth_eq] at hget; simpa using hget
  have hr : i ∈ Region.ready .any os.toArray listed := by simpa using h1
  exact wpAnyS_first (S := Sk K) (T := Fx R) (N := os.toArray.size) hi (Region.noSelect_spec hs) (fun _ _ _ h => h) (fun _ _ _ _ => rfl) _ listed a w hcl (Region.free_spec hi h2) (readOk_skp h5 fun w w' hT hS => hS.fx hn hT) hr (hy a ha) (fun b o hb => hw.fx b o (hR _ hb))
    (h _ (closed_set hcl hr) h4 _ w (ha.put (blt_lt hd) v) hw hf)
theorem XK.take0 {i d : Nat} {op : Op} {ty : TypeId} {pos : String} {af : Array Edge} {g : Option (Nat × Bool)} {v : Value} (hs : Region.noSelect os.toArray = true)
    (hget : nth os i = some ⟨some d, op, ty, pos, af, g⟩)
    (hy : ∀ a, Ag C.N l a → YieldsIf C.P os.toArray (fun _ => True) ⟨some d, op, ty, pos, af, g⟩ v a) (hd : Nat.blt d C.N = true)
    (h : XK C os Q K n0 nd plan ((d, v) :: l) M J) : XK C os Q K n0 nd ((i, 0) :: plan) l M J := by
  intro listed hcl hp a w ha hw hf
  simp only [planOk, Bool.and_eq_true] at hp
  obtain ⟨⟨h1, h2⟩, h4⟩ := hp
  have hi : os.toArray[i]? = some ⟨some d, op, ty, pos, af, g⟩ := by rw [nth_eq] at hget; simpa using hget
  have hr : i ∈ Region.ready .any os.toArray listed := by simpa using h1
  exact wpAnyS_first (S := Sk K) (T := fun _ => True) (N := 0) hi (Region.noSelect_spec hs) (fun _ _ _ h => h) (fun _ _ _ _ => rfl) _ listed a w hcl (Region.free_spec hi h2) (fun _ _ _ _ => .inr fun _ _ _ _ => trivial) hr (hy a ha) trivial
    (h _ (closed_set hcl hr) h4 _ w (ha.put (blt_lt hd) v) hw hf)

section ops
variable {i d j t : Nat} {op : Op} {ty : TypeId} {pos : String} {af : Array Edge} {b b' : Bool} {v : Value} {oj : Oper} {R : Mem}
theorem XK.q (hs : Region.noSelect os.toArray = true) (hget : nth os i = some ⟨some d, op, ty, pos, af, none⟩) (hq : OpQ C.P [] ⟨some d, op, ty, pos, af, none⟩ l v) (hd : Nat.blt d C.N = true)
    (h : XK C os Q K n0 nd plan ((d, v) :: l) M J) : XK C os Q K n0 nd ((i, 0) :: plan) l M J :=
  XK.take0 hs hget (fun a ha => .inl ⟨rfl, fun w hw => hq C.N a w ha (fun _ _ hb => by cases hb)⟩) hd h
theorem XK.r (hs : Region.noSelect os.toArray = true) (hget : nth os i = some ⟨some d, op, ty, pos, af, none⟩) (hR : ∀ x ∈ R, x ∈ M ++ (J ++ C.A)) (hn : ∀ x ∈ R, ¬ K x.1) (hq : OpQ C.P R ⟨some d, op, ty, pos, af, none⟩ l v) (hd : Nat.blt d C.N = true)
    (h : XK C os Q K n0 nd plan ((d, v) :: l) M J) : XK C os Q K n0 nd ((i, 1) :: plan) l M J :=
  XK.take1 hs hget hR hn (fun a ha => .inl ⟨rfl, fun w hw => hq C.N a w ha hw⟩) hd h
end ops

/-- A loud operation that works on the blocks Mc alone. -/
theorem XK.loud {i : Nat} {o : Oper} {Mc R : Mem} (hget : nth os i = some o) (hw' : ∀ a, Ag C.N l a → Region.wanted o (yielded os.toArray a.tmps) = true) (hM : M.Perm (Mc ++ R)) (hK : ∀ x ∈ Mc, K x.1)
    (h : ∀ w, OpL ⟨C.P, w, Mc.map Prod.fst, R ++ (J ++ C.A), C.N⟩ o l Mc [] (fun l' M' J' => ((∀ b, n0 ≤ b → K b) → ∀ x ∈ M', K x.1) → XK C os Q K n0 nd plan l' (M' ++ R) (J' ++ J))) :
    XK C os Q K n0 nd ((i, 2) :: plan) l M J := by
  intro listed hcl hp a w ha hw hf
  simp only [planOk, Bool.and_eq_true, beq_iff_eq] at hp
  obtain ⟨h1, h2⟩ := hp
  have hi : os.toArray[i]? = some o := by rw [nth_eq] at hget; simpa using hget
  refine ⟨fun h0 => (by rw [h1] at h0; cases h0), fun j hj => ?_⟩
  have hr := hj
  rw [h1] at hj
  simp only [List.mem_singleton] at hj
  subst hj
  unfold wpOp
  simp only [hi]
  rw [if_pos (hw' a ha)]
  refine .inl (Oper.wp_mono ?_ (h w _ a w ha (hw.callee hM).cx))
  rintro a' w' ⟨l', M', J', ha', hs', hk⟩
  have hsz : w.heap.size ≤ w'.heap.size := hs'.size
  refine ⟨fun _ b hb hnk => hs'.frame b hb fun hm => ?_, hk ?_ _ (closed_set hcl hr) h2 a' w' ha' (hw.back hM hs'.cx) (Nat.le_trans hf hsz)⟩
  · obtain ⟨x, hx, e⟩ := List.mem_map.1 hm
    exact hnk (e ▸ hK x hx)
  · rintro hup ⟨b, o'⟩ hx
    rcases hs'.own b o' (by simp [hx]) with h6 | h6
    · obtain ⟨x, hx, e⟩ := List.mem_map.1 h6
      exact e ▸ hK x hx
    · exact hup b (Nat.le_trans hf h6)
theorem XK.lo {i : Nat} {o : Oper} (Mc R : Mem) (hget : nth os i = some o) (hg : o.guard = none) (hM : M.Perm (Mc ++ R)) (hK : ∀ x ∈ Mc, K x.1)
    (h : ∀ w, OpL ⟨C.P, w, Mc.map Prod.fst, R ++ (J ++ C.A), C.N⟩ o l Mc [] (fun l' M' J' => ((∀ b, n0 ≤ b → K b) → ∀ x ∈ M', K x.1) → XK C os Q K n0 nd plan l' (M' ++ R) (J' ++ J))) :
    XK C os Q K n0 nd ((i, 2) :: plan) l M J := XK.loud hget (fun a ha => by simp [Region.wanted, hg]) hM hK h
/-- A loud operation that isn't asked. -/
theorem XK.skip {i d : Nat} {op : Op} {ty : TypeId} {pos : String} {af : Array Edge} {g : Option (Nat × Bool)} (hget : nth os i = some ⟨some d, op, ty, pos, af, g⟩) (hw' : ∀ a, Ag C.N l a → Region.wanted ⟨some d, op, ty, pos, af, g⟩ (yielded os.toArray a.tmps) = false) (hd : Nat.blt d C.N = true)
    (h : XK C os Q K n0 nd plan ((d, undef) :: l) M J) : XK C os Q K n0 nd ((i, 2) :: plan) l M J := by
  intro listed hcl hp a w ha hw hf
  simp only [planOk, Bool.and_eq_true, beq_iff_eq] at hp
  obtain ⟨h1, h2⟩ := hp
  have hi : os.toArray[i]? = some ⟨some d, op, ty, pos, af, g⟩ := by rw [nth_eq] at hget; simpa using hget
  refine ⟨fun h0 => (by rw [h1] at h0; cases h0), fun j hj => ?_⟩
  have hr := hj
  rw [h1] at hj
  simp only [List.mem_singleton] at hj
  subst hj
  unfold wpOp
  simp only [hi]
  rw [if_neg (by rw [hw' a ha]; simp)]
  exact ⟨fun _ _ _ _ => rfl, h _ (closed_set hcl hr) h2 _ w (ha.put (blt_lt hd) undef) hw hf⟩
end plan

/-! ### Nothing that is there changes -/
def XF (C : Cx) (os : List Oper) (Q : XQ) (nd : List Nat) (plan : List (Nat × Nat)) (l : Env) (M J : Mem) : Prop := XK C os Q (fun _ => False) 0 nd plan l M J
section free
variable {C : Cx} {Q : XQ} {l : Env} {M J : Mem} {os : List Oper} {nd : List Nat} {plan : List (Nat × Nat)}
theorem XC.drawF1 {id : Nat} (nd : List Nat) (plan : List (Nat × Nat)) (hm : C.P.follows .mixedOrders = true) (hp : planGood os nd plan = true) (h : Region.noSelect os.toArray = true → XF C os Q nd plan l M J) : XC C (.region id os.toArray true) Q l M J := by
  intro a w ha hw
  simp only [planGood, Bool.and_eq_true, beq_iff_eq] at hp
  obtain ⟨⟨h1, h3⟩, h4⟩ := hp
  refine Code.wp_mono (Q := noPanicX (lift C Q)) (fun e a w h => by cases e <;> first | exact h | exact h.elim) ?_
  refine wp_region_any hm (wpAny_of_S (S := Sk fun _ => False) (need := nd.contains) _ _ _ _ ?_)
  have := h h1 (Array.replicate os.length false) (fun j oj _ hl => by simp [Array.getElem?_replicate] at hl; split at hl <;> simp at hl) h4 a _ ha hw.drew (Nat.zero_le _)
  rw [h3] at this
  simpa using this
theorem XC.drawF {id : Nat} {c2 : Code} (nd : List Nat) (plan : List (Nat × Nat)) (hm : C.P.follows .mixedOrders = true) (hp : planGood os nd plan = true) (h : Region.noSelect os.toArray = true → XF C os (thenX C c2 Q) nd plan l M J) : XC C (.seq (.region id os.toArray true) c2) Q l M J :=
  XC.seq (XC.drawF1 nd plan hm hp h)
theorem XF.nil (h : Q .normal l M J) : XF C os Q nd [] l M J := XK.nil h
theorem XF.fin {c : Code} {l' : Env} (hk : Keep l l') (h : XC C c Q l' M J) : XF C os (thenX C c Q) nd [] l M J := XK.fin hk h
section ops
variable {i d j t : Nat} {op : Op} {ty : TypeId} {pos : String} {af : Array Edge} {b b' : Bool} {v : Value} {oj : Oper}
theorem XF.q (hs : Region.noSelect os.toArray = true) (hget : nth os i = some ⟨some d, op, ty, pos, af, none⟩) (hq : OpQ C.P [] ⟨some d, op, ty, pos, af, none⟩ l v) (hd : Nat.blt d C.N = true)
    (h : XF C os Q nd plan ((d, v) :: l) M J) : XF C os Q nd ((i, 0) :: plan) l M J := XK.q hs hget hq hd h
theorem XF.r (hs : Region.noSelect os.toArray = true) (hget : nth os i = some ⟨some d, op, ty, pos, af, none⟩) (hq : OpQ C.P (M ++ (J ++ C.A)) ⟨some d, op, ty, pos, af, none⟩ l v) (hd : Nat.blt d C.N = true)
    (h : XF C os Q nd plan ((d, v) :: l) M J) : XF C os Q nd ((i, 1) :: plan) l M J := XK.r hs hget (fun _ h => h) (fun _ _ h => h) hq hd h
end ops
/-- A loud operation that makes new blocks alone. -/
theorem XF.lo {i : Nat} {o : Oper} (hget : nth os i = some o) (hg : o.guard = none)
    (h : ∀ w, OpL ⟨C.P, w, [], M ++ (J ++ C.A), C.N⟩ o l [] [] (fun l' M' J' => XF C os Q nd plan l' (M' ++ M) (J' ++ J))) : XF C os Q nd ((i, 2) :: plan) l M J :=
  XK.lo [] M hget hg (.refl _) (fun _ h => by cases h) fun w => (h w).mono fun _ _ _ hh _ => hh
end free

/-! ### What comes last in a drawn region may change what is there -/
section tails
variable {C : Cx} {Q : XQ} {l : Env} {M J : Mem} {os : List Oper} {K : Nat → Prop} {n0 : Nat} {nd : List Nat} {plan : List (Nat × Nat)}
theorem XK.last {i : Nat} {o : Oper} (hget : nth os i = some o) (hw' : ∀ a, Ag C.N l a → Region.wanted o (yielded os.toArray a.tmps) = true) (hnd : nd.contains i = false)
    (h : OpL C o l M J (fun l' M' J' => XK C os Q K 0 nd plan l' M' J')) : XK C os Q K 0 nd ((i, 2) :: plan) l M J := by
  intro listed hcl hp a w ha hw hf
  simp only [planOk, Bool.and_eq_true, beq_iff_eq] at hp
  obtain ⟨h1, h2⟩ := hp
  have hi : os.toArray[i]? = some o := by rw [nth_eq] at hget; simpa using hget
  refine ⟨fun h0 => (by rw [h1] at h0; cases h0), fun j hj => ?_⟩
  have hr := hj
  rw [h1] at hj
  simp only [List.mem_singleton] at hj
  subst hj
  unfold wpOp
  simp only [hi]
  rw [if_pos (hw' a ha)]
  refine .inl (Oper.wp_mono ?_ (h _ a w ha hw))
  rintro a' w' ⟨l', M', J', ha', hs', hk⟩
  exact ⟨fun hn => absurd hn (by rw [hnd]; decide), hk _ (closed_set hcl hr) h2 a' w' ha' hs' (Nat.zero_le _)⟩
theorem XF.tl {i : Nat} {o : Oper} (hget : nth os i = some o) (hg : o.guard = none) (hnd : nd.contains i = false) (h : OpL C o l M J (fun l' M' J' => XF C os Q nd plan l' M' J')) : XF C os Q nd ((i, 2) :: plan) l M J :=
  XK.last hget (fun a ha => by simp [Region.wanted, hg]) hnd h
end tails

/-! ### A loop, round by round -/
def XR (C : Cx) (c : Code) (Q : XQ) (n : Nat) (l : Env) (M J : Mem) : Prop := ∀ a w, Ag C.N l a → St C M J w → Code.rounds C.P c (lift C Q) n a w
def unX (C : Cx) (c : Code) (Q : XQ) (n : Nat) : XQ
  | .normal, l, M, J => XR C c Q n l M J
  | e, l, M, J => Q e l M J
section unroll
variable {C : Cx} {Q : XQ} {l l' : Env} {M J : Mem} {c : Code} {n : Nat}
theorem XC.rounds (n : Nat) (h : XR C c Q n l M J) : XC C (.loop c) Q l M J := fun a w ha hw => wp_loop_rounds n (h a w ha hw)
theorem XR.step (h : XC C c (unX C c Q n) l M J) : XR C c Q (n + 1) l M J := by
  intro a w ha hw
  refine Code.wp_mono ?_ (h a w ha hw)
  rintro e a' w' ⟨l', M', J', ha', hw', hq⟩
  cases e with
  | normal => exact hq a' w' ha' hw'
  | _ => exact ⟨l', M', J', ha', hw', hq⟩
theorem un (hk : Keep l l') (h : XR C c Q n l' M J) : unX C c Q n .normal l M J := fun a w ha hw => h a w (ha.sub hk.lk) hw
theorem ue {i : Nat} (h : Q (.exit i) l M J) : unX C c Q n (.exit i) l M J := h
end unroll

/-! ### A call that gets no blocks -/
section call
variable {C : Cx} {Q : XQ} {l : Env} {M J : Mem} {d i j t : Nat} {ty : TypeId} {pos : String} {af : Array Edge} {b : Bool} {f : FuncId} {xs : List Operand} {vs : List Value} {ts : Array TypeId} {post : Value → Mem → Mem → Prop} {K : Env → Mem → Mem → Prop} {g : Option (Nat × Bool)}
theorem l_call0 (hx : Evs l xs vs) (hc : callable C.P f = true)
    (hf : FnX C.P f vs [] (M ++ (J ++ C.A)) post) (hd : Nat.blt d C.N = true) (k : ∀ v M' J', post v M' J' → K ((d, v) :: l) (M' ++ M) (J' ++ J)) :
    OpL C ⟨some d, .call { callee := .value (.func f), args := xs.toArray, argTypes := ts }, ty, pos, af, g⟩ l M J K := l_call (Mc := []) (R := M) hx hc (.refl _) hf hd k
theorem XL.call {ops : Array Oper} {rest : List Oper} (hx : Evs l xs vs) (hc : callable C.P f = true) (hf : FnX C.P f vs [] (M ++ (J ++ C.A)) post) (hd : Nat.blt d C.N = true)
    (k : ∀ v M' J', post v M' J' → XL C ops rest Q ((d, v) :: l) (M' ++ M) (J' ++ J)) :
    XL C ops (⟨some d, .call { callee := .value (.func f), args := xs.toArray, argTypes := ts }, ty, pos, af, none⟩ :: rest) Q l M J := XL.lo rfl (l_call0 hx hc hf hd k)
theorem XL.callg {ops : Array Oper} {rest : List Oper} (ht : (ops[j]?).bind (·.dst) = some t) (hl : lk l t = some (.bool b)) (hx : Evs l xs vs) (hc : callable C.P f = true) (hf : FnX C.P f vs [] (M ++ (J ++ C.A)) post) (hd : Nat.blt d C.N = true)
    (k : ∀ v M' J', post v M' J' → XL C ops rest Q ((d, v) :: l) (M' ++ M) (J' ++ J)) :
    XL C ops (⟨some d, .call { callee := .value (.func f), args := xs.toArray, argTypes := ts }, ty, pos, af, some (j, b)⟩ :: rest) Q l M J := XL.gy ht hl (l_call0 hx hc hf hd k)
variable {os : List Oper} {nd : List Nat} {plan : List (Nat × Nat)} {oj : Oper}
theorem XF.call (hget : nth os i = some ⟨some d, .call { callee := .value (.func f), args := xs.toArray, argTypes := ts }, ty, pos, af, none⟩) (hx : Evs l xs vs) (hc : callable C.P f = true) (hf : FnX C.P f vs [] (M ++ (J ++ C.A)) post) (hd : Nat.blt d C.N = true)
    (k : ∀ v M' J', post v M' J' → XF C os Q nd plan ((d, v) :: l) (M' ++ M) (J' ++ J)) : XF C os Q nd ((i, 2) :: plan) l M J :=
  XF.lo hget rfl fun w => l_call0 hx hc hf hd fun v M' J' hp => by simpa using k v M' J' hp
/-- .. and only computes. -/
theorem XL.callV {ops : Array Oper} {rest : List Oper} {v : Value} (hx : Evs l xs vs) (hc : callable C.P f = true) (hf : FnV C.P f vs (M ++ (J ++ C.A)) v) (hd : Nat.blt d C.N = true) (k : XL C ops rest Q ((d, v) :: l) M J) :
    XL C ops (⟨some d, .call { callee := .value (.func f), args := xs.toArray, argTypes := ts }, ty, pos, af, none⟩ :: rest) Q l M J := XL.call hx hc hf hd fun r M' J' h => by obtain ⟨rfl, rfl, rfl⟩ := h; exact k
theorem XL.callVg {ops : Array Oper} {rest : List Oper} {v : Value} (ht : (ops[j]?).bind (·.dst) = some t) (hl : lk l t = some (.bool b)) (hx : Evs l xs vs) (hc : callable C.P f = true) (hf : FnV C.P f vs (M ++ (J ++ C.A)) v) (hd : Nat.blt d C.N = true) (k : XL C ops rest Q ((d, v) :: l) M J) :
    XL C ops (⟨some d, .call { callee := .value (.func f), args := xs.toArray, argTypes := ts }, ty, pos, af, some (j, b)⟩ :: rest) Q l M J := XL.callg ht hl hx hc hf hd fun r M' J' h => by obtain ⟨rfl, rfl, rfl⟩ := h; exact k
theorem XF.callV {v : Value} (hget : nth os i = some ⟨some d, .call { callee := .value (.func f), args := xs.toArray, argTypes := ts }, ty, pos, af, none⟩) (hx : Evs l xs vs) (hc : callable C.P f = true) (hf : FnV C.P f vs (M ++ (J ++ C.A)) v) (hd : Nat.blt d C.N = true)
    (k : XF C os Q nd plan ((d, v) :: l) M J) : XF C os Q nd ((i, 2) :: plan) l M J := XF.call hget hx hc hf hd fun r M' J' h => by obtain ⟨rfl, rfl, rfl⟩ := h; exact k
end call
end Go.Px

namespace Go.Px
theorem kr_ {X Z Y : Mem} : ∀ x ∈ Z ++ Y, x ∈ (X ++ Z) ++ Y := fun x hx => by rw [List.append_assoc]; exact List.mem_append_right _ hx
end Go.Px

/-
  Groups of operations of a drawn region that come up in any order; each makes new blocks alone, which are read only behind it.
-/
namespace Go.Px
/-- A member: its number, its slot, what it yields (with the facts that are there). -/
structure Gm where
  i : Nat
  d : Nat
  φ : Value → Mem → Prop
def gEnv (G : List Gm) (vs : Nat → Value) : Env := G.map fun g => (g.d, vs g.i)
def enc : List Nat → List (Nat × Nat)
  | [] => []
  | [i] => [(i, 4)]
  | i :: j :: r => (i, 3) :: enc (j :: r)

inductive GOk (ops : Array Oper) : Array Bool → List Nat → Array Bool → Prop
  | nil {A : Array Bool} : GOk ops A [] A
  | cons {A B : Array Bool} {i : Nat} {r : List Nat} (hr : i ∈ Region.ready .any ops A) (ho : ∀ j, j < ops.size → A.getD j true = false → j ∉ i :: r → anc ops ops.size j i = true) (h : GOk ops (A.setIfInBounds i true) r B) : GOk ops A (i :: r) B
theorem grp_enc (i : Nat) (r : List Nat) (plan : List (Nat × Nat)) : grp (enc (i :: r) ++ plan) = i :: r := by
  induction r generalizing i with
  | nil => rfl
  | cons j r ih => simp only [enc, List.cons_append, grp]; rw [ih j]
theorem enc_ok {ops : Array Oper} {nd : List Nat} {plan : List (Nat × Nat)} : ∀ {is : List Nat} {A : Array Bool}, planOk ops nd (enc is ++ plan) A = true → ∃ B, GOk ops A is B ∧ planOk ops nd plan B = true
  | [], A, h => ⟨A, .nil, h⟩
  | [i], A, h => by
    simp only [enc, List.cons_append, List.nil_append, planOk, grpOk, Bool.and_eq_true, List.all_eq_true, List.mem_range, Bool.or_eq_true] at h
    refine ⟨_, .cons (by simpa using h.1.1) (fun j hj hu hn => ?_) .nil, h.2⟩
    rcases h.1.2 j hj with (h1 | h1) | h1
    · rw [hu] at h1; cases h1
    · exact absurd (by simpa using h1) hn
    · exact h1
  | i :: j :: r, A, h => by
    simp only [enc, List.cons_append, planOk, grpOk, Bool.and_eq_true, List.all_eq_true, List.mem_range, Bool.or_eq_true, grp_enc] at h
    obtain ⟨B, hB, hp⟩ := enc_ok (is := j :: r) h.2
    refine ⟨B, .cons (by simpa using h.1.1) (fun j hj hu hn => ?_) hB, hp⟩
    rcases h.1.2 j hj with (h1 | h1) | h1
    · rw [hu] at h1; cases h1
    · exact absurd (by simpa using h1) hn
    · exact h1

def mark (A : Array Bool) (X : List Nat) : Array Bool := X.foldl (fun B i => B.setIfInBounds i true) A
theorem mark_get (X : List Nat) : ∀ (A : Array Bool) (j : Nat), (mark A X)[j]? = if j ∈ X ∧ j < A.size then some true else A[j]? := by
  induction X with
  | nil => intro A j; simp [mark]
  | cons i X ih =>
    intro A j
    have := ih (A.setIfInBounds i true) j
    simp only [mark, List.foldl_cons] at this ⊢
    rw [this]
    simp only [Array.size_setIfInBounds, List.mem_cons]
    by_cases h1 : j < A.size
    · by_cases h2 : j ∈ X
      · simp [h1, h2]
      · by_cases h3 : i = j
        · subst h3; simp [h1, h2]
        · have h3' : j ≠ i := fun h => h3 h.symm
          simp [h1, h2, h3, h3', Array.getElem?_setIfInBounds]
    · simp [h1]
theorem mark_snoc (A : Array Bool) (X : List Nat) (i : Nat) : mark A (X ++ [i]) = (mark A X).setIfInBounds i true := by simp [mark]
theorem mark_eq {A : Array Bool} {X Y : List Nat} (h : ∀ j, j ∈ X ↔ j ∈ Y) : mark A X = mark A Y := by
  apply Array.ext_getElem?
  intro j; rw [mark_get, mark_get]; simp only [h]
theorem mark_getD_f {A : Array Bool} {X : List Nat} {j : Nat} : (mark A X).getD j true = false ↔ (A.getD j true = false ∧ ¬ (j ∈ X ∧ j < A.size)) := by
  have := mark_get X A j
  simp only [Array.getD_eq_getD_getElem?, this]
  split
  · simp_all
  · simp_all
theorem mark_getD_t {A : Array Bool} {X : List Nat} {j : Nat} (h : (mark A X).getD j false = true) : A.getD j false = true ∨ j ∈ X := by
  have := mark_get X A j
  simp only [Array.getD_eq_getD_getElem?, this] at h ⊢
  split at h
  · rename_i hh; exact .inr hh.1
  · exact .inl h
theorem GOk.mark {ops : Array Oper} {A B : Array Bool} {is : List Nat} (h : GOk ops A is B) : B = mark A is := by
  induction h with
  | nil => rfl
  | cons _ _ _ ih => rw [ih]; rfl
theorem ready_un {ops : Array Oper} {A : Array Bool} {i : Nat} (h : i ∈ Region.ready .any ops A) : A.getD i true = false := (mem_ready.1 h).1
theorem ready_lt {ops : Array Oper} {A : Array Bool} {i : Nat} (h : i ∈ Region.ready .any ops A) : i < ops.size := by
  obtain ⟨_, oj, hoj, _⟩ := mem_ready.1 h
  exact (Array.getElem?_eq_some_iff.1 hoj).1
/-- Whoever isn't of the group waits for all of it. -/
theorem GOk.outer {ops : Array Oper} {A B : Array Bool} {is : List Nat} (h : GOk ops A is B) : ∀ i ∈ is, ∀ j, j < ops.size → A.getD j true = false → j ∉ is → anc ops ops.size j i = true := by
  induction h with
  | nil => intro i hi; cases hi
  | @cons A B i r hr ho h ih =>
    intro k hk j hj hu hn
    rcases List.mem_cons.1 hk with rfl | hk
    · exact ho j hj hu hn
    · have hne : i ≠ j := fun e => hn (e ▸ List.mem_cons_self)
      exact ih k hk j hj (by rw [getD_set_ne true hne]; exact hu) (fun hm => hn (List.mem_cons_of_mem _ hm))
/-- Who is first of those that are missing is ready. -/
theorem ready_more {ops : Array Oper} {A A' : Array Bool} {i : Nat} (hr : i ∈ Region.ready .any ops A) (hu : A'.getD i true = false) (hm : ∀ j, A.getD j false = true → A'.getD j false = true) : i ∈ Region.ready .any ops A' := by
  obtain ⟨h1, oj, hoj, hall⟩ := mem_ready.1 hr
  exact mem_ready.2 ⟨hu, oj, hoj, fun e he hb => hm _ (hall e he hb)⟩
theorem getD_f_lt {A : Array Bool} {i : Nat} (h : A.getD i true = false) : i < A.size := by
  rcases Nat.lt_or_ge i A.size with h1 | h1
  · exact h1
  · simp [Array.getElem?_eq_none h1] at h
theorem GOk.first {ops : Array Oper} {A B : Array Bool} {is : List Nat} (h : GOk ops A is B) {A' : Array Bool} (hsz : A'.size = A.size) (hm : ∀ j, A.getD j false = true → A'.getD j false = true) {k : Nat} (hk : k ∈ is) (hk' : A'.getD k true = false) : ∃ i, i ∈ Region.ready .any ops A' := by
  induction h generalizing k with
  | nil => cases hk
  | @cons A B i r hr ho h ih =>
    by_cases hi : A'.getD i true = false
    · exact ⟨i, ready_more hr hi hm⟩
    · rcases List.mem_cons.1 hk with rfl | hk
      · exact absurd hk' hi
      · refine ih (by simpa using hsz) (fun j hj => ?_) hk hk'
        by_cases e : i = j
        · subst e
          have hlt := getD_f_lt (ready_un hr)
          have hlt' : i < A'.size := by omega
          simp [hlt'] at hi ⊢; exact hi
        · rw [getD_set_ne false e] at hj
          exact hm j hj
theorem mark_size (A : Array Bool) (X : List Nat) : (mark A X).size = A.size := by
  induction X generalizing A with
  | nil => rfl
  | cons i X ih => simp only [mark, List.foldl_cons] at ih ⊢; rw [ih]; simp
theorem mark_mono {A : Array Bool} {X : List Nat} {j : Nat} (h : A.getD j false = true) : (mark A X).getD j false = true := by
  have := mark_get X A j
  simp only [Array.getD_eq_getD_getElem?, this] at h ⊢
  split
  · rfl
  · exact h
theorem St.freezeAll {C : Cx} {M J : Mem} {w : World} : ∀ {B : Mem}, St C (B ++ M) J w → St C M (B ++ J) w
  | [], h => h
  | x :: B, h => by
    have h1 := St.freezeAll (B := B) (h.freeze)
    exact h1.drop (List.Sublist.refl _) fun y hy => by
      simp only [List.cons_append, List.mem_cons, List.mem_append] at hy ⊢
      rcases hy with hy | hy | hy <;> simp [hy]

theorem nodup_le {X : List Nat} : ∀ {Y : List Nat}, X.Nodup → (∀ x ∈ X, x ∈ Y) → X.length ≤ Y.length := by
  induction X with
  | nil => intros; simp
  | cons x X ih =>
    intro Y hn hs
    simp only [List.nodup_cons] at hn
    have h1 := ih (Y := Y.erase x) hn.2 fun z hz => (List.mem_erase_of_ne (fun e => hn.1 (by rw [← e]; exact hz))).2 (hs z (List.mem_cons_of_mem _ hz))
    have h2 := List.length_erase_of_mem (hs x List.mem_cons_self)
    have h3 : 0 < Y.length := List.length_pos_of_mem (hs x List.mem_cons_self)
    simp only [List.length_cons]; omega
theorem nodup_all {X Y : List Nat} (hn : X.Nodup) (hs : ∀ x ∈ X, x ∈ Y) (hl : Y.length ≤ X.length) : ∀ y ∈ Y, y ∈ X := by
  intro y hy
  apply Classical.byContradiction
  intro hno
  have := nodup_le (X := y :: X) (Y := Y) (List.nodup_cons.2 ⟨hno, hn⟩) (fun z hz => by
    rcases List.mem_cons.1 hz with rfl | hz
    · exact hy
    · exact hs z hz)
  simp at this; omega
theorem gm_inj {G : List Gm} (h : (G.map (·.i)).Nodup) {g g' : Gm} (hg : g ∈ G) (hg' : g' ∈ G) (e : g.i = g'.i) : g = g' := by
  induction G with
  | nil => cases hg
  | cons x G ih =>
    simp only [List.map_cons, List.nodup_cons] at h
    rcases List.mem_cons.1 hg with h1 | h1 <;> rcases List.mem_cons.1 hg' with h2 | h2
    · rw [h1, h2]
    · exact absurd (by rw [← h1, e]; exact List.mem_map_of_mem (f := Gm.i) h2) h.1
    · exact absurd (by rw [← h2, ← e]; exact List.mem_map_of_mem (f := Gm.i) h1) h.1
    · exact ih h.2 h1 h2

theorem gEnv_set {N : Nat} {G : List Gm} {l : Env} {vs : Nat → Value} {a : Act} {g : Gm} (hg : g ∈ G) (hd : (G.map (·.d)).Nodup) (hi : (G.map (·.i)).Nodup) {v : Value} (h : Ag N ((g.d, v) :: (gEnv G vs ++ l)) a) :
    Ag N (gEnv G (fun k => if k = g.i then v else vs k) ++ l) a := by
  refine h.sub ?_
  have key : ∀ (G : List Gm), g ∈ G → (G.map (·.d)).Nodup → (G.map (·.i)).Nodup → ∀ k u, lk (gEnv G (fun k => if k = g.i then v else vs k) ++ l) k = some u → lk ((g.d, v) :: (gEnv G vs ++ l)) k = some u := by
    intro G
    have step : ∀ (G : List Gm), (∀ x ∈ G, x.i ≠ g.i) → gEnv G (fun k => if k = g.i then v else vs k) = gEnv G vs := by
      intro G hG
      exact List.map_congr_left fun x hx => by simp [hG x hx]
    induction G with
    | nil => intro h; cases h
    | cons x G ih =>
      intro hm hd hi k u hk
      simp only [List.map_cons, List.nodup_cons] at hd hi
      rcases List.mem_cons.1 hm with rfl | hm
      · have e := step G fun x hx e => hi.1 (e ▸ List.mem_map_of_mem (f := Gm.i) hx)
        simp only [gEnv, List.map_cons, List.cons_append, lk] at hk ⊢
        by_cases h1 : g.d = k
        · subst h1; simpa using hk
        · simp only [beq_ne h1, cond_false] at hk ⊢
          rw [show List.map (fun g_1 => (g_1.d, if g_1.i = g.i then v else vs g_1.i)) G = gEnv G vs from e] at hk
          exact hk
      · have hne : x.i ≠ g.i := fun e => hi.1 (e ▸ List.mem_map_of_mem (f := Gm.i) hm)
        have hned : x.d ≠ g.d := fun e => hd.1 (e ▸ List.mem_map_of_mem (f := Gm.d) hm)
        simp only [gEnv, List.map_cons, List.cons_append, lk, hne, if_false] at hk ⊢
        by_cases h1 : g.d = k
        · subst h1
          simp only [beq_ne hned, cond_false] at hk
          have := ih hm hd.2 hi.2 g.d u hk
          simp only [lk] at this ⊢
          simpa using this
        · simp only [beq_ne h1, cond_false]
          by_cases h2 : x.d = k
          · subst h2; simpa using hk
          · simp only [beq_ne h2, cond_false] at hk ⊢
            have := ih hm hd.2 hi.2 k u hk
            simp only [lk, beq_ne h1, cond_false] at this
            exact this
  exact key G hg hd hi

section group
variable {C : Cx} {Q : XQ} {l : Env} {M J : Mem} {os : List Oper} {K : Nat → Prop} {n0 : Nat} {nd : List Nat} {plan : List (Nat × Nat)}
/-- Is an operation asked, in a state? -/
def Asked (os : List Oper) (l : Env) (o : Oper) : Prop := o.guard = none ∨ ∃ j t b oj, o.guard = some (j, b) ∧ nth os j = some oj ∧ oj.dst = some t ∧ lk l t = some (.bool b)
theorem Asked.wanted {o : Oper} (h : Asked os l o) {a : Act} (ha : Ag C.N l a) : Region.wanted o (yielded os.toArray a.tmps) = true := by
  rcases h with h | ⟨j, t, b, oj, h1, h2, h3, h4⟩
  · simp [Region.wanted, h]
  · have hj' : os.toArray[j]? = some oj := by rw [nth_eq] at h2; simpa using h2
    simp only [Region.wanted, h1, yielded, hj', Option.bind_some, h3, ha.slot _ _ h4]; simp
/-- What a member owes: with what those yield that it waits for. -/
def Owes (C : Cx) (os : List Oper) (l : Env) (M J : Mem) (G : List Gm) (g : Gm) : Prop :=
  ∃ o, nth os g.i = some o ∧ ∀ (vs : Nat → Value) (R : Mem) (w : World), (∀ x ∈ M ++ (J ++ C.A), x ∈ R) → (∀ g' ∈ G, anc os.toArray os.toArray.size g.i g'.i = true → g'.φ (vs g'.i) R) →
    Asked os (gEnv G vs ++ l) o ∧ OpL ⟨C.P, w, [], R, C.N⟩ o (gEnv G vs ++ l) [] [] (fun l' M' J' => ∃ v, l' = (g.d, v) :: (gEnv G vs ++ l) ∧ g.φ v (M' ++ (J' ++ R)))
def Grows (φ : Value → Mem → Prop) : Prop := ∀ v R R', (∀ x ∈ R, x ∈ R') → φ v R → φ v R'

theorem group_go {G : List Gm} (hmono : ∀ g ∈ G, Grows g.φ) (hd : (G.map (·.d)).Nodup) (hi : (G.map (·.i)).Nodup) (hdN : ∀ g ∈ G, g.d < C.N) (hob : ∀ g ∈ G, Owes C os l M J G g) {A B : Array Bool} (hok : GOk os.toArray A (G.map (·.i)) B)
    (hfin : ∀ (vs : Nat → Value) Jn a w, (∀ g ∈ G, g.φ (vs g.i) (M ++ ((Jn ++ J) ++ C.A))) → Ag C.N (gEnv G vs ++ l) a → St C M (Jn ++ J) w → n0 ≤ w.heap.size → wpAnyS C.P os.toArray (noPanicX (lift C Q)) (Sk K) nd.contains plan.length B a w) :
    ∀ (n : Nat) (X : List Nat) (vs : Nat → Value) (Jn : Mem) (a : Act) (w : World), X.Nodup → (∀ i ∈ X, i ∈ G.map (·.i)) → n + X.length = G.length → Closed os.toArray (mark A X) →
      (∀ g ∈ G, g.i ∈ X → g.φ (vs g.i) (M ++ ((Jn ++ J) ++ C.A))) → Ag C.N (gEnv G vs ++ l) a → St C M (Jn ++ J) w → n0 ≤ w.heap.size →
      wpAnyS C.P os.toArray (noPanicX (lift C Q)) (Sk K) nd.contains (n + plan.length) (mark A X) a w := by
  intro n
  induction n with
  | zero =>
    intro X vs Jn a w hnd hX hlen hcl hφ ha hw hn
    have hall : ∀ i, i ∈ X ↔ i ∈ G.map (·.i) := fun i => ⟨hX i, nodup_all hnd hX (by simp; omega) i⟩
    rw [Nat.zero_add, mark_eq hall, ← hok.mark]
    exact hfin vs Jn a w (fun g hg => hφ g hg ((hall _).2 (List.mem_map_of_mem (f := Gm.i) hg))) ha hw hn
  | succ n ih =>
    intro X vs Jn a w hnd hX hlen hcl hφ ha hw hn
    have hmiss : ∃ k ∈ G.map (·.i), k ∉ X := by
      apply Classical.byContradiction
      intro hno
      have hs : ∀ k ∈ G.map (·.i), k ∈ X := fun k hk => Classical.byContradiction fun h => hno ⟨k, hk, h⟩
      have := nodup_le hi hs
      simp at this; omega
    obtain ⟨k, hkG, hkX⟩ := hmiss
    have hun : ∀ i ∈ G.map (·.i), A.getD i true = false := by
      have : ∀ {is A B}, GOk os.toArray A is B → ∀ i ∈ is, A.getD i true = false := by
        intro is A B h
        induction h with
        | nil => intro i hi; cases hi
        | @cons A B i r hr ho h ih =>
          intro k hk
          rcases List.mem_cons.1 hk with rfl | hk
          · exact ready_un hr
          · have h2 := ih k hk
            by_cases e : i = k
            · subst e; exact ready_un hr
            · rwa [getD_set_ne true e] at h2
      exact this hok
    have hkun : (mark A X).getD k true = false := mark_getD_f.2 ⟨hun k hkG, fun h => hkX h.1⟩
    rw [show n + 1 + plan.length = (n + plan.length) + 1 by omega]
    refine ⟨fun h0 => ?_, fun i hir => ?_⟩
    · obtain ⟨i, hir⟩ := hok.first (mark_size A X) (fun j hj => mark_mono hj) hkG hkun
      rw [h0] at hir; cases hir
    · have hiG : i ∈ G.map (·.i) := by
        apply Classical.byContradiction
        intro hno
        have h1 := mark_getD_f.1 (ready_un hir)
        have h2 := hok.outer k hkG i (ready_lt hir) h1.1 hno
        exact not_both hkun (anc_ready hcl h2 hir)
      obtain ⟨g, hg, rfl⟩ := List.mem_map.1 hiG
      have hiX : g.i ∉ X := fun h => (mark_getD_f.1 (ready_un hir)).2 ⟨h, getD_f_lt (hun _ hiG)⟩
      obtain ⟨o, hget, howe⟩ := hob g hg
      have hi' : os.toArray[g.i]? = some o := by rw [nth_eq] at hget; simpa using hget
      obtain ⟨hask, hop⟩ := howe vs (M ++ ((Jn ++ J) ++ C.A)) w (fun x hx => by simp only [List.mem_append] at hx ⊢; rcases hx with h | h | h <;> simp [h]) (fun g' hg' hanc => hφ g' hg' (by
        have h3 := anc_ready hcl hanc hir
        rcases mark_getD_t h3 with h4 | h4
        · exact (not_both (hun _ (List.mem_map_of_mem (f := Gm.i) hg')) h4).elim
        · exact h4))
      unfold wpOp
      simp only [hi']
      rw [if_pos (hask.wanted ha)]
      have hcal := hw.callee (Mc := []) (R := M) (.refl _)
      refine .inl (Oper.wp_mono ?_ (hop _ a w ha hcal.cx))
      rintro a' w' ⟨l', M', J', ha', hs', v, rfl, hφv⟩
      have hsz : w.heap.size ≤ w'.heap.size := hs'.size
      have hb := hw.back (Mc := []) (R := M) (.refl _) hs'.cx
      have hfr := St.freezeAll hb
      have hfr2 : St C M ((M' ++ (J' ++ Jn)) ++ J) w' := hfr.drop (List.Sublist.refl _) fun x hx => by
        simp only [List.mem_append] at hx ⊢
        rcases hx with (h | h | h) | h <;> simp [h]
      refine ⟨fun _ b hb' hnk => hs'.frame b hb' (by simp), ?_⟩
      rw [← mark_snoc]
      refine ih (X ++ [g.i]) (fun k => if k = g.i then v else vs k) (M' ++ (J' ++ Jn)) a' w' ?_ ?_ (by simp; omega) ?_ ?_ (gEnv_set hg hd hi ha') hfr2 (Nat.le_trans hn hsz)
      · rw [List.nodup_append]; exact ⟨hnd, by simp, fun x hx y hy e => hiX (by simp at hy; subst hy; exact e ▸ hx)⟩
      · intro j hj
        rcases List.mem_append.1 hj with hj | hj
        · exact hX j hj
        · simp at hj; subst hj; exact hiG
      · rw [mark_snoc]; exact closed_set hcl hir
      · intro g' hg' hm
        by_cases e : g'.i = g.i
        · have : g' = g := gm_inj hi hg' hg e
          subst this
          simp only [if_true]
          exact hmono g' hg' _ _ _ (fun x hx => by simp only [List.mem_append] at hx ⊢; rcases hx with h | h | h | ((h | h) | h) <;> simp [h]) hφv
        · simp only [e, if_false]
          have hm' : g'.i ∈ X := by simpa [e] using hm
          exact hmono g' hg' _ _ _ (fun x hx => by simp only [List.mem_append] at hx ⊢; rcases hx with h | (h | h) | h <;> simp [h]) (hφ g' hg' hm')

theorem XK.group (G : List Gm) (hmono : ∀ g ∈ G, Grows g.φ) (hd : (G.map (·.d)).Nodup) (hi : (G.map (·.i)).Nodup) (hdN : ∀ g ∈ G, g.d < C.N) (hob : ∀ g ∈ G, Owes C os l M J G g)
    (h : ∀ (vs : Nat → Value) Jn, (∀ g ∈ G, g.φ (vs g.i) (M ++ ((Jn ++ J) ++ C.A))) → XK C os Q K n0 nd plan (gEnv G vs ++ l) M (Jn ++ J)) : XK C os Q K n0 nd (enc (G.map (·.i)) ++ plan) l M J := by
  intro listed hcl hp a w ha hw hn
  obtain ⟨B, hok, hp2⟩ := enc_ok hp
  have hBcl : Closed os.toArray B := by
    have : ∀ {A is B}, GOk os.toArray A is B → Closed os.toArray A → Closed os.toArray B := by
      intro A is B h
      induction h with
      | nil => exact id
      | cons hr _ _ ih => exact fun hc => ih (closed_set hc hr)
    exact this hok hcl
  have hlen : (enc (G.map (·.i)) ++ plan).length = G.length + plan.length := by
    have : ∀ is : List Nat, (enc is).length = is.length := by
      intro is
      induction is with
      | nil => rfl
      | cons i r ih => cases r with
        | nil => rfl
        | cons j r => simp only [enc, List.length_cons] at ih ⊢; rw [ih]
    simp [this]
  rw [hlen]
  -- the slots' own content, to begin with
  let vs : Nat → Value := fun k => match G.find? (fun g => g.i == k) with
    | some g => (a.tmps[g.d]?).getD undef
    | none => undef
  have hag : Ag C.N (gEnv G vs ++ l) a := by
    refine ⟨ha.defers, ha.size, ?_⟩
    intro k u hk
    have key : ∀ G' : List Gm, (∀ g ∈ G', g ∈ G) → lk (gEnv G' vs ++ l) k = some u → a.tmps[k]? = some u := by
      intro G'
      induction G' with
      | nil => intro _ h; exact ha.slot k u h
      | cons g G' ih =>
        intro hs h
        simp only [gEnv, List.map_cons, List.cons_append, lk] at h
        by_cases e : g.d = k
        · subst e
          simp at h
          have hf : G.find? (fun x => x.i == g.i) = some g := by
            have hgG := hs g List.mem_cons_self
            cases hq : G.find? (fun x => x.i == g.i) with
            | none => have := List.find?_eq_none.1 hq g hgG; simp at this
            | some x =>
              have h1 := List.find?_some hq
              have h2 := List.mem_of_find?_eq_some hq
              rw [gm_inj hi h2 hgG (by simpa using h1)]
          have hlt : g.d < a.tmps.size := by rw [ha.size]; exact hdN g (hs g List.mem_cons_self)
          rw [← h]
          show a.tmps[g.d]? = some (vs g.i)
          simp only [vs, hf, Array.getElem?_eq_getElem hlt, Option.getD_some]
        · simp only [beq_ne e, cond_false] at h
          exact ih (fun x hx => hs x (List.mem_cons_of_mem _ hx)) h
    exact key G (fun _ h => h) hk
  exact group_go (n0 := n0) (K := K) hmono hd hi hdN hob hok (fun vs Jn a w hφ ha hw hn => h vs Jn hφ B hBcl hp2 a w ha hw hn) G.length [] vs [] a w .nil (fun _ h => by cases h) (by simp) hcl (fun _ _ h => by cases h) hag hw hn
end group
theorem ln0 {α : Type} : ([] : List α).length = ([] : List α).length := rfl
theorem lnS {α : Type} {x y : α} {r s : List α} (h : r.length = s.length) : (x :: r).length = (y :: s).length := by rw [List.length_cons, List.length_cons, h]
theorem all0 {α : Type} {p : α → Prop} : ∀ x ∈ ([] : List α), p x := fun _ h => by cases h
theorem allS {α : Type} {p : α → Prop} {y : α} {r : List α} (h : p y) (hr : ∀ x ∈ r, p x) : ∀ x ∈ y :: r, p x := fun x hx => (List.mem_cons.1 hx).elim (fun e => e ▸ h) (hr x)
theorem ofH {α : Type} {p : α → Prop} {y : α} {r : List α} (h : ∀ x ∈ y :: r, p x) : p y := h y List.mem_cons_self
theorem ofT {α : Type} {p : α → Prop} {y : α} {r : List α} (h : ∀ x ∈ y :: r, p x) : ∀ x ∈ r, p x := fun x hx => h x (List.mem_cons_of_mem _ hx)
theorem growsEq {u : Value} : Grows fun v _ => v = u := fun _ _ _ _ hp => hp
end Go.Px

