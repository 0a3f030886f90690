/-
  Plain facts on the integers of Go's unsigned kinds as natural numbers, and on rows of them. No program in sight.
-/
import Derived.Test.YthmnlkpikgglbaaGreatDoorEng
set_option linter.unusedVariables false
set_option linter.unusedSimpArgs false
namespace Go.Px

theorem wrap_nat {k : IntKind} (hk : k.signed = false) (n : Nat) : k.wrap (n : Int) = ((n % 2 ^ k.bits : Nat) : Int) := by
  unfold IntKind.wrap
  simp only [hk, Bool.false_and, Bool.false_eq_true, if_false]
  rw [Int.natCast_emod]; simp
theorem wrap8 (n : Nat) : IntKind.u8.wrap (n : Int) = ((n % 256 : Nat) : Int) := wrap_nat rfl n
theorem wrap16 (n : Nat) : IntKind.u16.wrap (n : Int) = ((n % 65536 : Nat) : Int) := wrap_nat rfl n
theorem wrap32 (n : Nat) : IntKind.u32.wrap (n : Int) = ((n % 4294967296 : Nat) : Int) := wrap_nat rfl n
theorem wrap64 (n : Nat) : IntKind.u64.wrap (n : Int) = ((n % 18446744073709551616 : Nat) : Int) := wrap_nat rfl n
theorem wrapI {n : Nat} (h : n < 9223372036854775808) : IntKind.i64.wrap (n : Int) = (n : Int) := wrap_i64 (by omega) (by omega)

section ops
variable {k : IntKind} {a b : Nat}
theorem addU (hk : k.signed = false) (r : Nat) (h : (a + b) % 2 ^ k.bits = r) : arith .add k (a : Int) (b : Int) = some (.int k (r : Int)) := by
  simp only [arith]
  rw [show (a : Int) + b = ((a + b : Nat) : Int) from by omega, wrap_nat hk, h]
theorem mulU (hk : k.signed = false) (r : Nat) (h : (a * b) % 2 ^ k.bits = r) : arith .mul k (a : Int) (b : Int) = some (.int k (r : Int)) := by
  simp only [arith]
  rw [show (a : Int) * b = ((a * b : Nat) : Int) from by simp, wrap_nat hk, h]
theorem subU (hk : k.signed = false) (r : Nat) (hb : b ≤ 2 ^ k.bits) (h : (a + (2 ^ k.bits - b)) % 2 ^ k.bits = r) : arith .sub k (a : Int) (b : Int) = some (.int k (r : Int)) := by
  simp only [arith]
  have e : (a : Int) - b = ((a + (2 ^ k.bits - b) : Nat) : Int) - (2 ^ k.bits : Nat) := by omega
  have e2 : k.wrap ((a : Int) - b) = k.wrap ((a + (2 ^ k.bits - b) : Nat) : Int) := by
    unfold IntKind.wrap
    simp only [hk, Bool.false_and, Bool.false_eq_true, if_false]
    rw [e]
    simp
  rw [e2, wrap_nat hk, h]
theorem bv_nat (n m : Nat) : BitVec.ofInt n (m : Int) = BitVec.ofNat n m := by
  apply BitVec.eq_of_toNat_eq; simp
theorem andU (hk : k.signed = false) (ha : a < 2 ^ k.bits) (hb : b < 2 ^ k.bits) : arith .and k (a : Int) (b : Int) = some (.int k ((a &&& b : Nat) : Int)) := by
  simp only [arith, bv_nat]
  rw [BitVec.toNat_and, BitVec.toNat_ofNat, BitVec.toNat_ofNat, Nat.mod_eq_of_lt ha, Nat.mod_eq_of_lt hb, wrap_nat hk, Nat.mod_eq_of_lt (Nat.lt_of_le_of_lt Nat.and_le_left ha)]
theorem orU (hk : k.signed = false) (ha : a < 2 ^ k.bits) (hb : b < 2 ^ k.bits) : arith .or k (a : Int) (b : Int) = some (.int k ((a ||| b : Nat) : Int)) := by
  simp only [arith, bv_nat]
  rw [BitVec.toNat_or, BitVec.toNat_ofNat, BitVec.toNat_ofNat, Nat.mod_eq_of_lt ha, Nat.mod_eq_of_lt hb, wrap_nat hk, Nat.mod_eq_of_lt (Nat.or_lt_two_pow ha hb)]
theorem xorU (hk : k.signed = false) (ha : a < 2 ^ k.bits) (hb : b < 2 ^ k.bits) : arith .xor k (a : Int) (b : Int) = some (.int k ((a ^^^ b : Nat) : Int)) := by
  simp only [arith, bv_nat]
  rw [BitVec.toNat_xor, BitVec.toNat_ofNat, BitVec.toNat_ofNat, Nat.mod_eq_of_lt ha, Nat.mod_eq_of_lt hb, wrap_nat hk, Nat.mod_eq_of_lt (Nat.xor_lt_two_pow ha hb)]
end ops

section rules
variable {P : Program} {R : Mem} {l : Env} {d : Option Nat} {ty t t' : TypeId} {pos : String} {af : Array Edge} {g : Option (Nat × Bool)} {x y : Operand} {k k' : IntKind} {a b : Nat}
theorem q_add32 (hx : ev l x = some (.int .u32 (a : Int))) (hy : ev l y = some (.int .u32 (b : Int))) : OpQ P R ⟨d, .binOp .add t x y t', ty, pos, af, g⟩ l (.int .u32 (((a + b) % 4294967296 : Nat) : Int)) := q_bin hx hy (addU rfl _ rfl)
theorem q_mul32 (hx : ev l x = some (.int .u32 (a : Int))) (hy : ev l y = some (.int .u32 (b : Int))) : OpQ P R ⟨d, .binOp .mul t x y t', ty, pos, af, g⟩ l (.int .u32 (((a * b) % 4294967296 : Nat) : Int)) := q_bin hx hy (mulU rfl _ rfl)
theorem q_add64 (hx : ev l x = some (.int .u64 (a : Int))) (hy : ev l y = some (.int .u64 (b : Int))) : OpQ P R ⟨d, .binOp .add t x y t', ty, pos, af, g⟩ l (.int .u64 (((a + b) % 18446744073709551616 : Nat) : Int)) := q_bin hx hy (addU rfl _ rfl)
theorem q_mul64 (hx : ev l x = some (.int .u64 (a : Int))) (hy : ev l y = some (.int .u64 (b : Int))) : OpQ P R ⟨d, .binOp .mul t x y t', ty, pos, af, g⟩ l (.int .u64 (((a * b) % 18446744073709551616 : Nat) : Int)) := q_bin hx hy (mulU rfl _ rfl)
theorem q_and (hk : k.signed = false) (hx : ev l x = some (.int k (a : Int))) (hy : ev l y = some (.int k (b : Int))) (ha : a < 2 ^ k.bits) (hb : b < 2 ^ k.bits) : OpQ P R ⟨d, .binOp .and t x y t', ty, pos, af, g⟩ l (.int k ((a &&& b : Nat) : Int)) := q_bin hx hy (andU hk ha hb)
theorem q_or (hk : k.signed = false) (hx : ev l x = some (.int k (a : Int))) (hy : ev l y = some (.int k (b : Int))) (ha : a < 2 ^ k.bits) (hb : b < 2 ^ k.bits) : OpQ P R ⟨d, .binOp .or t x y t', ty, pos, af, g⟩ l (.int k ((a ||| b : Nat) : Int)) := q_bin hx hy (orU hk ha hb)
theorem q_xor (hk : k.signed = false) (hx : ev l x = some (.int k (a : Int))) (hy : ev l y = some (.int k (b : Int))) (ha : a < 2 ^ k.bits) (hb : b < 2 ^ k.bits) : OpQ P R ⟨d, .binOp .xor t x y t', ty, pos, af, g⟩ l (.int k ((a ^^^ b : Nat) : Int)) := q_bin hx hy (xorU hk ha hb)
/-- A shift to the right by less than all bits. -/
theorem q_shrN (s : Nat) (hx : ev l x = some (.int k (a : Int))) {i : Int} (hy : ev l y = some (.int k' i)) (hi : i = s) (hs : s ≤ k.bits) : OpQ P R ⟨d, .binOp .shr t x y t', ty, pos, af, g⟩ l (.int k ((a >>> s : Nat) : Int)) := by
  subst hi
  have := q_shr (P := P) (R := R) (d := d) (ty := ty) (pos := pos) (af := af) (g := g) (t := t) (t' := t') hx hy (by omega)
  rw [Int.toNat_natCast, Nat.min_eq_left hs] at this
  have e : (a : Int).fdiv (2 ^ s) = ((a >>> s : Nat) : Int) := by
    rw [Int.fdiv_eq_ediv_of_nonneg _ (Int.pow_nonneg (by decide)), Nat.shiftRight_eq_div_pow, Int.natCast_ediv]; simp
  rwa [e] at this
theorem q_shlN (hk : k.signed = false) (s : Nat) (hx : ev l x = some (.int k (a : Int))) {i : Int} (hy : ev l y = some (.int k' i)) (hi : i = s) (hs : s ≤ k.bits) : OpQ P R ⟨d, .binOp .shl t x y t', ty, pos, af, g⟩ l (.int k (((a <<< s) % 2 ^ k.bits : Nat) : Int)) := by
  subst hi
  have := q_shl (P := P) (R := R) (d := d) (ty := ty) (pos := pos) (af := af) (g := g) (t := t) (t' := t') hx hy (by omega)
  rw [Int.toNat_natCast, Nat.min_eq_left hs, show (a : Int) * 2 ^ s = ((a <<< s : Nat) : Int) from by rw [Nat.shiftLeft_eq]; simp, wrap_nat hk] at this
  exact this
theorem q_comN (hk : k.signed = false) (hx : ev l x = some (.int k (a : Int))) (ha : a < 2 ^ k.bits) : OpQ P R ⟨d, .unOp .xor t x, ty, pos, af, g⟩ l (.int k (((2 ^ k.bits - 1) ^^^ a : Nat) : Int)) := by
  have := q_com (P := P) (R := R) (d := d) (ty := ty) (pos := pos) (af := af) (g := g) (t := t) hx
  have e : (if k.signed = true then -1 else k.max : Int) = ((2 ^ k.bits - 1 : Nat) : Int) := by
    simp only [hk, Bool.false_eq_true, if_false, IntKind.max]
    cases k <;> simp_all [IntKind.bits, IntKind.signed]
  have h2 : 2 ^ k.bits - 1 < 2 ^ k.bits := Nat.sub_lt (Nat.two_pow_pos _) (by decide)
  rw [e, bv_nat, bv_nat, BitVec.toNat_xor, BitVec.toNat_ofNat, BitVec.toNat_ofNat, Nat.mod_eq_of_lt ha, Nat.mod_eq_of_lt h2, wrap_nat hk, Nat.mod_eq_of_lt (Nat.xor_lt_two_pow h2 ha)] at this
  exact this
theorem q_convN {s : TypeId} (r : Nat) (hx : ev l x = some (.int k (a : Int))) (hc : convI P s t = some k') (h : k'.wrap (a : Int) = (r : Int)) : OpQ P R ⟨d, .convert s t x, ty, pos, af, g⟩ l (.int k' (r : Int)) := q_convR _ hx hc h
theorem q_remN (hx : ev l x = some (.int k (a : Int))) (hy : ev l y = some (.int k (b : Int))) (hb : b ≠ 0) : OpQ P R ⟨d, .binOp .rem t x y t', ty, pos, af, g⟩ l (.int k ((a % b : Nat) : Int)) := by
  have := q_rem (P := P) (R := R) (d := d) (ty := ty) (pos := pos) (af := af) (g := g) (t := t) (t' := t') hx hy (by omega)
  rw [Int.tmod_eq_emod_of_nonneg (by omega), ← Int.natCast_emod] at this
  exact this
theorem q_quoN (hx : ev l x = some (.int k (a : Int))) (hy : ev l y = some (.int k (b : Int))) (hb : b ≠ 0) (h : k.wrap ((a / b : Nat) : Int) = ((a / b : Nat) : Int)) : OpQ P R ⟨d, .binOp .quo t x y t', ty, pos, af, g⟩ l (.int k ((a / b : Nat) : Int)) := by
  have := q_quo (P := P) (R := R) (d := d) (ty := ty) (pos := pos) (af := af) (g := g) (t := t) (t' := t') hx hy (by omega)
  rw [Int.tdiv_eq_ediv_of_nonneg (by omega), ← Int.natCast_ediv, h] at this
  exact this
end rules

/-! ### Rows of numbers -/
def nums (k : IntKind) (ws : List Nat) : List Value := ws.map fun n : Nat => Value.int k (n : Int)
section nums
variable {k : IntKind} {ws us : List Nat}
@[simp] theorem nums_len : (nums k ws).length = ws.length := by simp [nums]
theorem nums_append : nums k (ws ++ us) = nums k ws ++ nums k us := by simp [nums]
theorem nums_take (n : Nat) : nums k (ws.take n) = (nums k ws).take n := by simp [nums, List.map_take]
theorem nums_drop (n : Nat) : nums k (ws.drop n) = (nums k ws).drop n := by simp [nums, List.map_drop]
theorem nums_set (i n : Nat) : nums k (ws.set i n) = (nums k ws).set i (.int k (n : Int)) := by simp [nums, List.map_set]
theorem nums_one : ∀ c ∈ nums k ws, c.oneCell' = true := by
  intro c hc
  obtain ⟨n, _, rfl⟩ := List.mem_map.1 hc
  rfl
theorem nums_get {i : Nat} (h : i < ws.length) : (nums k ws)[i]? = some (.int k ((ws.getD i 0 : Nat) : Int)) := by
  simp [nums, List.getElem?_eq_getElem h, List.getD]
theorem nums_repl (n m : Nat) : nums k (List.replicate n m) = List.replicate n (.int k (m : Int)) := by simp [nums]
theorem getD_lt {ws : List Nat} {b i : Nat} (h : ∀ n ∈ ws, n < b) (hb : 0 < b) : ws.getD i 0 < b := by
  rw [List.getD]
  cases hi : ws[i]? with
  | none => exact hb
  | some n => exact h n (List.mem_of_getElem? hi)
theorem Rd.num {R : Mem} {v : Value} {n : Nat} (h : Rd R 1 v n (nums k ws)) {i : Nat} (hi : i < n) :
    ∃ b o c cs e fr, v = .slice (some ⟨b, o, none⟩) n c ∧ (b, Obj.cells (List.toArray cs) e fr) ∈ R ∧ cs[o + i * 1]? = some (.int k ((ws.getD i 0 : Nat) : Int)) := by
  obtain ⟨p, c, rfl, hl, hc, hb⟩ := h
  rcases hb with hb | ⟨b, o, cs, e, fr, rfl, hb, hx⟩
  · omega
  · refine ⟨b, o, c, cs, e, fr, rfl, hb, ?_⟩
    rw [Nat.mul_one]
    simp at hl
    exact hx i _ (nums_get (by omega))
/-- The numbers of a slice that came in, as natural numbers. -/
theorem nats_of {zs : List Int} (h0 : ∀ n ∈ zs, 0 ≤ n) : ∃ ws : List Nat, zs.map (Value.int k) = nums k ws ∧ ∀ n ∈ ws, (n : Int) ∈ zs := by
  refine ⟨zs.map Int.toNat, ?_, ?_⟩
  · simp only [nums, List.map_map]
    refine List.map_congr_left fun n hn => ?_
    simp [Int.toNat_of_nonneg (h0 n hn)]
  · intro n hn
    obtain ⟨z, hz, rfl⟩ := List.mem_map.1 hn
    rw [Int.toNat_of_nonneg (h0 z hz)]; exact hz
end nums

/-! ### Blocks of numbers; 32 and 8 bits -/
theorem Fit.eq {M M' : Mem} (h : M = M') : Fit M M' := h ▸ .rfl
theorem setL_set {v : Value} : ∀ {cs : List Value} {o : Nat}, o < cs.length → SetL cs o v (cs.set o v)
  | [], _, h => by simp at h
  | x :: r, 0, _ => .hd
  | x :: r, o + 1, h => .tl (setL_set (by simpa using h))
theorem getD_app {ws us : List Nat} {i : Nat} (h : i < ws.length) : (ws ++ us).getD i 0 = ws.getD i 0 := by
  simp [List.getD, List.getElem?_append_left h]
theorem set_ext {ws : List Nat} {i n x : Nat} (h : ws.length = i) (hi : i < n) : (ws ++ List.replicate (n - i) 0).set i x = (ws ++ [x]) ++ List.replicate (n - (i + 1)) 0 := by
  rw [List.set_append_right _ _ (by omega), h, Nat.sub_self, show n - i = (n - (i + 1)) + 1 by omega, List.replicate_succ]
  simp
section rules2
variable {P : Program} {R : Mem} {l : Env} {d : Option Nat} {ty t t' : TypeId} {pos : String} {af : Array Edge} {g : Option (Nat × Bool)} {x y : Operand} {k k' : IntKind} {a b : Nat}
theorem q_and32 (hx : ev l x = some (.int .u32 (a : Int))) (hy : ev l y = some (.int .u32 (b : Int))) (ha : a < 4294967296) (hb : b < 4294967296) : OpQ P R ⟨d, .binOp .and t x y t', ty, pos, af, g⟩ l (.int .u32 ((a &&& b : Nat) : Int)) := q_and rfl hx hy ha hb
theorem q_or32 (hx : ev l x = some (.int .u32 (a : Int))) (hy : ev l y = some (.int .u32 (b : Int))) (ha : a < 4294967296) (hb : b < 4294967296) : OpQ P R ⟨d, .binOp .or t x y t', ty, pos, af, g⟩ l (.int .u32 ((a ||| b : Nat) : Int)) := q_or rfl hx hy ha hb
theorem q_xor32 (hx : ev l x = some (.int .u32 (a : Int))) (hy : ev l y = some (.int .u32 (b : Int))) (ha : a < 4294967296) (hb : b < 4294967296) : OpQ P R ⟨d, .binOp .xor t x y t', ty, pos, af, g⟩ l (.int .u32 ((a ^^^ b : Nat) : Int)) := q_xor rfl hx hy ha hb
theorem q_com32 (hx : ev l x = some (.int .u32 (a : Int))) (ha : a < 4294967296) : OpQ P R ⟨d, .unOp .xor t x, ty, pos, af, g⟩ l (.int .u32 ((4294967295 ^^^ a : Nat) : Int)) := q_comN (k := .u32) rfl hx ha
theorem q_shl32 (s : Nat) (hx : ev l x = some (.int .u32 (a : Int))) {i : Int} (hy : ev l y = some (.int k' i)) (hi : i = s) (hs : s ≤ 32) : OpQ P R ⟨d, .binOp .shl t x y t', ty, pos, af, g⟩ l (.int .u32 (((a <<< s) % 4294967296 : Nat) : Int)) := q_shlN (k := .u32) rfl s hx hy hi hs
theorem q_xor8 (hx : ev l x = some (.int .u8 (a : Int))) (hy : ev l y = some (.int .u8 (b : Int))) (ha : a < 256) (hb : b < 256) : OpQ P R ⟨d, .binOp .xor t x y t', ty, pos, af, g⟩ l (.int .u8 ((a ^^^ b : Nat) : Int)) := q_xor rfl hx hy ha hb
theorem q_to8 {s : TypeId} (hx : ev l x = some (.int k (a : Int))) (hc : convI P s t = some .u8) : OpQ P R ⟨d, .convert s t x, ty, pos, af, g⟩ l (.int .u8 ((a % 256 : Nat) : Int)) := q_convN _ hx hc (wrap8 a)
theorem q_to32 {s : TypeId} (hx : ev l x = some (.int k (a : Int))) (hc : convI P s t = some .u32) : OpQ P R ⟨d, .convert s t x, ty, pos, af, g⟩ l (.int .u32 ((a % 4294967296 : Nat) : Int)) := q_convN _ hx hc (wrap32 a)
theorem q_to64 {s : TypeId} (hx : ev l x = some (.int k (a : Int))) (hc : convI P s t = some .u64) : OpQ P R ⟨d, .convert s t x, ty, pos, af, g⟩ l (.int .u64 ((a % 18446744073709551616 : Nat) : Int)) := q_convN _ hx hc (wrap64 a)
/-- A conversion that changes nothing. -/
theorem q_same {s : TypeId} (hx : ev l x = some (.int k (a : Int))) (hc : convI P s t = some k') (h : a < 2 ^ (k'.bits - 1)) : OpQ P R ⟨d, .convert s t x, ty, pos, af, g⟩ l (.int k' (a : Int)) := by
  refine q_convN _ hx hc ?_
  have h2 : 2 ^ k'.bits = 2 * 2 ^ (k'.bits - 1) := by cases k' <;> rfl
  cases hs : k'.signed with
  | false => rw [wrap_nat hs, Nat.mod_eq_of_lt (by omega)]
  | true =>
    have h3 : (2 : Int) ^ k'.bits = 2 * ((2 ^ (k'.bits - 1) : Nat) : Int) := by
      have e0 : (2 : Int) ^ k'.bits = ((2 ^ k'.bits : Nat) : Int) := by simp
      rw [e0, h2]; omega
    unfold IntKind.wrap
    have e1 : (a : Int) % 2 ^ k'.bits = a := Int.emod_eq_of_lt (by omega) (by rw [h3]; omega)
    simp only [e1, hs, Bool.true_and]
    have e2 : ¬ ((2 : Int) ^ (k'.bits - 1) ≤ (a : Int)) := by
      have : ((2 ^ (k'.bits - 1) : Nat) : Int) = 2 ^ (k'.bits - 1) := by simp
      omega
    simp [e2]
theorem q_ldN {k : IntKind} {ws : List Nat} {e : TypeId} {fr : Nat × Nat} {b o : Nat} (i : Nat) (hx : ev l x = some (.pointer (some ⟨b, o, none⟩))) (ht : scalarT P t = true) (hb : (b, Obj.cells (nums k ws).toArray e fr) ∈ R) (ho : o = i) (hi : i < ws.length) :
    OpQ P R ⟨d, .load t x, ty, pos, af, g⟩ l (.int k ((ws.getD i 0 : Nat) : Int)) := q_load hx ht hb (by rw [ho]; exact nums_get hi)
end rules2
theorem l_stN {C : Cx} {l : Env} {M J : Mem} {K : Env → Mem → Mem → Prop} {ty t : TypeId} {pos : String} {af : Array Edge} {g : Option (Nat × Bool)} {x y : Operand} {k : IntKind} {ws : List Nat} {e : TypeId} {b o n : Nat} {M' : Mem} (i : Nat)
    (hx : ev l x = some (.pointer (some ⟨b, o, none⟩))) (hy : ev l y = some (.int k (n : Int))) (ht : sizeT C.P t = some 1) (ho : o = i) (hi : i < ws.length) (hu : Upd M b (blk (nums k ws) e) (blk (nums k (ws.set i n)) e) M') (h : K l M' J) :
    OpL C ⟨none, .store t x y, ty, pos, af, g⟩ l M J K :=
  l_store hx hy rfl ht (cs' := nums k (ws.set i n)) (by rw [nums_set, ho]; exact setL_set (by simpa using hi)) hu h
theorem Rd.nums {R : Mem} {k : IntKind} {ws : List Nat} {v : Value} {n : Nat} (h : Rd R 1 v n (nums k ws)) (hn : 0 < n) :
    ∃ b o c cs e fr, v = .slice (some ⟨b, o, none⟩) n c ∧ (b, Obj.cells (List.toArray cs) e fr) ∈ R ∧ ∀ i, i < n → cs[o + i * 1]? = some (.int k ((ws.getD i 0 : Nat) : Int)) := by
  obtain ⟨p, c, rfl, hl, hc, hb⟩ := h
  rcases hb with hb | ⟨b, o, cs, e, fr, rfl, hb, hx⟩
  · omega
  · refine ⟨b, o, c, cs, e, fr, rfl, hb, fun i hi => ?_⟩
    rw [Nat.mul_one]
    simp at hl
    exact hx i _ (nums_get (by omega))
end Go.Px
