/- Part 2 of the texts of this claim, one behind the other. -/
import Derived.Test.YtlilcmjbaknafaaGreatDoorB1
import Derived.Test.YtlilcmjbaknafaaGreatDoorRows
import Derived.Laws.BytesString
import Derived.Laws.MakeOwn
set_option linter.unusedVariables false
set_option linter.unusedSimpArgs false
set_option maxRecDepth 100000
namespace Go.Px
theorem P9 {k : IntKind} (hk : k.signed = false) (n : Nat) : k.wrap (n : Int) = ((n % 2 ^ k.bits : Nat) : Int) := by
  unfold IntKind.wrap
  simp only [hk, Bool.false_and, Bool.false_eq_true, if_false]
  rw [Int.natCast_emod]; simp
theorem B7r (n : Nat) : IntKind.u8.wrap (n : Int) = ((n % 256 : Nat) : Int) := P9 rfl n
theorem B7s (n : Nat) : IntKind.u32.wrap (n : Int) = ((n % 4294967296 : Nat) : Int) := P9 rfl n
theorem A7i (n : Nat) : IntKind.u64.wrap (n : Int) = ((n % 18446744073709551616 : Nat) : Int) := P9 rfl n
theorem A4H {n : Nat} (h : n < 9223372036854775808) : IntKind.i64.wrap (n : Int) = (n : Int) := A2w (by omega) (by omega)
section ops
variable {k : IntKind} {a b : Nat}
theorem addU (hk : k.signed = false) (r : Nat) (h : (a + b) % 2 ^ k.bits = r) : I1 .add k (a : Int) (b : Int) = some (.int k (r : Int)) := by
  simp only [I1]
  rw [show (a : Int) + b = ((a + b : Nat) : Int) from by omega, P9 hk, h]
theorem mulU (hk : k.signed = false) (r : Nat) (h : (a * b) % 2 ^ k.bits = r) : I1 .mul k (a : Int) (b : Int) = some (.int k (r : Int)) := by
  simp only [I1]
  rw [show (a : Int) * b = ((a * b : Nat) : Int) from by simp, P9 hk, h]
theorem B9s (hk : k.signed = false) (r : Nat) (hb : b ≤ 2 ^ k.bits) (h : (a + (2 ^ k.bits - b)) % 2 ^ k.bits = r) : I1 .sub k (a : Int) (b : Int) = some (.int k (r : Int)) := by
  simp only [I1]
  have e : (a : Int) - b = ((a + (2 ^ k.bits - b) : Nat) : Int) - (2 ^ k.bits : Nat) := by omega
  have e2 : k.wrap ((a : Int) - b) = k.wrap ((a + (2 ^ k.bits - b) : Nat) : Int) := by
    unfold IntKind.wrap
    simp only [hk, Bool.false_and, Bool.false_eq_true, if_false]
    rw [e]
    simp
  rw [e2, P9 hk, h]
theorem A5B (n m : Nat) : BitVec.ofInt n (m : Int) = BitVec.ofNat n m := by
  apply BitVec.eq_of_toNat_eq; simp
theorem B9t (hk : k.signed = false) (ha : a < 2 ^ k.bits) (hb : b < 2 ^ k.bits) : I1 .and k (a : Int) (b : Int) = some (.int k ((a &&& b : Nat) : Int)) := by
  simp only [I1, A5B]
  rw [BitVec.toNat_and, BitVec.toNat_ofNat, BitVec.toNat_ofNat, Nat.mod_eq_of_lt ha, Nat.mod_eq_of_lt hb, P9 hk, Nat.mod_eq_of_lt (Nat.lt_of_le_of_lt Nat.and_le_left ha)]
theorem orU (hk : k.signed = false) (ha : a < 2 ^ k.bits) (hb : b < 2 ^ k.bits) : I1 .or k (a : Int) (b : Int) = some (.int k ((a ||| b : Nat) : Int)) := by
  simp only [I1, A5B]
  rw [BitVec.toNat_or, BitVec.toNat_ofNat, BitVec.toNat_ofNat, Nat.mod_eq_of_lt ha, Nat.mod_eq_of_lt hb, P9 hk, Nat.mod_eq_of_lt (Nat.or_lt_two_pow ha hb)]
theorem xorU (hk : k.signed = false) (ha : a < 2 ^ k.bits) (hb : b < 2 ^ k.bits) : I1 .xor k (a : Int) (b : Int) = some (.int k ((a ^^^ b : Nat) : Int)) := by
  simp only [I1, A5B]
  rw [BitVec.toNat_xor, BitVec.toNat_ofNat, BitVec.toNat_ofNat, Nat.mod_eq_of_lt ha, Nat.mod_eq_of_lt hb, P9 hk, Nat.mod_eq_of_lt (Nat.xor_lt_two_pow ha hb)]
end ops
section rules
variable {P : Program} {R : Mem} {l : Env} {d : Option Nat} {ty t t' : TypeId} {pos : String} {af : Array Edge} {g : Option (Nat × Bool)} {x y : Operand} {k k' : IntKind} {a b : Nat}
theorem Y0 (hx : ev l x = some (.int .u32 (a : Int))) (hy : ev l y = some (.int .u32 (b : Int))) : OpQ P R ⟨d, .binOp .add t x y t', ty, pos, af, g⟩ l (.int .u32 (((a + b) % 4294967296 : Nat) : Int)) := D4 hx hy (addU rfl _ rfl)
theorem A3U (hk : k.signed = false) (hx : ev l x = some (.int k (a : Int))) (hy : ev l y = some (.int k (b : Int))) (ha : a < 2 ^ k.bits) (hb : b < 2 ^ k.bits) : OpQ P R ⟨d, .binOp .and t x y t', ty, pos, af, g⟩ l (.int k ((a &&& b : Nat) : Int)) := D4 hx hy (B9t hk ha hb)
theorem B4b (hk : k.signed = false) (hx : ev l x = some (.int k (a : Int))) (hy : ev l y = some (.int k (b : Int))) (ha : a < 2 ^ k.bits) (hb : b < 2 ^ k.bits) : OpQ P R ⟨d, .binOp .or t x y t', ty, pos, af, g⟩ l (.int k ((a ||| b : Nat) : Int)) := D4 hx hy (orU hk ha hb)
theorem B7t (hk : k.signed = false) (hx : ev l x = some (.int k (a : Int))) (hy : ev l y = some (.int k (b : Int))) (ha : a < 2 ^ k.bits) (hb : b < 2 ^ k.bits) : OpQ P R ⟨d, .binOp .xor t x y t', ty, pos, af, g⟩ l (.int k ((a ^^^ b : Nat) : Int)) := D4 hx hy (xorU hk ha hb)
theorem Q5 (s : Nat) (hx : ev l x = some (.int k (a : Int))) {i : Int} (hy : ev l y = some (.int k' i)) (hi : i = s) (hs : s ≤ k.bits) : OpQ P R ⟨d, .binOp .shr t x y t', ty, pos, af, g⟩ l (.int k ((a >>> s : Nat) : Int)) := by
  subst hi
  have := B7o (P := P) (R := R) (d := d) (ty := ty) (pos := pos) (af := af) (g := g) (t := t) (t' := t') hx hy (by omega)
  rw [Int.toNat_natCast, Nat.min_eq_left hs] at this
  have e : (a : Int).fdiv (2 ^ s) = ((a >>> s : Nat) : Int) := by
    rw [Int.fdiv_eq_ediv_of_nonneg _ (Int.pow_nonneg (by decide)), Nat.shiftRight_eq_div_pow, Int.natCast_ediv]; simp
  rwa [e] at this
theorem A2j (hk : k.signed = false) (s : Nat) (hx : ev l x = some (.int k (a : Int))) {i : Int} (hy : ev l y = some (.int k' i)) (hi : i = s) (hs : s ≤ k.bits) : OpQ P R ⟨d, .binOp .shl t x y t', ty, pos, af, g⟩ l (.int k (((a <<< s) % 2 ^ k.bits : Nat) : Int)) := by
  subst hi
  have := B9j (P := P) (R := R) (d := d) (ty := ty) (pos := pos) (af := af) (g := g) (t := t) (t' := t') hx hy (by omega)
  rw [Int.toNat_natCast, Nat.min_eq_left hs, show (a : Int) * 2 ^ s = ((a <<< s : Nat) : Int) from by rw [Nat.shiftLeft_eq]; simp, P9 hk] at this
  exact this
theorem B7u (hk : k.signed = false) (hx : ev l x = some (.int k (a : Int))) (ha : a < 2 ^ k.bits) : OpQ P R ⟨d, .unOp .xor t x, ty, pos, af, g⟩ l (.int k (((2 ^ k.bits - 1) ^^^ a : Nat) : Int)) := by
  have := B9l (P := P) (R := R) (d := d) (ty := ty) (pos := pos) (af := af) (g := g) (t := t) hx
  have e : (if k.signed = true then -1 else k.max : Int) = ((2 ^ k.bits - 1 : Nat) : Int) := by
    simp only [hk, Bool.false_eq_true, if_false, IntKind.max]
    cases k <;> simp_all [IntKind.bits, IntKind.signed]
  have h2 : 2 ^ k.bits - 1 < 2 ^ k.bits := Nat.sub_lt (Nat.two_pow_pos _) (by decide)
  rw [e, A5B, A5B, BitVec.toNat_xor, BitVec.toNat_ofNat, BitVec.toNat_ofNat, Nat.mod_eq_of_lt ha, Nat.mod_eq_of_lt h2, P9 hk, Nat.mod_eq_of_lt (Nat.xor_lt_two_pow h2 ha)] at this
  exact this
theorem N6 {s : TypeId} (r : Nat) (hx : ev l x = some (.int k (a : Int))) (hc : A4C P s t = some k') (h : k'.wrap (a : Int) = (r : Int)) : OpQ P R ⟨d, .convert s t x, ty, pos, af, g⟩ l (.int k' (r : Int)) := A4F _ hx hc h
theorem A9a (hx : ev l x = some (.int k (a : Int))) (hy : ev l y = some (.int k (b : Int))) (hb : b ≠ 0) : OpQ P R ⟨d, .binOp .rem t x y t', ty, pos, af, g⟩ l (.int k ((a % b : Nat) : Int)) := by
  have := B9i (P := P) (R := R) (d := d) (ty := ty) (pos := pos) (af := af) (g := g) (t := t) (t' := t') hx hy (by omega)
  rw [Int.tmod_eq_emod_of_nonneg (by omega), ← Int.natCast_emod] at this
  exact this
theorem A9b (hx : ev l x = some (.int k (a : Int))) (hy : ev l y = some (.int k (b : Int))) (hb : b ≠ 0) (h : k.wrap ((a / b : Nat) : Int) = ((a / b : Nat) : Int)) : OpQ P R ⟨d, .binOp .quo t x y t', ty, pos, af, g⟩ l (.int k ((a / b : Nat) : Int)) := by
  have := B7n (P := P) (R := R) (d := d) (ty := ty) (pos := pos) (af := af) (g := g) (t := t) (t' := t') hx hy (by omega)
  rw [Int.tdiv_eq_ediv_of_nonneg (by omega), ← Int.natCast_ediv, h] at this
  exact this
end rules
def nums (k : IntKind) (ws : List Nat) : List Value := ws.map fun n : Nat => Value.int k (n : Int)
section nums
variable {k : IntKind} {ws us : List Nat}
@[simp] theorem nums_len : (nums k ws).length = ws.length := by simp [nums]
theorem H6 : nums k (ws ++ us) = nums k ws ++ nums k us := by simp [nums]
theorem A1G (n : Nat) : nums k (ws.take n) = (nums k ws).take n := by simp [nums, List.map_take]
theorem A0O (n : Nat) : nums k (ws.drop n) = (nums k ws).drop n := by simp [nums, List.map_drop]
theorem A7j (i n : Nat) : nums k (ws.set i n) = (nums k ws).set i (.int k (n : Int)) := by simp [nums, List.map_set]
theorem E5 : ∀ c ∈ nums k ws, c.oneCell' = true := by
  intro c hc
  obtain ⟨n, _, rfl⟩ := List.mem_map.1 hc
  rfl
theorem Z8 {i : Nat} (h : i < ws.length) : (nums k ws)[i]? = some (.int k ((ws.getD i 0 : Nat) : Int)) := by
  simp [nums, List.getElem?_eq_getElem h, List.getD]
theorem getD_lt {ws : List Nat} {b i : Nat} (h : ∀ n ∈ ws, n < b) (hb : 0 < b) : ws.getD i 0 < b := by
  rw [List.getD]
  cases hi : ws[i]? with
  | none => exact hb
  | some n => exact h n (List.mem_of_getElem? hi)
end nums
theorem Fit.eq {M M' : Mem} (h : M = M') : Fit M M' := h ▸ .rfl
theorem A4I {v : Value} : ∀ {cs : List Value} {o : Nat}, o < cs.length → SetL cs o v (cs.set o v)
  | [], _, h => by simp at h
  | x :: r, 0, _ => .hd
  | x :: r, o + 1, h => .tl (A4I (by simpa using h))
theorem A2x {ws us : List Nat} {i : Nat} (h : i < ws.length) : (ws ++ us).getD i 0 = ws.getD i 0 := by
  simp [List.getD, List.getElem?_append_left h]
theorem A9c {ws : List Nat} {i n x : Nat} (h : ws.length = i) (hi : i < n) : (ws ++ List.replicate (n - i) 0).set i x = (ws ++ [x]) ++ List.replicate (n - (i + 1)) 0 := by
  rw [List.set_append_right _ _ (by omega), h, Nat.sub_self, show n - i = (n - (i + 1)) + 1 by omega, List.replicate_succ]
  simp
section rules2
variable {P : Program} {R : Mem} {l : Env} {d : Option Nat} {ty t t' : TypeId} {pos : String} {af : Array Edge} {g : Option (Nat × Bool)} {x y : Operand} {k k' : IntKind} {a b : Nat}
theorem A2U (hx : ev l x = some (.int .u32 (a : Int))) (hy : ev l y = some (.int .u32 (b : Int))) (ha : a < 4294967296) (hb : b < 4294967296) : OpQ P R ⟨d, .binOp .and t x y t', ty, pos, af, g⟩ l (.int .u32 ((a &&& b : Nat) : Int)) := A3U rfl hx hy ha hb
theorem A2k (hx : ev l x = some (.int .u32 (a : Int))) (hy : ev l y = some (.int .u32 (b : Int))) (ha : a < 4294967296) (hb : b < 4294967296) : OpQ P R ⟨d, .binOp .or t x y t', ty, pos, af, g⟩ l (.int .u32 ((a ||| b : Nat) : Int)) := B4b rfl hx hy ha hb
theorem R7 (hx : ev l x = some (.int .u32 (a : Int))) (hy : ev l y = some (.int .u32 (b : Int))) (ha : a < 4294967296) (hb : b < 4294967296) : OpQ P R ⟨d, .binOp .xor t x y t', ty, pos, af, g⟩ l (.int .u32 ((a ^^^ b : Nat) : Int)) := B7t rfl hx hy ha hb
theorem B5k (hx : ev l x = some (.int .u32 (a : Int))) (ha : a < 4294967296) : OpQ P R ⟨d, .unOp .xor t x, ty, pos, af, g⟩ l (.int .u32 ((4294967295 ^^^ a : Nat) : Int)) := B7u (k := .u32) rfl hx ha
theorem A0P (s : Nat) (hx : ev l x = some (.int .u32 (a : Int))) {i : Int} (hy : ev l y = some (.int k' i)) (hi : i = s) (hs : s ≤ 32) : OpQ P R ⟨d, .binOp .shl t x y t', ty, pos, af, g⟩ l (.int .u32 (((a <<< s) % 4294967296 : Nat) : Int)) := A2j (k := .u32) rfl s hx hy hi hs
theorem A9d (hx : ev l x = some (.int .u8 (a : Int))) (hy : ev l y = some (.int .u8 (b : Int))) (ha : a < 256) (hb : b < 256) : OpQ P R ⟨d, .binOp .xor t x y t', ty, pos, af, g⟩ l (.int .u8 ((a ^^^ b : Nat) : Int)) := B7t rfl hx hy ha hb
theorem A1m {s : TypeId} (hx : ev l x = some (.int k (a : Int))) (hc : A4C P s t = some .u8) : OpQ P R ⟨d, .convert s t x, ty, pos, af, g⟩ l (.int .u8 ((a % 256 : Nat) : Int)) := N6 _ hx hc (B7r a)
theorem B4c {s : TypeId} (hx : ev l x = some (.int k (a : Int))) (hc : A4C P s t = some .u32) : OpQ P R ⟨d, .convert s t x, ty, pos, af, g⟩ l (.int .u32 ((a % 4294967296 : Nat) : Int)) := N6 _ hx hc (B7s a)
theorem A9e {s : TypeId} (hx : ev l x = some (.int k (a : Int))) (hc : A4C P s t = some .u64) : OpQ P R ⟨d, .convert s t x, ty, pos, af, g⟩ l (.int .u64 ((a % 18446744073709551616 : Nat) : Int)) := N6 _ hx hc (A7i a)
theorem A0Q {s : TypeId} (hx : ev l x = some (.int k (a : Int))) (hc : A4C P s t = some k') (h : a < 2 ^ (k'.bits - 1)) : OpQ P R ⟨d, .convert s t x, ty, pos, af, g⟩ l (.int k' (a : Int)) := by
  refine N6 _ hx hc ?_
  have h2 : 2 ^ k'.bits = 2 * 2 ^ (k'.bits - 1) := by cases k' <;> rfl
  cases hs : k'.signed with
  | false => rw [P9 hs, Nat.mod_eq_of_lt (by omega)]
  | true =>
    have h3 : (2 : Int) ^ k'.bits = 2 * ((2 ^ (k'.bits - 1) : Nat) : Int) := by
      have e0 : (2 : Int) ^ k'.bits = ((2 ^ k'.bits : Nat) : Int) := by simp
      rw [e0, h2]; omega
    unfold IntKind.wrap
    have e1 : (a : Int) % 2 ^ k'.bits = a := Int.emod_eq_of_lt (by omega) (by rw [h3]; omega)
    simp only [e1, hs, Bool.true_and]
    have e2 : ¬ ((2 : Int) ^ (k'.bits - 1) ≤ (a : Int)) := by
      have : ((2 ^ (k'.bits - 1) : Nat) : Int) = 2 ^ (k'.bits - 1) := by simp
      omega
    simp [e2]
theorem H9 {k : IntKind} {ws : List Nat} {e : TypeId} {fr : Nat × Nat} {b o : Nat} (i : Nat) (hx : ev l x = some (.pointer (some ⟨b, o, none⟩))) (ht : X9 P t = true) (hb : (b, Obj.cells (nums k ws).toArray e fr) ∈ R) (ho : o = i) (hi : i < ws.length) :
    OpQ P R ⟨d, .load t x, ty, pos, af, g⟩ l (.int k ((ws.getD i 0 : Nat) : Int)) := K2 hx ht hb (by rw [ho]; exact Z8 hi)
end rules2
theorem I7 {C : Cx} {l : Env} {M J : Mem} {K : Env → Mem → Mem → Prop} {ty t : TypeId} {pos : String} {af : Array Edge} {g : Option (Nat × Bool)} {x y : Operand} {k : IntKind} {ws : List Nat} {e : TypeId} {b o n : Nat} {M' : Mem} (i : Nat)
    (hx : ev l x = some (.pointer (some ⟨b, o, none⟩))) (hy : ev l y = some (.int k (n : Int))) (ht : P3 C.P t = some 1) (ho : o = i) (hi : i < ws.length) (hu : Upd M b (blk (nums k ws) e) (blk (nums k (ws.set i n)) e) M') (h : K l M' J) :
    OpL C ⟨none, .store t x y, ty, pos, af, g⟩ l M J K :=
  D9 hx hy rfl ht (cs' := nums k (ws.set i n)) (by rw [A7j, ho]; exact A4I (by simpa using hi)) hu h
theorem Rd.nums {R : Mem} {k : IntKind} {ws : List Nat} {v : Value} {n : Nat} (h : Rd R 1 v n (nums k ws)) (hn : 0 < n) :
    ∃ b o c cs e fr, v = .slice (some ⟨b, o, none⟩) n c ∧ (b, Obj.cells (List.toArray cs) e fr) ∈ R ∧ ∀ i, i < n → cs[o + i * 1]? = some (.int k ((ws.getD i 0 : Nat) : Int)) := by
  obtain ⟨p, c, rfl, hl, hc, hb⟩ := h
  rcases hb with hb | ⟨b, o, cs, e, fr, rfl, hb, hx⟩
  · omega
  · refine ⟨b, o, c, cs, e, fr, rfl, hb, fun i hi => ?_⟩
    rw [Nat.mul_one]
    simp at hl
    exact hx i _ (Z8 (by omega))
end Go.Px

namespace Go.Px
def rotr (x n : Nat) : Nat := (x >>> n) ||| ((x <<< (32 - n)) % 4294967296)
def sg0 (a : Nat) : Nat := rotr a 7 ^^^ rotr a 18 ^^^ (a >>> 3)
def sg1 (b : Nat) : Nat := rotr b 17 ^^^ rotr b 19 ^^^ (b >>> 10)
def B2g (w : List Nat) (i : Nat) : Nat :=
  (((w.getD (i - 16) 0 + sg0 (w.getD (i - 15) 0)) % 4294967296 + w.getD (i - 7) 0) % 4294967296 + sg1 (w.getD (i - 2) 0)) % 4294967296
def wx (w : List Nat) : Nat → List Nat
  | 0 => w
  | n + 1 => wx w n ++ [B2g (wx w n) (w.length + n)]
theorem A5C (w : List Nat) (n : Nat) : (wx w n).length = w.length + n := by
  induction n with
  | zero => rfl
  | succ n ih => simp [wx, ih]; omega
structure S8 where
  a : Nat
  b : Nat
  c : Nat
  d : Nat
  e : Nat
  f : Nat
  g : Nat
  h : Nat
def S8.list (s : S8) : List Nat := [s.a, s.b, s.c, s.d, s.e, s.f, s.g, s.h]
def S8.ok (s : S8) : Prop := ∀ x ∈ s.list, x < 4294967296
def bs1 (e : Nat) : Nat := rotr e 6 ^^^ rotr e 11 ^^^ rotr e 25
def bs0 (a : Nat) : Nat := rotr a 2 ^^^ rotr a 13 ^^^ rotr a 22
def chz (e f g : Nat) : Nat := (e &&& f) ^^^ ((4294967295 ^^^ e) &&& g)
def maj (a b c : Nat) : Nat := (a &&& b) ^^^ (a &&& c) ^^^ (b &&& c)
def tmp1 (s : S8) (k w : Nat) : Nat := ((((s.h + bs1 s.e) % 4294967296 + chz s.e s.f s.g) % 4294967296 + k) % 4294967296 + w) % 4294967296
def S8.step (s : S8) (k w : Nat) : S8 :=
  ⟨((tmp1 s k w + bs0 s.a) % 4294967296 + maj s.a s.b s.c) % 4294967296, s.a, s.b, s.c, (s.d + tmp1 s k w) % 4294967296, s.e, s.f, s.g⟩
def rounds (ks ws : List Nat) (s : S8) : Nat → S8
  | 0 => s
  | n + 1 => (rounds ks ws s n).step (ks.getD n 0) (ws.getD n 0)
def S8.plus (s t : S8) : S8 :=
  ⟨(s.a + t.a) % 4294967296, (s.b + t.b) % 4294967296, (s.c + t.c) % 4294967296, (s.d + t.d) % 4294967296, (s.e + t.e) % 4294967296, (s.f + t.f) % 4294967296, (s.g + t.g) % 4294967296, (s.h + t.h) % 4294967296⟩
def B7g (p : List Nat) (i : Nat) : Nat := ((p.getD (4 * i) 0 * 256 + p.getD (4 * i + 1) 0) * 256 + p.getD (4 * i + 2) 0) * 256 + p.getD (4 * i + 3) 0
def W5 (p : List Nat) (n : Nat) : List Nat := (List.range n).map (B7g p)
def V5 (ks : List Nat) (s : S8) (p : List Nat) : S8 := s.plus (rounds ks (wx (W5 p 16) 48) s 64)
def A3V (ks : List Nat) : Nat → S8 → List Nat → S8
  | 0, s, _ => s
  | n + 1, s, p => A3V ks n (V5 ks s (p.take 64)) (p.drop 64)
def A2V (n : Nat) : Nat := (119 - n % 64) % 64
def B2h (n : Nat) (k : Nat) : List Nat := (List.range k).map fun i => (8 * n) >>> (56 - 8 * i) % 256
def L1 (p : List Nat) : List Nat := p ++ (128 :: (List.replicate (A2V p.length) 0 ++ B2h p.length 8))
def B5l (x : Nat) : List Nat := [(x >>> 24) % 256, (x >>> 16) % 256, (x >>> 8) % 256, x % 256]
def S8.bytes (s : S8) : List Nat := s.list.flatMap B5l
def A1H : List Nat := [1116352408, 1899447441, 3049323471, 3921009573, 961987163, 1508970993, 2453635748, 2870763221, 3624381080, 310598401, 607225278, 1426881987, 1925078388, 2162078206, 2614888103, 3248222580, 3835390401, 4022224774, 264347078, 604807628, 770255983, 1249150122, 1555081692, 1996064986, 2554220882, 2821834349, 2952996808, 3210313671, 3336571891, 3584528711, 113926993, 338241895, 666307205, 773529912, 1294757372, 1396182291, 1695183700, 1986661051, 2177026350, 2456956037, 2730485921, 2820302411, 3259730800, 3345764771, 3516065817, 3600352804, 4094571909, 275423344, 430227734, 506948616, 659060556, 883997877, 958139571, 1322822218, 1537002063, 1747873779, 1955562222, 2024104815, 2227730452, 2361852424, 2428436474, 2756734187, 3204031479, 3329325298]
def A2l : S8 := ⟨1779033703, 3144134277, 1013904242, 2773480762, 1359893119, 2600822924, 528734635, 1541459225⟩
def Z9 (p : List Nat) : List Nat := (A3V A1H ((L1 p).length / 64) A2l (L1 p)).bytes
def A2m (key : List Nat) (x : Nat) : List Nat := (key ++ List.replicate (64 - key.length) 0).map (· ^^^ x)
def A0D (key : List Nat) : List Nat := if 64 < key.length then Z9 key else key
def A37 (key p : List Nat) : List Nat := Z9 (A2m (A0D key) 92 ++ Z9 (A2m (A0D key) 54 ++ p))
theorem B5m : ∀ x ∈ A1H, x < 4294967296 := by decide
theorem A4J : A2l.ok := by unfold S8.ok; decide
theorem N7 {x n : Nat} (h : x < 4294967296) : rotr x n < 4294967296 := by
  unfold rotr
  refine Nat.or_lt_two_pow (n := 32) ?_ (Nat.mod_lt _ (by decide))
  exact Nat.lt_of_le_of_lt (Nat.shiftRight_le _ _) h
theorem xor32 {a b : Nat} (ha : a < 4294967296) (hb : b < 4294967296) : a ^^^ b < 4294967296 := Nat.xor_lt_two_pow (n := 32) ha hb
theorem B1T {a b : Nat} (ha : a < 4294967296) (hb : b < 4294967296) : a ||| b < 4294967296 := Nat.or_lt_two_pow (n := 32) ha hb
theorem A6G {a b : Nat} (ha : a < 4294967296) : a &&& b < 4294967296 := Nat.lt_of_le_of_lt Nat.and_le_left ha
theorem A9f {a n : Nat} (ha : a < 4294967296) : a >>> n < 4294967296 := Nat.lt_of_le_of_lt (Nat.shiftRight_le _ _) ha
theorem R8 {a : Nat} : a % 4294967296 < 4294967296 := Nat.mod_lt _ (by decide)
theorem S8.ok_iff {s : S8} : s.ok ↔ s.a < 4294967296 ∧ s.b < 4294967296 ∧ s.c < 4294967296 ∧ s.d < 4294967296 ∧ s.e < 4294967296 ∧ s.f < 4294967296 ∧ s.g < 4294967296 ∧ s.h < 4294967296 := by
  simp [S8.ok, S8.list]
theorem S8.ok.step {s : S8} (h : s.ok) (k w : Nat) : (s.step k w).ok := by
  rw [S8.ok_iff] at h ⊢
  obtain ⟨h1, h2, h3, h4, h5, h6, h7, h8⟩ := h
  exact ⟨R8, h1, h2, h3, R8, h5, h6, h7⟩
theorem S8.ok.plus (s t : S8) : (s.plus t).ok := by
  rw [S8.ok_iff]
  exact ⟨R8, R8, R8, R8, R8, R8, R8, R8⟩
theorem S8.ok.rounds {s : S8} (h : s.ok) (ks ws : List Nat) (n : Nat) : (rounds ks ws s n).ok := by
  induction n with
  | zero => exact h
  | succ n ih => exact ih.step _ _
theorem A6H (ks : List Nat) (s : S8) (p : List Nat) : (V5 ks s p).ok := S8.ok.plus _ _
theorem A4K (ks : List Nat) : ∀ (n : Nat) {s : S8} (p : List Nat), s.ok → (A3V ks n s p).ok
  | 0, _, _, h => h
  | n + 1, s, p, _ => A4K ks n _ (A6H ks s _)
theorem A2W (ks : List Nat) : ∀ (n : Nat) (s : S8) (p : List Nat), A3V ks (n + 1) s p = V5 ks (A3V ks n s p) ((p.drop (64 * n)).take 64)
  | 0, s, p => by simp [A3V]
  | n + 1, s, p => by
    rw [A3V, A2W ks n, A3V, List.drop_drop, show 64 + 64 * n = 64 * (n + 1) by omega]
theorem A4L (ks : List Nat) : ∀ (n : Nat) (s : S8) (p q : List Nat), 64 * n ≤ p.length → A3V ks n s (p ++ q) = A3V ks n s p
  | 0, s, p, q, h => rfl
  | n + 1, s, p, q, h => by
    rw [A3V, A3V, List.take_append_of_le_length (by omega), List.drop_append_of_le_length (by omega), A4L ks n _ _ _ (by rw [List.length_drop]; omega)]
theorem B5n {p : List Nat} (h : ∀ x ∈ p, x < 256) (i : Nat) : B7g p i < 4294967296 := by
  have := fun j => getD_lt (i := j) h (by decide)
  have h0 := this (4 * i); have h1 := this (4 * i + 1); have h2 := this (4 * i + 2); have h3 := this (4 * i + 3)
  unfold B7g; omega
theorem B2i {p : List Nat} (h : ∀ x ∈ p, x < 256) (n : Nat) : ∀ x ∈ W5 p n, x < 4294967296 := by
  intro x hx
  obtain ⟨i, _, rfl⟩ := List.mem_map.1 hx
  exact B5n h i
theorem A2X (p : List Nat) (n : Nat) : (W5 p n).length = n := by simp [W5]
theorem A8d (p : List Nat) (n : Nat) : W5 p (n + 1) = W5 p n ++ [B7g p n] := by simp [W5, List.range_succ]
theorem B5o {w : List Nat} (h : ∀ x ∈ w, x < 4294967296) : ∀ n, ∀ x ∈ wx w n, x < 4294967296
  | 0, x, hx => h x hx
  | n + 1, x, hx => by
    rcases List.mem_append.1 hx with hx | hx
    · exact B5o h n x hx
    · simp at hx; subst hx; exact R8
theorem B5p {a b c d : Nat} (ha : a < 256) (hb : b < 256) (hc : c < 256) (hd : d < 256) :
    ((((a <<< 24) % 4294967296 ||| (b <<< 16) % 4294967296) ||| (c <<< 8) % 4294967296) ||| d) = ((a * 256 + b) * 256 + c) * 256 + d := by
  have e1 : a <<< 24 = (a <<< 8) <<< 16 := by rw [← Nat.shiftLeft_add]
  have f1 : (a <<< 24) % 4294967296 = a <<< 24 := Nat.mod_eq_of_lt (by rw [Nat.shiftLeft_eq]; omega)
  have f2 : (b <<< 16) % 4294967296 = b <<< 16 := Nat.mod_eq_of_lt (by rw [Nat.shiftLeft_eq]; omega)
  have f3 : (c <<< 8) % 4294967296 = c <<< 8 := Nat.mod_eq_of_lt (by rw [Nat.shiftLeft_eq]; omega)
  rw [f1, f2, f3]
  have g1 : (a <<< 24 ||| b <<< 16) = (a * 256 + b) <<< 16 := by
    rw [e1, ← Nat.shiftLeft_or_distrib, ← Nat.shiftLeft_add_eq_or_of_lt (i := 8) hb, Nat.shiftLeft_eq a 8]
  have g2 : ((a * 256 + b) <<< 16 ||| c <<< 8) = ((a * 256 + b) * 256 + c) <<< 8 := by
    rw [show (16 : Nat) = 8 + 8 from rfl, Nat.shiftLeft_add, ← Nat.shiftLeft_or_distrib, ← Nat.shiftLeft_add_eq_or_of_lt (i := 8) hc, Nat.shiftLeft_eq (a * 256 + b) 8]
  rw [g1, g2, ← Nat.shiftLeft_add_eq_or_of_lt (i := 8) hd, Nat.shiftLeft_eq _ 8]
end Go.Px

namespace Go.Proofs.YtlilcmjbaknafaaGreatDoor
open Go.Px
theorem V6 (x n : Nat) (k : Int) (A : Mem) (hx : x < 4294967296) (h0 : 0 < n) (hn : n < 32) (hk : k = -(n : Int)) : FnV Tryz.prog 118 [.int .u32 (x : Int), .int .i64 k] A (.int .u32 (rotr x n : Nat)) := by
 refine FnX.enter (N := 17) Tryz.func118 rfl rfl rfl fun w => ?_
 refine B0 (D2 0 1) (A1 (as_ (A0 (D2 0 1) (A1 (mv_ ?_)))))
 refine A2 (A4F (k' := .u64) ((18446744073709551616 - n : Nat) : Int) rfl kR (by unfold IntKind.wrap; simp [IntKind.bits, IntKind.signed]; omega)) rfl ?_
 refine A2 (C7 ((32 - n : Nat) : Int) rfl rfl ((B9t (k := .u64) (b := 31) rfl (by show _ < 2 ^ 64; omega) qD).trans (by rw [Nat.and_two_pow_sub_one_eq_mod _ 5, show (18446744073709551616 - n) % 2 ^ 5 = 32 - n by omega]))) rfl ?_
 refine as_ (A0 (D2 0 5) (A1 (mv_ (mv_ ?_))))
 refine A2 (A0P (32 - n) rfl rfl rfl qO) rfl ?_
 refine mv_ (mv_ ?_)
 refine A2 (C7 ((n : Nat) : Int) rfl rfl ((B9s (k := .u64) (a := 32) (b := 32 - n) rfl n (by show _ ≤ 2 ^ 64; omega) (by show (32 + (18446744073709551616 - (32 - n))) % 18446744073709551616 = n; omega)))) rfl ?_
 refine A2 (Q5 n rfl rfl rfl (by show n ≤ 32; omega)) rfl ?_
 refine A2 (A2k rfl rfl R8 (A9f hx)) rfl ?_
 refine as_ (A0 (D7 4) (B4 ?_))
 exact ⟨_, [], [], K9 rfl rfl, List.nil_sublist _, by simp, by rw [Nat.or_comm]; rfl, rfl, rfl⟩
abbrev A5D (s : S8) : List Value := [.int .u32 (s.a : Int), .int .u32 (s.b : Int), .int .u32 (s.c : Int), .int .u32 (s.d : Int), .int .u32 (s.e : Int), .int .u32 (s.f : Int), .int .u32 (s.g : Int), .int .u32 (s.h : Int)]
def A2Y (s r : S8) (i : Nat) : LN := (s.plus r).list.take i ++ s.list.drop i
theorem A38 (s r : S8) (i : Nat) (h : i ≤ 8) : (A2Y s r i).length = 8 := by simp [A2Y, S8.list]; omega
theorem A8e (s r : S8) (i : Nat) (h : i < 8) : (A2Y s r i).getD i 0 = s.list.getD i 0 := by
  have : i = 0 ∨ i = 1 ∨ i = 2 ∨ i = 3 ∨ i = 4 ∨ i = 5 ∨ i = 6 ∨ i = 7 := by omega
  rcases this with rfl | rfl | rfl | rfl | rfl | rfl | rfl | rfl <;> rfl
theorem A6I (s r : S8) (i : Nat) (h : i < 8) : (A2Y s r i).set i ((s.list.getD i 0 + r.list.getD i 0) % 4294967296) = A2Y s r (i + 1) := by
  have : i = 0 ∨ i = 1 ∨ i = 2 ∨ i = 3 ∨ i = 4 ∨ i = 5 ∨ i = 6 ∨ i = 7 := by omega
  rcases this with rfl | rfl | rfl | rfl | rfl | rfl | rfl | rfl <;> rfl
theorem A9g {w : LN} {us : LN} {i : Nat} (h : w.length = i) (h16 : 16 ≤ i) (h64 : i < 64) :
    ((((w ++ us).getD (i - 16) 0 + sg0 ((w ++ us).getD (i - 15) 0)) % 4294967296 + (w ++ us).getD (i - 7) 0) % 4294967296 + sg1 ((w ++ us).getD (i - 2) 0)) % 4294967296 = B2g w i := by
  rw [A2x qO, A2x qO, A2x qO, A2x qO]; rfl
theorem A39 (s : S8) (hs0 : s.ok) (p : LN) (hb : ∀ x ∈ p, x < 256) (v : Value) (A : Mem) (hv : Rd A 1 v 64 (nums .u8 p)) {ek : TypeId} {fk : Nat × Nat} (hk : (1, Obj.cells (nums .u32 A1H).toArray ek fk) ∈ A) :
  FnV Tryz.prog 99 [.agg (nums .u32 s.list).toArray, v] A (.agg (nums .u32 (V5 A1H s p).list).toArray) := by
 have hg : ∀ j, p.getD j 0 < 256 := fun j => getD_lt hb qD
 refine FnX.enter (N := 207) Tryz.func99 rfl rfl rfl fun w => ?_
 refine B0 (D2 0 1) (A1 ?_)
 refine A5 rfl (B5g (cs := nums .u32 s.list) rfl rfl rfl fun b2 => ?_)
 refine A5 rfl (C4 (cs := [G3, G3, G3, G3, G3, G3, G3, G3]) kR rfl fun b4 => ?_)
 refine A0 (D6 1 2 4) (A1 ?_)
 refine A5 rfl (C4 (cs := nums .u32 (List.replicate 64 0)) kR rfl fun b5 => ?_)
 refine A0 (D8 1 2 4 5) (A3 (A1 (mv_ (A0 (E4 1 2 4 5 20) (A4 ?_)))))
 obtain ⟨bp, op, cp, csp, ep, frp, rfl, hmem, hcs⟩ := hv.nums qD
 refine D3 (α := Nat) (fun i => [(1, .slice (some ⟨bp, op, none⟩) 64 cp), (2, (vP b2)), (4, (vP b4)), (5, (vP b5)), (20, .int .i64 (i : Int))]) (fun i => [(b5, blk (nums .u32 (W5 p i ++ List.replicate (64 - i) 0)) _), (b4, blk (A5D ⟨0, 0, 0, 0, 0, 0, 0, 0⟩) _), (b2, blk (nums .u32 s.list) _)]) (fun _ => []) (fun i => i ≤ 16) (fun i => 16 - i) 0 (Nat.zero_le _) (E4 1 2 4 5 20) .rfl qI ?_
 intro i hi
 try dsimp only at hi ⊢
 refine A1 ?_
 refine A2 (D4 rfl rfl rfl) rfl ?_
 refine A0 (H3 1 2 4 5 20 21) (A3 ?_)
 refine C1 rfl ?_ ?_ <;> intro hc
 ·
  have hlt : i < 16 := by simp at hc; omega
  refine A6 (nx (E4 1 2 4 5 20) (A3 (A4 (A1 (mv_ (as_ (A0 (H3 1 2 4 5 6 20) ?_)))))))
  refine A1E (_) [0, 1, 2, 3, 4, 5, 6, 7, 8, 9, 10, 11, 12, 13, 14, 15, 16, 17, 18, 19, 20, 21, 22, 23, 24, 25, 26, 27, 28, 29, 30, 31, 32, 33, 34] [(0, 0), (1, 0), (2, 0), (3, 0), (4, 0), (5, 1), (6, 0), (7, 0), (8, 0), (9, 0), (10, 0), (11, 0), (12, 0), (13, 1), (14, 0), (15, 0), (16, 0), (17, 0), (18, 0), (19, 0), (20, 0), (21, 0), (22, 1), (23, 0), (24, 0), (25, 0), (26, 0), (27, 0), (28, 0), (29, 0), (30, 0), (31, 1), (32, 0), (33, 0), (34, 0), (35, 2)] kR kR qI fun hs => ?_
  refine K5 hs rfl qm_ rfl ?_
  refine K5 hs rfl qm_ rfl ?_
  refine K5 hs rfl qm_ rfl ?_
  refine K5 hs rfl (C7 ((4 * i : Nat) : Int) rfl rfl (A1F qO qO qO)) rfl ?_
  refine K5 hs rfl (K4 (i := 4 * i) (e := 5) (sz := 1) rfl rfl kR kR rfl qO) rfl ?_
  refine A3S hs rfl (K2 rfl kR (mA hmem) (hcs (4 * i) qO)) rfl ?_
  refine K5 hs rfl (A0Q (k' := .u32) rfl kR (by show _ < 2147483648; have := hg (4 * i); omega)) rfl ?_
  refine K5 hs rfl (A0P 24 rfl rfl rfl qD) rfl ?_
  refine K5 hs rfl qm_ rfl ?_
  refine K5 hs rfl qm_ rfl ?_
  refine K5 hs rfl (C7 ((4 * i : Nat) : Int) rfl rfl (A1F qO qO qO)) rfl ?_
  refine K5 hs rfl (C7 ((4 * i + 1 : Nat) : Int) rfl rfl (E1 qO qO qO)) rfl ?_
  refine K5 hs rfl (K4 (i := 4 * i + 1) (e := 5) (sz := 1) rfl rfl kR kR rfl qO) rfl ?_
  refine A3S hs rfl (K2 rfl kR (mA hmem) (hcs (4 * i + 1) qO)) rfl ?_
  refine K5 hs rfl (A0Q (k' := .u32) rfl kR (by show _ < 2147483648; have := hg (4 * i + 1); omega)) rfl ?_
  refine K5 hs rfl (A0P 16 rfl rfl rfl qD) rfl ?_
  refine K5 hs rfl (A2k rfl rfl R8 R8) rfl ?_
  refine K5 hs rfl qm_ rfl ?_
  refine K5 hs rfl qm_ rfl ?_
  refine K5 hs rfl (C7 ((4 * i : Nat) : Int) rfl rfl (A1F qO qO qO)) rfl ?_
  refine K5 hs rfl (C7 ((4 * i + 2 : Nat) : Int) rfl rfl (E1 qO qO qO)) rfl ?_
  refine K5 hs rfl (K4 (i := 4 * i + 2) (e := 5) (sz := 1) rfl rfl kR kR rfl qO) rfl ?_
  refine A3S hs rfl (K2 rfl kR (mA hmem) (hcs (4 * i + 2) qO)) rfl ?_
  refine K5 hs rfl (A0Q (k' := .u32) rfl kR (by show _ < 2147483648; have := hg (4 * i + 2); omega)) rfl ?_
  refine K5 hs rfl (A0P 8 rfl rfl rfl qD) rfl ?_
  refine K5 hs rfl (A2k rfl rfl (B1T R8 R8) R8) rfl ?_
  refine K5 hs rfl qm_ rfl ?_
  refine K5 hs rfl qm_ rfl ?_
  refine K5 hs rfl (C7 ((4 * i : Nat) : Int) rfl rfl (A1F qO qO qO)) rfl ?_
  refine K5 hs rfl (C7 ((4 * i + 3 : Nat) : Int) rfl rfl (E1 qO qO qO)) rfl ?_
  refine K5 hs rfl (K4 (i := 4 * i + 3) (e := 5) (sz := 1) rfl rfl kR kR rfl qO) rfl ?_
  refine A3S hs rfl (K2 rfl kR (mA hmem) (hcs (4 * i + 3) qO)) rfl ?_
  refine K5 hs rfl (A0Q (k' := .u32) rfl kR (by show _ < 2147483648; have := hg (4 * i + 3); omega)) rfl ?_
  refine K5 hs rfl (A2k rfl rfl (B1T (B1T R8 R8) R8) (by have := hg (4 * i + 3); omega)) rfl ?_
  refine K5 hs rfl (E8 (i := i) (e := 27) (n := 64) (sz := 1) rfl rfl kR kR rfl qO) rfl ?_
  refine A1l rfl rfl rfl (I7 (ws := W5 p i ++ List.replicate (64 - i) 0) i rfl rfl kR qO (by simp [A2X]; omega) UpC.upd ?_)
  refine A5z ?_
  refine nb (nx (E4 1 2 4 5 20) (A7 ?_))
  refine A2 (C7 ((i + 1 : Nat) : Int) rfl rfl (E1 qO qO qO)) rfl ?_
  refine mv_ (C0 ?_)
  refine rn (i + 1) qO qO (E4 1 2 4 5 20) (Fit.eq ?_) qI
  rw [B5p (hg _) (hg _) (hg _) (hg _), A9c (A2X p i) qO, A8d]; rfl
 ·
  have hlt : i = 16 := by simp at hc; omega
  subst hlt
  refine D0 (te (re (be rfl (nx (D6 2 4 5) (A3 (A1 (as_ ?_)))))))
  refine A0 (D8 2 4 5 7) (A4 ?_)
  generalize hW0 : W5 p 16 = W0
  have hW0l : W0.length = 16 := by rw [← hW0]; exact A2X _ _
  have hW0b : ∀ x ∈ W0, x < 4294967296 := by rw [← hW0]; exact B2i hb _
  refine D3 (α := Nat) (fun i => [(2, (vP b2)), (4, (vP b4)), (5, (vP b5)), (7, .int .i64 (i : Int))]) (fun i => [(b5, blk (nums .u32 (wx W0 (i - 16) ++ List.replicate (64 - i) 0)) _), (b4, blk (A5D ⟨0, 0, 0, 0, 0, 0, 0, 0⟩) _), (b2, blk (nums .u32 s.list) _)]) (fun _ => []) (fun i => 16 ≤ i ∧ i ≤ 64) (fun i => 64 - i) 16 qD (D8 2 4 5 7) .rfl qI ?_
  rintro i ⟨hi, hi2⟩
  have hwl := A5C W0 (i - 16)
  have hwb : ∀ j, (wx W0 (i - 16) ++ List.replicate (64 - i) 0).getD j 0 < 4294967296 := fun j => getD_lt (fun x hx => by
   rcases List.mem_append.1 hx with hx | hx
   · exact B5o hW0b _ _ hx
   · rw [(List.mem_replicate.1 hx).2]; decide) qD
  have hll : (wx W0 (i - 16) ++ List.replicate (64 - i) 0).length = 64 := by simp [A5C, hW0l]; omega
  try dsimp only
  refine A3 (A1 (mv_ ?_))
  refine A2 (D4 rfl rfl rfl) rfl ?_
  refine A0 (E4 2 4 5 7 60) ?_
  refine C1 rfl ?_ ?_ <;> intro hc
  ·
   have hlt : i < 64 := by simp at hc; omega
   refine A6 (nx (D8 2 4 5 7) (A3 (A4 ?_)))
   refine A1k (_) [0, 1, 2, 3, 4, 5, 6, 7, 8, 9] [(0, 0), (1, 0), (2, 0), (3, 1), (4, 0), (5, 0), (6, 0), (7, 1), (8, 0), (9, 0)] kR kR qI fun hs => ?_
   refine K5 hs rfl qm_ rfl ?_
   refine K5 hs rfl (C7 ((i - 15 : Nat) : Int) rfl rfl (A0h qO qO qO)) rfl ?_
   refine K5 hs rfl (E8 (i := i - 15) (e := 27) (n := 64) (sz := 1) rfl rfl kR kR rfl qO) rfl ?_
   refine A3S hs rfl (H9 (i - 15) rfl kR At.mem qO qO) rfl ?_
   refine K5 hs rfl qm_ rfl ?_
   refine K5 hs rfl (C7 ((i - 2 : Nat) : Int) rfl rfl (A0h qO qO qO)) rfl ?_
   refine K5 hs rfl (E8 (i := i - 2) (e := 27) (n := 64) (sz := 1) rfl rfl kR kR rfl qO) rfl ?_
   refine A3S hs rfl (H9 (i - 2) rfl kR At.mem qO qO) rfl ?_
   refine K5 hs rfl (H8 rfl) rfl ?_
   refine K5 hs rfl (H8 rfl) rfl ?_
   refine A2S (H3 2 4 5 7 8 9) ?_
   refine A1 (mv_ ?_)
   refine B2d (aS rfl (aS rfl a0)) kR (V6 _ 7 _ _ (hwb _) qD qD rfl) rfl ?_
   refine mv_ ?_
   refine B2d (aS rfl (aS rfl a0)) kR (V6 _ 18 _ _ (hwb _) qD qD rfl) rfl ?_
   refine A2 (R7 rfl rfl (N7 (hwb _)) (N7 (hwb _))) rfl ?_
   refine mv_ ?_
   refine A2 (Q5 3 rfl rfl rfl qD) rfl ?_
   refine A2 (R7 rfl rfl (xor32 (N7 (hwb _)) (N7 (hwb _))) (A9f (hwb _))) rfl ?_
   refine as_ (A0 (H3 2 4 5 7 9 10) (A1 (mv_ ?_)))
   refine B2d (aS rfl (aS rfl a0)) kR (V6 _ 17 _ _ (hwb _) qD qD rfl) rfl ?_
   refine mv_ ?_
   refine B2d (aS rfl (aS rfl a0)) kR (V6 _ 19 _ _ (hwb _) qD qD rfl) rfl ?_
   refine A2 (R7 rfl rfl (N7 (hwb _)) (N7 (hwb _))) rfl ?_
   refine mv_ ?_
   refine A2 (Q5 10 rfl rfl rfl qD) rfl ?_
   refine A2 (R7 rfl rfl (xor32 (N7 (hwb _)) (N7 (hwb _))) (A9f (hwb _))) rfl ?_
   refine as_ (A0 (H3 2 4 5 7 10 11) ?_)
   refine A1E (_) [0, 1, 2, 3, 4, 5, 6, 7, 8, 9, 10, 11, 12, 13, 14] [(0, 0), (1, 0), (2, 0), (3, 0), (4, 1), (5, 0), (6, 0), (7, 0), (8, 0), (9, 0), (10, 1), (11, 0), (12, 0), (13, 0), (14, 0), (15, 2)] kR kR qI fun hs => ?_
   refine K5 hs rfl qm_ rfl ?_
   refine K5 hs rfl qm_ rfl ?_
   refine K5 hs rfl (C7 ((i - 16 : Nat) : Int) rfl rfl (A0h qO qO qO)) rfl ?_
   refine K5 hs rfl (E8 (i := i - 16) (e := 27) (n := 64) (sz := 1) rfl rfl kR kR rfl qO) rfl ?_
   refine A3S hs rfl (H9 (i - 16) rfl kR At.mem qO qO) rfl ?_
   refine K5 hs rfl qm_ rfl ?_
   refine K5 hs rfl (Y0 rfl rfl) rfl ?_
   refine K5 hs rfl qm_ rfl ?_
   refine K5 hs rfl (C7 ((i - 7 : Nat) : Int) rfl rfl (A0h qO qO qO)) rfl ?_
   refine K5 hs rfl (E8 (i := i - 7) (e := 27) (n := 64) (sz := 1) rfl rfl kR kR rfl qO) rfl ?_
   refine A3S hs rfl (H9 (i - 7) rfl kR At.mem qO qO) rfl ?_
   refine K5 hs rfl (Y0 rfl rfl) rfl ?_
   refine K5 hs rfl qm_ rfl ?_
   refine K5 hs rfl (Y0 rfl rfl) rfl ?_
   refine K5 hs rfl (E8 (i := i) (e := 27) (n := 64) (sz := 1) rfl rfl kR kR rfl qO) rfl ?_
   refine A1l rfl rfl rfl (I7 (ws := wx W0 (i - 16) ++ List.replicate (64 - i) 0) i rfl rfl kR qO qO UpC.upd ?_)
   refine A5z ?_
   refine nb (nx (D8 2 4 5 7) (A7 (mv_ ?_)))
   refine A2 (C7 ((i + 1 : Nat) : Int) rfl rfl (E1 qO qO qO)) rfl ?_
   refine as_ (C0 ?_)
   refine rn (i + 1) ⟨by omega, by omega⟩ qO (D8 2 4 5 7) (Fit.eq ?_) qI
   have e := A9g (us := List.replicate (64 - i) 0) (show (wx W0 (i - 16)).length = i by omega) hi hlt
   unfold sg0 sg1 at e
   rw [e, A9c qO hlt, show i + 1 - 16 = (i - 16) + 1 by omega, wx, show W0.length + (i - 16) = i by omega]
  ·
   have hlt : i = 64 := by simp at hc; omega
   subst hlt
   refine D0 (te (re (be rfl (nx (D6 2 4 5) (A1 ?_)))))
   refine A84 (n := 8) rfl kR qR rfl ?_
   refine A5 rfl (C4 (cs := [G3, G3, G3, G3, G3, G3, G3, G3]) kR rfl fun b12 => ?_)
   refine A7g rfl rfl kR qR E5 ?_
   refine A0 (D8 2 4 5 12) (A3 (A1 (mv_ (A0 (E4 2 4 5 12 103) (A4 ?_)))))
   generalize hW : wx W0 48 = W
   have hWl : W.length = 64 := by rw [← hW, A5C]; omega
   have hWb : ∀ j, W.getD j 0 < 4294967296 := fun j => getD_lt (by rw [← hW]; exact B5o hW0b _) qD
   have hkt : ∀ j, A1H.getD j 0 < 4294967296 := fun j => getD_lt B5m qD
   refine D3 (α := Nat) (fun i => [(2, (vP b2)), (4, (vP b4)), (5, (vP b5)), (12, (vP b12)), (103, .int .i64 (i : Int))]) (fun i => [(b12, blk (A5D (rounds A1H W s i)) _), (b5, blk (nums .u32 W) _), (b4, blk (A5D ⟨0, 0, 0, 0, 0, 0, 0, 0⟩) _), (b2, blk (nums .u32 s.list) _)]) (fun _ => []) (fun i => i ≤ 64) (fun i => 64 - i) 0 (Nat.zero_le _) (E4 2 4 5 12 103) (Fit.eq (by rw [show List.replicate (64 - 64) 0 = [] from rfl, List.append_nil]; rfl)) qI ?_
   intro i hi
   have hro := hs0.rounds A1H W i
   generalize hr : rounds A1H W s i = r at hro
   rw [S8.ok_iff] at hro
   obtain ⟨ra, rb, rc, rd, re', rf, rg, rh⟩ := hro
   try dsimp only at hi ⊢
   refine A1 ?_
   refine A2 (D4 rfl rfl rfl) rfl ?_
   refine A0 (H3 2 4 5 12 103 104) (A3 ?_)
   refine C1 rfl ?_ ?_ <;> intro hc
   ·
    have hlt : i < 64 := by simp at hc; omega
    refine A6 (nx (E4 2 4 5 12 103) (A3 (A4 (A1 (mv_ (as_ (A0 (H3 2 4 5 12 13 103) ?_)))))))
    refine A1k (_) [0, 1, 2, 3, 4, 5, 6, 7, 8, 10, 11] [(0, 0), (1, 1), (3, 0), (4, 1), (7, 0), (8, 1), (2, 2), (5, 2), (6, 0), (9, 2), (10, 0), (11, 0)] kR kR qI fun hs => ?_
    refine K5 hs rfl (E8 (i := 4) (e := 27) (n := 8) (sz := 1) rfl rfl kR kR rfl qD) rfl ?_
    refine A3S hs rfl (K2 rfl kR At.mem qR) rfl ?_
    refine K5 hs rfl (E8 (i := 4) (e := 27) (n := 8) (sz := 1) rfl rfl kR kR rfl qD) rfl ?_
    refine A3S hs rfl (K2 rfl kR At.mem qR) rfl ?_
    refine K5 hs rfl (E8 (i := 4) (e := 27) (n := 8) (sz := 1) rfl rfl kR kR rfl qD) rfl ?_
    refine A3S hs rfl (K2 rfl kR At.mem qR) rfl ?_
    refine B2b rfl rfl (V2 (aS rfl (aS rfl a0)) kR (V6 _ 6 _ _ re' qD qD rfl) rfl ⟨fun _ h => h, ?_⟩)
    refine B2b rfl rfl (V2 (aS rfl (aS rfl a0)) kR (V6 _ 11 _ _ re' qD qD rfl) rfl ⟨fun _ h => h, ?_⟩)
    refine K5 hs rfl (R7 rfl rfl (N7 re') (N7 re')) rfl ?_
    refine A1l rfl rfl rfl (V2 (aS rfl (aS rfl a0)) kR (V6 _ 25 _ _ re' qD qD rfl) rfl ?_)
    refine K5 hs rfl (R7 rfl rfl (xor32 (N7 re') (N7 re')) (N7 re')) rfl ?_
    refine K5 hs rfl (H8 rfl) rfl ?_
    refine A2S (N0 2 4 5 12 13 14 103) ?_
    refine A1 ?_
    refine A2 (E8 (i := 4) (e := 27) (n := 8) (sz := 1) rfl rfl kR kR rfl qD) rfl ?_
    refine A0N rfl kR qR rfl ?_
    refine A2 (E8 (i := 5) (e := 27) (n := 8) (sz := 1) rfl rfl kR kR rfl qD) rfl ?_
    refine A0N rfl kR qR rfl ?_
    refine A2 (A2U rfl rfl re' rf) rfl ?_
    refine A2 (E8 (i := 4) (e := 27) (n := 8) (sz := 1) rfl rfl kR kR rfl qD) rfl ?_
    refine A0N rfl kR qR rfl ?_
    refine A2 (B5k rfl re') rfl ?_
    refine A2 (E8 (i := 6) (e := 27) (n := 8) (sz := 1) rfl rfl kR kR rfl qD) rfl ?_
    refine A0N rfl kR qR rfl ?_
    refine A2 (A2U rfl rfl (xor32 qD re') rg) rfl ?_
    refine A2 (R7 rfl rfl (A6G re') (A6G (xor32 qD re'))) rfl ?_
    refine as_ (A0 (T6 2 4 5 12 13 14 15 103) ?_)
    refine A1k (_) [0, 1, 2, 3, 4, 5, 6, 7, 8, 9, 10, 11, 12, 13, 14] [(0, 0), (1, 1), (2, 0), (3, 0), (4, 0), (5, 0), (6, 0), (7, 0), (8, 1), (9, 0), (10, 0), (11, 0), (12, 1), (13, 0), (14, 0)] kR kR qI fun hs => ?_
    refine K5 hs rfl (E8 (i := 7) (e := 27) (n := 8) (sz := 1) rfl rfl kR kR rfl qD) rfl ?_
    refine A3S hs rfl (K2 rfl kR At.mem qR) rfl ?_
    refine K5 hs rfl qm_ rfl ?_
    refine K5 hs rfl (Y0 rfl rfl) rfl ?_
    refine K5 hs rfl qm_ rfl ?_
    refine K5 hs rfl (Y0 rfl rfl) rfl ?_
    refine K5 hs rfl qm_ rfl ?_
    refine K5 hs rfl (E8 (i := i) (e := 27) (n := 64) (sz := 1) rfl rfl kR kR rfl qO) rfl ?_
    refine A3S hs rfl (H9 i rfl kR (mA hk) qO (show i < 64 from hlt)) rfl ?_
    refine K5 hs rfl (Y0 rfl rfl) rfl ?_
    refine K5 hs rfl qm_ rfl ?_
    refine K5 hs rfl (E8 (i := i) (e := 27) (n := 64) (sz := 1) rfl rfl kR kR rfl qO) rfl ?_
    refine A3S hs rfl (H9 i rfl kR At.mem qO qO) rfl ?_
    refine K5 hs rfl (Y0 rfl rfl) rfl ?_
    refine K5 hs rfl (H8 rfl) rfl ?_
    refine A2S (H3 2 4 5 12 16 103) ?_
    refine A1k (_) [0, 1, 2, 3, 4, 5, 6, 7, 8, 10, 11] [(0, 0), (1, 1), (3, 0), (4, 1), (7, 0), (8, 1), (2, 2), (5, 2), (6, 0), (9, 2), (10, 0), (11, 0)] kR kR qI fun hs => ?_
    refine K5 hs rfl (E8 (i := 0) (e := 27) (n := 8) (sz := 1) rfl rfl kR kR rfl qD) rfl ?_
    refine A3S hs rfl (K2 rfl kR At.mem qR) rfl ?_
    refine K5 hs rfl (E8 (i := 0) (e := 27) (n := 8) (sz := 1) rfl rfl kR kR rfl qD) rfl ?_
    refine A3S hs rfl (K2 rfl kR At.mem qR) rfl ?_
    refine K5 hs rfl (E8 (i := 0) (e := 27) (n := 8) (sz := 1) rfl rfl kR kR rfl qD) rfl ?_
    refine A3S hs rfl (K2 rfl kR At.mem qR) rfl ?_
    refine B2b rfl rfl (V2 (aS rfl (aS rfl a0)) kR (V6 _ 2 _ _ ra qD qD rfl) rfl ⟨fun _ h => h, ?_⟩)
    refine B2b rfl rfl (V2 (aS rfl (aS rfl a0)) kR (V6 _ 13 _ _ ra qD qD rfl) rfl ⟨fun _ h => h, ?_⟩)
    refine K5 hs rfl (R7 rfl rfl (N7 ra) (N7 ra)) rfl ?_
    refine A1l rfl rfl rfl (V2 (aS rfl (aS rfl a0)) kR (V6 _ 22 _ _ ra qD qD rfl) rfl ?_)
    refine K5 hs rfl (R7 rfl rfl (xor32 (N7 ra) (N7 ra)) (N7 ra)) rfl ?_
    refine K5 hs rfl (H8 rfl) rfl ?_
    refine A2S (N0 2 4 5 12 16 17 103) ?_
    refine A1 ?_
    refine A2 (E8 (i := 0) (e := 27) (n := 8) (sz := 1) rfl rfl kR kR rfl qD) rfl ?_
    refine A0N rfl kR qR rfl ?_
    refine A2 (E8 (i := 1) (e := 27) (n := 8) (sz := 1) rfl rfl kR kR rfl qD) rfl ?_
    refine A0N rfl kR qR rfl ?_
    refine A2 (A2U rfl rfl ra rb) rfl ?_
    refine A2 (E8 (i := 0) (e := 27) (n := 8) (sz := 1) rfl rfl kR kR rfl qD) rfl ?_
    refine A0N rfl kR qR rfl ?_
    refine A2 (E8 (i := 2) (e := 27) (n := 8) (sz := 1) rfl rfl kR kR rfl qD) rfl ?_
    refine A0N rfl kR qR rfl ?_
    refine A2 (A2U rfl rfl ra rc) rfl ?_
    refine A2 (R7 rfl rfl (A6G ra) (A6G ra)) rfl ?_
    refine A2 (E8 (i := 1) (e := 27) (n := 8) (sz := 1) rfl rfl kR kR rfl qD) rfl ?_
    refine A0N rfl kR qR rfl ?_
    refine A2 (E8 (i := 2) (e := 27) (n := 8) (sz := 1) rfl rfl kR kR rfl qD) rfl ?_
    refine A0N rfl kR qR rfl ?_
    refine A2 (A2U rfl rfl rb rc) rfl ?_
    refine A2 (R7 rfl rfl (xor32 (A6G ra) (A6G ra)) (A6G rb)) rfl ?_
    refine as_ (A0 (T6 2 4 5 12 16 17 18 103) (A7 (mv_ (mv_ ?_))))
    refine A2 (Y0 rfl rfl) rfl ?_
    refine mv_ ?_
    refine A2 (Y0 rfl rfl) rfl ?_
    refine A2 (E8 (i := 0) (e := 27) (n := 8) (sz := 1) rfl rfl kR kR rfl qD) rfl ?_
    refine A0N rfl kR qR rfl ?_
    refine A2 (E8 (i := 1) (e := 27) (n := 8) (sz := 1) rfl rfl kR kR rfl qD) rfl ?_
    refine A0N rfl kR qR rfl ?_
    refine A2 (E8 (i := 2) (e := 27) (n := 8) (sz := 1) rfl rfl kR kR rfl qD) rfl ?_
    refine A0N rfl kR qR rfl ?_
    refine A2 (E8 (i := 3) (e := 27) (n := 8) (sz := 1) rfl rfl kR kR rfl qD) rfl ?_
    refine A0N rfl kR qR rfl ?_
    refine mv_ ?_
    refine A2 (Y0 rfl rfl) rfl ?_
    refine A2 (E8 (i := 4) (e := 27) (n := 8) (sz := 1) rfl rfl kR kR rfl qD) rfl ?_
    refine A0N rfl kR qR rfl ?_
    refine A2 (E8 (i := 5) (e := 27) (n := 8) (sz := 1) rfl rfl kR kR rfl qD) rfl ?_
    refine A0N rfl kR qR rfl ?_
    refine A2 (E8 (i := 6) (e := 27) (n := 8) (sz := 1) rfl rfl kR kR rfl qD) rfl ?_
    refine A0N rfl kR qR rfl ?_
    refine A2 (G6 (place := fun i => some (i * 1, 1)) (z := [G3, G3, G3, G3, G3, G3, G3, G3]) (fun _ => by kernel_rfl) (eS rfl (eS rfl (eS rfl (eS rfl (eS rfl (eS rfl (eS rfl (eS rfl e0)))))))) (bdS 0 1 rfl qR (bdS 1 1 rfl qR (bdS 2 1 rfl qR (bdS 3 1 rfl qR (bdS 4 1 rfl qR (bdS 5 1 rfl qR (bdS 6 1 rfl qR (bdS 7 1 rfl qR bd0))))))))) rfl ?_
    refine A7g rfl rfl kR qR (by simp [Value.oneCell']) ?_
    refine C0 (nb (nx (E4 2 4 5 12 103) (A7 ?_)))
    refine A2 (C7 ((i + 1 : Nat) : Int) rfl rfl (E1 qO qO qO)) rfl ?_
    refine mv_ (C0 ?_)
    refine rn (i + 1) qO qO (E4 2 4 5 12 103) (Fit.eq ?_) qI
    rw [rounds, hr]; rfl
   ·
    have hlt : i = 64 := by simp at hc; omega
    subst hlt
    refine D0 (te (re (be rfl (nx (D6 2 4 12) (A3 (A1 (mv_ ?_)))))))
    refine A0 (D8 2 4 12 194) (A4 ?_)
    refine D3 (α := Nat) (fun i => [(2, (vP b2)), (4, (vP b4)), (12, (vP b12)), (194, .int .i64 (i : Int))]) (fun i => [(b12, blk (nums .u32 r.list) _), (b5, blk (nums .u32 W) _), (b4, blk (A5D ⟨0, 0, 0, 0, 0, 0, 0, 0⟩) _), (b2, blk (nums .u32 (A2Y s r i)) _)]) (fun _ => []) (fun i => i ≤ 8) (fun i => 8 - i) 0 (Nat.zero_le _) (D8 2 4 12 194) .rfl qI ?_
    intro i hi
    try dsimp only at hi ⊢
    refine A1 ?_
    refine A2 (D4 rfl rfl rfl) rfl ?_
    refine A0 (E4 2 4 12 194 195) (A3 ?_)
    refine C1 rfl ?_ ?_ <;> intro hc
    ·
     have hlt : i < 8 := by simp at hc; omega
     refine A6 (nx (D8 2 4 12 194) (A3 (A4 (A1 (mv_ (as_ (A0 (E4 2 4 12 19 194) ?_)))))))
     refine A1E (_) [0, 1, 2, 3, 4, 5, 6, 7] [(0, 0), (1, 0), (2, 1), (3, 0), (4, 0), (5, 1), (6, 0), (7, 0), (8, 2)] kR kR qI fun hs => ?_
     refine K5 hs rfl qm_ rfl ?_
     refine K5 hs rfl (E8 (i := i) (e := 27) (n := 8) (sz := 1) rfl rfl kR kR rfl qO) rfl ?_
     refine A3S hs rfl (H9 i rfl kR At.mem qO (by rw [A38 _ _ _ hi]; exact hlt)) rfl ?_
     refine K5 hs rfl qm_ rfl ?_
     refine K5 hs rfl (E8 (i := i) (e := 27) (n := 8) (sz := 1) rfl rfl kR kR rfl qO) rfl ?_
     refine A3S hs rfl (H9 i rfl kR At.mem qO (show i < 8 from hlt)) rfl ?_
     refine K5 hs rfl (Y0 rfl rfl) rfl ?_
     refine K5 hs rfl (E8 (i := i) (e := 27) (n := 8) (sz := 1) rfl rfl kR kR rfl qO) rfl ?_
     refine A1l rfl rfl rfl (I7 (ws := A2Y s r i) i rfl rfl kR qO (by rw [A38 _ _ _ hi]; exact hlt) UpC.upd ?_)
     refine A5z ?_
     refine nb (nx (D8 2 4 12 194) (A7 ?_))
     refine A2 (C7 ((i + 1 : Nat) : Int) rfl rfl (E1 qO qO qO)) rfl ?_
     refine mv_ (C0 ?_)
     refine rn (i + 1) qO qO (D8 2 4 12 194) (Fit.eq ?_) qI
     rw [A8e _ _ _ hlt, A6I _ _ _ hlt]
    ·
     have hlt : i = 8 := by simp at hc; omega
     subst hlt
     refine D0 (te (re (be rfl (nx (D2 2 4) (A1 ?_)))))
     refine A84 (n := 8) rfl kR qR rfl ?_
     refine A7g rfl rfl kR qR E5 ?_
     refine A0 (D7 4) (B4 ?_)
     refine ⟨_, [], [], A3Q (n := 8) rfl rfl kR m2 rfl, List.nil_sublist _, by simp, ?_, rfl, rfl⟩
     unfold V5; rw [hW0, hW, hr]; rfl

end Go.Proofs.YtlilcmjbaknafaaGreatDoor
namespace Go.Px
theorem Fit.head1' {M D : Mem} {x : Nat × Obj} {E : Mem} (h : E.Sublist D) : Fit (M ++ (x :: D)) (M ++ E) := Fit.sub (List.Sublist.append (List.Sublist.refl _) (.cons _ h))
theorem pkB0 {B : Mem} {x : Nat × Obj} : (x :: B).Perm (B ++ [x]) := (List.perm_append_comm (l₁ := [x]))
def vHi (h : Nat) : Value → Value
  | .slice p _ c => .slice p h c
  | v => v
def vLo (k sz : Nat) : Value → Value
  | .slice p n c => .slice (if c = k then p else p.map (·.add (k * sz))) (n - k) (c - k)
  | v => v
def vAt (sz : Nat) (i : Nat) : Value → Value
  | .slice (some a) _ _ => .pointer (some (a.add (i * sz)))
  | v => v
theorem Rd.hiV {R : Mem} {sz n : Nat} {v : Value} {xs : List Value} (h : Rd R sz v n xs) (k : Nat) (hk : k ≤ n) : Rd R sz (vHi k v) k (xs.take (k * sz)) := by
  obtain ⟨p, c, rfl, h2, h3, h4⟩ := h
  exact Rd.hi ⟨p, c, rfl, h2, h3, h4⟩ k hk
theorem Rd.loV {R : Mem} {sz n : Nat} {v : Value} {xs : List Value} (h : Rd R sz v n xs) (k : Nat) (hk : k ≤ n) : Rd R sz (vLo k sz v) (n - k) (xs.drop (k * sz)) := by
  obtain ⟨p, c, rfl, h2, h3, h4⟩ := h
  exact Rd.lo ⟨p, c, rfl, h2, h3, h4⟩ k hk
theorem Sl.loV {sz n : Nat} {v : Value} {xs : List Value} {B : Mem} (h : Sl sz v n xs B) (k : Nat) (hk : k ≤ n) : ∃ B', B'.Sublist B ∧ Sl sz (vLo k sz v) (n - k) (xs.drop (k * sz)) B' := by
  obtain ⟨p, c, rfl, _⟩ := h.val
  exact h.lo k hk
theorem Rd.len {R : Mem} {sz n : Nat} {v : Value} {xs : List Value} (h : Rd R sz v n xs) : xs.length = n * sz := by
  obtain ⟨p, c, rfl, h2, h3, h4⟩ := h; exact h2
def slE (P : Program) (t : TypeId) : Option Nat :=
  match P.underlying t with
  | some (.slice e) => P3 P e
  | _ => none
theorem A1I {P : Program} {t : TypeId} {sz : Nat} (h : slE P t = some sz) : ∃ e, P.underlying t = some (.slice e) ∧ P3 P e = some sz := by
  unfold slE at h
  split at h
  · rename_i e hu; exact ⟨e, hu, h⟩
  · cases h
section rules
variable {P : Program} {R : Mem} {l : Env} {d : Option Nat} {ty t t' e : TypeId} {pos : String} {af : Array Edge} {g : Option (Nat × Bool)} {x y z : Operand} {v : Value} {sz n : Nat} {xs : List Value} {R' : Mem}
theorem A0E (h : Rd R' sz v n xs) (hx : ev l x = some v) (hu : slE P t = some sz) :
    OpQ P R ⟨d, .call { callee := .builtin .len, args := #[x], argTypes := #[t] }, ty, pos, af, g⟩ l (.int .i64 n) := by
  obtain ⟨p, c, rfl, _⟩ := h
  obtain ⟨e, hu, hs⟩ := A1I hu
  exact A0M hx hu
theorem B5q (h : Rd R' sz v n xs) (hx : ev l x = some v) {k : IntKind} {i : Int} (hy : ev l y = some (.int k i)) (hu : slE P t = some sz) (j : Nat) (hi : i = j) (hj : j ≤ n) :
    OpQ P R ⟨d, .slice t x none (some y) none, ty, pos, af, g⟩ l (vHi j v) := by
  obtain ⟨p, c, rfl, h2, h3, h4⟩ := h
  obtain ⟨e, hu, hs⟩ := A1I hu
  exact B36 hx hy hu hs hi (by omega)
theorem B5r (h : Rd R' sz v n xs) (hx : ev l x = some v) {k : IntKind} {i : Int} (hy : ev l y = some (.int k i)) (hu : slE P t = some sz) (j : Nat) (hi : i = j) (hj : j ≤ n) :
    OpQ P R ⟨d, .slice t x (some y) none none, ty, pos, af, g⟩ l (vLo j sz v) := by
  obtain ⟨p, c, rfl, h2, h3, h4⟩ := h
  obtain ⟨e, hu, hs⟩ := A1I hu
  exact B37 hx hy hu hs hi (by omega) (by omega)
theorem B9u (h : Rd R' sz v n xs) (hx : ev l x = some v) {k k' : IntKind} {i i' : Int} (hy : ev l y = some (.int k i)) (hz : ev l z = some (.int k' i')) (hu : slE P t = some sz) (a b : Nat) (hi : i = a) (hi' : i' = b) (hab : a ≤ b) (hb : b ≤ n) :
    OpQ P R ⟨d, .slice t x (some y) (some z) none, ty, pos, af, g⟩ l (vLo a sz (vHi b v)) := by
  obtain ⟨p, c, rfl, h2, h3, h4⟩ := h
  obtain ⟨e, hu, hs⟩ := A1I hu
  exact B39 hx hy hz hu hs hi hi' (by omega) (by omega)
theorem B5s (h : Rd R' sz v n xs) (hx : ev l x = some v) {k : IntKind} {i : Int} (hy : ev l y = some (.int k i)) (hu : slE P t = some sz) (j : Nat) (hi : i = j) (hj : j < n) :
    OpQ P R ⟨d, .indexAddr t x y, ty, pos, af, g⟩ l (vAt sz j v) := by
  obtain ⟨p, c, rfl, h2, h3, h4⟩ := h
  rcases h4 with h4 | ⟨b, o, cs, e', fr, rfl, hb, hx'⟩
  · omega
  · obtain ⟨e, hu, hs⟩ := A1I hu
    simp only [vAt, Addr.add_mid]; exact K4 hx hy hu hs hi hj
theorem A0i (h : Rd R 1 v n xs) {j : Nat} {u : Value} (hx : ev l x = some (vAt 1 j v)) (ht : X9 P t = true) (hj : xs[j]? = some u) : OpQ P R ⟨d, .load t x, ty, pos, af, g⟩ l u := by
  obtain ⟨p, c, rfl, h2, h3, h4⟩ := h
  have := (List.getElem?_eq_some_iff.1 hj).1
  rcases h4 with h4 | ⟨b, o, cs, e', fr, rfl, hb, hx'⟩
  · omega
  · simp only [vAt, Addr.add_mid] at hx
    refine K2 (b := b) (o := o + j * 1) hx ht hb ?_
    rw [Nat.mul_one]; exact hx' j u hj
theorem A5E {k : IntKind} {ws : List Nat} (h : Rd R 1 v n (nums k ws)) {j : Nat} (hx : ev l x = some (vAt 1 j v)) (ht : X9 P t = true) (hj : j < n) : OpQ P R ⟨d, .load t x, ty, pos, af, g⟩ l (.int k ((ws.getD j 0 : Nat) : Int)) :=
  A0i h hx ht (Z8 (by have := h.len; simp at this; omega))
theorem A4M {m j : Nat} {k : IntKind} {i : Int} {cs : List Value} {u : Value} (hx : ev l x = some (.agg cs.toArray)) (hy : ev l y = some (.int k i)) (hu : P.underlying t = some (.array m e)) (hs : P3 P e = some 1) (he : X9 P e = true) (hi : i = j) (hj : j < m) (hu' : cs[j]? = some u) :
    OpQ P R ⟨d, .index t x y, ty, pos, af, g⟩ l u := fun N a w ha hw => by
  subst hi
  unfold P3 at hs
  cases hq : P.info? e with
  | none => simp [hq] at hs
  | some inf =>
    simp only [hq, Option.map_some, Option.some.injEq] at hs
    have h1 : (0 : Int) ≤ (j : Int) ∧ (j : Int) < (m : Int) := ⟨by omega, by omega⟩
    simp only [execOp, ha.ev hx, ha.ev hy, Instr.index, asIntOf, Sem.run_bind, Sem.run_pure, Result.andThen_ok, run_underlying hu]
    simp [h1, sizeOf, typeInfo, hq, hs, part, A2i he, hu']
theorem B2j {m b : Nat} (hx : ev l x = some (.pointer (some ⟨b, 0, none⟩))) (hu : P.underlying t = some (.array m e)) (hs : P3 P e = some sz) :
    OpQ P R ⟨d, .slice t x none none none, ty, pos, af, g⟩ l (.slice (some ⟨b, 0, none⟩) m m) := fun N a w ha hw => by
  unfold P3 at hs
  cases hq : P.info? e with
  | none => simp [hq] at hs
  | some inf =>
    simp only [execOp, ha.ev hx, Instr.sliceAt, Instr.sureAddr, Sem.run_bind, Sem.run_pure, run_underlying hu, Result.andThen_ok]
    have := T5 (P := P) (lo := none) (hi := none) (mx := none) ha o0 o0 o0 false m m w (by simp) (by simp) (by simp) (by simp)
    simp only [Option.map_none] at this ⊢
    simp only [this, Result.andThen_ok]
    simp [sizeOf, typeInfo, hq, Addr.add]
end rules
def txt (ws : List Nat) : ByteArray := ⟨(ws.map UInt8.ofNat).toArray⟩
theorem B2k (ns : List Nat) : ∀ s : ByteArray, (ns.map fun n : Nat => (n : Int)).foldl (fun r n => r.push (UInt8.ofNat n.toNat)) s = s ++ txt ns := by
  induction ns with
  | nil => intro s; apply ByteArray.ext; simp [txt, ByteArray.data_append]
  | cons n ns ih =>
    intro s
    simp only [List.map_cons, List.foldl_cons, ih]
    apply ByteArray.ext
    simp [txt, ByteArray.data_append]
section texts
variable {P : Program} {R : Mem} {l : Env} {d : Option Nat} {ty s t e : TypeId} {pos : String} {af : Array Edge} {g : Option (Nat × Bool)} {x y : Operand} {v : Value} {n : Nat}
def A9h (P : Program) (s t : TypeId) : Bool :=
  match P.underlying s, P.underlying t with
  | some (.slice e), some .string => match P.underlying e with
    | some (.int .u8) => true
    | _ => false
  | _, _ => false
theorem A6J {ws : List Nat} (h : Rd R 1 v n (nums .u8 ws)) (hx : ev l x = some v) (hc : A9h P s t = true) : OpQ P R ⟨d, .convert s t x, ty, pos, af, g⟩ l (.string (txt ws)) := fun N a w ha hw => by
  unfold A9h at hc
  split at hc <;> try cases hc
  rename_i e h1 h2
  split at hc <;> try cases hc
  rename_i h3
  obtain ⟨p, c, rfl, hl, hcc, hb⟩ := h
  have hn : ws.length = n := by simpa using hl
  have he : nums .u8 ws = (ws.map fun n : Nat => (n : Int)).map (Value.int .u8) := by simp [nums]
  simp only [execOp, ha.ev hx, Sem.run_bind, run_convert_bytes_string w s t e _ _ _ h1 h3 h2]
  cases p with
  | none =>
    rcases hb with hb | ⟨b, o, cs, e', fr, hp, hb, hx'⟩
    · have : ws = [] := List.eq_nil_of_length_eq_zero (by omega)
      subst this
      simp [Conv.bytesToString, Sem.run_pure, txt]; rfl
    · cases hp
  | some ad =>
    have hload : (loadCells ad n).run P w = .ok (nums .u8 ws).toArray w := by
      rcases hb with hb | ⟨b, o, cs, e', fr, hp, hb, hx'⟩
      · have : ws = [] := List.eq_nil_of_length_eq_zero (by omega)
        subst this; subst hb
        simp [loadCells, loadCellsFrom, nums]
      · cases hp
        have := run_loadCells_list (P := P) w ⟨b, o, none⟩ (nums .u8 ws) (fun j v hv => by rw [Addr.add_mid, A1j hw hb]; simpa using hx' j v hv)
        rw [nums_len, hn] at this
        exact this
    rw [he] at hload
    rw [run_bytesToString w ad n c _ hload, B2k]
    simp [Sem.run_pure]
theorem A7k {t' : TypeId} {a b : ByteArray} (hx : ev l x = some (.string a)) (hy : ev l y = some (.string b)) (h : a = b) : OpQ P R ⟨d, .binOp .eql t x y t', ty, pos, af, g⟩ l (.bool true) := by
  have := A81 (P := P) (R := R) (d := d) (ty := ty) (pos := pos) (af := af) (g := g) (t := t) (t' := t') hx hy
  rw [h] at this
  simpa using this
theorem A9i {a b : List Nat} (ha : ∀ x ∈ a, x < 256) (hb : ∀ x ∈ b, x < 256) (h : txt a = txt b) : a = b := by
  have h1 : a.map UInt8.ofNat = b.map UInt8.ofNat := by
    have := congrArg ByteArray.data h
    simpa [txt] using this
  have h2 := congrArg (List.map UInt8.toNat) h1
  simp only [List.map_map] at h2
  have key : ∀ l : List Nat, (∀ x ∈ l, x < 256) → List.map (UInt8.toNat ∘ UInt8.ofNat) l = l := by
    intro l hl
    conv => rhs; rw [← List.map_id l]
    refine List.map_congr_left fun x hx => ?_
    have := hl x hx
    simp; omega
  rwa [key a ha, key b hb] at h2
theorem A8f (a b : List Nat) : txt a ++ txt b = txt (a ++ b) := by
  apply ByteArray.ext
  simp [txt, ByteArray.data_append]
end texts
section loud
variable {C : Cx} {l : Env} {M J : Mem} {K : Env → Mem → Mem → Prop} {ty t e : TypeId} {pos : String} {af : Array Edge} {g : Option (Nat × Bool)} {x y : Operand} {d : Nat}
def B7v (P : Program) (t : TypeId) : Bool :=
  match P.underlying t with
  | some (.slice e) => match P.underlying e with
    | some (.int .u8) => true
    | _ => false
  | _ => false
theorem A4a {b n c : Nat} {cs : List Value} {e' : TypeId} {M' : Mem} (hx : ev l x = some (.slice (some ⟨b, 0, none⟩) n c)) (hc : B7v C.P t = true) (hu : Upd M b (blk cs e') (.cells cs.toArray e' (cs.length, cs.length + 1)) M')
    (hd : Nat.blt d C.N = true) (k : K ((d, .slice (some ⟨b, 0, none⟩) n c) :: l) M' J) : OpL C ⟨some d, .convert t t x, ty, pos, af, g⟩ l M J K := by
  intro Qp a w ha hw
  unfold B7v at hc
  split at hc <;> try cases hc
  rename_i e h1
  split at hc <;> try cases hc
  rename_i h2
  have hb := hw.mem _ _ (List.mem_append_left _ hu.mem)
  have hsh : w.shape? b = some (e', cs.length) := by unfold World.shape?; rw [hb]; simp [blk]
  have hlt := P7 hb
  have hrun : (execOp a.eval ⟨some d, .convert t t x, ty, pos, af, g⟩).run C.P w = .ok (.value (.slice (some ⟨b, 0, none⟩) n c)) (w.freeze ⟨b, cs.length, none⟩ 1) := by
    simp [execOp, ha.ev hx, convert, run_underlying h1, run_underlying h2, markStringish, hsh]
  unfold Oper.wp
  rw [hrun]
  refine ⟨_, M', J, ha.put (C8 hd) _, hw.upd hu ?_ ?_ ?_ rfl rfl rfl, k⟩
  · simp only [World.freeze]
    rw [if_neg (by decide)]
    simp [Array.getElem?_modify, hb, blk]
  · intro j hj
    simp only [World.freeze]
    rw [if_neg (by decide)]
    simp [Array.getElem?_modify, Ne.symm hj]
  · simp [World.freeze]
theorem B4d {b m n : Nat} {u : Value} {k : IntKind} {ws us ws' : List Nat} {e' : TypeId} {by_ : Nat} {M' : Mem} (hx : ev l x = some (.slice (some ⟨b, 0, none⟩) m m)) (hy : ev l y = some u) (ht : A14 C.P t = some (e, 1, by_))
    (hr : Rd (M ++ (J ++ C.A)) 1 u n (nums k us)) (hn : n ≤ m) (hm : ws.length = m) (hw' : ws' = us ++ ws.drop n) (hu : Upd M b (blk (nums k ws) e') (blk (nums k ws') e') M') (hd : Nat.blt d C.N = true) (h : K ((d, .int .i64 n) :: l) M' J) :
    OpL C ⟨some d, .call { callee := .builtin .copy, args := #[x, y], argTypes := #[t, t] }, ty, pos, af, g⟩ l M J K := by
  intro Qp a w ha hw
  obtain ⟨i, z, hut, hi, hz, hzs, his, hib⟩ := T0 ht
  obtain ⟨pu, cu, rfl, hul, huc, hub⟩ := hr
  have hru : Rd (M ++ (J ++ C.A)) 1 (.slice pu n cu) n (nums k us) := ⟨pu, cu, rfl, hul, huc, hub⟩
  have hb := hw.mem _ _ (List.mem_append_left _ hu.mem)
  have hf := A2v (P := C.P) (m := n) (c2 := cu) hru hw.fx
  have hus : us.length = n := by simpa using hul
  have hst := run_storeCells_at (P := C.P) b 0 e' (nums k us) 0 (nums k ws).toArray w hb (by simp [hus, hm]; exact hn) E5
  simp only [Nat.add_zero, Nat.zero_add, List.take_zero, List.nil_append, nums_len, hus] at hst
  rw [← A0O, ← H6, ← hw'] at hst
  have hrun : (execOp a.eval ⟨some d, .call { callee := .builtin .copy, args := #[x, y], argTypes := #[t, t] }, ty, pos, af, g⟩).run C.P w = .ok (.value (.int .i64 n)) (w.setRow b (nums k ws').toArray) := by
    simp [execOp, resolve, invoke, builtin, ha.ev hx, ha.ev hy, Builtin.copy_, run_underlying hut, sizeOf, typeInfo, hi, his, Builtin.lenOf, Nat.min_eq_left hn, hf, hst, goInt]
  unfold Oper.wp
  rw [hrun]
  exact ⟨_, M', J, ha.put (C8 hd) _, hw.setRow hu, h⟩
end loud
theorem Sl.fresh {b n sz : Nat} {cs : List Value} {e : TypeId} (h : cs.length = n * sz) (hn : n ≤ maxLen) : Sl sz (.slice (some ⟨b, 0, none⟩) n n) n cs [(b, blk cs e)] :=
  .inr ⟨b, 0, n, cs, e, rfl, rfl, Nat.le_refl _, hn, by omega, h, fun j u hj => by rwa [Nat.zero_add]⟩
theorem Rd.cel {R : Mem} {v : Value} {n sz : Nat} {xs : List Value} (h : Rd R sz v n xs) : Cel v [v] := by
  obtain ⟨p, c, rfl, _⟩ := h; exact ⟨rfl⟩
theorem Sl.cel {B : Mem} {v : Value} {n sz : Nat} {xs : List Value} (h : Sl sz v n xs B) : Cel v [v] := by
  obtain ⟨p, c, rfl, _⟩ := h.val; exact ⟨rfl⟩
def mkT (P : Program) (t : TypeId) : Option (TypeId × IntKind × Nat) :=
  match P.underlying t with
  | some (.slice e) => match P.info? e with
    | some i => match i.zero with
      | some (.int k 0) => if i.size = 1 then some (e, k, i.bytes) else none
      | _ => none
    | none => none
  | _ => none
theorem A9j (k : IntKind) (n : Nat) : madeCells #[.int k 0] n = (nums k (List.replicate n 0)).toArray := by
  apply Array.ext
  · simp [madeCells]
  · intro i h1 h2
    simp [madeCells, nums, Nat.mod_one]
theorem A0r {C : Cx} {l : Env} {M J : Mem} {K : Env → Mem → Mem → Prop} {ty t e : TypeId} {pos : String} {af : Array Edge} {g : Option (Nat × Bool)} {x y : Operand} {d by_ : Nat} {k kl kc : IntKind} {i j : Int} (n : Nat) (hx : ev l x = some (.int kl i)) (hy : ev l y = some (.int kc j)) (ht : mkT C.P t = some (e, k, by_)) (hi : i = n) (hj : j = n)
    (hb : by_ * n ≤ 281474976710656) (hn : n ≤ 9223372036854775807) (hd : Nat.blt d C.N = true) (h : ∀ b, K ((d, .slice (some ⟨b, 0, none⟩) n n) :: l) ((b, blk (nums k (List.replicate n 0)) e) :: M) J) :
    OpL C ⟨some d, .makeSlice t x y, ty, pos, af, g⟩ l M J K := by
  intro Qp a w ha hw
  subst hi; subst hj
  unfold mkT at ht
  split at ht <;> try cases ht
  rename_i e' hu
  split at ht <;> try cases ht
  rename_i inf hi
  split at ht <;> try cases ht
  rename_i k' hz
  split at ht <;> simp only [Option.some.injEq, Prod.mk.injEq, reduceCtorEq] at ht
  rename_i hs
  obtain ⟨rfl, rfl, rfl⟩ := ht
  have hb' : (inf.bytes : Int) * (n : Int) ≤ 281474976710656 := by rw [← Int.natCast_mul]; omega
  have hr := run_make (P := C.P) w t e' inf _ hu hi hz kl kc n n (by omega) (by omega) hb' (by omega)
  simp only [Int.toNat_natCast, hs, Nat.mul_one] at hr
  rw [show (Value.int k' 0).cells = #[.int k' 0] from rfl, A9j] at hr
  unfold Oper.wp
  simp only [execOp, ha.ev hx, ha.ev hy, Sem.run_bind, hr, Result.andThen_ok, Sem.run_pure]
  exact ⟨_, _, J, ha.put (C8 hd) _, hw.alloc _, h _⟩
theorem B9v {C : Cx} {l : Env} {M J : Mem} {K : Env → Mem → Mem → Prop} {ty t : TypeId} {pos : String} {af : Array Edge} {g : Option (Nat × Bool)} {x y : Operand} {v : Value} {k : IntKind} {ws : List Nat} {n j u : Nat} {B M0 : Mem} (h : Sl 1 v n (nums k ws) B) (hx : ev l x = some (vAt 1 j v)) (hy : ev l y = some (.int k (u : Int)))
    (ht : P3 C.P t = some 1) (hj : j < n) (hM : M.Perm (B ++ M0)) (h2 : ∀ B', Sl 1 v n (nums k (ws.set j u)) B' → K l (B' ++ M0) J) :
    OpL C ⟨none, .store t x y, ty, pos, af, g⟩ l M J K := by
  suffices hh : OpL C ⟨none, .store t x y, ty, pos, af, g⟩ l (B ++ M0) J K from fun Qp a w ha hw => hh Qp a w ha (hw.fit (Fit.perm hM) fun _ h => h)
  clear hM
  rcases h with ⟨p, rfl, rfl, hx2, rfl⟩ | ⟨b, o, cap, cs, e, rfl, rfl, h3, h4, h5, h6, h7⟩
  · omega
  · simp only [vAt, Addr.add_mid, Nat.mul_one] at hx
    refine D9 hx hy rfl ht (A4I (by omega)) .hd (h2 [_] (.inr ⟨b, o, cap, _, e, rfl, rfl, h3, h4, by simpa using h5, by simpa using h6, ?_⟩))
    intro i w hi
    rw [A7j] at hi
    rw [List.getElem?_set] at hi ⊢
    by_cases hij : j = i
    · subst hij
      simp only [if_true] at hi ⊢
      simp at hi h6
      rw [if_pos (by omega)]
      rw [← hi.2]
    · rw [if_neg hij] at hi
      rw [if_neg (by omega)]
      exact h7 i w hi
theorem A0H {R : Mem} {v : Value} {n n' : Nat} {xs xs' : List Value} (h : Rd R 1 v n xs) (h1 : n = n') (h2 : xs = xs') : Rd R 1 v n' xs' := by subst h1; subst h2; exact h
theorem W6 {v : Value} {n n' : Nat} {xs xs' : List Value} {B : Mem} (h : Sl 1 v n xs B) (h1 : n = n') (h2 : xs = xs') : Sl 1 v n' xs' B := by subst h1; subst h2; exact h
end Go.Px

