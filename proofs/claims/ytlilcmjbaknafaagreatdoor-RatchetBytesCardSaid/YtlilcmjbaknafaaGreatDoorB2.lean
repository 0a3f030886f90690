/- Part 2 of the texts of this claim, one behind the other. -/
import Derived.Test.YtlilcmjbaknafaaGreatDoorB1
import Derived.Test.YtlilcmjbaknafaaGreatDoorRows
import Derived.Laws.BytesString
import Derived.Laws.MakeOwn
set_option linter.unusedVariables false
set_option linter.unusedSimpArgs false
set_option maxRecDepth 100000
namespace Go.Px
theorem R7 {k : IntKind} (hk : k.signed = false) (n : Nat) : k.wrap (n : Int) = ((n % 2 ^ k.bits : Nat) : Int) := by
  unfold IntKind.wrap
  simp only [hk, Bool.false_and, Bool.false_eq_true, if_false]
  rw [Int.natCast_emod]; simp
theorem B8f (n : Nat) : IntKind.u8.wrap (n : Int) = ((n % 256 : Nat) : Int) := R7 rfl n
theorem B8g (n : Nat) : IntKind.u32.wrap (n : Int) = ((n % 4294967296 : Nat) : Int) := R7 rfl n
theorem A7H (n : Nat) : IntKind.u64.wrap (n : Int) = ((n % 18446744073709551616 : Nat) : Int) := R7 rfl n
theorem A5a {n : Nat} (h : n < 9223372036854775808) : IntKind.i64.wrap (n : Int) = (n : Int) := A2U (by omega) (by omega)
section ops
variable {k : IntKind} {a b : Nat}
theorem addU (hk : k.signed = false) (r : Nat) (h : (a + b) % 2 ^ k.bits = r) : I0 .add k (a : Int) (b : Int) = some (.int k (r : Int)) := by
  simp only [I0]
  rw [show (a : Int) + b = ((a + b : Nat) : Int) from by omega, R7 hk, h]
theorem mulU (hk : k.signed = false) (r : Nat) (h : (a * b) % 2 ^ k.bits = r) : I0 .mul k (a : Int) (b : Int) = some (.int k (r : Int)) := by
  simp only [I0]
  rw [show (a : Int) * b = ((a * b : Nat) : Int) from by simp, R7 hk, h]
theorem C0b (hk : k.signed = false) (r : Nat) (hb : b ≤ 2 ^ k.bits) (h : (a + (2 ^ k.bits - b)) % 2 ^ k.bits = r) : I0 .sub k (a : Int) (b : Int) = some (.int k (r : Int)) := by
  simp only [I0]
  have e : (a : Int) - b = ((a + (2 ^ k.bits - b) : Nat) : Int) - (2 ^ k.bits : Nat) := by omega
  have e2 : k.wrap ((a : Int) - b) = k.wrap ((a + (2 ^ k.bits - b) : Nat) : Int) := by
    unfold IntKind.wrap
    simp only [hk, Bool.false_and, Bool.false_eq_true, if_false]
    rw [e]
    simp
  rw [e2, R7 hk, h]
theorem A5Z (n m : Nat) : BitVec.ofInt n (m : Int) = BitVec.ofNat n m := by
  apply BitVec.eq_of_toNat_eq; simp
theorem C0c (hk : k.signed = false) (ha : a < 2 ^ k.bits) (hb : b < 2 ^ k.bits) : I0 .and k (a : Int) (b : Int) = some (.int k ((a &&& b : Nat) : Int)) := by
  simp only [I0, A5Z]
  rw [BitVec.toNat_and, BitVec.toNat_ofNat, BitVec.toNat_ofNat, Nat.mod_eq_of_lt ha, Nat.mod_eq_of_lt hb, R7 hk, Nat.mod_eq_of_lt (Nat.lt_of_le_of_lt Nat.and_le_left ha)]
theorem orU (hk : k.signed = false) (ha : a < 2 ^ k.bits) (hb : b < 2 ^ k.bits) : I0 .or k (a : Int) (b : Int) = some (.int k ((a ||| b : Nat) : Int)) := by
  simp only [I0, A5Z]
  rw [BitVec.toNat_or, BitVec.toNat_ofNat, BitVec.toNat_ofNat, Nat.mod_eq_of_lt ha, Nat.mod_eq_of_lt hb, R7 hk, Nat.mod_eq_of_lt (Nat.or_lt_two_pow ha hb)]
theorem xorU (hk : k.signed = false) (ha : a < 2 ^ k.bits) (hb : b < 2 ^ k.bits) : I0 .xor k (a : Int) (b : Int) = some (.int k ((a ^^^ b : Nat) : Int)) := by
  simp only [I0, A5Z]
  rw [BitVec.toNat_xor, BitVec.toNat_ofNat, BitVec.toNat_ofNat, Nat.mod_eq_of_lt ha, Nat.mod_eq_of_lt hb, R7 hk, Nat.mod_eq_of_lt (Nat.xor_lt_two_pow ha hb)]
end ops
section rules
variable {P : Program} {R : Mem} {l : Env} {d : Option Nat} {ty t t' : TypeId} {pos : String} {af : Array Edge} {g : Option (Nat × Bool)} {x y : Operand} {k k' : IntKind} {a b : Nat}
theorem Z4 (hx : ev l x = some (.int .u32 (a : Int))) (hy : ev l y = some (.int .u32 (b : Int))) : OpQ P R ⟨d, .binOp .add t x y t', ty, pos, af, g⟩ l (.int .u32 (((a + b) % 4294967296 : Nat) : Int)) := D9 hx hy (addU rfl _ rfl)
theorem A4q (hk : k.signed = false) (hx : ev l x = some (.int k (a : Int))) (hy : ev l y = some (.int k (b : Int))) (ha : a < 2 ^ k.bits) (hb : b < 2 ^ k.bits) : OpQ P R ⟨d, .binOp .and t x y t', ty, pos, af, g⟩ l (.int k ((a &&& b : Nat) : Int)) := D9 hx hy (C0c hk ha hb)
theorem B2S (hk : k.signed = false) (hx : ev l x = some (.int k (a : Int))) (hy : ev l y = some (.int k (b : Int))) (ha : a < 2 ^ k.bits) (hb : b < 2 ^ k.bits) : OpQ P R ⟨d, .binOp .or t x y t', ty, pos, af, g⟩ l (.int k ((a ||| b : Nat) : Int)) := D9 hx hy (orU hk ha hb)
theorem B8h (hk : k.signed = false) (hx : ev l x = some (.int k (a : Int))) (hy : ev l y = some (.int k (b : Int))) (ha : a < 2 ^ k.bits) (hb : b < 2 ^ k.bits) : OpQ P R ⟨d, .binOp .xor t x y t', ty, pos, af, g⟩ l (.int k ((a ^^^ b : Nat) : Int)) := D9 hx hy (xorU hk ha hb)
theorem T0 (s : Nat) (hx : ev l x = some (.int k (a : Int))) {i : Int} (hy : ev l y = some (.int k' i)) (hi : i = s) (hs : s ≤ k.bits) : OpQ P R ⟨d, .binOp .shr t x y t', ty, pos, af, g⟩ l (.int k ((a >>> s : Nat) : Int)) := by
  subst hi
  have := B8c (P := P) (R := R) (d := d) (ty := ty) (pos := pos) (af := af) (g := g) (t := t) (t' := t') hx hy (by omega)
  rw [Int.toNat_natCast, Nat.min_eq_left hs] at this
  have e : (a : Int).fdiv (2 ^ s) = ((a >>> s : Nat) : Int) := by
    rw [Int.fdiv_eq_ediv_of_nonneg _ (Int.pow_nonneg (by decide)), Nat.shiftRight_eq_div_pow, Int.natCast_ediv]; simp
  rwa [e] at this
theorem A2E (hk : k.signed = false) (s : Nat) (hx : ev l x = some (.int k (a : Int))) {i : Int} (hy : ev l y = some (.int k' i)) (hi : i = s) (hs : s ≤ k.bits) : OpQ P R ⟨d, .binOp .shl t x y t', ty, pos, af, g⟩ l (.int k (((a <<< s) % 2 ^ k.bits : Nat) : Int)) := by
  subst hi
  have := B91 (P := P) (R := R) (d := d) (ty := ty) (pos := pos) (af := af) (g := g) (t := t) (t' := t') hx hy (by omega)
  rw [Int.toNat_natCast, Nat.min_eq_left hs, show (a : Int) * 2 ^ s = ((a <<< s : Nat) : Int) from by rw [Nat.shiftLeft_eq]; simp, R7 hk] at this
  exact this
theorem B8i (hk : k.signed = false) (hx : ev l x = some (.int k (a : Int))) (ha : a < 2 ^ k.bits) : OpQ P R ⟨d, .unOp .xor t x, ty, pos, af, g⟩ l (.int k (((2 ^ k.bits - 1) ^^^ a : Nat) : Int)) := by
  have := B93 (P := P) (R := R) (d := d) (ty := ty) (pos := pos) (af := af) (g := g) (t := t) hx
  have e : (if k.signed = true then -1 else k.max : Int) = ((2 ^ k.bits - 1 : Nat) : Int) := by
    simp only [hk, Bool.false_eq_true, if_false, IntKind.max]
    cases k <;> simp_all [IntKind.bits, IntKind.signed]
  have h2 : 2 ^ k.bits - 1 < 2 ^ k.bits := Nat.sub_lt (Nat.two_pow_pos _) (by decide)
  rw [e, A5Z, A5Z, BitVec.toNat_xor, BitVec.toNat_ofNat, BitVec.toNat_ofNat, Nat.mod_eq_of_lt ha, Nat.mod_eq_of_lt h2, R7 hk, Nat.mod_eq_of_lt (Nat.xor_lt_two_pow h2 ha)] at this
  exact this
theorem K2 {s : TypeId} (r : Nat) (hx : ev l x = some (.int k (a : Int))) (hc : A45 P s t = some k') (h : k'.wrap (a : Int) = (r : Int)) : OpQ P R ⟨d, .convert s t x, ty, pos, af, g⟩ l (.int k' (r : Int)) := A49 _ hx hc h
theorem A9J (hx : ev l x = some (.int k (a : Int))) (hy : ev l y = some (.int k (b : Int))) (hb : b ≠ 0) : OpQ P R ⟨d, .binOp .rem t x y t', ty, pos, af, g⟩ l (.int k ((a % b : Nat) : Int)) := by
  have := B90 (P := P) (R := R) (d := d) (ty := ty) (pos := pos) (af := af) (g := g) (t := t) (t' := t') hx hy (by omega)
  rw [Int.tmod_eq_emod_of_nonneg (by omega), ← Int.natCast_emod] at this
  exact this
theorem A9K (hx : ev l x = some (.int k (a : Int))) (hy : ev l y = some (.int k (b : Int))) (hb : b ≠ 0) (h : k.wrap ((a / b : Nat) : Int) = ((a / b : Nat) : Int)) : OpQ P R ⟨d, .binOp .quo t x y t', ty, pos, af, g⟩ l (.int k ((a / b : Nat) : Int)) := by
  have := B8b (P := P) (R := R) (d := d) (ty := ty) (pos := pos) (af := af) (g := g) (t := t) (t' := t') hx hy (by omega)
  rw [Int.tdiv_eq_ediv_of_nonneg (by omega), ← Int.natCast_ediv, h] at this
  exact this
end rules
def nums (k : IntKind) (ws : List Nat) : List Value := ws.map fun n : Nat => Value.int k (n : Int)
section nums
variable {k : IntKind} {ws us : List Nat}
@[simp] theorem nums_len : (nums k ws).length = ws.length := by simp [nums]
theorem H6 : nums k (ws ++ us) = nums k ws ++ nums k us := by simp [nums]
theorem A09 (n : Nat) : nums k (ws.take n) = (nums k ws).take n := by simp [nums, List.map_take]
theorem A0v (n : Nat) : nums k (ws.drop n) = (nums k ws).drop n := by simp [nums, List.map_drop]
theorem A7I (i n : Nat) : nums k (ws.set i n) = (nums k ws).set i (.int k (n : Int)) := by simp [nums, List.map_set]
theorem F3 : ∀ c ∈ nums k ws, c.oneCell' = true := by
  intro c hc
  obtain ⟨n, _, rfl⟩ := List.mem_map.1 hc
  rfl
theorem P7 {i : Nat} (h : i < ws.length) : (nums k ws)[i]? = some (.int k ((ws.getD i 0 : Nat) : Int)) := by
  simp [nums, List.getElem?_eq_getElem h, List.getD]
theorem getD_lt {ws : List Nat} {b i : Nat} (h : ∀ n ∈ ws, n < b) (hb : 0 < b) : ws.getD i 0 < b := by
  rw [List.getD]
  cases hi : ws[i]? with
  | none => exact hb
  | some n => exact h n (List.mem_of_getElem? hi)
end nums
theorem Fit.eq {M M' : Mem} (h : M = M') : Fit M M' := h ▸ .rfl
theorem A5b {v : Value} : ∀ {cs : List Value} {o : Nat}, o < cs.length → SetL cs o v (cs.set o v)
  | [], _, h => by simp at h
  | x :: r, 0, _ => .hd
  | x :: r, o + 1, h => .tl (A5b (by simpa using h))
theorem A2V {ws us : List Nat} {i : Nat} (h : i < ws.length) : (ws ++ us).getD i 0 = ws.getD i 0 := by
  simp [List.getD, List.getElem?_append_left h]
theorem A9L {ws : List Nat} {i n x : Nat} (h : ws.length = i) (hi : i < n) : (ws ++ List.replicate (n - i) 0).set i x = (ws ++ [x]) ++ List.replicate (n - (i + 1)) 0 := by
  rw [List.set_append_right _ _ (by omega), h, Nat.sub_self, show n - i = (n - (i + 1)) + 1 by omega, List.replicate_succ]
  simp
section rules2
variable {P : Program} {R : Mem} {l : Env} {d : Option Nat} {ty t t' : TypeId} {pos : String} {af : Array Edge} {g : Option (Nat × Bool)} {x y : Operand} {k k' : IntKind} {a b : Nat}
theorem A3k (hx : ev l x = some (.int .u32 (a : Int))) (hy : ev l y = some (.int .u32 (b : Int))) (ha : a < 4294967296) (hb : b < 4294967296) : OpQ P R ⟨d, .binOp .and t x y t', ty, pos, af, g⟩ l (.int .u32 ((a &&& b : Nat) : Int)) := A4q rfl hx hy ha hb
theorem A2F (hx : ev l x = some (.int .u32 (a : Int))) (hy : ev l y = some (.int .u32 (b : Int))) (ha : a < 4294967296) (hb : b < 4294967296) : OpQ P R ⟨d, .binOp .or t x y t', ty, pos, af, g⟩ l (.int .u32 ((a ||| b : Nat) : Int)) := B2S rfl hx hy ha hb
theorem T9 (hx : ev l x = some (.int .u32 (a : Int))) (hy : ev l y = some (.int .u32 (b : Int))) (ha : a < 4294967296) (hb : b < 4294967296) : OpQ P R ⟨d, .binOp .xor t x y t', ty, pos, af, g⟩ l (.int .u32 ((a ^^^ b : Nat) : Int)) := B8h rfl hx hy ha hb
theorem B5Z (hx : ev l x = some (.int .u32 (a : Int))) (ha : a < 4294967296) : OpQ P R ⟨d, .unOp .xor t x, ty, pos, af, g⟩ l (.int .u32 ((4294967295 ^^^ a : Nat) : Int)) := B8i (k := .u32) rfl hx ha
theorem A1a (s : Nat) (hx : ev l x = some (.int .u32 (a : Int))) {i : Int} (hy : ev l y = some (.int k' i)) (hi : i = s) (hs : s ≤ 32) : OpQ P R ⟨d, .binOp .shl t x y t', ty, pos, af, g⟩ l (.int .u32 (((a <<< s) % 4294967296 : Nat) : Int)) := A2E (k := .u32) rfl s hx hy hi hs
theorem A9M (hx : ev l x = some (.int .u8 (a : Int))) (hy : ev l y = some (.int .u8 (b : Int))) (ha : a < 256) (hb : b < 256) : OpQ P R ⟨d, .binOp .xor t x y t', ty, pos, af, g⟩ l (.int .u8 ((a ^^^ b : Nat) : Int)) := B8h rfl hx hy ha hb
theorem A1D {s : TypeId} (hx : ev l x = some (.int k (a : Int))) (hc : A45 P s t = some .u8) : OpQ P R ⟨d, .convert s t x, ty, pos, af, g⟩ l (.int .u8 ((a % 256 : Nat) : Int)) := K2 _ hx hc (B8f a)
theorem B4M {s : TypeId} (hx : ev l x = some (.int k (a : Int))) (hc : A45 P s t = some .u32) : OpQ P R ⟨d, .convert s t x, ty, pos, af, g⟩ l (.int .u32 ((a % 4294967296 : Nat) : Int)) := K2 _ hx hc (B8g a)
theorem A3l {s : TypeId} (hx : ev l x = some (.int k (a : Int))) (hc : A45 P s t = some .u64) : OpQ P R ⟨d, .convert s t x, ty, pos, af, g⟩ l (.int .u64 ((a % 18446744073709551616 : Nat) : Int)) := K2 _ hx hc (A7H a)
theorem Z5 {s : TypeId} (hx : ev l x = some (.int k (a : Int))) (hc : A45 P s t = some k') (h : a < 2 ^ (k'.bits - 1)) : OpQ P R ⟨d, .convert s t x, ty, pos, af, g⟩ l (.int k' (a : Int)) := by
  refine K2 _ hx hc ?_
  have h2 : 2 ^ k'.bits = 2 * 2 ^ (k'.bits - 1) := by cases k' <;> rfl
  cases hs : k'.signed with
  | false => rw [R7 hs, Nat.mod_eq_of_lt (by omega)]
  | true =>
    have h3 : (2 : Int) ^ k'.bits = 2 * ((2 ^ (k'.bits - 1) : Nat) : Int) := by
      have e0 : (2 : Int) ^ k'.bits = ((2 ^ k'.bits : Nat) : Int) := by simp
      rw [e0, h2]; omega
    unfold IntKind.wrap
    have e1 : (a : Int) % 2 ^ k'.bits = a := Int.emod_eq_of_lt (by omega) (by rw [h3]; omega)
    simp only [e1, hs, Bool.true_and]
    have e2 : ¬ ((2 : Int) ^ (k'.bits - 1) ≤ (a : Int)) := by
      have : ((2 ^ (k'.bits - 1) : Nat) : Int) = 2 ^ (k'.bits - 1) := by simp
      omega
    simp [e2]
theorem I3 {k : IntKind} {ws : List Nat} {e : TypeId} {fr : Nat × Nat} {b o : Nat} (i : Nat) (hx : ev l x = some (.pointer (some ⟨b, o, none⟩))) (ht : Z3 P t = true) (hb : (b, Obj.cells (nums k ws).toArray e fr) ∈ R) (ho : o = i) (hi : i < ws.length) :
    OpQ P R ⟨d, .load t x, ty, pos, af, g⟩ l (.int k ((ws.getD i 0 : Nat) : Int)) := I7 hx ht hb (by rw [ho]; exact P7 hi)
end rules2
theorem I8 {C : Cx} {l : Env} {M J : Mem} {K : Env → Mem → Mem → Prop} {ty t : TypeId} {pos : String} {af : Array Edge} {g : Option (Nat × Bool)} {x y : Operand} {k : IntKind} {ws : List Nat} {e : TypeId} {b o n : Nat} {M' : Mem} (i : Nat)
    (hx : ev l x = some (.pointer (some ⟨b, o, none⟩))) (hy : ev l y = some (.int k (n : Int))) (ht : Q4 C.P t = some 1) (ho : o = i) (hi : i < ws.length) (hu : Upd M b (blk (nums k ws) e) (blk (nums k (ws.set i n)) e) M') (h : K l M' J) :
    OpL C ⟨none, .store t x y, ty, pos, af, g⟩ l M J K :=
  E0 hx hy rfl ht (cs' := nums k (ws.set i n)) (by rw [A7I, ho]; exact A5b (by simpa using hi)) hu h
theorem Rd.nums {R : Mem} {k : IntKind} {ws : List Nat} {v : Value} {n : Nat} (h : Rd R 1 v n (nums k ws)) (hn : 0 < n) :
    ∃ b o c cs e fr, v = .slice (some ⟨b, o, none⟩) n c ∧ (b, Obj.cells (List.toArray cs) e fr) ∈ R ∧ ∀ i, i < n → cs[o + i * 1]? = some (.int k ((ws.getD i 0 : Nat) : Int)) := by
  obtain ⟨p, c, rfl, hl, hc, hb⟩ := h
  rcases hb with hb | ⟨b, o, cs, e, fr, rfl, hb, hx⟩
  · omega
  · refine ⟨b, o, c, cs, e, fr, rfl, hb, fun i hi => ?_⟩
    rw [Nat.mul_one]
    simp at hl
    exact hx i _ (P7 (by omega))
end Go.Px

namespace Go.Px
def rotr (x n : Nat) : Nat := (x >>> n) ||| ((x <<< (32 - n)) % 4294967296)
def sg0 (a : Nat) : Nat := rotr a 7 ^^^ rotr a 18 ^^^ (a >>> 3)
def sg1 (b : Nat) : Nat := rotr b 17 ^^^ rotr b 19 ^^^ (b >>> 10)
def B2T (w : List Nat) (i : Nat) : Nat :=
  (((w.getD (i - 16) 0 + sg0 (w.getD (i - 15) 0)) % 4294967296 + w.getD (i - 7) 0) % 4294967296 + sg1 (w.getD (i - 2) 0)) % 4294967296
def wx (w : List Nat) : Nat → List Nat
  | 0 => w
  | n + 1 => wx w n ++ [B2T (wx w n) (w.length + n)]
theorem A50 (w : List Nat) (n : Nat) : (wx w n).length = w.length + n := by
  induction n with
  | zero => rfl
  | succ n ih => simp [wx, ih]; omega
structure S8 where
  a : Nat
  b : Nat
  c : Nat
  d : Nat
  e : Nat
  f : Nat
  g : Nat
  h : Nat
def S8.list (s : S8) : List Nat := [s.a, s.b, s.c, s.d, s.e, s.f, s.g, s.h]
def S8.ok (s : S8) : Prop := ∀ x ∈ s.list, x < 4294967296
def bs1 (e : Nat) : Nat := rotr e 6 ^^^ rotr e 11 ^^^ rotr e 25
def bs0 (a : Nat) : Nat := rotr a 2 ^^^ rotr a 13 ^^^ rotr a 22
def chz (e f g : Nat) : Nat := (e &&& f) ^^^ ((4294967295 ^^^ e) &&& g)
def maj (a b c : Nat) : Nat := (a &&& b) ^^^ (a &&& c) ^^^ (b &&& c)
def tmp1 (s : S8) (k w : Nat) : Nat := ((((s.h + bs1 s.e) % 4294967296 + chz s.e s.f s.g) % 4294967296 + k) % 4294967296 + w) % 4294967296
def S8.step (s : S8) (k w : Nat) : S8 :=
  ⟨((tmp1 s k w + bs0 s.a) % 4294967296 + maj s.a s.b s.c) % 4294967296, s.a, s.b, s.c, (s.d + tmp1 s k w) % 4294967296, s.e, s.f, s.g⟩
def rounds (ks ws : List Nat) (s : S8) : Nat → S8
  | 0 => s
  | n + 1 => (rounds ks ws s n).step (ks.getD n 0) (ws.getD n 0)
def S8.plus (s t : S8) : S8 :=
  ⟨(s.a + t.a) % 4294967296, (s.b + t.b) % 4294967296, (s.c + t.c) % 4294967296, (s.d + t.d) % 4294967296, (s.e + t.e) % 4294967296, (s.f + t.f) % 4294967296, (s.g + t.g) % 4294967296, (s.h + t.h) % 4294967296⟩
def B74 (p : List Nat) (i : Nat) : Nat := ((p.getD (4 * i) 0 * 256 + p.getD (4 * i + 1) 0) * 256 + p.getD (4 * i + 2) 0) * 256 + p.getD (4 * i + 3) 0
def X5 (p : List Nat) (n : Nat) : List Nat := (List.range n).map (B74 p)
def W2 (ks : List Nat) (s : S8) (p : List Nat) : S8 := s.plus (rounds ks (wx (X5 p 16) 48) s 64)
def A4r (ks : List Nat) : Nat → S8 → List Nat → S8
  | 0, s, _ => s
  | n + 1, s, p => A4r ks n (W2 ks s (p.take 64)) (p.drop 64)
def A3m (n : Nat) : Nat := (119 - n % 64) % 64
def B2U (n : Nat) (k : Nat) : List Nat := (List.range k).map fun i => (8 * n) >>> (56 - 8 * i) % 256
def L6 (p : List Nat) : List Nat := p ++ (128 :: (List.replicate (A3m p.length) 0 ++ B2U p.length 8))
def B50 (x : Nat) : List Nat := [(x >>> 24) % 256, (x >>> 16) % 256, (x >>> 8) % 256, x % 256]
def S8.bytes (s : S8) : List Nat := s.list.flatMap B50
def A1X : List Nat := [1116352408, 1899447441, 3049323471, 3921009573, 961987163, 1508970993, 2453635748, 2870763221, 3624381080, 310598401, 607225278, 1426881987, 1925078388, 2162078206, 2614888103, 3248222580, 3835390401, 4022224774, 264347078, 604807628, 770255983, 1249150122, 1555081692, 1996064986, 2554220882, 2821834349, 2952996808, 3210313671, 3336571891, 3584528711, 113926993, 338241895, 666307205, 773529912, 1294757372, 1396182291, 1695183700, 1986661051, 2177026350, 2456956037, 2730485921, 2820302411, 3259730800, 3345764771, 3516065817, 3600352804, 4094571909, 275423344, 430227734, 506948616, 659060556, 883997877, 958139571, 1322822218, 1537002063, 1747873779, 1955562222, 2024104815, 2227730452, 2361852424, 2428436474, 2756734187, 3204031479, 3329325298]
def A2G : S8 := ⟨1779033703, 3144134277, 1013904242, 2773480762, 1359893119, 2600822924, 528734635, 1541459225⟩
def A0k (p : List Nat) : List Nat := (A4r A1X ((L6 p).length / 64) A2G (L6 p)).bytes
def A2H (key : List Nat) (x : Nat) : List Nat := (key ++ List.replicate (64 - key.length) 0).map (· ^^^ x)
def A0W (key : List Nat) : List Nat := if 64 < key.length then A0k key else key
def A6X (key p : List Nat) : List Nat := A0k (A2H (A0W key) 92 ++ A0k (A2H (A0W key) 54 ++ p))
theorem B51 : ∀ x ∈ A1X, x < 4294967296 := by decide
theorem A5c : A2G.ok := by unfold S8.ok; decide
theorem P3 {x n : Nat} (h : x < 4294967296) : rotr x n < 4294967296 := by
  unfold rotr
  refine Nat.or_lt_two_pow (n := 32) ?_ (Nat.mod_lt _ (by decide))
  exact Nat.lt_of_le_of_lt (Nat.shiftRight_le _ _) h
theorem xor32 {a b : Nat} (ha : a < 4294967296) (hb : b < 4294967296) : a ^^^ b < 4294967296 := Nat.xor_lt_two_pow (n := 32) ha hb
theorem B2F {a b : Nat} (ha : a < 4294967296) (hb : b < 4294967296) : a ||| b < 4294967296 := Nat.or_lt_two_pow (n := 32) ha hb
theorem A63 {a b : Nat} (ha : a < 4294967296) : a &&& b < 4294967296 := Nat.lt_of_le_of_lt Nat.and_le_left ha
theorem A9N {a n : Nat} (ha : a < 4294967296) : a >>> n < 4294967296 := Nat.lt_of_le_of_lt (Nat.shiftRight_le _ _) ha
theorem U0 {a : Nat} : a % 4294967296 < 4294967296 := Nat.mod_lt _ (by decide)
theorem S8.ok_iff {s : S8} : s.ok ↔ s.a < 4294967296 ∧ s.b < 4294967296 ∧ s.c < 4294967296 ∧ s.d < 4294967296 ∧ s.e < 4294967296 ∧ s.f < 4294967296 ∧ s.g < 4294967296 ∧ s.h < 4294967296 := by
  simp [S8.ok, S8.list]
theorem S8.ok.step {s : S8} (h : s.ok) (k w : Nat) : (s.step k w).ok := by
  rw [S8.ok_iff] at h ⊢
  obtain ⟨h1, h2, h3, h4, h5, h6, h7, h8⟩ := h
  exact ⟨U0, h1, h2, h3, U0, h5, h6, h7⟩
theorem S8.ok.plus (s t : S8) : (s.plus t).ok := by
  rw [S8.ok_iff]
  exact ⟨U0, U0, U0, U0, U0, U0, U0, U0⟩
theorem S8.ok.rounds {s : S8} (h : s.ok) (ks ws : List Nat) (n : Nat) : (rounds ks ws s n).ok := by
  induction n with
  | zero => exact h
  | succ n ih => exact ih.step _ _
theorem A64 (ks : List Nat) (s : S8) (p : List Nat) : (W2 ks s p).ok := S8.ok.plus _ _
theorem A5d (ks : List Nat) : ∀ (n : Nat) {s : S8} (p : List Nat), s.ok → (A4r ks n s p).ok
  | 0, _, _, h => h
  | n + 1, s, p, _ => A5d ks n _ (A64 ks s _)
theorem A3n (ks : List Nat) : ∀ (n : Nat) (s : S8) (p : List Nat), A4r ks (n + 1) s p = W2 ks (A4r ks n s p) ((p.drop (64 * n)).take 64)
  | 0, s, p => by simp [A4r]
  | n + 1, s, p => by
    rw [A4r, A3n ks n, A4r, List.drop_drop, show 64 + 64 * n = 64 * (n + 1) by omega]
theorem A5e (ks : List Nat) : ∀ (n : Nat) (s : S8) (p q : List Nat), 64 * n ≤ p.length → A4r ks n s (p ++ q) = A4r ks n s p
  | 0, s, p, q, h => rfl
  | n + 1, s, p, q, h => by
    rw [A4r, A4r, List.take_append_of_le_length (by omega), List.drop_append_of_le_length (by omega), A5e ks n _ _ _ (by rw [List.length_drop]; omega)]
theorem B52 {p : List Nat} (h : ∀ x ∈ p, x < 256) (i : Nat) : B74 p i < 4294967296 := by
  have := fun j => getD_lt (i := j) h (by decide)
  have h0 := this (4 * i); have h1 := this (4 * i + 1); have h2 := this (4 * i + 2); have h3 := this (4 * i + 3)
  unfold B74; omega
theorem B2V {p : List Nat} (h : ∀ x ∈ p, x < 256) (n : Nat) : ∀ x ∈ X5 p n, x < 4294967296 := by
  intro x hx
  obtain ⟨i, _, rfl⟩ := List.mem_map.1 hx
  exact B52 h i
theorem A3o (p : List Nat) (n : Nat) : (X5 p n).length = n := by simp [X5]
theorem A8H (p : List Nat) (n : Nat) : X5 p (n + 1) = X5 p n ++ [B74 p n] := by simp [X5, List.range_succ]
theorem B56 {w : List Nat} (h : ∀ x ∈ w, x < 4294967296) : ∀ n, ∀ x ∈ wx w n, x < 4294967296
  | 0, x, hx => h x hx
  | n + 1, x, hx => by
    rcases List.mem_append.1 hx with hx | hx
    · exact B56 h n x hx
    · simp at hx; subst hx; exact U0
theorem B58 {a b c d : Nat} (ha : a < 256) (hb : b < 256) (hc : c < 256) (hd : d < 256) :
    ((((a <<< 24) % 4294967296 ||| (b <<< 16) % 4294967296) ||| (c <<< 8) % 4294967296) ||| d) = ((a * 256 + b) * 256 + c) * 256 + d := by
  have e1 : a <<< 24 = (a <<< 8) <<< 16 := by rw [← Nat.shiftLeft_add]
  have f1 : (a <<< 24) % 4294967296 = a <<< 24 := Nat.mod_eq_of_lt (by rw [Nat.shiftLeft_eq]; omega)
  have f2 : (b <<< 16) % 4294967296 = b <<< 16 := Nat.mod_eq_of_lt (by rw [Nat.shiftLeft_eq]; omega)
  have f3 : (c <<< 8) % 4294967296 = c <<< 8 := Nat.mod_eq_of_lt (by rw [Nat.shiftLeft_eq]; omega)
  rw [f1, f2, f3]
  have g1 : (a <<< 24 ||| b <<< 16) = (a * 256 + b) <<< 16 := by
    rw [e1, ← Nat.shiftLeft_or_distrib, ← Nat.shiftLeft_add_eq_or_of_lt (i := 8) hb, Nat.shiftLeft_eq a 8]
  have g2 : ((a * 256 + b) <<< 16 ||| c <<< 8) = ((a * 256 + b) * 256 + c) <<< 8 := by
    rw [show (16 : Nat) = 8 + 8 from rfl, Nat.shiftLeft_add, ← Nat.shiftLeft_or_distrib, ← Nat.shiftLeft_add_eq_or_of_lt (i := 8) hc, Nat.shiftLeft_eq (a * 256 + b) 8]
  rw [g1, g2, ← Nat.shiftLeft_add_eq_or_of_lt (i := 8) hd, Nat.shiftLeft_eq _ 8]
end Go.Px

namespace Go.Proofs.YtlilcmjbaknafaaGreatDoor
open Go.Px
theorem W3 (x n : Nat) (k : Int) (A : Mem) (hx : x < 4294967296) (h0 : 0 < n) (hn : n < 32) (hk : k = -(n : Int)) : FnV Tryz.prog 118 [.int .u32 (x : Int), .int .i64 k] A (.int .u32 (rotr x n : Nat)) := by
 refine FnX.enter (N := 17) Tryz.func118 rfl rfl rfl fun w => ?_
 refine B4 (D3 0 1) (A1 (as_ (A0 (D3 0 1) (A1 (mv_ ?_)))))
 refine A2 (A49 (k' := .u64) ((18446744073709551616 - n : Nat) : Int) rfl kR (by unfold IntKind.wrap; simp [IntKind.bits, IntKind.signed]; omega)) rfl ?_
 refine A2 (D1 ((32 - n : Nat) : Int) rfl rfl ((C0c (k := .u64) (b := 31) rfl (by show _ < 2 ^ 64; omega) qD).trans (by rw [Nat.and_two_pow_sub_one_eq_mod _ 5, show (18446744073709551616 - n) % 2 ^ 5 = 32 - n by omega]))) rfl ?_
 refine as_ (A0 (D3 0 5) (A1 (mv_ (mv_ ?_))))
 refine A2 (A1a (32 - n) rfl rfl rfl qO) rfl ?_
 refine mv_ (mv_ ?_)
 refine A2 (D1 ((n : Nat) : Int) rfl rfl ((C0b (k := .u64) (a := 32) (b := 32 - n) rfl n (by show _ ≤ 2 ^ 64; omega) (by show (32 + (18446744073709551616 - (32 - n))) % 18446744073709551616 = n; omega)))) rfl ?_
 refine A2 (T0 n rfl rfl rfl (by show n ≤ 32; omega)) rfl ?_
 refine A2 (A2F rfl rfl U0 (A9N hx)) rfl ?_
 refine as_ (A0 (D5 4) (B0 ?_))
 exact ⟨_, [], [], I4 rfl rfl, List.nil_sublist _, by simp, by rw [Nat.or_comm]; rfl, rfl, rfl⟩
abbrev A51 (s : S8) : List Value := [.int .u32 (s.a : Int), .int .u32 (s.b : Int), .int .u32 (s.c : Int), .int .u32 (s.d : Int), .int .u32 (s.e : Int), .int .u32 (s.f : Int), .int .u32 (s.g : Int), .int .u32 (s.h : Int)]
def A3p (s r : S8) (i : Nat) : LN := (s.plus r).list.take i ++ s.list.drop i
theorem A4D (s r : S8) (i : Nat) (h : i ≤ 8) : (A3p s r i).length = 8 := by simp [A3p, S8.list]; omega
theorem A8I (s r : S8) (i : Nat) (h : i < 8) : (A3p s r i).getD i 0 = s.list.getD i 0 := by
  have : i = 0 ∨ i = 1 ∨ i = 2 ∨ i = 3 ∨ i = 4 ∨ i = 5 ∨ i = 6 ∨ i = 7 := by omega
  rcases this with rfl | rfl | rfl | rfl | rfl | rfl | rfl | rfl <;> rfl
theorem A65 (s r : S8) (i : Nat) (h : i < 8) : (A3p s r i).set i ((s.list.getD i 0 + r.list.getD i 0) % 4294967296) = A3p s r (i + 1) := by
  have : i = 0 ∨ i = 1 ∨ i = 2 ∨ i = 3 ∨ i = 4 ∨ i = 5 ∨ i = 6 ∨ i = 7 := by omega
  rcases this with rfl | rfl | rfl | rfl | rfl | rfl | rfl | rfl <;> rfl
theorem A9O {w : LN} {us : LN} {i : Nat} (h : w.length = i) (h16 : 16 ≤ i) (h64 : i < 64) :
    ((((w ++ us).getD (i - 16) 0 + sg0 ((w ++ us).getD (i - 15) 0)) % 4294967296 + (w ++ us).getD (i - 7) 0) % 4294967296 + sg1 ((w ++ us).getD (i - 2) 0)) % 4294967296 = B2T w i := by
  rw [A2V qO, A2V qO, A2V qO, A2V qO]; rfl
theorem A4E (s : S8) (hs0 : s.ok) (p : LN) (hb : ∀ x ∈ p, x < 256) (v : Value) (A : Mem) (hv : Rd A 1 v 64 (nums .u8 p)) {ek : TypeId} {fk : Nat × Nat} (hk : (1, Obj.cells (nums .u32 A1X).toArray ek fk) ∈ A) :
  FnV Tryz.prog 99 [.agg (nums .u32 s.list).toArray, v] A (.agg (nums .u32 (W2 A1X s p).list).toArray) := by
 have hg : ∀ j, p.getD j 0 < 256 := fun j => getD_lt hb qD
 refine FnX.enter (N := 207) Tryz.func99 rfl rfl rfl fun w => ?_
 refine B4 (D3 0 1) (A1 ?_)
 refine A4 rfl (B5W (cs := nums .u32 s.list) rfl rfl rfl fun b2 => ?_)
 refine A4 rfl (C3 (cs := [F5, F5, F5, F5, F5, F5, F5, F5]) kR rfl fun b4 => ?_)
 refine A0 (D8 1 2 4) (A1 ?_)
 refine A4 rfl (C3 (cs := nums .u32 (List.replicate 64 0)) kR rfl fun b5 => ?_)
 refine A0 (D7 1 2 4 5) (A3 (A1 (mv_ (A0 (E6 1 2 4 5 20) (A5 ?_)))))
 obtain ⟨bp, op, cp, csp, ep, frp, rfl, hmem, hcs⟩ := hv.nums qD
 refine E1 (α := Nat) (fun i => [(1, .slice (some ⟨bp, op, none⟩) 64 cp), (2, (vP b2)), (4, (vP b4)), (5, (vP b5)), (20, .int .i64 (i : Int))]) (fun i => [(b5, blk (nums .u32 (X5 p i ++ List.replicate (64 - i) 0)) _), (b4, blk (A51 ⟨0, 0, 0, 0, 0, 0, 0, 0⟩) _), (b2, blk (nums .u32 s.list) _)]) (fun _ => []) (fun i => i ≤ 16) (fun i => 16 - i) 0 (Nat.zero_le _) (E6 1 2 4 5 20) .rfl qI ?_
 intro i hi
 try dsimp only at hi ⊢
 refine A1 ?_
 refine A2 (D9 rfl rfl rfl) rfl ?_
 refine A0 (H5 1 2 4 5 20 21) (A3 ?_)
 refine C0 rfl ?_ ?_ <;> intro hc
 ·
  have hlt : i < 16 := by simp at hc; omega
  refine A7 (nx (E6 1 2 4 5 20) (A3 (A5 (A1 (mv_ (as_ (A0 (H5 1 2 4 5 6 20) ?_)))))))
  refine A1V (_) [0, 1, 2, 3, 4, 5, 6, 7, 8, 9, 10, 11, 12, 13, 14, 15, 16, 17, 18, 19, 20, 21, 22, 23, 24, 25, 26, 27, 28, 29, 30, 31, 32, 33, 34] [(0, 0), (1, 0), (2, 0), (3, 0), (4, 0), (5, 1), (6, 0), (7, 0), (8, 0), (9, 0), (10, 0), (11, 0), (12, 0), (13, 1), (14, 0), (15, 0), (16, 0), (17, 0), (18, 0), (19, 0), (20, 0), (21, 0), (22, 1), (23, 0), (24, 0), (25, 0), (26, 0), (27, 0), (28, 0), (29, 0), (30, 0), (31, 1), (32, 0), (33, 0), (34, 0), (35, 2)] kR kR qI fun hs => ?_
  refine L1 hs rfl qm_ rfl ?_
  refine L1 hs rfl qm_ rfl ?_
  refine L1 hs rfl qm_ rfl ?_
  refine L1 hs rfl (D1 ((4 * i : Nat) : Int) rfl rfl (A1W qO qO qO)) rfl ?_
  refine L1 hs rfl (K9 (i := 4 * i) (e := 5) (sz := 1) rfl rfl kR kR rfl qO) rfl ?_
  refine A4n hs rfl (I7 rfl kR (mA hmem) (hcs (4 * i) qO)) rfl ?_
  refine L1 hs rfl (Z5 (k' := .u32) rfl kR (by show _ < 2147483648; have := hg (4 * i); omega)) rfl ?_
  refine L1 hs rfl (A1a 24 rfl rfl rfl qD) rfl ?_
  refine L1 hs rfl qm_ rfl ?_
  refine L1 hs rfl qm_ rfl ?_
  refine L1 hs rfl (D1 ((4 * i : Nat) : Int) rfl rfl (A1W qO qO qO)) rfl ?_
  refine L1 hs rfl (D1 ((4 * i + 1 : Nat) : Int) rfl rfl (E5 qO qO qO)) rfl ?_
  refine L1 hs rfl (K9 (i := 4 * i + 1) (e := 5) (sz := 1) rfl rfl kR kR rfl qO) rfl ?_
  refine A4n hs rfl (I7 rfl kR (mA hmem) (hcs (4 * i + 1) qO)) rfl ?_
  refine L1 hs rfl (Z5 (k' := .u32) rfl kR (by show _ < 2147483648; have := hg (4 * i + 1); omega)) rfl ?_
  refine L1 hs rfl (A1a 16 rfl rfl rfl qD) rfl ?_
  refine L1 hs rfl (A2F rfl rfl U0 U0) rfl ?_
  refine L1 hs rfl qm_ rfl ?_
  refine L1 hs rfl qm_ rfl ?_
  refine L1 hs rfl (D1 ((4 * i : Nat) : Int) rfl rfl (A1W qO qO qO)) rfl ?_
  refine L1 hs rfl (D1 ((4 * i + 2 : Nat) : Int) rfl rfl (E5 qO qO qO)) rfl ?_
  refine L1 hs rfl (K9 (i := 4 * i + 2) (e := 5) (sz := 1) rfl rfl kR kR rfl qO) rfl ?_
  refine A4n hs rfl (I7 rfl kR (mA hmem) (hcs (4 * i + 2) qO)) rfl ?_
  refine L1 hs rfl (Z5 (k' := .u32) rfl kR (by show _ < 2147483648; have := hg (4 * i + 2); omega)) rfl ?_
  refine L1 hs rfl (A1a 8 rfl rfl rfl qD) rfl ?_
  refine L1 hs rfl (A2F rfl rfl (B2F U0 U0) U0) rfl ?_
  refine L1 hs rfl qm_ rfl ?_
  refine L1 hs rfl qm_ rfl ?_
  refine L1 hs rfl (D1 ((4 * i : Nat) : Int) rfl rfl (A1W qO qO qO)) rfl ?_
  refine L1 hs rfl (D1 ((4 * i + 3 : Nat) : Int) rfl rfl (E5 qO qO qO)) rfl ?_
  refine L1 hs rfl (K9 (i := 4 * i + 3) (e := 5) (sz := 1) rfl rfl kR kR rfl qO) rfl ?_
  refine A4n hs rfl (I7 rfl kR (mA hmem) (hcs (4 * i + 3) qO)) rfl ?_
  refine L1 hs rfl (Z5 (k' := .u32) rfl kR (by show _ < 2147483648; have := hg (4 * i + 3); omega)) rfl ?_
  refine L1 hs rfl (A2F rfl rfl (B2F (B2F U0 U0) U0) (by have := hg (4 * i + 3); omega)) rfl ?_
  refine L1 hs rfl (F9 (i := i) (e := 27) (n := 64) (sz := 1) rfl rfl kR kR rfl qO) rfl ?_
  refine A1C rfl rfl rfl (I8 (ws := X5 p i ++ List.replicate (64 - i) 0) i rfl rfl kR qO (by simp [A3o]; omega) UpC.upd ?_)
  refine A5X ?_
  refine nb (nx (E6 1 2 4 5 20) (A9 ?_))
  refine A2 (D1 ((i + 1 : Nat) : Int) rfl rfl (E5 qO qO qO)) rfl ?_
  refine mv_ (C1 ?_)
  refine rn (i + 1) qO qO (E6 1 2 4 5 20) (Fit.eq ?_) qI
  rw [B58 (hg _) (hg _) (hg _) (hg _), A9L (A3o p i) qO, A8H]; rfl
 ·
  have hlt : i = 16 := by simp at hc; omega
  subst hlt
  refine D4 (te (re (be rfl (nx (D8 2 4 5) (A3 (A1 (as_ ?_)))))))
  refine A0 (D7 2 4 5 7) (A5 ?_)
  generalize hW0 : X5 p 16 = W0
  have hW0l : W0.length = 16 := by rw [← hW0]; exact A3o _ _
  have hW0b : ∀ x ∈ W0, x < 4294967296 := by rw [← hW0]; exact B2V hb _
  refine E1 (α := Nat) (fun i => [(2, (vP b2)), (4, (vP b4)), (5, (vP b5)), (7, .int .i64 (i : Int))]) (fun i => [(b5, blk (nums .u32 (wx W0 (i - 16) ++ List.replicate (64 - i) 0)) _), (b4, blk (A51 ⟨0, 0, 0, 0, 0, 0, 0, 0⟩) _), (b2, blk (nums .u32 s.list) _)]) (fun _ => []) (fun i => 16 ≤ i ∧ i ≤ 64) (fun i => 64 - i) 16 qD (D7 2 4 5 7) .rfl qI ?_
  rintro i ⟨hi, hi2⟩
  have hwl := A50 W0 (i - 16)
  have hwb : ∀ j, (wx W0 (i - 16) ++ List.replicate (64 - i) 0).getD j 0 < 4294967296 := fun j => getD_lt (fun x hx => by
   rcases List.mem_append.1 hx with hx | hx
   · exact B56 hW0b _ _ hx
   · rw [(List.mem_replicate.1 hx).2]; decide) qD
  have hll : (wx W0 (i - 16) ++ List.replicate (64 - i) 0).length = 64 := by simp [A50, hW0l]; omega
  try dsimp only
  refine A3 (A1 (mv_ ?_))
  refine A2 (D9 rfl rfl rfl) rfl ?_
  refine A0 (E6 2 4 5 7 60) ?_
  refine C0 rfl ?_ ?_ <;> intro hc
  ·
   have hlt : i < 64 := by simp at hc; omega
   refine A7 (nx (D7 2 4 5 7) (A3 (A5 ?_)))
   refine A1B (_) [0, 1, 2, 3, 4, 5, 6, 7, 8, 9] [(0, 0), (1, 0), (2, 0), (3, 1), (4, 0), (5, 0), (6, 0), (7, 1), (8, 0), (9, 0)] kR kR qI fun hs => ?_
   refine L1 hs rfl qm_ rfl ?_
   refine L1 hs rfl (D1 ((i - 15 : Nat) : Int) rfl rfl (A0q qO qO qO)) rfl ?_
   refine L1 hs rfl (F9 (i := i - 15) (e := 27) (n := 64) (sz := 1) rfl rfl kR kR rfl qO) rfl ?_
   refine A4n hs rfl (I3 (i - 15) rfl kR At.mem qO qO) rfl ?_
   refine L1 hs rfl qm_ rfl ?_
   refine L1 hs rfl (D1 ((i - 2 : Nat) : Int) rfl rfl (A0q qO qO qO)) rfl ?_
   refine L1 hs rfl (F9 (i := i - 2) (e := 27) (n := 64) (sz := 1) rfl rfl kR kR rfl qO) rfl ?_
   refine A4n hs rfl (I3 (i - 2) rfl kR At.mem qO qO) rfl ?_
   refine L1 hs rfl (G6 rfl) rfl ?_
   refine L1 hs rfl (G6 rfl) rfl ?_
   refine A3i (H5 2 4 5 7 8 9) ?_
   refine A1 (mv_ ?_)
   refine B2Q (aS rfl (aS rfl a0)) kR (W3 _ 7 _ _ (hwb _) qD qD rfl) rfl ?_
   refine mv_ ?_
   refine B2Q (aS rfl (aS rfl a0)) kR (W3 _ 18 _ _ (hwb _) qD qD rfl) rfl ?_
   refine A2 (T9 rfl rfl (P3 (hwb _)) (P3 (hwb _))) rfl ?_
   refine mv_ ?_
   refine A2 (T0 3 rfl rfl rfl qD) rfl ?_
   refine A2 (T9 rfl rfl (xor32 (P3 (hwb _)) (P3 (hwb _))) (A9N (hwb _))) rfl ?_
   refine as_ (A0 (H5 2 4 5 7 9 10) (A1 (mv_ ?_)))
   refine B2Q (aS rfl (aS rfl a0)) kR (W3 _ 17 _ _ (hwb _) qD qD rfl) rfl ?_
   refine mv_ ?_
   refine B2Q (aS rfl (aS rfl a0)) kR (W3 _ 19 _ _ (hwb _) qD qD rfl) rfl ?_
   refine A2 (T9 rfl rfl (P3 (hwb _)) (P3 (hwb _))) rfl ?_
   refine mv_ ?_
   refine A2 (T0 10 rfl rfl rfl qD) rfl ?_
   refine A2 (T9 rfl rfl (xor32 (P3 (hwb _)) (P3 (hwb _))) (A9N (hwb _))) rfl ?_
   refine as_ (A0 (H5 2 4 5 7 10 11) ?_)
   refine A1V (_) [0, 1, 2, 3, 4, 5, 6, 7, 8, 9, 10, 11, 12, 13, 14] [(0, 0), (1, 0), (2, 0), (3, 0), (4, 1), (5, 0), (6, 0), (7, 0), (8, 0), (9, 0), (10, 1), (11, 0), (12, 0), (13, 0), (14, 0), (15, 2)] kR kR qI fun hs => ?_
   refine L1 hs rfl qm_ rfl ?_
   refine L1 hs rfl qm_ rfl ?_
   refine L1 hs rfl (D1 ((i - 16 : Nat) : Int) rfl rfl (A0q qO qO qO)) rfl ?_
   refine L1 hs rfl (F9 (i := i - 16) (e := 27) (n := 64) (sz := 1) rfl rfl kR kR rfl qO) rfl ?_
   refine A4n hs rfl (I3 (i - 16) rfl kR At.mem qO qO) rfl ?_
   refine L1 hs rfl qm_ rfl ?_
   refine L1 hs rfl (Z4 rfl rfl) rfl ?_
   refine L1 hs rfl qm_ rfl ?_
   refine L1 hs rfl (D1 ((i - 7 : Nat) : Int) rfl rfl (A0q qO qO qO)) rfl ?_
   refine L1 hs rfl (F9 (i := i - 7) (e := 27) (n := 64) (sz := 1) rfl rfl kR kR rfl qO) rfl ?_
   refine A4n hs rfl (I3 (i - 7) rfl kR At.mem qO qO) rfl ?_
   refine L1 hs rfl (Z4 rfl rfl) rfl ?_
   refine L1 hs rfl qm_ rfl ?_
   refine L1 hs rfl (Z4 rfl rfl) rfl ?_
   refine L1 hs rfl (F9 (i := i) (e := 27) (n := 64) (sz := 1) rfl rfl kR kR rfl qO) rfl ?_
   refine A1C rfl rfl rfl (I8 (ws := wx W0 (i - 16) ++ List.replicate (64 - i) 0) i rfl rfl kR qO qO UpC.upd ?_)
   refine A5X ?_
   refine nb (nx (D7 2 4 5 7) (A9 (mv_ ?_)))
   refine A2 (D1 ((i + 1 : Nat) : Int) rfl rfl (E5 qO qO qO)) rfl ?_
   refine as_ (C1 ?_)
   refine rn (i + 1) ⟨by omega, by omega⟩ qO (D7 2 4 5 7) (Fit.eq ?_) qI
   have e := A9O (us := List.replicate (64 - i) 0) (show (wx W0 (i - 16)).length = i by omega) hi hlt
   unfold sg0 sg1 at e
   rw [e, A9L qO hlt, show i + 1 - 16 = (i - 16) + 1 by omega, wx, show W0.length + (i - 16) = i by omega]
  ·
   have hlt : i = 64 := by simp at hc; omega
   subst hlt
   refine D4 (te (re (be rfl (nx (D8 2 4 5) (A1 ?_)))))
   refine A9D (n := 8) rfl kR qR rfl ?_
   refine A4 rfl (C3 (cs := [F5, F5, F5, F5, F5, F5, F5, F5]) kR rfl fun b12 => ?_)
   refine A7F rfl rfl kR qR F3 ?_
   refine A0 (D7 2 4 5 12) (A3 (A1 (mv_ (A0 (E6 2 4 5 12 103) (A5 ?_)))))
   generalize hW : wx W0 48 = W
   have hWl : W.length = 64 := by rw [← hW, A50]; omega
   have hWb : ∀ j, W.getD j 0 < 4294967296 := fun j => getD_lt (by rw [← hW]; exact B56 hW0b _) qD
   have hkt : ∀ j, A1X.getD j 0 < 4294967296 := fun j => getD_lt B51 qD
   refine E1 (α := Nat) (fun i => [(2, (vP b2)), (4, (vP b4)), (5, (vP b5)), (12, (vP b12)), (103, .int .i64 (i : Int))]) (fun i => [(b12, blk (A51 (rounds A1X W s i)) _), (b5, blk (nums .u32 W) _), (b4, blk (A51 ⟨0, 0, 0, 0, 0, 0, 0, 0⟩) _), (b2, blk (nums .u32 s.list) _)]) (fun _ => []) (fun i => i ≤ 64) (fun i => 64 - i) 0 (Nat.zero_le _) (E6 2 4 5 12 103) (Fit.eq (by rw [show List.replicate (64 - 64) 0 = [] from rfl, List.append_nil]; rfl)) qI ?_
   intro i hi
   have hro := hs0.rounds A1X W i
   generalize hr : rounds A1X W s i = r at hro
   rw [S8.ok_iff] at hro
   obtain ⟨ra, rb, rc, rd, re', rf, rg, rh⟩ := hro
   try dsimp only at hi ⊢
   refine A1 ?_
   refine A2 (D9 rfl rfl rfl) rfl ?_
   refine A0 (H5 2 4 5 12 103 104) (A3 ?_)
   refine C0 rfl ?_ ?_ <;> intro hc
   ·
    have hlt : i < 64 := by simp at hc; omega
    refine A7 (nx (E6 2 4 5 12 103) (A3 (A5 (A1 (mv_ (as_ (A0 (H5 2 4 5 12 13 103) ?_)))))))
    refine A1B (_) [0, 1, 2, 3, 4, 5, 6, 7, 8, 10, 11] [(0, 0), (1, 1), (3, 0), (4, 1), (7, 0), (8, 1), (2, 2), (5, 2), (6, 0), (9, 2), (10, 0), (11, 0)] kR kR qI fun hs => ?_
    refine L1 hs rfl (F9 (i := 4) (e := 27) (n := 8) (sz := 1) rfl rfl kR kR rfl qD) rfl ?_
    refine A4n hs rfl (I7 rfl kR At.mem qR) rfl ?_
    refine L1 hs rfl (F9 (i := 4) (e := 27) (n := 8) (sz := 1) rfl rfl kR kR rfl qD) rfl ?_
    refine A4n hs rfl (I7 rfl kR At.mem qR) rfl ?_
    refine L1 hs rfl (F9 (i := 4) (e := 27) (n := 8) (sz := 1) rfl rfl kR kR rfl qD) rfl ?_
    refine A4n hs rfl (I7 rfl kR At.mem qR) rfl ?_
    refine B2O rfl rfl (U7 (aS rfl (aS rfl a0)) kR (W3 _ 6 _ _ re' qD qD rfl) rfl ⟨fun _ h => h, ?_⟩)
    refine B2O rfl rfl (U7 (aS rfl (aS rfl a0)) kR (W3 _ 11 _ _ re' qD qD rfl) rfl ⟨fun _ h => h, ?_⟩)
    refine L1 hs rfl (T9 rfl rfl (P3 re') (P3 re')) rfl ?_
    refine A1C rfl rfl rfl (U7 (aS rfl (aS rfl a0)) kR (W3 _ 25 _ _ re' qD qD rfl) rfl ?_)
    refine L1 hs rfl (T9 rfl rfl (xor32 (P3 re') (P3 re')) (P3 re')) rfl ?_
    refine L1 hs rfl (G6 rfl) rfl ?_
    refine A3i (S9 2 4 5 12 13 14 103) ?_
    refine A1 ?_
    refine A2 (F9 (i := 4) (e := 27) (n := 8) (sz := 1) rfl rfl kR kR rfl qD) rfl ?_
    refine A08 rfl kR qR rfl ?_
    refine A2 (F9 (i := 5) (e := 27) (n := 8) (sz := 1) rfl rfl kR kR rfl qD) rfl ?_
    refine A08 rfl kR qR rfl ?_
    refine A2 (A3k rfl rfl re' rf) rfl ?_
    refine A2 (F9 (i := 4) (e := 27) (n := 8) (sz := 1) rfl rfl kR kR rfl qD) rfl ?_
    refine A08 rfl kR qR rfl ?_
    refine A2 (B5Z rfl re') rfl ?_
    refine A2 (F9 (i := 6) (e := 27) (n := 8) (sz := 1) rfl rfl kR kR rfl qD) rfl ?_
    refine A08 rfl kR qR rfl ?_
    refine A2 (A3k rfl rfl (xor32 qD re') rg) rfl ?_
    refine A2 (T9 rfl rfl (A63 re') (A63 (xor32 qD re'))) rfl ?_
    refine as_ (A0 (V3 2 4 5 12 13 14 15 103) ?_)
    refine A1B (_) [0, 1, 2, 3, 4, 5, 6, 7, 8, 9, 10, 11, 12, 13, 14] [(0, 0), (1, 1), (2, 0), (3, 0), (4, 0), (5, 0), (6, 0), (7, 0), (8, 1), (9, 0), (10, 0), (11, 0), (12, 1), (13, 0), (14, 0)] kR kR qI fun hs => ?_
    refine L1 hs rfl (F9 (i := 7) (e := 27) (n := 8) (sz := 1) rfl rfl kR kR rfl qD) rfl ?_
    refine A4n hs rfl (I7 rfl kR At.mem qR) rfl ?_
    refine L1 hs rfl qm_ rfl ?_
    refine L1 hs rfl (Z4 rfl rfl) rfl ?_
    refine L1 hs rfl qm_ rfl ?_
    refine L1 hs rfl (Z4 rfl rfl) rfl ?_
    refine L1 hs rfl qm_ rfl ?_
    refine L1 hs rfl (F9 (i := i) (e := 27) (n := 64) (sz := 1) rfl rfl kR kR rfl qO) rfl ?_
    refine A4n hs rfl (I3 i rfl kR (mA hk) qO (show i < 64 from hlt)) rfl ?_
    refine L1 hs rfl (Z4 rfl rfl) rfl ?_
    refine L1 hs rfl qm_ rfl ?_
    refine L1 hs rfl (F9 (i := i) (e := 27) (n := 64) (sz := 1) rfl rfl kR kR rfl qO) rfl ?_
    refine A4n hs rfl (I3 i rfl kR At.mem qO qO) rfl ?_
    refine L1 hs rfl (Z4 rfl rfl) rfl ?_
    refine L1 hs rfl (G6 rfl) rfl ?_
    refine A3i (H5 2 4 5 12 16 103) ?_
    refine A1B (_) [0, 1, 2, 3, 4, 5, 6, 7, 8, 10, 11] [(0, 0), (1, 1), (3, 0), (4, 1), (7, 0), (8, 1), (2, 2), (5, 2), (6, 0), (9, 2), (10, 0), (11, 0)] kR kR qI fun hs => ?_
    refine L1 hs rfl (F9 (i := 0) (e := 27) (n := 8) (sz := 1) rfl rfl kR kR rfl qD) rfl ?_
    refine A4n hs rfl (I7 rfl kR At.mem qR) rfl ?_
    refine L1 hs rfl (F9 (i := 0) (e := 27) (n := 8) (sz := 1) rfl rfl kR kR rfl qD) rfl ?_
    refine A4n hs rfl (I7 rfl kR At.mem qR) rfl ?_
    refine L1 hs rfl (F9 (i := 0) (e := 27) (n := 8) (sz := 1) rfl rfl kR kR rfl qD) rfl ?_
    refine A4n hs rfl (I7 rfl kR At.mem qR) rfl ?_
    refine B2O rfl rfl (U7 (aS rfl (aS rfl a0)) kR (W3 _ 2 _ _ ra qD qD rfl) rfl ⟨fun _ h => h, ?_⟩)
    refine B2O rfl rfl (U7 (aS rfl (aS rfl a0)) kR (W3 _ 13 _ _ ra qD qD rfl) rfl ⟨fun _ h => h, ?_⟩)
    refine L1 hs rfl (T9 rfl rfl (P3 ra) (P3 ra)) rfl ?_
    refine A1C rfl rfl rfl (U7 (aS rfl (aS rfl a0)) kR (W3 _ 22 _ _ ra qD qD rfl) rfl ?_)
    refine L1 hs rfl (T9 rfl rfl (xor32 (P3 ra) (P3 ra)) (P3 ra)) rfl ?_
    refine L1 hs rfl (G6 rfl) rfl ?_
    refine A3i (S9 2 4 5 12 16 17 103) ?_
    refine A1 ?_
    refine A2 (F9 (i := 0) (e := 27) (n := 8) (sz := 1) rfl rfl kR kR rfl qD) rfl ?_
    refine A08 rfl kR qR rfl ?_
    refine A2 (F9 (i := 1) (e := 27) (n := 8) (sz := 1) rfl rfl kR kR rfl qD) rfl ?_
    refine A08 rfl kR qR rfl ?_
    refine A2 (A3k rfl rfl ra rb) rfl ?_
    refine A2 (F9 (i := 0) (e := 27) (n := 8) (sz := 1) rfl rfl kR kR rfl qD) rfl ?_
    refine A08 rfl kR qR rfl ?_
    refine A2 (F9 (i := 2) (e := 27) (n := 8) (sz := 1) rfl rfl kR kR rfl qD) rfl ?_
    refine A08 rfl kR qR rfl ?_
    refine A2 (A3k rfl rfl ra rc) rfl ?_
    refine A2 (T9 rfl rfl (A63 ra) (A63 ra)) rfl ?_
    refine A2 (F9 (i := 1) (e := 27) (n := 8) (sz := 1) rfl rfl kR kR rfl qD) rfl ?_
    refine A08 rfl kR qR rfl ?_
    refine A2 (F9 (i := 2) (e := 27) (n := 8) (sz := 1) rfl rfl kR kR rfl qD) rfl ?_
    refine A08 rfl kR qR rfl ?_
    refine A2 (A3k rfl rfl rb rc) rfl ?_
    refine A2 (T9 rfl rfl (xor32 (A63 ra) (A63 ra)) (A63 rb)) rfl ?_
    refine as_ (A0 (V3 2 4 5 12 16 17 18 103) (A9 (mv_ (mv_ ?_))))
    refine A2 (Z4 rfl rfl) rfl ?_
    refine mv_ ?_
    refine A2 (Z4 rfl rfl) rfl ?_
    refine A2 (F9 (i := 0) (e := 27) (n := 8) (sz := 1) rfl rfl kR kR rfl qD) rfl ?_
    refine A08 rfl kR qR rfl ?_
    refine A2 (F9 (i := 1) (e := 27) (n := 8) (sz := 1) rfl rfl kR kR rfl qD) rfl ?_
    refine A08 rfl kR qR rfl ?_
    refine A2 (F9 (i := 2) (e := 27) (n := 8) (sz := 1) rfl rfl kR kR rfl qD) rfl ?_
    refine A08 rfl kR qR rfl ?_
    refine A2 (F9 (i := 3) (e := 27) (n := 8) (sz := 1) rfl rfl kR kR rfl qD) rfl ?_
    refine A08 rfl kR qR rfl ?_
    refine mv_ ?_
    refine A2 (Z4 rfl rfl) rfl ?_
    refine A2 (F9 (i := 4) (e := 27) (n := 8) (sz := 1) rfl rfl kR kR rfl qD) rfl ?_
    refine A08 rfl kR qR rfl ?_
    refine A2 (F9 (i := 5) (e := 27) (n := 8) (sz := 1) rfl rfl kR kR rfl qD) rfl ?_
    refine A08 rfl kR qR rfl ?_
    refine A2 (F9 (i := 6) (e := 27) (n := 8) (sz := 1) rfl rfl kR kR rfl qD) rfl ?_
    refine A08 rfl kR qR rfl ?_
    refine A2 (F6 (place := fun i => some (i * 1, 1)) (z := [F5, F5, F5, F5, F5, F5, F5, F5]) (fun _ => by kernel_rfl) (eS rfl (eS rfl (eS rfl (eS rfl (eS rfl (eS rfl (eS rfl (eS rfl e0)))))))) (bdS 0 1 rfl qR (bdS 1 1 rfl qR (bdS 2 1 rfl qR (bdS 3 1 rfl qR (bdS 4 1 rfl qR (bdS 5 1 rfl qR (bdS 6 1 rfl qR (bdS 7 1 rfl qR bd0))))))))) rfl ?_
    refine A7F rfl rfl kR qR (by simp [Value.oneCell']) ?_
    refine C1 (nb (nx (E6 2 4 5 12 103) (A9 ?_)))
    refine A2 (D1 ((i + 1 : Nat) : Int) rfl rfl (E5 qO qO qO)) rfl ?_
    refine mv_ (C1 ?_)
    refine rn (i + 1) qO qO (E6 2 4 5 12 103) (Fit.eq ?_) qI
    rw [rounds, hr]; rfl
   ·
    have hlt : i = 64 := by simp at hc; omega
    subst hlt
    refine D4 (te (re (be rfl (nx (D8 2 4 12) (A3 (A1 (mv_ ?_)))))))
    refine A0 (D7 2 4 12 194) (A5 ?_)
    refine E1 (α := Nat) (fun i => [(2, (vP b2)), (4, (vP b4)), (12, (vP b12)), (194, .int .i64 (i : Int))]) (fun i => [(b12, blk (nums .u32 r.list) _), (b5, blk (nums .u32 W) _), (b4, blk (A51 ⟨0, 0, 0, 0, 0, 0, 0, 0⟩) _), (b2, blk (nums .u32 (A3p s r i)) _)]) (fun _ => []) (fun i => i ≤ 8) (fun i => 8 - i) 0 (Nat.zero_le _) (D7 2 4 12 194) .rfl qI ?_
    intro i hi
    try dsimp only at hi ⊢
    refine A1 ?_
    refine A2 (D9 rfl rfl rfl) rfl ?_
    refine A0 (E6 2 4 12 194 195) (A3 ?_)
    refine C0 rfl ?_ ?_ <;> intro hc
    ·
     have hlt : i < 8 := by simp at hc; omega
     refine A7 (nx (D7 2 4 12 194) (A3 (A5 (A1 (mv_ (as_ (A0 (E6 2 4 12 19 194) ?_)))))))
     refine A1V (_) [0, 1, 2, 3, 4, 5, 6, 7] [(0, 0), (1, 0), (2, 1), (3, 0), (4, 0), (5, 1), (6, 0), (7, 0), (8, 2)] kR kR qI fun hs => ?_
     refine L1 hs rfl qm_ rfl ?_
     refine L1 hs rfl (F9 (i := i) (e := 27) (n := 8) (sz := 1) rfl rfl kR kR rfl qO) rfl ?_
     refine A4n hs rfl (I3 i rfl kR At.mem qO (by rw [A4D _ _ _ hi]; exact hlt)) rfl ?_
     refine L1 hs rfl qm_ rfl ?_
     refine L1 hs rfl (F9 (i := i) (e := 27) (n := 8) (sz := 1) rfl rfl kR kR rfl qO) rfl ?_
     refine A4n hs rfl (I3 i rfl kR At.mem qO (show i < 8 from hlt)) rfl ?_
     refine L1 hs rfl (Z4 rfl rfl) rfl ?_
     refine L1 hs rfl (F9 (i := i) (e := 27) (n := 8) (sz := 1) rfl rfl kR kR rfl qO) rfl ?_
     refine A1C rfl rfl rfl (I8 (ws := A3p s r i) i rfl rfl kR qO (by rw [A4D _ _ _ hi]; exact hlt) UpC.upd ?_)
     refine A5X ?_
     refine nb (nx (D7 2 4 12 194) (A9 ?_))
     refine A2 (D1 ((i + 1 : Nat) : Int) rfl rfl (E5 qO qO qO)) rfl ?_
     refine mv_ (C1 ?_)
     refine rn (i + 1) qO qO (D7 2 4 12 194) (Fit.eq ?_) qI
     rw [A8I _ _ _ hlt, A65 _ _ _ hlt]
    ·
     have hlt : i = 8 := by simp at hc; omega
     subst hlt
     refine D4 (te (re (be rfl (nx (D3 2 4) (A1 ?_)))))
     refine A9D (n := 8) rfl kR qR rfl ?_
     refine A7F rfl rfl kR qR F3 ?_
     refine A0 (D5 4) (B0 ?_)
     refine ⟨_, [], [], A4l (n := 8) rfl rfl kR m2 rfl, List.nil_sublist _, by simp, ?_, rfl, rfl⟩
     unfold W2; rw [hW0, hW, hr]; rfl

end Go.Proofs.YtlilcmjbaknafaaGreatDoor
namespace Go.Px
theorem Fit.head1' {M D : Mem} {x : Nat × Obj} {E : Mem} (h : E.Sublist D) : Fit (M ++ (x :: D)) (M ++ E) := Fit.sub (List.Sublist.append (List.Sublist.refl _) (.cons _ h))
theorem pkB0 {B : Mem} {x : Nat × Obj} : (x :: B).Perm (B ++ [x]) := (List.perm_append_comm (l₁ := [x]))
def vHi (h : Nat) : Value → Value
  | .slice p _ c => .slice p h c
  | v => v
def vLo (k sz : Nat) : Value → Value
  | .slice p n c => .slice (if c = k then p else p.map (·.add (k * sz))) (n - k) (c - k)
  | v => v
def vAt (sz : Nat) (i : Nat) : Value → Value
  | .slice (some a) _ _ => .pointer (some (a.add (i * sz)))
  | v => v
theorem Rd.hiV {R : Mem} {sz n : Nat} {v : Value} {xs : List Value} (h : Rd R sz v n xs) (k : Nat) (hk : k ≤ n) : Rd R sz (vHi k v) k (xs.take (k * sz)) := by
  obtain ⟨p, c, rfl, h2, h3, h4⟩ := h
  exact Rd.hi ⟨p, c, rfl, h2, h3, h4⟩ k hk
theorem Rd.loV {R : Mem} {sz n : Nat} {v : Value} {xs : List Value} (h : Rd R sz v n xs) (k : Nat) (hk : k ≤ n) : Rd R sz (vLo k sz v) (n - k) (xs.drop (k * sz)) := by
  obtain ⟨p, c, rfl, h2, h3, h4⟩ := h
  exact Rd.lo ⟨p, c, rfl, h2, h3, h4⟩ k hk
theorem Sl.loV {sz n : Nat} {v : Value} {xs : List Value} {B : Mem} (h : Sl sz v n xs B) (k : Nat) (hk : k ≤ n) : ∃ B', B'.Sublist B ∧ Sl sz (vLo k sz v) (n - k) (xs.drop (k * sz)) B' := by
  obtain ⟨p, c, rfl, _⟩ := h.val
  exact h.lo k hk
theorem Rd.len {R : Mem} {sz n : Nat} {v : Value} {xs : List Value} (h : Rd R sz v n xs) : xs.length = n * sz := by
  obtain ⟨p, c, rfl, h2, h3, h4⟩ := h; exact h2
def slE (P : Program) (t : TypeId) : Option Nat :=
  match P.underlying t with
  | some (.slice e) => Q4 P e
  | _ => none
theorem A1Y {P : Program} {t : TypeId} {sz : Nat} (h : slE P t = some sz) : ∃ e, P.underlying t = some (.slice e) ∧ Q4 P e = some sz := by
  unfold slE at h
  split at h
  · rename_i e hu; exact ⟨e, hu, h⟩
  · cases h
section rules
variable {P : Program} {R : Mem} {l : Env} {d : Option Nat} {ty t t' e : TypeId} {pos : String} {af : Array Edge} {g : Option (Nat × Bool)} {x y z : Operand} {v : Value} {sz n : Nat} {xs : List Value} {R' : Mem}
theorem A0X (h : Rd R' sz v n xs) (hx : ev l x = some v) (hu : slE P t = some sz) :
    OpQ P R ⟨d, .call { callee := .builtin .len, args := #[x], argTypes := #[t] }, ty, pos, af, g⟩ l (.int .i64 n) := by
  obtain ⟨p, c, rfl, _⟩ := h
  obtain ⟨e, hu, hs⟩ := A1Y hu
  exact A07 hx hu
theorem B59 (h : Rd R' sz v n xs) (hx : ev l x = some v) {k : IntKind} {i : Int} (hy : ev l y = some (.int k i)) (hu : slE P t = some sz) (j : Nat) (hi : i = j) (hj : j ≤ n) :
    OpQ P R ⟨d, .slice t x none (some y) none, ty, pos, af, g⟩ l (vHi j v) := by
  obtain ⟨p, c, rfl, h2, h3, h4⟩ := h
  obtain ⟨e, hu, hs⟩ := A1Y hu
  exact B4I hx hy hu hs hi (by omega)
theorem B6a (h : Rd R' sz v n xs) (hx : ev l x = some v) {k : IntKind} {i : Int} (hy : ev l y = some (.int k i)) (hu : slE P t = some sz) (j : Nat) (hi : i = j) (hj : j ≤ n) :
    OpQ P R ⟨d, .slice t x (some y) none none, ty, pos, af, g⟩ l (vLo j sz v) := by
  obtain ⟨p, c, rfl, h2, h3, h4⟩ := h
  obtain ⟨e, hu, hs⟩ := A1Y hu
  exact B4J hx hy hu hs hi (by omega) (by omega)
theorem C0d (h : Rd R' sz v n xs) (hx : ev l x = some v) {k k' : IntKind} {i i' : Int} (hy : ev l y = some (.int k i)) (hz : ev l z = some (.int k' i')) (hu : slE P t = some sz) (a b : Nat) (hi : i = a) (hi' : i' = b) (hab : a ≤ b) (hb : b ≤ n) :
    OpQ P R ⟨d, .slice t x (some y) (some z) none, ty, pos, af, g⟩ l (vLo a sz (vHi b v)) := by
  obtain ⟨p, c, rfl, h2, h3, h4⟩ := h
  obtain ⟨e, hu, hs⟩ := A1Y hu
  exact B4K hx hy hz hu hs hi hi' (by omega) (by omega)
theorem B6b (h : Rd R' sz v n xs) (hx : ev l x = some v) {k : IntKind} {i : Int} (hy : ev l y = some (.int k i)) (hu : slE P t = some sz) (j : Nat) (hi : i = j) (hj : j < n) :
    OpQ P R ⟨d, .indexAddr t x y, ty, pos, af, g⟩ l (vAt sz j v) := by
  obtain ⟨p, c, rfl, h2, h3, h4⟩ := h
  rcases h4 with h4 | ⟨b, o, cs, e', fr, rfl, hb, hx'⟩
  · omega
  · obtain ⟨e, hu, hs⟩ := A1Y hu
    simp only [vAt, Addr.add_mid]; exact K9 hx hy hu hs hi hj
theorem A01 (h : Rd R 1 v n xs) {j : Nat} {u : Value} (hx : ev l x = some (vAt 1 j v)) (ht : Z3 P t = true) (hj : xs[j]? = some u) : OpQ P R ⟨d, .load t x, ty, pos, af, g⟩ l u := by
  obtain ⟨p, c, rfl, h2, h3, h4⟩ := h
  have := (List.getElem?_eq_some_iff.1 hj).1
  rcases h4 with h4 | ⟨b, o, cs, e', fr, rfl, hb, hx'⟩
  · omega
  · simp only [vAt, Addr.add_mid] at hx
    refine I7 (b := b) (o := o + j * 1) hx ht hb ?_
    rw [Nat.mul_one]; exact hx' j u hj
theorem A52 {k : IntKind} {ws : List Nat} (h : Rd R 1 v n (nums k ws)) {j : Nat} (hx : ev l x = some (vAt 1 j v)) (ht : Z3 P t = true) (hj : j < n) : OpQ P R ⟨d, .load t x, ty, pos, af, g⟩ l (.int k ((ws.getD j 0 : Nat) : Int)) :=
  A01 h hx ht (P7 (by have := h.len; simp at this; omega))
theorem A5f {m j : Nat} {k : IntKind} {i : Int} {cs : List Value} {u : Value} (hx : ev l x = some (.agg cs.toArray)) (hy : ev l y = some (.int k i)) (hu : P.underlying t = some (.array m e)) (hs : Q4 P e = some 1) (he : Z3 P e = true) (hi : i = j) (hj : j < m) (hu' : cs[j]? = some u) :
    OpQ P R ⟨d, .index t x y, ty, pos, af, g⟩ l u := fun N a w ha hw => by
  subst hi
  unfold Q4 at hs
  cases hq : P.info? e with
  | none => simp [hq] at hs
  | some inf =>
    simp only [hq, Option.map_some, Option.some.injEq] at hs
    have h1 : (0 : Int) ≤ (j : Int) ∧ (j : Int) < (m : Int) := ⟨by omega, by omega⟩
    simp only [execOp, ha.ev hx, ha.ev hy, Instr.index, asIntOf, Sem.run_bind, Sem.run_pure, Result.andThen_ok, run_underlying hu]
    simp [h1, sizeOf, typeInfo, hq, hs, part, A2D he, hu']
theorem B2W {m b : Nat} (hx : ev l x = some (.pointer (some ⟨b, 0, none⟩))) (hu : P.underlying t = some (.array m e)) (hs : Q4 P e = some sz) :
    OpQ P R ⟨d, .slice t x none none none, ty, pos, af, g⟩ l (.slice (some ⟨b, 0, none⟩) m m) := fun N a w ha hw => by
  unfold Q4 at hs
  cases hq : P.info? e with
  | none => simp [hq] at hs
  | some inf =>
    simp only [execOp, ha.ev hx, Instr.sliceAt, Instr.sureAddr, Sem.run_bind, Sem.run_pure, run_underlying hu, Result.andThen_ok]
    have := U6 (P := P) (lo := none) (hi := none) (mx := none) ha o0 o0 o0 false m m w (by simp) (by simp) (by simp) (by simp)
    simp only [Option.map_none] at this ⊢
    simp only [this, Result.andThen_ok]
    simp [sizeOf, typeInfo, hq, Addr.add]
end rules
def txt (ws : List Nat) : ByteArray := ⟨(ws.map UInt8.ofNat).toArray⟩
theorem B2X (ns : List Nat) : ∀ s : ByteArray, (ns.map fun n : Nat => (n : Int)).foldl (fun r n => r.push (UInt8.ofNat n.toNat)) s = s ++ txt ns := by
  induction ns with
  | nil => intro s; apply ByteArray.ext; simp [txt, ByteArray.data_append]
  | cons n ns ih =>
    intro s
    simp only [List.map_cons, List.foldl_cons, ih]
    apply ByteArray.ext
    simp [txt, ByteArray.data_append]
section texts
variable {P : Program} {R : Mem} {l : Env} {d : Option Nat} {ty s t e : TypeId} {pos : String} {af : Array Edge} {g : Option (Nat × Bool)} {x y : Operand} {v : Value} {n : Nat}
def A9P (P : Program) (s t : TypeId) : Bool :=
  match P.underlying s, P.underlying t with
  | some (.slice e), some .string => match P.underlying e with
    | some (.int .u8) => true
    | _ => false
  | _, _ => false
theorem A66 {ws : List Nat} (h : Rd R 1 v n (nums .u8 ws)) (hx : ev l x = some v) (hc : A9P P s t = true) : OpQ P R ⟨d, .convert s t x, ty, pos, af, g⟩ l (.string (txt ws)) := fun N a w ha hw => by
  unfold A9P at hc
  split at hc <;> try cases hc
  rename_i e h1 h2
  split at hc <;> try cases hc
  rename_i h3
  obtain ⟨p, c, rfl, hl, hcc, hb⟩ := h
  have hn : ws.length = n := by simpa using hl
  have he : nums .u8 ws = (ws.map fun n : Nat => (n : Int)).map (Value.int .u8) := by simp [nums]
  simp only [execOp, ha.ev hx, Sem.run_bind, run_convert_bytes_string w s t e _ _ _ h1 h3 h2]
  cases p with
  | none =>
    rcases hb with hb | ⟨b, o, cs, e', fr, hp, hb, hx'⟩
    · have : ws = [] := List.eq_nil_of_length_eq_zero (by omega)
      subst this
      simp [Conv.bytesToString, Sem.run_pure, txt]; rfl
    · cases hp
  | some ad =>
    have hload : (loadCells ad n).run P w = .ok (nums .u8 ws).toArray w := by
      rcases hb with hb | ⟨b, o, cs, e', fr, hp, hb, hx'⟩
      · have : ws = [] := List.eq_nil_of_length_eq_zero (by omega)
        subst this; subst hb
        simp [loadCells, loadCellsFrom, nums]
      · cases hp
        have := run_loadCells_list (P := P) w ⟨b, o, none⟩ (nums .u8 ws) (fun j v hv => by rw [Addr.add_mid, A1A hw hb]; simpa using hx' j v hv)
        rw [nums_len, hn] at this
        exact this
    rw [he] at hload
    rw [run_bytesToString w ad n c _ hload, B2X]
    simp [Sem.run_pure]
theorem A7J {t' : TypeId} {a b : ByteArray} (hx : ev l x = some (.string a)) (hy : ev l y = some (.string b)) (h : a = b) : OpQ P R ⟨d, .binOp .eql t x y t', ty, pos, af, g⟩ l (.bool true) := by
  have := A9A (P := P) (R := R) (d := d) (ty := ty) (pos := pos) (af := af) (g := g) (t := t) (t' := t') hx hy
  rw [h] at this
  simpa using this
theorem A9Q {a b : List Nat} (ha : ∀ x ∈ a, x < 256) (hb : ∀ x ∈ b, x < 256) (h : txt a = txt b) : a = b := by
  have h1 : a.map UInt8.ofNat = b.map UInt8.ofNat := by
    have := congrArg ByteArray.data h
    simpa [txt] using this
  have h2 := congrArg (List.map UInt8.toNat) h1
  simp only [List.map_map] at h2
  have key : ∀ l : List Nat, (∀ x ∈ l, x < 256) → List.map (UInt8.toNat ∘ UInt8.ofNat) l = l := by
    intro l hl
    conv => rhs; rw [← List.map_id l]
    refine List.map_congr_left fun x hx => ?_
    have := hl x hx
    simp; omega
  rwa [key a ha, key b hb] at h2
theorem A8J (a b : List Nat) : txt a ++ txt b = txt (a ++ b) := by
  apply ByteArray.ext
  simp [txt, ByteArray.data_append]
end texts
section loud
variable {C : Cx} {l : Env} {M J : Mem} {K : Env → Mem → Mem → Prop} {ty t e : TypeId} {pos : String} {af : Array Edge} {g : Option (Nat × Bool)} {x y : Operand} {d : Nat}
def B8j (P : Program) (t : TypeId) : Bool :=
  match P.underlying t with
  | some (.slice e) => match P.underlying e with
    | some (.int .u8) => true
    | _ => false
  | _ => false
theorem A2I {b n c : Nat} {cs : List Value} {e' : TypeId} {M' : Mem} (hx : ev l x = some (.slice (some ⟨b, 0, none⟩) n c)) (hc : B8j C.P t = true) (hu : Upd M b (blk cs e') (.cells cs.toArray e' (cs.length, cs.length + 1)) M')
    (hd : Nat.blt d C.N = true) (k : K ((d, .slice (some ⟨b, 0, none⟩) n c) :: l) M' J) : OpL C ⟨some d, .convert t t x, ty, pos, af, g⟩ l M J K := by
  intro Qp a w ha hw
  unfold B8j at hc
  split at hc <;> try cases hc
  rename_i e h1
  split at hc <;> try cases hc
  rename_i h2
  have hb := hw.mem _ _ (List.mem_append_left _ hu.mem)
  have hsh : w.shape? b = some (e', cs.length) := by unfold World.shape?; rw [hb]; simp [blk]
  have hlt := R5 hb
  have hrun : (execOp a.eval ⟨some d, .convert t t x, ty, pos, af, g⟩).run C.P w = .ok (.value (.slice (some ⟨b, 0, none⟩) n c)) (w.freeze ⟨b, cs.length, none⟩ 1) := by
    simp [execOp, ha.ev hx, convert, run_underlying h1, run_underlying h2, markStringish, hsh]
  unfold Oper.wp
  rw [hrun]
  refine ⟨_, M', J, ha.put (C5 hd) _, hw.upd hu ?_ ?_ ?_ rfl rfl rfl, k⟩
  · simp only [World.freeze]
    rw [if_neg (by decide)]
    simp [Array.getElem?_modify, hb, blk]
  · intro j hj
    simp only [World.freeze]
    rw [if_neg (by decide)]
    simp [Array.getElem?_modify, Ne.symm hj]
  · simp [World.freeze]
theorem B4N {b m n : Nat} {u : Value} {k : IntKind} {ws us ws' : List Nat} {e' : TypeId} {by_ : Nat} {M' : Mem} (hx : ev l x = some (.slice (some ⟨b, 0, none⟩) m m)) (hy : ev l y = some u) (ht : A2n C.P t = some (e, 1, by_))
    (hr : Rd (M ++ (J ++ C.A)) 1 u n (nums k us)) (hn : n ≤ m) (hm : ws.length = m) (hw' : ws' = us ++ ws.drop n) (hu : Upd M b (blk (nums k ws) e') (blk (nums k ws') e') M') (hd : Nat.blt d C.N = true) (h : K ((d, .int .i64 n) :: l) M' J) :
    OpL C ⟨some d, .call { callee := .builtin .copy, args := #[x, y], argTypes := #[t, t] }, ty, pos, af, g⟩ l M J K := by
  intro Qp a w ha hw
  obtain ⟨i, z, hut, hi, hz, hzs, his, hib⟩ := U4 ht
  obtain ⟨pu, cu, rfl, hul, huc, hub⟩ := hr
  have hru : Rd (M ++ (J ++ C.A)) 1 (.slice pu n cu) n (nums k us) := ⟨pu, cu, rfl, hul, huc, hub⟩
  have hb := hw.mem _ _ (List.mem_append_left _ hu.mem)
  have hf := A2T (P := C.P) (m := n) (c2 := cu) hru hw.fx
  have hus : us.length = n := by simpa using hul
  have hst := run_storeCells_at (P := C.P) b 0 e' (nums k us) 0 (nums k ws).toArray w hb (by simp [hus, hm]; exact hn) F3
  simp only [Nat.add_zero, Nat.zero_add, List.take_zero, List.nil_append, nums_len, hus] at hst
  rw [← A0v, ← H6, ← hw'] at hst
  have hrun : (execOp a.eval ⟨some d, .call { callee := .builtin .copy, args := #[x, y], argTypes := #[t, t] }, ty, pos, af, g⟩).run C.P w = .ok (.value (.int .i64 n)) (w.setRow b (nums k ws').toArray) := by
    simp [execOp, resolve, invoke, builtin, ha.ev hx, ha.ev hy, Builtin.copy_, run_underlying hut, sizeOf, typeInfo, hi, his, Builtin.lenOf, Nat.min_eq_left hn, hf, hst, goInt]
  unfold Oper.wp
  rw [hrun]
  exact ⟨_, M', J, ha.put (C5 hd) _, hw.setRow hu, h⟩
end loud
theorem Sl.fresh {b n sz : Nat} {cs : List Value} {e : TypeId} (h : cs.length = n * sz) (hn : n ≤ maxLen) : Sl sz (.slice (some ⟨b, 0, none⟩) n n) n cs [(b, blk cs e)] :=
  .inr ⟨b, 0, n, cs, e, rfl, rfl, Nat.le_refl _, hn, by omega, h, fun j u hj => by rwa [Nat.zero_add]⟩
theorem Rd.cel {R : Mem} {v : Value} {n sz : Nat} {xs : List Value} (h : Rd R sz v n xs) : Cel v [v] := by
  obtain ⟨p, c, rfl, _⟩ := h; exact ⟨rfl⟩
theorem Sl.cel {B : Mem} {v : Value} {n sz : Nat} {xs : List Value} (h : Sl sz v n xs B) : Cel v [v] := by
  obtain ⟨p, c, rfl, _⟩ := h.val; exact ⟨rfl⟩
def mkT (P : Program) (t : TypeId) : Option (TypeId × IntKind × Nat) :=
  match P.underlying t with
  | some (.slice e) => match P.info? e with
    | some i => match i.zero with
      | some (.int k 0) => if i.size = 1 then some (e, k, i.bytes) else none
      | _ => none
    | none => none
  | _ => none
theorem A9R (k : IntKind) (n : Nat) : madeCells #[.int k 0] n = (nums k (List.replicate n 0)).toArray := by
  apply Array.ext
  · simp [madeCells]
  · intro i h1 h2
    simp [madeCells, nums, Nat.mod_one]
theorem A0I {C : Cx} {l : Env} {M J : Mem} {K : Env → Mem → Mem → Prop} {ty t e : TypeId} {pos : String} {af : Array Edge} {g : Option (Nat × Bool)} {x y : Operand} {d by_ : Nat} {k kl kc : IntKind} {i j : Int} (n : Nat) (hx : ev l x = some (.int kl i)) (hy : ev l y = some (.int kc j)) (ht : mkT C.P t = some (e, k, by_)) (hi : i = n) (hj : j = n)
    (hb : by_ * n ≤ 281474976710656) (hn : n ≤ 9223372036854775807) (hd : Nat.blt d C.N = true) (h : ∀ b, K ((d, .slice (some ⟨b, 0, none⟩) n n) :: l) ((b, blk (nums k (List.replicate n 0)) e) :: M) J) :
    OpL C ⟨some d, .makeSlice t x y, ty, pos, af, g⟩ l M J K := by
  intro Qp a w ha hw
  subst hi; subst hj
  unfold mkT at ht
  split at ht <;> try cases ht
  rename_i e' hu
  split at ht <;> try cases ht
  rename_i inf hi
  split at ht <;> try cases ht
  rename_i k' hz
  split at ht <;> simp only [Option.some.injEq, Prod.mk.injEq, reduceCtorEq] at ht
  rename_i hs
  obtain ⟨rfl, rfl, rfl⟩ := ht
  have hb' : (inf.bytes : Int) * (n : Int) ≤ 281474976710656 := by rw [← Int.natCast_mul]; omega
  have hr := run_make (P := C.P) w t e' inf _ hu hi hz kl kc n n (by omega) (by omega) hb' (by omega)
  simp only [Int.toNat_natCast, hs, Nat.mul_one] at hr
  rw [show (Value.int k' 0).cells = #[.int k' 0] from rfl, A9R] at hr
  unfold Oper.wp
  simp only [execOp, ha.ev hx, ha.ev hy, Sem.run_bind, hr, Result.andThen_ok, Sem.run_pure]
  exact ⟨_, _, J, ha.put (C5 hd) _, hw.alloc _, h _⟩
theorem C0e {C : Cx} {l : Env} {M J : Mem} {K : Env → Mem → Mem → Prop} {ty t : TypeId} {pos : String} {af : Array Edge} {g : Option (Nat × Bool)} {x y : Operand} {v : Value} {k : IntKind} {ws : List Nat} {n j u : Nat} {B M0 : Mem} (h : Sl 1 v n (nums k ws) B) (hx : ev l x = some (vAt 1 j v)) (hy : ev l y = some (.int k (u : Int)))
    (ht : Q4 C.P t = some 1) (hj : j < n) (hM : M.Perm (B ++ M0)) (h2 : ∀ B', Sl 1 v n (nums k (ws.set j u)) B' → K l (B' ++ M0) J) :
    OpL C ⟨none, .store t x y, ty, pos, af, g⟩ l M J K := by
  suffices hh : OpL C ⟨none, .store t x y, ty, pos, af, g⟩ l (B ++ M0) J K from fun Qp a w ha hw => hh Qp a w ha (hw.fit (Fit.perm hM) fun _ h => h)
  clear hM
  rcases h with ⟨p, rfl, rfl, hx2, rfl⟩ | ⟨b, o, cap, cs, e, rfl, rfl, h3, h4, h5, h6, h7⟩
  · omega
  · simp only [vAt, Addr.add_mid, Nat.mul_one] at hx
    refine E0 hx hy rfl ht (A5b (by omega)) .hd (h2 [_] (.inr ⟨b, o, cap, _, e, rfl, rfl, h3, h4, by simpa using h5, by simpa using h6, ?_⟩))
    intro i w hi
    rw [A7I] at hi
    rw [List.getElem?_set] at hi ⊢
    by_cases hij : j = i
    · subst hij
      simp only [if_true] at hi ⊢
      simp at hi h6
      rw [if_pos (by omega)]
      rw [← hi.2]
    · rw [if_neg hij] at hi
      rw [if_neg (by omega)]
      exact h7 i w hi
theorem A02 {R : Mem} {v : Value} {n n' : Nat} {xs xs' : List Value} (h : Rd R 1 v n xs) (h1 : n = n') (h2 : xs = xs') : Rd R 1 v n' xs' := by subst h1; subst h2; exact h
theorem X6 {v : Value} {n n' : Nat} {xs xs' : List Value} {B : Mem} (h : Sl 1 v n xs B) (h1 : n = n') (h2 : xs = xs') : Sl 1 v n' xs' B := by subst h1; subst h2; exact h
end Go.Px

