/-
  Numbers modulo 2^255 - 19 in five parts of 51 bits. No program in sight.
-/
import Derived.Test.YtkoaheaahbnmfaaNum
set_option linter.unusedVariables false
set_option linter.unusedSimpArgs false
namespace Go.Px
abbrev p25 : Nat := 57896044618658097711785492504343953926634992332820282019728792003956564819949
/-- The number of five parts. -/
def fv (a b c d e : Nat) : Nat := a + 2251799813685248 * b + 5070602400912917605986812821504 * c + 11417981541647679048466287755595961091061972992 * d + 25711008708143844408671393477458601640355247900524685364822016 * e
/-- What settle does. -/
theorem settle_law {a b c d e a1 b1 c1 d1 e1 : Nat} (ha : a < 9223372036854775808) (hb : b < 9223372036854775808) (hc : c < 9223372036854775808) (hd : d < 9223372036854775808) (he : e < 9223372036854775808)
    (h1 : a1 = (a + 19 * (e / 2251799813685248) % 18446744073709551616) % 18446744073709551616) (h2 : b1 = (b + a1 / 2251799813685248) % 18446744073709551616) (h3 : c1 = (c + b1 / 2251799813685248) % 18446744073709551616)
    (h4 : d1 = (d + c1 / 2251799813685248) % 18446744073709551616) (h5 : e1 = (e % 2251799813685248 + d1 / 2251799813685248) % 18446744073709551616) :
    fv (a1 % 2251799813685248) (b1 % 2251799813685248) (c1 % 2251799813685248) (d1 % 2251799813685248) e1 + p25 * (e / 2251799813685248) = fv a b c d e ∧ e1 < 2251799813685248 + 8192 := by
  unfold fv p25
  omega
theorem mod_of_settle {v q V : Nat} (h : v + p25 * q = V) : v % p25 = V % p25 := by rw [← h, Nat.add_mul_mod_self_left]
theorem fv_add {a b c d e a2 b2 c2 d2 e2 : Nat} (ha : a < 4503599627370496) (hb : b < 4503599627370496) (hc : c < 4503599627370496) (hd : d < 4503599627370496) (he : e < 4503599627370496) (ha2 : a2 < 4503599627370496) (hb2 : b2 < 4503599627370496) (hc2 : c2 < 4503599627370496) (hd2 : d2 < 4503599627370496) (he2 : e2 < 4503599627370496) :
    fv ((a + a2) % 18446744073709551616) ((b + b2) % 18446744073709551616) ((c + c2) % 18446744073709551616) ((d + d2) % 18446744073709551616) ((e + e2) % 18446744073709551616) = fv a b c d e + fv a2 b2 c2 d2 e2 := by
  rw [Nat.mod_eq_of_lt (a := a + a2) (by omega), Nat.mod_eq_of_lt (a := b + b2) (by omega), Nat.mod_eq_of_lt (a := c + c2) (by omega), Nat.mod_eq_of_lt (a := d + d2) (by omega), Nat.mod_eq_of_lt (a := e + e2) (by omega)]
  unfold fv; omega
theorem lim_sub {a t b : Nat} (ha : a < 4503599627370496) (ht : t < 9007199254740992) (hb : b ≤ t) : (a + (t + (18446744073709551616 - b)) % 18446744073709551616) % 18446744073709551616 = a + t - b := by omega
theorem lim_sub' {a t b : Nat} (ha : a < 4503599627370496) (ht : t < 9007199254740992) (hb : b ≤ t) : a + t - b < 9223372036854775808 := by omega
theorem fv_sub {a b c d e a2 b2 c2 d2 e2 : Nat} (ha : a2 ≤ 9007199254740916) (hb : b2 ≤ 9007199254740988) (hc : c2 ≤ 9007199254740988) (hd : d2 ≤ 9007199254740988) (he : e2 ≤ 9007199254740988) :
    fv (a + 9007199254740916 - a2) (b + 9007199254740988 - b2) (c + 9007199254740988 - c2) (d + 9007199254740988 - d2) (e + 9007199254740988 - e2) + fv a2 b2 c2 d2 e2 = fv a b c d e + 4 * p25 := by
  unfold fv p25; omega
theorem sub_mod {A B V : Nat} (h : V + B = A + 4 * p25) : V % p25 = (A % p25 + p25 - B % p25) % p25 := by
  unfold p25 at *; omega
/-! ### Products -/
theorem mul64_law {x y x0 x1 y0 y1 w0 t w1 : Nat} (hx : x < 18446744073709551616) (hy : y < 18446744073709551616) (h1 : x0 = x % 4294967296) (h2 : x1 = x / 4294967296) (h3 : y0 = y % 4294967296) (h4 : y1 = y / 4294967296)
    (h5 : w0 = x0 * y0 % 18446744073709551616) (h6 : t = (x1 * y0 % 18446744073709551616 + w0 / 4294967296) % 18446744073709551616) (h7 : w1 = (t % 4294967296 + x0 * y1 % 18446744073709551616) % 18446744073709551616) :
    ((x1 * y1 % 18446744073709551616 + t / 4294967296) % 18446744073709551616 + w1 / 4294967296) % 18446744073709551616 = x * y / 18446744073709551616 := by
  have b0 : x0 ≤ 4294967295 := by omega
  have b1 : x1 ≤ 4294967295 := by omega
  have b2 : y0 ≤ 4294967295 := by omega
  have b3 : y1 ≤ 4294967295 := by omega
  have q0 := Nat.mul_le_mul b0 b2
  have q1 := Nat.mul_le_mul b1 b2
  have q2 := Nat.mul_le_mul b0 b3
  have q3 := Nat.mul_le_mul b1 b3
  have ex : x = x0 + 4294967296 * x1 := by omega
  have ey : y = y0 + 4294967296 * y1 := by omega
  have e : x * y = x0 * y0 + 4294967296 * (x1 * y0) + 4294967296 * (x0 * y1) + 18446744073709551616 * (x1 * y1) := by rw [ex, ey]; grind
  rw [e]
  clear e ex ey h1 h2 h3 h4 b0 b1 b2 b3 hx hy
  generalize x0 * y0 = A at *
  generalize x1 * y0 = B at *
  generalize x0 * y1 = C at *
  generalize x1 * y1 = E at *
  omega
theorem or13 {hi lo : Nat} (hh : hi < 18446744073709551616) (hl : lo < 18446744073709551616) : (hi * 8192 % 18446744073709551616 ||| lo / 2251799813685248) = (hi * 18446744073709551616 + lo) / 2251799813685248 % 18446744073709551616 := by
  have e : hi * 8192 % 18446744073709551616 = (hi % 2251799813685248) <<< 13 := by rw [Nat.shiftLeft_eq]; omega
  rw [e, ← Nat.shiftLeft_add_eq_or_of_lt (by show _ < 8192; omega), Nat.shiftLeft_eq]
  omega
theorem carry_step {R S T : Nat} (h0 : R < 2596148429267413814265248164610048) (h1 : S < 5192296858534827628530496329220096) (e : T = (R + S / 2251799813685248 % 18446744073709551616) % 340282366920938463463374607431768211456) : T = R + S / 2251799813685248 ∧ T < 5192296858534827628530496329220096 := by
  have a : S / 2251799813685248 < 18446744073709551616 := by omega
  rw [Nat.mod_eq_of_lt a, Nat.mod_eq_of_lt (by omega)] at e
  omega
theorem mul_tail {R0 R1 R2 R3 R4 S1 S2 S3 S4 l0 l1 l2 l3 l4 o0 o1 : Nat} (h0 : R0 < 2596148429267413814265248164610048) (h1 : R1 < 2596148429267413814265248164610048) (h2 : R2 < 2596148429267413814265248164610048) (h3 : R3 < 2596148429267413814265248164610048) (h4 : R4 < 162259276829213363391578010288128)
    (e1 : S1 = (R1 + R0 / 2251799813685248 % 18446744073709551616) % 340282366920938463463374607431768211456) (e2 : S2 = (R2 + S1 / 2251799813685248 % 18446744073709551616) % 340282366920938463463374607431768211456) (e3 : S3 = (R3 + S2 / 2251799813685248 % 18446744073709551616) % 340282366920938463463374607431768211456) (e4 : S4 = (R4 + S3 / 2251799813685248 % 18446744073709551616) % 340282366920938463463374607431768211456)
    (f0 : l0 % 2251799813685248 = R0 % 2251799813685248) (f1 : l1 % 2251799813685248 = S1 % 2251799813685248) (f2 : l2 % 2251799813685248 = S2 % 2251799813685248) (f3 : l3 % 2251799813685248 = S3 % 2251799813685248) (f4 : l4 % 2251799813685248 = S4 % 2251799813685248)
    (g0 : o0 = (l0 % 2251799813685248 + 19 * (S4 / 2251799813685248 % 18446744073709551616) % 18446744073709551616) % 18446744073709551616) (g1 : o1 = (l1 % 2251799813685248 + o0 / 2251799813685248) % 18446744073709551616) :
    o1 < 4503599627370496 ∧ fv (o0 % 2251799813685248) o1 (l2 % 2251799813685248) (l3 % 2251799813685248) (l4 % 2251799813685248) + p25 * (S4 / 2251799813685248) = R0 + 2251799813685248 * R1 + 5070602400912917605986812821504 * R2 + 11417981541647679048466287755595961091061972992 * R3 + 25711008708143844408671393477458601640355247900524685364822016 * R4 := by
  rw [f2, f3, f4]
  rw [f0] at g0
  rw [f1] at g1
  clear f0 f1 f2 f3 f4
  obtain ⟨k1, j1⟩ := carry_step h1 (by omega) e1
  obtain ⟨k2, j2⟩ := carry_step h2 j1 e2
  obtain ⟨k3, j3⟩ := carry_step h3 j2 e3
  obtain ⟨k4, j4⟩ := carry_step (by omega) j3 e4
  have j5 : S3 / 2251799813685248 < 2305843009213693952 := by clear e1 e2 e3 e4 k1 k2 k3 k4 g0 g1; omega
  clear e1 e2 e3 e4 j1 j2 j3
  have k5 : S4 < 324518553658426726783156020576256 := by clear g0 g1 k1 k2 k3; omega
  have j6 : S4 / 2251799813685248 < 288230376151711744 := by clear g0 g1 k1 k2 k3 k4; omega
  have k6 : o0 = R0 % 2251799813685248 + 19 * (S4 / 2251799813685248) := by clear g1 k1 k2 k3 k4 h0 h1 h2 h3 h4 k5 j5; omega
  have k7 : o1 = S1 % 2251799813685248 + o0 / 2251799813685248 := by clear g0 k1 k2 k3 k4 h0 h1 h2 h3 h4 k5 j5; omega
  clear g0 g1
  refine ⟨by clear k1 k2 k3 k4 h0 h1 h2 h3 h4 k5 j5; omega, ?_⟩
  clear h0 h1 h2 h3 h4 k5 j5 j6 j4
  unfold fv p25
  omega
theorem chain5 {x1 x2 x3 x4 x5 z1 z2 z3 z4 z5 : Nat} (h1 : z1 ≤ 385365782469381738054997774434304) (h2 : z2 ≤ 385365782469381738054997774434304) (h3 : z3 ≤ 385365782469381738054997774434304) (h4 : z4 ≤ 385365782469381738054997774434304) (h5 : z5 ≤ 385365782469381738054997774434304) (e1 : x1 = (0 * 18446744073709551616 + 0 + z1) % 340282366920938463463374607431768211456) (e2 : x2 = (x1 + z2) % 340282366920938463463374607431768211456) (e3 : x3 = (x2 + z3) % 340282366920938463463374607431768211456) (e4 : x4 = (x3 + z4) % 340282366920938463463374607431768211456) (e5 : x5 = (x4 + z5) % 340282366920938463463374607431768211456) :
    x5 = z1 + z2 + z3 + z4 + z5 := by omega
theorem lim19 {a : Nat} (h : a < 4503599627370496) : 19 * a % 18446744073709551616 = 19 * a := by omega
theorem zb {a b : Nat} (ha : a < 4503599627370496) (hb : b < 4503599627370496) : a * b ≤ 20282409603651670423947251286016 := Nat.le_trans (Nat.mul_le_mul (Nat.le_of_lt ha) (Nat.le_of_lt hb)) (by decide)
theorem zb19 {a b : Nat} (ha : a < 4503599627370496) (hb : b < 4503599627370496) : 19 * a * b ≤ 385365782469381738054997774434304 := Nat.le_trans (Nat.mul_le_mul (Nat.mul_le_mul_left 19 (Nat.le_of_lt ha)) (Nat.le_of_lt hb)) (by decide)
theorem mul_ring (a b c d e a2 b2 c2 d2 e2 : Nat) : fv a b c d e * fv a2 b2 c2 d2 e2 =
    (a * a2 + 19 * b * e2 + 19 * c * d2 + 19 * d * c2 + 19 * e * b2) + 2251799813685248 * (a * b2 + b * a2 + 19 * c * e2 + 19 * d * d2 + 19 * e * c2) + 5070602400912917605986812821504 * (a * c2 + b * b2 + c * a2 + 19 * d * e2 + 19 * e * d2) + 11417981541647679048466287755595961091061972992 * (a * d2 + b * c2 + c * b2 + d * a2 + 19 * e * e2) + 25711008708143844408671393477458601640355247900524685364822016 * (a * e2 + b * d2 + c * c2 + d * b2 + e * a2)
    + p25 * ((b * e2 + c * d2 + d * c2 + e * b2) + 2251799813685248 * (c * e2 + d * d2 + e * c2) + 5070602400912917605986812821504 * (d * e2 + e * d2) + 11417981541647679048466287755595961091061972992 * (e * e2)) := by
  unfold fv p25; grind
/-! ### The rounds of a product -/
def facX (as : List Nat) (i k : Nat) : Nat := if i + k < 5 then as.getD i 0 else 19 * as.getD i 0 % 18446744073709551616
def posX (i k : Nat) : Nat := if i + k < 5 then i + k else i + k - 5
def stepX (as bs : List Nat) (i k : Nat) (Xs : List Nat) : List Nat := Xs.set (posX i k) ((Xs.getD (posX i k) 0 + facX as i k * bs.getD k 0) % 340282366920938463463374607431768211456)
def rowX (as bs : List Nat) (i : Nat) : Nat → List Nat → List Nat
  | 0, Xs => Xs
  | k + 1, Xs => stepX as bs i k (rowX as bs i k Xs)
def allX (as bs : List Nat) : Nat → List Nat
  | 0 => [0, 0, 0, 0, 0]
  | i + 1 => rowX as bs i 5 (allX as bs i)
theorem rowX_len (as bs : List Nat) (i k : Nat) (Xs : List Nat) : (rowX as bs i k Xs).length = Xs.length := by
  induction k with
  | zero => rfl
  | succ k ih => simp [rowX, stepX, ih]
theorem allX_len (as bs : List Nat) (i : Nat) : (allX as bs i).length = 5 := by
  induction i with
  | zero => rfl
  | succ i ih => rw [allX, rowX_len, ih]
def lt128 (Xs : List Nat) : Prop := ∀ x ∈ Xs, x < 340282366920938463463374607431768211456
theorem rowX_lt (as bs : List Nat) (i k : Nat) {Xs : List Nat} (h : lt128 Xs) : lt128 (rowX as bs i k Xs) := by
  induction k with
  | zero => exact h
  | succ k ih =>
    intro x hx
    rcases List.mem_or_eq_of_mem_set hx with h1 | rfl
    · exact ih x h1
    · exact Nat.mod_lt _ (by decide)
theorem allX_lt (as bs : List Nat) (i : Nat) : lt128 (allX as bs i) := by
  induction i with
  | zero => intro x hx; simp [allX] at hx; subst hx; decide
  | succ i ih => exact rowX_lt _ _ _ _ ih
theorem posX_lt {i k : Nat} (hi : i < 5) (hk : k < 5) : posX i k < 5 := by unfold posX; split <;> omega
theorem allX_all (a b c d e a2 b2 c2 d2 e2 : Nat) (ha : a < 4503599627370496) (hb : b < 4503599627370496) (hc : c < 4503599627370496) (hd : d < 4503599627370496) (he : e < 4503599627370496) (ha2 : a2 < 4503599627370496) (hb2 : b2 < 4503599627370496) (hc2 : c2 < 4503599627370496) (hd2 : d2 < 4503599627370496) (he2 : e2 < 4503599627370496) :
    allX [a, b, c, d, e] [a2, b2, c2, d2, e2] 5 = [a * a2 + 19 * b * e2 + 19 * c * d2 + 19 * d * c2 + 19 * e * b2, a * b2 + b * a2 + 19 * c * e2 + 19 * d * d2 + 19 * e * c2, a * c2 + b * b2 + c * a2 + 19 * d * e2 + 19 * e * d2, a * d2 + b * c2 + c * b2 + d * a2 + 19 * e * e2, a * e2 + b * d2 + c * c2 + d * b2 + e * a2] := by
  have z {x y : Nat} (hx : x < 4503599627370496) (hy : y < 4503599627370496) : x * y ≤ 385365782469381738054997774434304 := Nat.le_trans (zb hx hy) (by decide)
  simp only [allX, rowX, stepX, facX, posX, List.set, List.getD_cons_zero, List.getD_cons_succ, Nat.reduceAdd, Nat.reduceLT, Nat.reduceSub, if_true, if_false, Nat.zero_add, Nat.add_zero, lim19 hb, lim19 hc, lim19 hd, lim19 he, reduceIte]
  rw [chain5 (z ha ha2) (zb19 hb he2) (zb19 hc hd2) (zb19 hd hc2) (zb19 he hb2) (by simp) rfl rfl rfl rfl, chain5 (z ha hb2) (z hb ha2) (zb19 hc he2) (zb19 hd hd2) (zb19 he hc2) (by simp) rfl rfl rfl rfl, chain5 (z ha hc2) (z hb hb2) (z hc ha2) (zb19 hd he2) (zb19 he hd2) (by simp) rfl rfl rfl rfl, chain5 (z ha hd2) (z hb hc2) (z hc hb2) (z hd ha2) (zb19 he he2) (by simp) rfl rfl rfl rfl, chain5 (z ha he2) (z hb hd2) (z hc hc2) (z hd hb2) (z he ha2) (by simp) rfl rfl rfl rfl]
/-! ### The least way -/
theorem settled_top {a b c d e a1 b1 c1 d1 e1 : Nat} (ha : a < 2251799813685248) (hb : b < 2251799813685248) (hc : c < 2251799813685248) (hd : d < 2251799813685248) (he : e < 2251799813685248 + 8192) (ha1 : a1 < 2251799813685248) (hb1 : b1 < 2251799813685248) (hc1 : c1 < 2251799813685248) (hd1 : d1 < 2251799813685248) (h : fv a1 b1 c1 d1 e1 + p25 * (e / 2251799813685248) = fv a b c d e) : e1 < 2251799813685248 := by
  have hq : e / 2251799813685248 = 0 ∨ e / 2251799813685248 = 1 := by omega
  unfold fv p25 at h
  rcases hq with hq | hq
  · rw [hq] at h; omega
  · rw [hq] at h; omega
theorem carry_in {a b c d e c0 c1 c2 c3 c4 : Nat} (ha : a < 2251799813685248) (hb : b < 2251799813685248) (hc : c < 2251799813685248) (hd : d < 2251799813685248) (he : e < 2251799813685248) (h0 : c0 = (a + 19) % 18446744073709551616 / 2251799813685248) (h1 : c1 = (b + c0) % 18446744073709551616 / 2251799813685248) (h2 : c2 = (c + c1) % 18446744073709551616 / 2251799813685248) (h3 : c3 = (d + c2) % 18446744073709551616 / 2251799813685248) (h4 : c4 = (e + c3) % 18446744073709551616 / 2251799813685248) :
    (c4 = 0 ∧ fv a b c d e < p25) ∨ (c4 = 1 ∧ p25 ≤ fv a b c d e) := by
  have k0 : c0 ≤ 1 := by omega
  have k1 : c1 ≤ 1 := by omega
  have k2 : c2 ≤ 1 := by omega
  have k3 : c3 ≤ 1 := by omega
  have k4 : c4 ≤ 1 := by omega
  unfold fv p25
  omega
theorem carry_out {a b c d e q a1 b1 c1 d1 e1 : Nat} (ha : a < 2251799813685248) (hb : b < 2251799813685248) (hc : c < 2251799813685248) (hd : d < 2251799813685248) (he : e < 2251799813685248) (hq : q ≤ 1) (h1 : a1 = (a + 19 * q % 18446744073709551616) % 18446744073709551616) (h2 : b1 = (b + a1 / 2251799813685248) % 18446744073709551616) (h3 : c1 = (c + b1 / 2251799813685248) % 18446744073709551616) (h4 : d1 = (d + c1 / 2251799813685248) % 18446744073709551616) (h5 : e1 = (e + d1 / 2251799813685248) % 18446744073709551616) :
    fv (a1 % 2251799813685248) (b1 % 2251799813685248) (c1 % 2251799813685248) (d1 % 2251799813685248) (e1 % 2251799813685248) + 57896044618658097711785492504343953926634992332820282019728792003956564819968 * (e1 / 2251799813685248) = fv a b c d e + 19 * q ∧ fv (a1 % 2251799813685248) (b1 % 2251799813685248) (c1 % 2251799813685248) (d1 % 2251799813685248) (e1 % 2251799813685248) < 57896044618658097711785492504343953926634992332820282019728792003956564819968 := by
  have k1 : a1 = a + 19 * q := by omega
  have k2 : b1 = b + a1 / 2251799813685248 := by omega
  have k3 : c1 = c + b1 / 2251799813685248 := by omega
  have k4 : d1 = d + c1 / 2251799813685248 := by omega
  have k5 : e1 = e + d1 / 2251799813685248 := by omega
  clear h1 h2 h3 h4 h5
  unfold fv
  omega
theorem bytes_law {V F k q : Nat} (h : (q = 0 ∧ V < p25) ∨ (q = 1 ∧ p25 ≤ V)) (hV : V < 57896044618658097711785492504343953926634992332820282019728792003956564819968) (h2 : F + 57896044618658097711785492504343953926634992332820282019728792003956564819968 * k = V + 19 * q ∧ F < 57896044618658097711785492504343953926634992332820282019728792003956564819968) : F = V % p25 := by
  unfold p25 at *
  rcases h with ⟨rfl, h⟩ | ⟨rfl, h⟩
  · rw [Nat.mod_eq_of_lt h]; omega
  · omega
theorem fv_lt {a b c d e : Nat} (ha : a < 2251799813685248) (hb : b < 2251799813685248) (hc : c < 2251799813685248) (hd : d < 2251799813685248) (he : e < 2251799813685248) : fv a b c d e < 57896044618658097711785492504343953926634992332820282019728792003956564819968 := by unfold fv; omega
theorem fv_digit {a b c d e : Nat} (ha : a < 2251799813685248) (hb : b < 2251799813685248) (hc : c < 2251799813685248) (hd : d < 2251799813685248) (he : e < 2251799813685248) (j : Nat) (hj : j < 5) : fv a b c d e / 2 ^ (51 * j) % 2 ^ 51 = [a, b, c, d, e].getD j 0 := by
  have : j = 0 ∨ j = 1 ∨ j = 2 ∨ j = 3 ∨ j = 4 := by omega
  unfold fv
  rcases this with rfl | rfl | rfl | rfl | rfl <;> simp only [Nat.reducePow, Nat.reduceMul, List.getD_cons_zero, List.getD_cons_succ] <;> omega
theorem fv_bit {a b c d e : Nat} (ha : a < 2251799813685248) (hb : b < 2251799813685248) (hc : c < 2251799813685248) (hd : d < 2251799813685248) (he : e < 2251799813685248) (i : Nat) (hi : i < 255) : [a, b, c, d, e].getD (i / 51) 0 / 2 ^ (i % 51) % 2 = fv a b c d e / 2 ^ i % 2 := by
  rw [← fv_digit ha hb hc hd he (i / 51) (by omega)]
  have h1 : i % 51 < 51 := Nat.mod_lt _ (by decide)
  have e : 2 ^ 51 = 2 ^ (i % 51) * (2 * 2 ^ (50 - i % 51)) := by rw [← Nat.pow_succ', ← Nat.pow_add]; congr 1; omega
  rw [e, Nat.mod_mul_right_div_self, Nat.mod_mul_right_mod, Nat.div_div_eq_div_mul, ← Nat.pow_add]
  congr 3; omega
theorem carry_q {a b c d e : Nat} (ha : a < 2251799813685248) (hb : b < 2251799813685248) (hc : c < 2251799813685248) (hd : d < 2251799813685248) (he : e < 2251799813685248) : ∃ q, q = (e + (d + (c + (b + (a + 19) % 18446744073709551616 / 2251799813685248) % 18446744073709551616 / 2251799813685248) % 18446744073709551616 / 2251799813685248) % 18446744073709551616 / 2251799813685248) % 18446744073709551616 / 2251799813685248 ∧ ((q = 0 ∧ fv a b c d e < p25) ∨ (q = 1 ∧ p25 ≤ fv a b c d e)) :=
  ⟨_, rfl, carry_in ha hb hc hd he rfl rfl rfl rfl rfl⟩
theorem bytes_all {a b c d e q : Nat} (ha : a < 2251799813685248) (hb : b < 2251799813685248) (hc : c < 2251799813685248) (hd : d < 2251799813685248) (he : e < 2251799813685248) (hq : (q = 0 ∧ fv a b c d e < p25) ∨ (q = 1 ∧ p25 ≤ fv a b c d e)) : ∃ f0 f1 f2 f3 f4, f0 = (a + 19 * q % 18446744073709551616) % 18446744073709551616 % 2251799813685248 ∧ f1 = (b + (a + 19 * q % 18446744073709551616) % 18446744073709551616 / 2251799813685248) % 18446744073709551616 % 2251799813685248 ∧ f2 = (c + (b + (a + 19 * q % 18446744073709551616) % 18446744073709551616 / 2251799813685248) % 18446744073709551616 / 2251799813685248) % 18446744073709551616 % 2251799813685248 ∧ f3 = (d + (c + (b + (a + 19 * q % 18446744073709551616) % 18446744073709551616 / 2251799813685248) % 18446744073709551616 / 2251799813685248) % 18446744073709551616 / 2251799813685248) % 18446744073709551616 % 2251799813685248 ∧ f4 = (e + (d + (c + (b + (a + 19 * q % 18446744073709551616) % 18446744073709551616 / 2251799813685248) % 18446744073709551616 / 2251799813685248) % 18446744073709551616 / 2251799813685248) % 18446744073709551616 / 2251799813685248) % 18446744073709551616 % 2251799813685248 ∧ f0 < 2251799813685248 ∧ f1 < 2251799813685248 ∧ f2 < 2251799813685248 ∧ f3 < 2251799813685248 ∧ f4 < 2251799813685248 ∧ fv f0 f1 f2 f3 f4 = fv a b c d e % p25 := by
  have hco := carry_out ha hb hc hd he (q := q) (by rcases hq with h | h <;> omega) rfl rfl rfl rfl rfl
  exact ⟨_, _, _, _, _, rfl, rfl, rfl, rfl, rfl, Nat.mod_lt _ (by decide), Nat.mod_lt _ (by decide), Nat.mod_lt _ (by decide), Nat.mod_lt _ (by decide), Nat.mod_lt _ (by decide), bytes_law hq (fv_lt ha hb hc hd he) hco⟩
end Go.Px
