/- Part 9 of the texts of this claim, one behind the other. -/
import Derived.Test.YtphcaiplgpmnnaaGreatDoorB8
import Derived.Test.YtphcaiplgpmnnaaGreatDoorRows
set_option linter.unusedVariables false
set_option linter.unusedSimpArgs false
set_option maxRecDepth 100000
namespace Go.Px
abbrev p25 : Nat := 57896044618658097711785492504343953926634992332820282019728792003956564819949
/-- The number of five parts. -/
def fv (a b c d e : Nat) : Nat := a + 2251799813685248 * b + 5070602400912917605986812821504 * c + 11417981541647679048466287755595961091061972992 * d + 25711008708143844408671393477458601640355247900524685364822016 * e
/-- What settle does. -/
theorem settle_law {a b c d e a1 b1 c1 d1 e1 : Nat} (ha : a < 9223372036854775808) (hb : b < 9223372036854775808) (hc : c < 9223372036854775808) (hd : d < 9223372036854775808) (he : e < 9223372036854775808)
    (h1 : a1 = (a + 19 * (e / 2251799813685248) % 18446744073709551616) % 18446744073709551616) (h2 : b1 = (b + a1 / 2251799813685248) % 18446744073709551616) (h3 : c1 = (c + b1 / 2251799813685248) % 18446744073709551616)
    (h4 : d1 = (d + c1 / 2251799813685248) % 18446744073709551616) (h5 : e1 = (e % 2251799813685248 + d1 / 2251799813685248) % 18446744073709551616) :
    fv (a1 % 2251799813685248) (b1 % 2251799813685248) (c1 % 2251799813685248) (d1 % 2251799813685248) e1 + p25 * (e / 2251799813685248) = fv a b c d e ∧ e1 < 2251799813685248 + 8192 := by
  unfold fv p25
  omega
theorem mod_of_settle {v q V : Nat} (h : v + p25 * q = V) : v % p25 = V % p25 := by rw [← h, Nat.add_mul_mod_self_left]
theorem fv_add {a b c d e a2 b2 c2 d2 e2 : Nat} (ha : a < 4503599627370496) (hb : b < 4503599627370496) (hc : c < 4503599627370496) (hd : d < 4503599627370496) (he : e < 4503599627370496) (ha2 : a2 < 4503599627370496) (hb2 : b2 < 4503599627370496) (hc2 : c2 < 4503599627370496) (hd2 : d2 < 4503599627370496) (he2 : e2 < 4503599627370496) :
    fv ((a + a2) % 18446744073709551616) ((b + b2) % 18446744073709551616) ((c + c2) % 18446744073709551616) ((d + d2) % 18446744073709551616) ((e + e2) % 18446744073709551616) = fv a b c d e + fv a2 b2 c2 d2 e2 := by
  rw [Nat.mod_eq_of_lt (a := a + a2) (by omega), Nat.mod_eq_of_lt (a := b + b2) (by omega), Nat.mod_eq_of_lt (a := c + c2) (by omega), Nat.mod_eq_of_lt (a := d + d2) (by omega), Nat.mod_eq_of_lt (a := e + e2) (by omega)]
  unfold fv; omega
theorem lim_sub {a t b : Nat} (ha : a < 4503599627370496) (ht : t < 9007199254740992) (hb : b ≤ t) : (a + (t + (18446744073709551616 - b)) % 18446744073709551616) % 18446744073709551616 = a + t - b := by omega
theorem lim_sub' {a t b : Nat} (ha : a < 4503599627370496) (ht : t < 9007199254740992) (hb : b ≤ t) : a + t - b < 9223372036854775808 := by omega
theorem fv_sub {a b c d e a2 b2 c2 d2 e2 : Nat} (ha : a2 ≤ 9007199254740916) (hb : b2 ≤ 9007199254740988) (hc : c2 ≤ 9007199254740988) (hd : d2 ≤ 9007199254740988) (he : e2 ≤ 9007199254740988) :
    fv (a + 9007199254740916 - a2) (b + 9007199254740988 - b2) (c + 9007199254740988 - c2) (d + 9007199254740988 - d2) (e + 9007199254740988 - e2) + fv a2 b2 c2 d2 e2 = fv a b c d e + 4 * p25 := by
  unfold fv p25; omega
theorem sub_mod {A B V : Nat} (h : V + B = A + 4 * p25) : V % p25 = (A % p25 + p25 - B % p25) % p25 := by
  unfold p25 at *; omega
/-! ### Products -/
theorem mul64_law {x y x0 x1 y0 y1 w0 t w1 : Nat} (hx : x < 18446744073709551616) (hy : y < 18446744073709551616) (h1 : x0 = x % 4294967296) (h2 : x1 = x / 4294967296) (h3 : y0 = y % 4294967296) (h4 : y1 = y / 4294967296)
    (h5 : w0 = x0 * y0 % 18446744073709551616) (h6 : t = (x1 * y0 % 18446744073709551616 + w0 / 4294967296) % 18446744073709551616) (h7 : w1 = (t % 4294967296 + x0 * y1 % 18446744073709551616) % 18446744073709551616) :
    ((x1 * y1 % 18446744073709551616 + t / 4294967296) % 18446744073709551616 + w1 / 4294967296) % 18446744073709551616 = x * y / 18446744073709551616 := by
  have b0 : x0 ≤ 4294967295 := by omega
  have b1 : x1 ≤ 4294967295 := by omega
  have b2 : y0 ≤ 4294967295 := by omega
  have b3 : y1 ≤ 4294967295 := by omega
  have q0 := Nat.mul_le_mul b0 b2
  have q1 := Nat.mul_le_mul b1 b2
  have q2 := Nat.mul_le_mul b0 b3
  have q3 := Nat.mul_le_mul b1 b3
  have ex : x = x0 + 4294967296 * x1 := by omega
  have ey : y = y0 + 4294967296 * y1 := by omega
  have e : x * y = x0 * y0 + 4294967296 * (x1 * y0) + 4294967296 * (x0 * y1) + 18446744073709551616 * (x1 * y1) := by rw [ex, ey]; grind
  rw [e]
  clear e ex ey h1 h2 h3 h4 b0 b1 b2 b3 hx hy
  generalize x0 * y0 = A at *
  generalize x1 * y0 = B at *
  generalize x0 * y1 = C at *
  generalize x1 * y1 = E at *
  omega
theorem or13 {hi lo : Nat} (hh : hi < 18446744073709551616) (hl : lo < 18446744073709551616) : (hi * 8192 % 18446744073709551616 ||| lo / 2251799813685248) = (hi * 18446744073709551616 + lo) / 2251799813685248 % 18446744073709551616 := by
  have e : hi * 8192 % 18446744073709551616 = (hi % 2251799813685248) <<< 13 := by rw [Nat.shiftLeft_eq]; omega
  rw [e, ← Nat.shiftLeft_add_eq_or_of_lt (by show _ < 8192; omega), Nat.shiftLeft_eq]
  omega
theorem carry_step {R S T : Nat} (h0 : R < 2596148429267413814265248164610048) (h1 : S < 5192296858534827628530496329220096) (e : T = (R + S / 2251799813685248 % 18446744073709551616) % 340282366920938463463374607431768211456) : T = R + S / 2251799813685248 ∧ T < 5192296858534827628530496329220096 := by
  have a : S / 2251799813685248 < 18446744073709551616 := by omega
  rw [Nat.mod_eq_of_lt a, Nat.mod_eq_of_lt (by omega)] at e
  omega
theorem mul_tail {R0 R1 R2 R3 R4 S1 S2 S3 S4 l0 l1 l2 l3 l4 o0 o1 : Nat} (h0 : R0 < 2596148429267413814265248164610048) (h1 : R1 < 2596148429267413814265248164610048) (h2 : R2 < 2596148429267413814265248164610048) (h3 : R3 < 2596148429267413814265248164610048) (h4 : R4 < 162259276829213363391578010288128)
    (e1 : S1 = (R1 + R0 / 2251799813685248 % 18446744073709551616) % 340282366920938463463374607431768211456) (e2 : S2 = (R2 + S1 / 2251799813685248 % 18446744073709551616) % 340282366920938463463374607431768211456) (e3 : S3 = (R3 + S2 / 2251799813685248 % 18446744073709551616) % 340282366920938463463374607431768211456) (e4 : S4 = (R4 + S3 / 2251799813685248 % 18446744073709551616) % 340282366920938463463374607431768211456)
    (f0 : l0 % 2251799813685248 = R0 % 2251799813685248) (f1 : l1 % 2251799813685248 = S1 % 2251799813685248) (f2 : l2 % 2251799813685248 = S2 % 2251799813685248) (f3 : l3 % 2251799813685248 = S3 % 2251799813685248) (f4 : l4 % 2251799813685248 = S4 % 2251799813685248)
    (g0 : o0 = (l0 % 2251799813685248 + 19 * (S4 / 2251799813685248 % 18446744073709551616) % 18446744073709551616) % 18446744073709551616) (g1 : o1 = (l1 % 2251799813685248 + o0 / 2251799813685248) % 18446744073709551616) :
    o1 < 4503599627370496 ∧ fv (o0 % 2251799813685248) o1 (l2 % 2251799813685248) (l3 % 2251799813685248) (l4 % 2251799813685248) + p25 * (S4 / 2251799813685248) = R0 + 2251799813685248 * R1 + 5070602400912917605986812821504 * R2 + 11417981541647679048466287755595961091061972992 * R3 + 25711008708143844408671393477458601640355247900524685364822016 * R4 := by
  rw [f2, f3, f4]
  rw [f0] at g0
  rw [f1] at g1
  clear f0 f1 f2 f3 f4
  obtain ⟨k1, j1⟩ := carry_step h1 (by omega) e1
  obtain ⟨k2, j2⟩ := carry_step h2 j1 e2
  obtain ⟨k3, j3⟩ := carry_step h3 j2 e3
  obtain ⟨k4, j4⟩ := carry_step (by omega) j3 e4
  have j5 : S3 / 2251799813685248 < 2305843009213693952 := by clear e1 e2 e3 e4 k1 k2 k3 k4 g0 g1; omega
  clear e1 e2 e3 e4 j1 j2 j3
  have k5 : S4 < 324518553658426726783156020576256 := by clear g0 g1 k1 k2 k3; omega
  have j6 : S4 / 2251799813685248 < 288230376151711744 := by clear g0 g1 k1 k2 k3 k4; omega
  have k6 : o0 = R0 % 2251799813685248 + 19 * (S4 / 2251799813685248) := by clear g1 k1 k2 k3 k4 h0 h1 h2 h3 h4 k5 j5; omega
  have k7 : o1 = S1 % 2251799813685248 + o0 / 2251799813685248 := by clear g0 k1 k2 k3 k4 h0 h1 h2 h3 h4 k5 j5; omega
  clear g0 g1
  refine ⟨by clear k1 k2 k3 k4 h0 h1 h2 h3 h4 k5 j5; omega, ?_⟩
  clear h0 h1 h2 h3 h4 k5 j5 j6 j4
  unfold fv p25
  omega
theorem chain5 {x1 x2 x3 x4 x5 z1 z2 z3 z4 z5 : Nat} (h1 : z1 ≤ 385365782469381738054997774434304) (h2 : z2 ≤ 385365782469381738054997774434304) (h3 : z3 ≤ 385365782469381738054997774434304) (h4 : z4 ≤ 385365782469381738054997774434304) (h5 : z5 ≤ 385365782469381738054997774434304) (e1 : x1 = (0 * 18446744073709551616 + 0 + z1) % 340282366920938463463374607431768211456) (e2 : x2 = (x1 + z2) % 340282366920938463463374607431768211456) (e3 : x3 = (x2 + z3) % 340282366920938463463374607431768211456) (e4 : x4 = (x3 + z4) % 340282366920938463463374607431768211456) (e5 : x5 = (x4 + z5) % 340282366920938463463374607431768211456) :
    x5 = z1 + z2 + z3 + z4 + z5 := by omega
theorem lim19 {a : Nat} (h : a < 4503599627370496) : 19 * a % 18446744073709551616 = 19 * a := by omega
theorem zb {a b : Nat} (ha : a < 4503599627370496) (hb : b < 4503599627370496) : a * b ≤ 20282409603651670423947251286016 := Nat.le_trans (Nat.mul_le_mul (Nat.le_of_lt ha) (Nat.le_of_lt hb)) (by decide)
theorem zb19 {a b : Nat} (ha : a < 4503599627370496) (hb : b < 4503599627370496) : 19 * a * b ≤ 385365782469381738054997774434304 := Nat.le_trans (Nat.mul_le_mul (Nat.mul_le_mul_left 19 (Nat.le_of_lt ha)) (Nat.le_of_lt hb)) (by decide)
theorem mul_ring (a b c d e a2 b2 c2 d2 e2 : Nat) : fv a b c d e * fv a2 b2 c2 d2 e2 =
    (a * a2 + 19 * b * e2 + 19 * c * d2 + 19 * d * c2 + 19 * e * b2) + 2251799813685248 * (a * b2 + b * a2 + 19 * c * e2 + 19 * d * d2 + 19 * e * c2) + 5070602400912917605986812821504 * (a * c2 + b * b2 + c * a2 + 19 * d * e2 + 19 * e * d2) + 11417981541647679048466287755595961091061972992 * (a * d2 + b * c2 + c * b2 + d * a2 + 19 * e * e2) + 25711008708143844408671393477458601640355247900524685364822016 * (a * e2 + b * d2 + c * c2 + d * b2 + e * a2)
    + p25 * ((b * e2 + c * d2 + d * c2 + e * b2) + 2251799813685248 * (c * e2 + d * d2 + e * c2) + 5070602400912917605986812821504 * (d * e2 + e * d2) + 11417981541647679048466287755595961091061972992 * (e * e2)) := by
  unfold fv p25; grind
/-! ### The rounds of a product -/
def facX (as_ : List Nat) (i k : Nat) : Nat := if i + k < 5 then as_.getD i 0 else 19 * as_.getD i 0 % 18446744073709551616
def posX (i k : Nat) : Nat := if i + k < 5 then i + k else i + k - 5
def stepX (as_ bs : List Nat) (i k : Nat) (Xs : List Nat) : List Nat := Xs.set (posX i k) ((Xs.getD (posX i k) 0 + facX as_ i k * bs.getD k 0) % 340282366920938463463374607431768211456)
def rowX (as_ bs : List Nat) (i : Nat) : Nat → List Nat → List Nat
  | 0, Xs => Xs
  | k + 1, Xs => stepX as_ bs i k (rowX as_ bs i k Xs)
def allX (as_ bs : List Nat) : Nat → List Nat
  | 0 => [0, 0, 0, 0, 0]
  | i + 1 => rowX as_ bs i 5 (allX as_ bs i)
theorem rowX_len (as_ bs : List Nat) (i k : Nat) (Xs : List Nat) : (rowX as_ bs i k Xs).length = Xs.length := by
  induction k with
  | zero => rfl
  | succ k ih => simp [rowX, stepX, ih]
theorem allX_len (as_ bs : List Nat) (i : Nat) : (allX as_ bs i).length = 5 := by
  induction i with
  | zero => rfl
  | succ i ih => rw [allX, rowX_len, ih]
def lt128 (Xs : List Nat) : Prop := ∀ x ∈ Xs, x < 340282366920938463463374607431768211456
theorem rowX_lt (as_ bs : List Nat) (i k : Nat) {Xs : List Nat} (h : lt128 Xs) : lt128 (rowX as_ bs i k Xs) := by
  induction k with
  | zero => exact h
  | succ k ih =>
    intro x hx
    rcases List.mem_or_eq_of_mem_set hx with h1 | rfl
    · exact ih x h1
    · exact Nat.mod_lt _ (by decide)
theorem allX_lt (as_ bs : List Nat) (i : Nat) : lt128 (allX as_ bs i) := by
  induction i with
  | zero => intro x hx; simp [allX] at hx; subst hx; decide
  | succ i ih => exact rowX_lt _ _ _ _ ih
theorem allX_all (a b c d e a2 b2 c2 d2 e2 : Nat) (ha : a < 4503599627370496) (hb : b < 4503599627370496) (hc : c < 4503599627370496) (hd : d < 4503599627370496) (he : e < 4503599627370496) (ha2 : a2 < 4503599627370496) (hb2 : b2 < 4503599627370496) (hc2 : c2 < 4503599627370496) (hd2 : d2 < 4503599627370496) (he2 : e2 < 4503599627370496) :
    allX [a, b, c, d, e] [a2, b2, c2, d2, e2] 5 = [a * a2 + 19 * b * e2 + 19 * c * d2 + 19 * d * c2 + 19 * e * b2, a * b2 + b * a2 + 19 * c * e2 + 19 * d * d2 + 19 * e * c2, a * c2 + b * b2 + c * a2 + 19 * d * e2 + 19 * e * d2, a * d2 + b * c2 + c * b2 + d * a2 + 19 * e * e2, a * e2 + b * d2 + c * c2 + d * b2 + e * a2] := by
  have z {x y : Nat} (hx : x < 4503599627370496) (hy : y < 4503599627370496) : x * y ≤ 385365782469381738054997774434304 := Nat.le_trans (zb hx hy) (by decide)
  simp only [allX, rowX, stepX, facX, posX, List.set, List.getD_cons_zero, List.getD_cons_succ, Nat.reduceAdd, Nat.reduceLT, Nat.reduceSub, if_true, if_false, Nat.zero_add, Nat.add_zero, lim19 hb, lim19 hc, lim19 hd, lim19 he, reduceIte]
  rw [chain5 (z ha ha2) (zb19 hb he2) (zb19 hc hd2) (zb19 hd hc2) (zb19 he hb2) (by simp) rfl rfl rfl rfl, chain5 (z ha hb2) (z hb ha2) (zb19 hc he2) (zb19 hd hd2) (zb19 he hc2) (by simp) rfl rfl rfl rfl, chain5 (z ha hc2) (z hb hb2) (z hc ha2) (zb19 hd he2) (zb19 he hd2) (by simp) rfl rfl rfl rfl, chain5 (z ha hd2) (z hb hc2) (z hc hb2) (z hd ha2) (zb19 he he2) (by simp) rfl rfl rfl rfl, chain5 (z ha he2) (z hb hd2) (z hc hc2) (z hd hb2) (z he ha2) (by simp) rfl rfl rfl rfl]
/-! ### The least way -/
theorem settled_top {a b c d e a1 b1 c1 d1 e1 : Nat} (ha : a < 2251799813685248) (hb : b < 2251799813685248) (hc : c < 2251799813685248) (hd : d < 2251799813685248) (he : e < 2251799813685248 + 8192) (ha1 : a1 < 2251799813685248) (hb1 : b1 < 2251799813685248) (hc1 : c1 < 2251799813685248) (hd1 : d1 < 2251799813685248) (h : fv a1 b1 c1 d1 e1 + p25 * (e / 2251799813685248) = fv a b c d e) : e1 < 2251799813685248 := by
  have hq : e / 2251799813685248 = 0 ∨ e / 2251799813685248 = 1 := by omega
  unfold fv p25 at h
  rcases hq with hq | hq
  · rw [hq] at h; omega
  · rw [hq] at h; omega
theorem carry_in {a b c d e c0 c1 c2 c3 c4 : Nat} (ha : a < 2251799813685248) (hb : b < 2251799813685248) (hc : c < 2251799813685248) (hd : d < 2251799813685248) (he : e < 2251799813685248) (h0 : c0 = (a + 19) % 18446744073709551616 / 2251799813685248) (h1 : c1 = (b + c0) % 18446744073709551616 / 2251799813685248) (h2 : c2 = (c + c1) % 18446744073709551616 / 2251799813685248) (h3 : c3 = (d + c2) % 18446744073709551616 / 2251799813685248) (h4 : c4 = (e + c3) % 18446744073709551616 / 2251799813685248) :
    (c4 = 0 ∧ fv a b c d e < p25) ∨ (c4 = 1 ∧ p25 ≤ fv a b c d e) := by
  have k0 : c0 ≤ 1 := by omega
  have k1 : c1 ≤ 1 := by omega
  have k2 : c2 ≤ 1 := by omega
  have k3 : c3 ≤ 1 := by omega
  have k4 : c4 ≤ 1 := by omega
  unfold fv p25
  omega
theorem carry_out {a b c d e q a1 b1 c1 d1 e1 : Nat} (ha : a < 2251799813685248) (hb : b < 2251799813685248) (hc : c < 2251799813685248) (hd : d < 2251799813685248) (he : e < 2251799813685248) (hq : q ≤ 1) (h1 : a1 = (a + 19 * q % 18446744073709551616) % 18446744073709551616) (h2 : b1 = (b + a1 / 2251799813685248) % 18446744073709551616) (h3 : c1 = (c + b1 / 2251799813685248) % 18446744073709551616) (h4 : d1 = (d + c1 / 2251799813685248) % 18446744073709551616) (h5 : e1 = (e + d1 / 2251799813685248) % 18446744073709551616) :
    fv (a1 % 2251799813685248) (b1 % 2251799813685248) (c1 % 2251799813685248) (d1 % 2251799813685248) (e1 % 2251799813685248) + 57896044618658097711785492504343953926634992332820282019728792003956564819968 * (e1 / 2251799813685248) = fv a b c d e + 19 * q ∧ fv (a1 % 2251799813685248) (b1 % 2251799813685248) (c1 % 2251799813685248) (d1 % 2251799813685248) (e1 % 2251799813685248) < 57896044618658097711785492504343953926634992332820282019728792003956564819968 := by
  have k1 : a1 = a + 19 * q := by omega
  have k2 : b1 = b + a1 / 2251799813685248 := by omega
  have k3 : c1 = c + b1 / 2251799813685248 := by omega
  have k4 : d1 = d + c1 / 2251799813685248 := by omega
  have k5 : e1 = e + d1 / 2251799813685248 := by omega
  clear h1 h2 h3 h4 h5
  unfold fv
  omega
theorem bytes_law {V F k q : Nat} (h : (q = 0 ∧ V < p25) ∨ (q = 1 ∧ p25 ≤ V)) (hV : V < 57896044618658097711785492504343953926634992332820282019728792003956564819968) (h2 : F + 57896044618658097711785492504343953926634992332820282019728792003956564819968 * k = V + 19 * q ∧ F < 57896044618658097711785492504343953926634992332820282019728792003956564819968) : F = V % p25 := by
  unfold p25 at *
  rcases h with ⟨rfl, h⟩ | ⟨rfl, h⟩
  · rw [Nat.mod_eq_of_lt h]; omega
  · omega
theorem fv_lt {a b c d e : Nat} (ha : a < 2251799813685248) (hb : b < 2251799813685248) (hc : c < 2251799813685248) (hd : d < 2251799813685248) (he : e < 2251799813685248) : fv a b c d e < 57896044618658097711785492504343953926634992332820282019728792003956564819968 := by unfold fv; omega
theorem fv_digit {a b c d e : Nat} (ha : a < 2251799813685248) (hb : b < 2251799813685248) (hc : c < 2251799813685248) (hd : d < 2251799813685248) (he : e < 2251799813685248) (j : Nat) (hj : j < 5) : fv a b c d e / 2 ^ (51 * j) % 2 ^ 51 = [a, b, c, d, e].getD j 0 := by
  have : j = 0 ∨ j = 1 ∨ j = 2 ∨ j = 3 ∨ j = 4 := by omega
  unfold fv
  rcases this with rfl | rfl | rfl | rfl | rfl <;> simp only [Nat.reducePow, Nat.reduceMul, List.getD_cons_zero, List.getD_cons_succ] <;> omega
theorem fv_bit {a b c d e : Nat} (ha : a < 2251799813685248) (hb : b < 2251799813685248) (hc : c < 2251799813685248) (hd : d < 2251799813685248) (he : e < 2251799813685248) (i : Nat) (hi : i < 255) : [a, b, c, d, e].getD (i / 51) 0 / 2 ^ (i % 51) % 2 = fv a b c d e / 2 ^ i % 2 := by
  rw [← fv_digit ha hb hc hd he (i / 51) (by omega)]
  have h1 : i % 51 < 51 := Nat.mod_lt _ (by decide)
  have e : 2 ^ 51 = 2 ^ (i % 51) * (2 * 2 ^ (50 - i % 51)) := by rw [← Nat.pow_succ', ← Nat.pow_add]; congr 1; omega
  rw [e, Nat.mod_mul_right_div_self, Nat.mod_mul_right_mod, Nat.div_div_eq_div_mul, ← Nat.pow_add]
  congr 3; omega
theorem carry_q {a b c d e : Nat} (ha : a < 2251799813685248) (hb : b < 2251799813685248) (hc : c < 2251799813685248) (hd : d < 2251799813685248) (he : e < 2251799813685248) : ∃ q, q = (e + (d + (c + (b + (a + 19) % 18446744073709551616 / 2251799813685248) % 18446744073709551616 / 2251799813685248) % 18446744073709551616 / 2251799813685248) % 18446744073709551616 / 2251799813685248) % 18446744073709551616 / 2251799813685248 ∧ ((q = 0 ∧ fv a b c d e < p25) ∨ (q = 1 ∧ p25 ≤ fv a b c d e)) :=
  ⟨_, rfl, carry_in ha hb hc hd he rfl rfl rfl rfl rfl⟩
theorem bytes_all {a b c d e q : Nat} (ha : a < 2251799813685248) (hb : b < 2251799813685248) (hc : c < 2251799813685248) (hd : d < 2251799813685248) (he : e < 2251799813685248) (hq : (q = 0 ∧ fv a b c d e < p25) ∨ (q = 1 ∧ p25 ≤ fv a b c d e)) : ∃ f0 f1 f2 f3 f4, f0 = (a + 19 * q % 18446744073709551616) % 18446744073709551616 % 2251799813685248 ∧ f1 = (b + (a + 19 * q % 18446744073709551616) % 18446744073709551616 / 2251799813685248) % 18446744073709551616 % 2251799813685248 ∧ f2 = (c + (b + (a + 19 * q % 18446744073709551616) % 18446744073709551616 / 2251799813685248) % 18446744073709551616 / 2251799813685248) % 18446744073709551616 % 2251799813685248 ∧ f3 = (d + (c + (b + (a + 19 * q % 18446744073709551616) % 18446744073709551616 / 2251799813685248) % 18446744073709551616 / 2251799813685248) % 18446744073709551616 / 2251799813685248) % 18446744073709551616 % 2251799813685248 ∧ f4 = (e + (d + (c + (b + (a + 19 * q % 18446744073709551616) % 18446744073709551616 / 2251799813685248) % 18446744073709551616 / 2251799813685248) % 18446744073709551616 / 2251799813685248) % 18446744073709551616 / 2251799813685248) % 18446744073709551616 % 2251799813685248 ∧ f0 < 2251799813685248 ∧ f1 < 2251799813685248 ∧ f2 < 2251799813685248 ∧ f3 < 2251799813685248 ∧ f4 < 2251799813685248 ∧ fv f0 f1 f2 f3 f4 = fv a b c d e % p25 := by
  have hco := carry_out ha hb hc hd he (q := q) (by rcases hq with h | h <;> omega) rfl rfl rfl rfl rfl
  exact ⟨_, _, _, _, _, rfl, rfl, rfl, rfl, rfl, Nat.mod_lt _ (by decide), Nat.mod_lt _ (by decide), Nat.mod_lt _ (by decide), Nat.mod_lt _ (by decide), Nat.mod_lt _ (by decide), bytes_law hq (fv_lt ha hb hc hd he) hco⟩
end Go.Px

/- The walks of package field: settle, Num, Add, Sub, Neg; wide numbers, Mul, Square. -/
namespace Go.Proofs.YtphcaiplgpmnnaaGreatDoor
open Go.Px
/-- An element's value, of its five parts. -/
abbrev el (a b c d e : Nat) : Value := .agg #[.int .u64 (a : Int), .int .u64 (b : Int), .int .u64 (c : Int), .int .u64 (d : Int), .int .u64 (e : Int)]
/-- The value of an element that is the number n. -/
def Fe (v : Value) (n : Nat) : Prop := ∃ a b c d e, v = el a b c d e ∧ a < 4503599627370496 ∧ b < 4503599627370496 ∧ c < 4503599627370496 ∧ d < 4503599627370496 ∧ e < 4503599627370496 ∧ fv a b c d e % p25 = n
theorem Fe.lt {v : Value} {n : Nat} (h : Fe v n) : n < p25 := by
  obtain ⟨a, b, c, d, e, _, _, _, _, _, _, rfl⟩ := h
  exact Nat.mod_lt _ (by decide)

theorem settle_spec (a b c d e : Nat) (ha : a < 9223372036854775808) (hb : b < 9223372036854775808) (hc : c < 9223372036854775808) (hd : d < 9223372036854775808) (he : e < 9223372036854775808) (A : Mem) :
  FnX Tryz.prog 155 [el a b c d e] [] A fun r M J => M = [] ∧ J = [] ∧ ∃ a' b' c' d' e', r = el a' b' c' d' e' ∧ a' < 2251799813685248 ∧ b' < 2251799813685248 ∧ c' < 2251799813685248 ∧ d' < 2251799813685248 ∧ fv a' b' c' d' e' + p25 * (e / 2251799813685248) = fv a b c d e ∧ e' < 2251799813685248 + 8192 := by
 refine FnX.enter (N := 38) Tryz.func155 rfl rfl rfl fun w => ?_
 refine XC.keep (kq 0 kn) ?_
 refine XC.reg ?_
 refine XL.lo rfl (bx_ fun b1 => ?_)
 refine XL.lo rfl (l_alloc (cs := [.int .u64 0, .int .u64 0, .int .u64 0, .int .u64 0, .int .u64 0]) (by kernel_rfl) rfl fun b2 => ?_)
 refine XL.fin (kq 1 (kq 2 kn)) ?_
 refine XC.reg ?_
 refine XL.q (qi_ 4 28 5 1 4) rfl ?_
 refine XL.q ql_ rfl ?_
 refine XL.q (q_shrD 51 2251799813685248 rfl rfl rfl rfl (by decide)) rfl ?_
 refine as_ ?_
 refine XL.fin (kq 1 (kq 2 (kq 3 kn))) ?_
 refine XC.reg ?_
 refine XL.q (qi_ 4 28 5 1 4) rfl ?_
 refine XL.q ql_ rfl ?_
 refine XL.q (q_andD 51 2251799813685248 rfl rfl rfl rfl rfl (by show _ < 18446744073709551616; first | assumption | exact Nat.mod_lt _ (by decide) | omega) (by decide)) rfl ?_
 refine XL.q (qi_ 4 28 5 1 4) rfl ?_
 refine XL.lo rfl (l_store rfl rfl rfl (by kernel_rfl) SetC.set UpC.upd ?_)
 refine XL.fin (kq 1 (kq 2 (kq 3 kn))) ?_
 refine XC.reg ?_
 refine XL.q (qi_ 0 28 5 1 0) rfl ?_
 refine XL.q ql_ rfl ?_
 refine mv_ ?_
 refine XL.q (q_mulM 18446744073709551616 (a := 19) rfl rfl rfl rfl rfl rfl) rfl ?_
 refine XL.q (q_addM 18446744073709551616 rfl rfl rfl rfl rfl rfl) rfl ?_
 refine XL.q (qi_ 0 28 5 1 0) rfl ?_
 refine XL.lo rfl (l_store rfl rfl rfl (by kernel_rfl) SetC.set UpC.upd ?_)
 refine XL.fin (kq 1 (kq 2 kn)) ?_
 refine XC.seq ?_
 refine XC.reg ?_
 refine mv_ ?_
 refine XL.fin (kq 1 (kq 2 (kq 18 kn))) ?_
 refine XC.block ?_
 refine XC.rounds 5 ?_
 refine XR.step ?_
 refine XC.reg ?_
 refine XL.q (q_cmp true rfl rfl (ltT (by decide))) rfl ?_
 refine XL.fin (kq 1 (kq 2 (kq 18 (kq 19 kn)))) ?_
 refine XC.seq ?_
 refine XC.condT rfl ?_
 refine XC.skip ?_
 refine nx (kq 1 (kq 2 (kq 18 kn))) ?_
 refine XC.seq ?_
 refine XC.block ?_
 refine XC.reg ?_
 refine mv_ (as_ ?_)
 refine XL.fin (kq 1 (kq 2 (kq 4 (kq 18 kn)))) ?_
 refine XC.drawF [0, 1, 2, 3, 4, 5, 6, 7, 8, 9] [(0, 0), (1, 0), (2, 0), (3, 1), (4, 0), (5, 0), (6, 1), (7, 0), (8, 0), (9, 0), (10, 2)] (by kernel_rfl) (by kernel_rfl) fun hs => ?_
 refine XF.q hs rfl qm_ rfl ?_
 refine XF.q hs rfl (q_num (1 : Int) rfl rfl (add64 (by decide) (by decide) (by decide))) rfl ?_
 refine XF.q hs rfl (qi_ 1 28 5 1 1) rfl ?_
 refine XF.r hs rfl ql_ rfl ?_
 refine XF.q hs rfl qm_ rfl ?_
 refine XF.q hs rfl (qi_ 0 28 5 1 0) rfl ?_
 refine XF.r hs rfl ql_ rfl ?_
 refine XF.q hs rfl (q_shrD 51 2251799813685248 rfl rfl rfl rfl (by decide)) rfl ?_
 refine XF.q hs rfl (q_addM 18446744073709551616 rfl rfl rfl rfl rfl rfl) rfl ?_
 refine XF.q hs rfl (qi_ 1 28 5 1 1) rfl ?_
 refine XF.tl rfl rfl rfl (l_store rfl rfl rfl (by kernel_rfl) SetC.set UpC.upd ?_)
 refine XF.fin (kq 1 (kq 2 (kq 4 (kq 18 kn)))) ?_
 refine XC.reg1 ?_
 refine mv_ ?_
 refine XL.q (qi_ 0 28 5 1 0) rfl ?_
 refine XL.q ql_ rfl ?_
 refine XL.q (q_andD 51 2251799813685248 rfl rfl rfl rfl rfl (by show _ < 18446744073709551616; first | assumption | exact Nat.mod_lt _ (by decide) | omega) (by decide)) rfl ?_
 refine XL.q (qi_ 0 28 5 1 0) rfl ?_
 refine XL.lo rfl (l_store rfl rfl rfl (by kernel_rfl) SetC.set UpC.upd ?_)
 refine XL.nil ?_
 refine nb ?_
 refine nx (kq 1 (kq 2 (kq 18 kn))) ?_
 refine XC.reg1 ?_
 refine XL.q (q_num (1 : Int) rfl rfl (add64 (by decide) (by decide) (by decide))) rfl ?_
 refine mv_ ?_
 refine XL.nil ?_
 refine un (kq 1 (kq 2 (kq 18 kn))) ?_
 refine XR.step ?_
 refine XC.reg ?_
 refine XL.q (q_cmp true rfl rfl (ltT (by decide))) rfl ?_
 refine XL.fin (kq 1 (kq 2 (kq 18 (kq 19 kn)))) ?_
 refine XC.seq ?_
 refine XC.condT rfl ?_
 refine XC.skip ?_
 refine nx (kq 1 (kq 2 (kq 18 kn))) ?_
 refine XC.seq ?_
 refine XC.block ?_
 refine XC.reg ?_
 refine mv_ (as_ ?_)
 refine XL.fin (kq 1 (kq 2 (kq 4 (kq 18 kn)))) ?_
 refine XC.drawF [0, 1, 2, 3, 4, 5, 6, 7, 8, 9] [(0, 0), (1, 0), (2, 0), (3, 1), (4, 0), (5, 0), (6, 1), (7, 0), (8, 0), (9, 0), (10, 2)] (by kernel_rfl) (by kernel_rfl) fun hs => ?_
 refine XF.q hs rfl qm_ rfl ?_
 refine XF.q hs rfl (q_num (2 : Int) rfl rfl (add64 (by decide) (by decide) (by decide))) rfl ?_
 refine XF.q hs rfl (qi_ 2 28 5 1 2) rfl ?_
 refine XF.r hs rfl ql_ rfl ?_
 refine XF.q hs rfl qm_ rfl ?_
 refine XF.q hs rfl (qi_ 1 28 5 1 1) rfl ?_
 refine XF.r hs rfl ql_ rfl ?_
 refine XF.q hs rfl (q_shrD 51 2251799813685248 rfl rfl rfl rfl (by decide)) rfl ?_
 refine XF.q hs rfl (q_addM 18446744073709551616 rfl rfl rfl rfl rfl rfl) rfl ?_
 refine XF.q hs rfl (qi_ 2 28 5 1 2) rfl ?_
 refine XF.tl rfl rfl rfl (l_store rfl rfl rfl (by kernel_rfl) SetC.set UpC.upd ?_)
 refine XF.fin (kq 1 (kq 2 (kq 4 (kq 18 kn)))) ?_
 refine XC.reg1 ?_
 refine mv_ ?_
 refine XL.q (qi_ 1 28 5 1 1) rfl ?_
 refine XL.q ql_ rfl ?_
 refine XL.q (q_andD 51 2251799813685248 rfl rfl rfl rfl rfl (by show _ < 18446744073709551616; first | assumption | exact Nat.mod_lt _ (by decide) | omega) (by decide)) rfl ?_
 refine XL.q (qi_ 1 28 5 1 1) rfl ?_
 refine XL.lo rfl (l_store rfl rfl rfl (by kernel_rfl) SetC.set UpC.upd ?_)
 refine XL.nil ?_
 refine nb ?_
 refine nx (kq 1 (kq 2 (kq 18 kn))) ?_
 refine XC.reg1 ?_
 refine XL.q (q_num (2 : Int) rfl rfl (add64 (by decide) (by decide) (by decide))) rfl ?_
 refine mv_ ?_
 refine XL.nil ?_
 refine un (kq 1 (kq 2 (kq 18 kn))) ?_
 refine XR.step ?_
 refine XC.reg ?_
 refine XL.q (q_cmp true rfl rfl (ltT (by decide))) rfl ?_
 refine XL.fin (kq 1 (kq 2 (kq 18 (kq 19 kn)))) ?_
 refine XC.seq ?_
 refine XC.condT rfl ?_
 refine XC.skip ?_
 refine nx (kq 1 (kq 2 (kq 18 kn))) ?_
 refine XC.seq ?_
 refine XC.block ?_
 refine XC.reg ?_
 refine mv_ (as_ ?_)
 refine XL.fin (kq 1 (kq 2 (kq 4 (kq 18 kn)))) ?_
 refine XC.drawF [0, 1, 2, 3, 4, 5, 6, 7, 8, 9] [(0, 0), (1, 0), (2, 0), (3, 1), (4, 0), (5, 0), (6, 1), (7, 0), (8, 0), (9, 0), (10, 2)] (by kernel_rfl) (by kernel_rfl) fun hs => ?_
 refine XF.q hs rfl qm_ rfl ?_
 refine XF.q hs rfl (q_num (3 : Int) rfl rfl (add64 (by decide) (by decide) (by decide))) rfl ?_
 refine XF.q hs rfl (qi_ 3 28 5 1 3) rfl ?_
 refine XF.r hs rfl ql_ rfl ?_
 refine XF.q hs rfl qm_ rfl ?_
 refine XF.q hs rfl (qi_ 2 28 5 1 2) rfl ?_
 refine XF.r hs rfl ql_ rfl ?_
 refine XF.q hs rfl (q_shrD 51 2251799813685248 rfl rfl rfl rfl (by decide)) rfl ?_
 refine XF.q hs rfl (q_addM 18446744073709551616 rfl rfl rfl rfl rfl rfl) rfl ?_
 refine XF.q hs rfl (qi_ 3 28 5 1 3) rfl ?_
 refine XF.tl rfl rfl rfl (l_store rfl rfl rfl (by kernel_rfl) SetC.set UpC.upd ?_)
 refine XF.fin (kq 1 (kq 2 (kq 4 (kq 18 kn)))) ?_
 refine XC.reg1 ?_
 refine mv_ ?_
 refine XL.q (qi_ 2 28 5 1 2) rfl ?_
 refine XL.q ql_ rfl ?_
 refine XL.q (q_andD 51 2251799813685248 rfl rfl rfl rfl rfl (by show _ < 18446744073709551616; first | assumption | exact Nat.mod_lt _ (by decide) | omega) (by decide)) rfl ?_
 refine XL.q (qi_ 2 28 5 1 2) rfl ?_
 refine XL.lo rfl (l_store rfl rfl rfl (by kernel_rfl) SetC.set UpC.upd ?_)
 refine XL.nil ?_
 refine nb ?_
 refine nx (kq 1 (kq 2 (kq 18 kn))) ?_
 refine XC.reg1 ?_
 refine XL.q (q_num (3 : Int) rfl rfl (add64 (by decide) (by decide) (by decide))) rfl ?_
 refine mv_ ?_
 refine XL.nil ?_
 refine un (kq 1 (kq 2 (kq 18 kn))) ?_
 refine XR.step ?_
 refine XC.reg ?_
 refine XL.q (q_cmp true rfl rfl (ltT (by decide))) rfl ?_
 refine XL.fin (kq 1 (kq 2 (kq 18 (kq 19 kn)))) ?_
 refine XC.seq ?_
 refine XC.condT rfl ?_
 refine XC.skip ?_
 refine nx (kq 1 (kq 2 (kq 18 kn))) ?_
 refine XC.seq ?_
 refine XC.block ?_
 refine XC.reg ?_
 refine mv_ (as_ ?_)
 refine XL.fin (kq 1 (kq 2 (kq 4 (kq 18 kn)))) ?_
 refine XC.drawF [0, 1, 2, 3, 4, 5, 6, 7, 8, 9] [(0, 0), (1, 0), (2, 0), (3, 1), (4, 0), (5, 0), (6, 1), (7, 0), (8, 0), (9, 0), (10, 2)] (by kernel_rfl) (by kernel_rfl) fun hs => ?_
 refine XF.q hs rfl qm_ rfl ?_
 refine XF.q hs rfl (q_num (4 : Int) rfl rfl (add64 (by decide) (by decide) (by decide))) rfl ?_
 refine XF.q hs rfl (qi_ 4 28 5 1 4) rfl ?_
 refine XF.r hs rfl ql_ rfl ?_
 refine XF.q hs rfl qm_ rfl ?_
 refine XF.q hs rfl (qi_ 3 28 5 1 3) rfl ?_
 refine XF.r hs rfl ql_ rfl ?_
 refine XF.q hs rfl (q_shrD 51 2251799813685248 rfl rfl rfl rfl (by decide)) rfl ?_
 refine XF.q hs rfl (q_addM 18446744073709551616 rfl rfl rfl rfl rfl rfl) rfl ?_
 refine XF.q hs rfl (qi_ 4 28 5 1 4) rfl ?_
 refine XF.tl rfl rfl rfl (l_store rfl rfl rfl (by kernel_rfl) SetC.set UpC.upd ?_)
 refine XF.fin (kq 1 (kq 2 (kq 4 (kq 18 kn)))) ?_
 refine XC.reg1 ?_
 refine mv_ ?_
 refine XL.q (qi_ 3 28 5 1 3) rfl ?_
 refine XL.q ql_ rfl ?_
 refine XL.q (q_andD 51 2251799813685248 rfl rfl rfl rfl rfl (by show _ < 18446744073709551616; first | assumption | exact Nat.mod_lt _ (by decide) | omega) (by decide)) rfl ?_
 refine XL.q (qi_ 3 28 5 1 3) rfl ?_
 refine XL.lo rfl (l_store rfl rfl rfl (by kernel_rfl) SetC.set UpC.upd ?_)
 refine XL.nil ?_
 refine nb ?_
 refine nx (kq 1 (kq 2 (kq 18 kn))) ?_
 refine XC.reg1 ?_
 refine XL.q (q_num (4 : Int) rfl rfl (add64 (by decide) (by decide) (by decide))) rfl ?_
 refine mv_ ?_
 refine XL.nil ?_
 refine un (kq 1 (kq 2 (kq 18 kn))) ?_
 refine XR.step ?_
 refine XC.reg ?_
 refine XL.q (q_cmp false rfl rfl (ltF (by decide))) rfl ?_
 refine XL.fin (kq 1 (kq 2 (kq 18 (kq 19 kn)))) ?_
 refine XC.seq ?_
 refine XC.condF rfl ?_
 refine XC.exit ?_
 refine te ?_
 refine ue ?_
 refine be rfl ?_
 refine nx (kq 1 (kq 2 kn)) ?_
 refine XC.reg ?_
 refine XL.q (qw_ 5) rfl ?_
 refine XL.lo rfl (l_storeW rfl rfl Cel.cel (by kernel_rfl) (lnS (lnS (lnS (lnS (lnS (ln0)))))) (allS rfl (allS rfl (allS rfl (allS rfl (allS rfl (all0)))))) UpC.upd ?_)
 refine XL.fin (kq 2 kn) ?_
 refine XC.ret ?_
 refine ⟨_, [], [], resC rfl rfl (by kernel_rfl) At.mem (by rfl), List.nil_sublist _, by simp, rfl, rfl, _, _, _, _, _, rfl, Nat.mod_lt _ (by decide), Nat.mod_lt _ (by decide), Nat.mod_lt _ (by decide), Nat.mod_lt _ (by decide), settle_law ha hb hc hd he rfl rfl rfl rfl rfl⟩

theorem fadd_spec (v u : Value) (x y : Nat) (hx : Fe v x) (hy : Fe u y) (A : Mem) : FnX Tryz.prog 152 [v, u] [] A fun r M J => M = [] ∧ J = [] ∧ Fe r ((x + y) % p25) := by
 obtain ⟨a, b, c, d, e, rfl, ha, hb, hc, hd, he, rfl⟩ := hx
 obtain ⟨a2, b2, c2, d2, e2, rfl, ha2, hb2, hc2, hd2, he2, rfl⟩ := hy
 refine FnX.enter (N := 20) Tryz.func152 rfl rfl rfl fun w => ?_
 refine XC.keep (kq 0 (kq 1 kn)) ?_
 refine XC.reg ?_
 refine XL.lo rfl (bx_ fun b2 => ?_)
 refine XL.lo rfl (bx_ fun b3 => ?_)
 refine XL.lo rfl (l_alloc (cs := [.int .u64 0, .int .u64 0, .int .u64 0, .int .u64 0, .int .u64 0]) (by kernel_rfl) rfl fun b4 => ?_)
 refine XL.fin (kq 2 (kq 3 (kq 4 kn))) ?_
 refine XC.seq ?_
 refine XC.reg ?_
 refine mv_ ?_
 refine XL.fin (kq 2 (kq 3 (kq 4 (kq 6 kn)))) ?_
 refine XC.block ?_
 refine XC.rounds 6 ?_
 refine XR.step ?_
 refine XC.reg ?_
 refine XL.q (q_cmp true rfl rfl (ltT (by decide))) rfl ?_
 refine XL.fin (kq 2 (kq 3 (kq 4 (kq 6 (kq 7 kn))))) ?_
 refine XC.seq ?_
 refine XC.condT rfl ?_
 refine XC.skip ?_
 refine nx (kq 2 (kq 3 (kq 4 (kq 6 kn)))) ?_
 refine XC.seq ?_
 refine XC.block ?_
 refine XC.reg ?_
 refine mv_ (as_ ?_)
 refine XL.fin (kq 2 (kq 3 (kq 4 (kq 5 (kq 6 kn))))) ?_
 refine XC.drawF1 [0, 1, 2, 3, 4, 5, 6, 7] [(0, 0), (1, 0), (2, 1), (3, 0), (4, 0), (5, 1), (6, 0), (7, 0), (8, 2)] (by kernel_rfl) (by kernel_rfl) fun hs => ?_
 refine XF.q hs rfl qm_ rfl ?_
 refine XF.q hs rfl (qi_ 0 28 5 1 0) rfl ?_
 refine XF.r hs rfl ql_ rfl ?_
 refine XF.q hs rfl qm_ rfl ?_
 refine XF.q hs rfl (qi_ 0 28 5 1 0) rfl ?_
 refine XF.r hs rfl ql_ rfl ?_
 refine XF.q hs rfl (q_addM 18446744073709551616 rfl rfl rfl rfl rfl rfl) rfl ?_
 refine XF.q hs rfl (qi_ 0 28 5 1 0) rfl ?_
 refine XF.tl rfl rfl rfl (l_store rfl rfl rfl (by kernel_rfl) SetC.set UpC.upd ?_)
 refine XF.nil ?_
 refine nb ?_
 refine nx (kq 2 (kq 3 (kq 4 (kq 6 kn)))) ?_
 refine XC.reg1 ?_
 refine XL.q (q_num (1 : Int) rfl rfl (add64 (by decide) (by decide) (by decide))) rfl ?_
 refine mv_ ?_
 refine XL.nil ?_
 refine un (kq 2 (kq 3 (kq 4 (kq 6 kn)))) ?_
 refine XR.step ?_
 refine XC.reg ?_
 refine XL.q (q_cmp true rfl rfl (ltT (by decide))) rfl ?_
 refine XL.fin (kq 2 (kq 3 (kq 4 (kq 6 (kq 7 kn))))) ?_
 refine XC.seq ?_
 refine XC.condT rfl ?_
 refine XC.skip ?_
 refine nx (kq 2 (kq 3 (kq 4 (kq 6 kn)))) ?_
 refine XC.seq ?_
 refine XC.block ?_
 refine XC.reg ?_
 refine mv_ (as_ ?_)
 refine XL.fin (kq 2 (kq 3 (kq 4 (kq 5 (kq 6 kn))))) ?_
 refine XC.drawF1 [0, 1, 2, 3, 4, 5, 6, 7] [(0, 0), (1, 0), (2, 1), (3, 0), (4, 0), (5, 1), (6, 0), (7, 0), (8, 2)] (by kernel_rfl) (by kernel_rfl) fun hs => ?_
 refine XF.q hs rfl qm_ rfl ?_
 refine XF.q hs rfl (qi_ 1 28 5 1 1) rfl ?_
 refine XF.r hs rfl ql_ rfl ?_
 refine XF.q hs rfl qm_ rfl ?_
 refine XF.q hs rfl (qi_ 1 28 5 1 1) rfl ?_
 refine XF.r hs rfl ql_ rfl ?_
 refine XF.q hs rfl (q_addM 18446744073709551616 rfl rfl rfl rfl rfl rfl) rfl ?_
 refine XF.q hs rfl (qi_ 1 28 5 1 1) rfl ?_
 refine XF.tl rfl rfl rfl (l_store rfl rfl rfl (by kernel_rfl) SetC.set UpC.upd ?_)
 refine XF.nil ?_
 refine nb ?_
 refine nx (kq 2 (kq 3 (kq 4 (kq 6 kn)))) ?_
 refine XC.reg1 ?_
 refine XL.q (q_num (2 : Int) rfl rfl (add64 (by decide) (by decide) (by decide))) rfl ?_
 refine mv_ ?_
 refine XL.nil ?_
 refine un (kq 2 (kq 3 (kq 4 (kq 6 kn)))) ?_
 refine XR.step ?_
 refine XC.reg ?_
 refine XL.q (q_cmp true rfl rfl (ltT (by decide))) rfl ?_
 refine XL.fin (kq 2 (kq 3 (kq 4 (kq 6 (kq 7 kn))))) ?_
 refine XC.seq ?_
 refine XC.condT rfl ?_
 refine XC.skip ?_
 refine nx (kq 2 (kq 3 (kq 4 (kq 6 kn)))) ?_
 refine XC.seq ?_
 refine XC.block ?_
 refine XC.reg ?_
 refine mv_ (as_ ?_)
 refine XL.fin (kq 2 (kq 3 (kq 4 (kq 5 (kq 6 kn))))) ?_
 refine XC.drawF1 [0, 1, 2, 3, 4, 5, 6, 7] [(0, 0), (1, 0), (2, 1), (3, 0), (4, 0), (5, 1), (6, 0), (7, 0), (8, 2)] (by kernel_rfl) (by kernel_rfl) fun hs => ?_
 refine XF.q hs rfl qm_ rfl ?_
 refine XF.q hs rfl (qi_ 2 28 5 1 2) rfl ?_
 refine XF.r hs rfl ql_ rfl ?_
 refine XF.q hs rfl qm_ rfl ?_
 refine XF.q hs rfl (qi_ 2 28 5 1 2) rfl ?_
 refine XF.r hs rfl ql_ rfl ?_
 refine XF.q hs rfl (q_addM 18446744073709551616 rfl rfl rfl rfl rfl rfl) rfl ?_
 refine XF.q hs rfl (qi_ 2 28 5 1 2) rfl ?_
 refine XF.tl rfl rfl rfl (l_store rfl rfl rfl (by kernel_rfl) SetC.set UpC.upd ?_)
 refine XF.nil ?_
 refine nb ?_
 refine nx (kq 2 (kq 3 (kq 4 (kq 6 kn)))) ?_
 refine XC.reg1 ?_
 refine XL.q (q_num (3 : Int) rfl rfl (add64 (by decide) (by decide) (by decide))) rfl ?_
 refine mv_ ?_
 refine XL.nil ?_
 refine un (kq 2 (kq 3 (kq 4 (kq 6 kn)))) ?_
 refine XR.step ?_
 refine XC.reg ?_
 refine XL.q (q_cmp true rfl rfl (ltT (by decide))) rfl ?_
 refine XL.fin (kq 2 (kq 3 (kq 4 (kq 6 (kq 7 kn))))) ?_
 refine XC.seq ?_
 refine XC.condT rfl ?_
 refine XC.skip ?_
 refine nx (kq 2 (kq 3 (kq 4 (kq 6 kn)))) ?_
 refine XC.seq ?_
 refine XC.block ?_
 refine XC.reg ?_
 refine mv_ (as_ ?_)
 refine XL.fin (kq 2 (kq 3 (kq 4 (kq 5 (kq 6 kn))))) ?_
 refine XC.drawF1 [0, 1, 2, 3, 4, 5, 6, 7] [(0, 0), (1, 0), (2, 1), (3, 0), (4, 0), (5, 1), (6, 0), (7, 0), (8, 2)] (by kernel_rfl) (by kernel_rfl) fun hs => ?_
 refine XF.q hs rfl qm_ rfl ?_
 refine XF.q hs rfl (qi_ 3 28 5 1 3) rfl ?_
 refine XF.r hs rfl ql_ rfl ?_
 refine XF.q hs rfl qm_ rfl ?_
 refine XF.q hs rfl (qi_ 3 28 5 1 3) rfl ?_
 refine XF.r hs rfl ql_ rfl ?_
 refine XF.q hs rfl (q_addM 18446744073709551616 rfl rfl rfl rfl rfl rfl) rfl ?_
 refine XF.q hs rfl (qi_ 3 28 5 1 3) rfl ?_
 refine XF.tl rfl rfl rfl (l_store rfl rfl rfl (by kernel_rfl) SetC.set UpC.upd ?_)
 refine XF.nil ?_
 refine nb ?_
 refine nx (kq 2 (kq 3 (kq 4 (kq 6 kn)))) ?_
 refine XC.reg1 ?_
 refine XL.q (q_num (4 : Int) rfl rfl (add64 (by decide) (by decide) (by decide))) rfl ?_
 refine mv_ ?_
 refine XL.nil ?_
 refine un (kq 2 (kq 3 (kq 4 (kq 6 kn)))) ?_
 refine XR.step ?_
 refine XC.reg ?_
 refine XL.q (q_cmp true rfl rfl (ltT (by decide))) rfl ?_
 refine XL.fin (kq 2 (kq 3 (kq 4 (kq 6 (kq 7 kn))))) ?_
 refine XC.seq ?_
 refine XC.condT rfl ?_
 refine XC.skip ?_
 refine nx (kq 2 (kq 3 (kq 4 (kq 6 kn)))) ?_
 refine XC.seq ?_
 refine XC.block ?_
 refine XC.reg ?_
 refine mv_ (as_ ?_)
 refine XL.fin (kq 2 (kq 3 (kq 4 (kq 5 (kq 6 kn))))) ?_
 refine XC.drawF1 [0, 1, 2, 3, 4, 5, 6, 7] [(0, 0), (1, 0), (2, 1), (3, 0), (4, 0), (5, 1), (6, 0), (7, 0), (8, 2)] (by kernel_rfl) (by kernel_rfl) fun hs => ?_
 refine XF.q hs rfl qm_ rfl ?_
 refine XF.q hs rfl (qi_ 4 28 5 1 4) rfl ?_
 refine XF.r hs rfl ql_ rfl ?_
 refine XF.q hs rfl qm_ rfl ?_
 refine XF.q hs rfl (qi_ 4 28 5 1 4) rfl ?_
 refine XF.r hs rfl ql_ rfl ?_
 refine XF.q hs rfl (q_addM 18446744073709551616 rfl rfl rfl rfl rfl rfl) rfl ?_
 refine XF.q hs rfl (qi_ 4 28 5 1 4) rfl ?_
 refine XF.tl rfl rfl rfl (l_store rfl rfl rfl (by kernel_rfl) SetC.set UpC.upd ?_)
 refine XF.nil ?_
 refine nb ?_
 refine nx (kq 2 (kq 3 (kq 4 (kq 6 kn)))) ?_
 refine XC.reg1 ?_
 refine XL.q (q_num (5 : Int) rfl rfl (add64 (by decide) (by decide) (by decide))) rfl ?_
 refine mv_ ?_
 refine XL.nil ?_
 refine un (kq 2 (kq 3 (kq 4 (kq 6 kn)))) ?_
 refine XR.step ?_
 refine XC.reg ?_
 refine XL.q (q_cmp false rfl rfl (ltF (by decide))) rfl ?_
 refine XL.fin (kq 2 (kq 3 (kq 4 (kq 6 (kq 7 kn))))) ?_
 refine XC.seq ?_
 refine XC.condF rfl ?_
 refine XC.exit ?_
 refine te ?_
 refine ue ?_
 refine be rfl ?_
 refine nx (kq 2 (kq 4 kn)) ?_
 refine XC.reg ?_
 refine XL.q (qw_ 5) rfl ?_
 refine XL.call (aS rfl a0) (by kernel_rfl) (settle_spec _ _ _ _ _ (by omega) (by omega) (by omega) (by omega) (by omega) _) rfl ?_
 rintro r3 M3 J3 ⟨rfl, rfl, a3, b3, c3, d3, e3, rfl, ha3, hb3, hc3, hd3, hv3, he3⟩
 refine XL.lo rfl (l_storeW rfl rfl Cel.cel (by kernel_rfl) (lnS (lnS (lnS (lnS (lnS (ln0)))))) (allS rfl (allS rfl (allS rfl (allS rfl (allS rfl (all0)))))) UpC.upd ?_)
 refine XL.fin (kq 4 kn) ?_
 refine XC.ret ?_
 refine ⟨_, [], [], resC rfl rfl (by kernel_rfl) At.mem (by rfl), List.nil_sublist _, by simp, rfl, rfl, a3, b3, c3, d3, e3, rfl, by omega, by omega, by omega, by omega, by omega, ?_⟩
 rw [mod_of_settle hv3, fv_add ha hb hc hd he ha2 hb2 hc2 hd2 he2, Nat.add_mod]

theorem fsub_spec (v u : Value) (x y : Nat) (hx : Fe v x) (hy : Fe u y) (A : Mem) : FnX Tryz.prog 153 [v, u] [] A fun r M J => M = [] ∧ J = [] ∧ Fe r ((x + p25 - y) % p25) := by
 obtain ⟨a, b, c, d, e, rfl, ha, hb, hc, hd, he, rfl⟩ := hx
 obtain ⟨a2, b2, c2, d2, e2, rfl, ha2, hb2, hc2, hd2, he2, rfl⟩ := hy
 refine FnX.enter (N := 30) Tryz.func153 rfl rfl rfl fun w => ?_
 refine XC.keep (kq 0 (kq 1 kn)) ?_
 refine XC.reg ?_
 refine XL.lo rfl (bx_ fun b2 => ?_)
 refine XL.lo rfl (bx_ fun b3 => ?_)
 refine XL.lo rfl (l_alloc (cs := [.int .u64 0, .int .u64 0, .int .u64 0, .int .u64 0, .int .u64 0]) (by kernel_rfl) rfl fun b4 => ?_)
 refine XL.fin (kq 2 (kq 3 (kq 4 kn))) ?_
 refine XC.reg ?_
 refine XL.q (qw_ 5) rfl ?_
 refine XL.call (aS rfl a0) (by kernel_rfl) (settle_spec _ _ _ _ _ (by omega) (by omega) (by omega) (by omega) (by omega) _) rfl ?_
 rintro r3 M3 J3 ⟨rfl, rfl, a3, b3, c3, d3, e3, rfl, ha3, hb3, hc3, hd3, hv3, he3⟩
 refine XL.lo rfl (l_storeW rfl rfl Cel.cel (by kernel_rfl) (lnS (lnS (lnS (lnS (lnS (ln0)))))) (allS rfl (allS rfl (allS rfl (allS rfl (allS rfl (all0)))))) UpC.upd ?_)
 refine XL.fin (kq 2 (kq 3 (kq 4 kn))) ?_
 refine XC.reg ?_
 refine XL.q (q_build (place := fun i => some (i * 1, 1)) (z := [.int .u64 0, .int .u64 0, .int .u64 0, .int .u64 0, .int .u64 0]) (fun _ => by kernel_rfl) (eS rfl (eS rfl (eS rfl (eS rfl (eS rfl e0))))) (bdS 0 1 rfl (by rfl) (bdS 1 1 rfl (by rfl) (bdS 2 1 rfl (by rfl) (bdS 3 1 rfl (by rfl) (bdS 4 1 rfl (by rfl) bd0)))))) rfl ?_
 refine XL.lo rfl (l_alloc (cs := [.int .u64 0, .int .u64 0, .int .u64 0, .int .u64 0, .int .u64 0]) (by kernel_rfl) rfl fun b5 => ?_)
 refine XL.lo rfl (l_storeW rfl rfl Cel.cel (by kernel_rfl) (lnS (lnS (lnS (lnS (lnS (ln0)))))) (allS rfl (allS rfl (allS rfl (allS rfl (allS rfl (all0)))))) UpC.upd ?_)
 refine XL.fin (kq 2 (kq 3 (kq 4 (kq 5 kn)))) ?_
 refine XC.seq ?_
 refine XC.reg ?_
 refine mv_ ?_
 refine XL.fin (kq 2 (kq 3 (kq 4 (kq 5 (kq 10 kn))))) ?_
 refine XC.block ?_
 refine XC.rounds 6 ?_
 refine XR.step ?_
 refine XC.reg ?_
 refine XL.q (q_cmp true rfl rfl (ltT (by decide))) rfl ?_
 refine XL.fin (kq 2 (kq 3 (kq 4 (kq 5 (kq 10 (kq 11 kn)))))) ?_
 refine XC.seq ?_
 refine XC.condT rfl ?_
 refine XC.skip ?_
 refine nx (kq 2 (kq 3 (kq 4 (kq 5 (kq 10 kn))))) ?_
 refine XC.seq ?_
 refine XC.block ?_
 refine XC.reg ?_
 refine mv_ (as_ ?_)
 refine XL.fin (kq 2 (kq 3 (kq 4 (kq 5 (kq 6 (kq 10 kn)))))) ?_
 refine XC.drawF1 [0, 1, 2, 3, 4, 5, 6, 7, 8, 9, 10, 11, 12] [(0, 0), (1, 0), (2, 1), (3, 0), (4, 0), (5, 1), (6, 0), (7, 0), (8, 0), (9, 1), (10, 0), (11, 0), (12, 0), (13, 2)] (by kernel_rfl) (by kernel_rfl) fun hs => ?_
 refine XF.q hs rfl qm_ rfl ?_
 refine XF.q hs rfl (qi_ 0 28 5 1 0) rfl ?_
 refine XF.r hs rfl ql_ rfl ?_
 refine XF.q hs rfl qm_ rfl ?_
 refine XF.q hs rfl (qi_ 0 28 5 1 0) rfl ?_
 refine XF.r hs rfl ql_ rfl ?_
 refine XF.q hs rfl (q_mulM 18446744073709551616 (a := 2) rfl rfl rfl rfl rfl rfl) rfl ?_
 refine XF.q hs rfl qm_ rfl ?_
 refine XF.q hs rfl (qi_ 0 28 5 1 0) rfl ?_
 refine XF.r hs rfl ql_ rfl ?_
 refine XF.q hs rfl (q_subM 18446744073709551616 rfl rfl rfl rfl rfl rfl (by omega)) rfl ?_
 refine XF.q hs rfl (q_addM 18446744073709551616 rfl rfl rfl rfl rfl rfl) rfl ?_
 refine XF.q hs rfl (qi_ 0 28 5 1 0) rfl ?_
 refine XF.tl rfl rfl rfl (l_store rfl rfl rfl (by kernel_rfl) SetC.set UpC.upd ?_)
 refine XF.nil ?_
 refine nb ?_
 refine nx (kq 2 (kq 3 (kq 4 (kq 5 (kq 10 kn))))) ?_
 refine XC.reg1 ?_
 refine XL.q (q_num (1 : Int) rfl rfl (add64 (by decide) (by decide) (by decide))) rfl ?_
 refine mv_ ?_
 refine XL.nil ?_
 refine un (kq 2 (kq 3 (kq 4 (kq 5 (kq 10 kn))))) ?_
 refine XR.step ?_
 refine XC.reg ?_
 refine XL.q (q_cmp true rfl rfl (ltT (by decide))) rfl ?_
 refine XL.fin (kq 2 (kq 3 (kq 4 (kq 5 (kq 10 (kq 11 kn)))))) ?_
 refine XC.seq ?_
 refine XC.condT rfl ?_
 refine XC.skip ?_
 refine nx (kq 2 (kq 3 (kq 4 (kq 5 (kq 10 kn))))) ?_
 refine XC.seq ?_
 refine XC.block ?_
 refine XC.reg ?_
 refine mv_ (as_ ?_)
 refine XL.fin (kq 2 (kq 3 (kq 4 (kq 5 (kq 6 (kq 10 kn)))))) ?_
 refine XC.drawF1 [0, 1, 2, 3, 4, 5, 6, 7, 8, 9, 10, 11, 12] [(0, 0), (1, 0), (2, 1), (3, 0), (4, 0), (5, 1), (6, 0), (7, 0), (8, 0), (9, 1), (10, 0), (11, 0), (12, 0), (13, 2)] (by kernel_rfl) (by kernel_rfl) fun hs => ?_
 refine XF.q hs rfl qm_ rfl ?_
 refine XF.q hs rfl (qi_ 1 28 5 1 1) rfl ?_
 refine XF.r hs rfl ql_ rfl ?_
 refine XF.q hs rfl qm_ rfl ?_
 refine XF.q hs rfl (qi_ 1 28 5 1 1) rfl ?_
 refine XF.r hs rfl ql_ rfl ?_
 refine XF.q hs rfl (q_mulM 18446744073709551616 (a := 2) rfl rfl rfl rfl rfl rfl) rfl ?_
 refine XF.q hs rfl qm_ rfl ?_
 refine XF.q hs rfl (qi_ 1 28 5 1 1) rfl ?_
 refine XF.r hs rfl ql_ rfl ?_
 refine XF.q hs rfl (q_subM 18446744073709551616 rfl rfl rfl rfl rfl rfl (by omega)) rfl ?_
 refine XF.q hs rfl (q_addM 18446744073709551616 rfl rfl rfl rfl rfl rfl) rfl ?_
 refine XF.q hs rfl (qi_ 1 28 5 1 1) rfl ?_
 refine XF.tl rfl rfl rfl (l_store rfl rfl rfl (by kernel_rfl) SetC.set UpC.upd ?_)
 refine XF.nil ?_
 refine nb ?_
 refine nx (kq 2 (kq 3 (kq 4 (kq 5 (kq 10 kn))))) ?_
 refine XC.reg1 ?_
 refine XL.q (q_num (2 : Int) rfl rfl (add64 (by decide) (by decide) (by decide))) rfl ?_
 refine mv_ ?_
 refine XL.nil ?_
 refine un (kq 2 (kq 3 (kq 4 (kq 5 (kq 10 kn))))) ?_
 refine XR.step ?_
 refine XC.reg ?_
 refine XL.q (q_cmp true rfl rfl (ltT (by decide))) rfl ?_
 refine XL.fin (kq 2 (kq 3 (kq 4 (kq 5 (kq 10 (kq 11 kn)))))) ?_
 refine XC.seq ?_
 refine XC.condT rfl ?_
 refine XC.skip ?_
 refine nx (kq 2 (kq 3 (kq 4 (kq 5 (kq 10 kn))))) ?_
 refine XC.seq ?_
 refine XC.block ?_
 refine XC.reg ?_
 refine mv_ (as_ ?_)
 refine XL.fin (kq 2 (kq 3 (kq 4 (kq 5 (kq 6 (kq 10 kn)))))) ?_
 refine XC.drawF1 [0, 1, 2, 3, 4, 5, 6, 7, 8, 9, 10, 11, 12] [(0, 0), (1, 0), (2, 1), (3, 0), (4, 0), (5, 1), (6, 0), (7, 0), (8, 0), (9, 1), (10, 0), (11, 0), (12, 0), (13, 2)] (by kernel_rfl) (by kernel_rfl) fun hs => ?_
 refine XF.q hs rfl qm_ rfl ?_
 refine XF.q hs rfl (qi_ 2 28 5 1 2) rfl ?_
 refine XF.r hs rfl ql_ rfl ?_
 refine XF.q hs rfl qm_ rfl ?_
 refine XF.q hs rfl (qi_ 2 28 5 1 2) rfl ?_
 refine XF.r hs rfl ql_ rfl ?_
 refine XF.q hs rfl (q_mulM 18446744073709551616 (a := 2) rfl rfl rfl rfl rfl rfl) rfl ?_
 refine XF.q hs rfl qm_ rfl ?_
 refine XF.q hs rfl (qi_ 2 28 5 1 2) rfl ?_
 refine XF.r hs rfl ql_ rfl ?_
 refine XF.q hs rfl (q_subM 18446744073709551616 rfl rfl rfl rfl rfl rfl (by omega)) rfl ?_
 refine XF.q hs rfl (q_addM 18446744073709551616 rfl rfl rfl rfl rfl rfl) rfl ?_
 refine XF.q hs rfl (qi_ 2 28 5 1 2) rfl ?_
 refine XF.tl rfl rfl rfl (l_store rfl rfl rfl (by kernel_rfl) SetC.set UpC.upd ?_)
 refine XF.nil ?_
 refine nb ?_
 refine nx (kq 2 (kq 3 (kq 4 (kq 5 (kq 10 kn))))) ?_
 refine XC.reg1 ?_
 refine XL.q (q_num (3 : Int) rfl rfl (add64 (by decide) (by decide) (by decide))) rfl ?_
 refine mv_ ?_
 refine XL.nil ?_
 refine un (kq 2 (kq 3 (kq 4 (kq 5 (kq 10 kn))))) ?_
 refine XR.step ?_
 refine XC.reg ?_
 refine XL.q (q_cmp true rfl rfl (ltT (by decide))) rfl ?_
 refine XL.fin (kq 2 (kq 3 (kq 4 (kq 5 (kq 10 (kq 11 kn)))))) ?_
 refine XC.seq ?_
 refine XC.condT rfl ?_
 refine XC.skip ?_
 refine nx (kq 2 (kq 3 (kq 4 (kq 5 (kq 10 kn))))) ?_
 refine XC.seq ?_
 refine XC.block ?_
 refine XC.reg ?_
 refine mv_ (as_ ?_)
 refine XL.fin (kq 2 (kq 3 (kq 4 (kq 5 (kq 6 (kq 10 kn)))))) ?_
 refine XC.drawF1 [0, 1, 2, 3, 4, 5, 6, 7, 8, 9, 10, 11, 12] [(0, 0), (1, 0), (2, 1), (3, 0), (4, 0), (5, 1), (6, 0), (7, 0), (8, 0), (9, 1), (10, 0), (11, 0), (12, 0), (13, 2)] (by kernel_rfl) (by kernel_rfl) fun hs => ?_
 refine XF.q hs rfl qm_ rfl ?_
 refine XF.q hs rfl (qi_ 3 28 5 1 3) rfl ?_
 refine XF.r hs rfl ql_ rfl ?_
 refine XF.q hs rfl qm_ rfl ?_
 refine XF.q hs rfl (qi_ 3 28 5 1 3) rfl ?_
 refine XF.r hs rfl ql_ rfl ?_
 refine XF.q hs rfl (q_mulM 18446744073709551616 (a := 2) rfl rfl rfl rfl rfl rfl) rfl ?_
 refine XF.q hs rfl qm_ rfl ?_
 refine XF.q hs rfl (qi_ 3 28 5 1 3) rfl ?_
 refine XF.r hs rfl ql_ rfl ?_
 refine XF.q hs rfl (q_subM 18446744073709551616 rfl rfl rfl rfl rfl rfl (by omega)) rfl ?_
 refine XF.q hs rfl (q_addM 18446744073709551616 rfl rfl rfl rfl rfl rfl) rfl ?_
 refine XF.q hs rfl (qi_ 3 28 5 1 3) rfl ?_
 refine XF.tl rfl rfl rfl (l_store rfl rfl rfl (by kernel_rfl) SetC.set UpC.upd ?_)
 refine XF.nil ?_
 refine nb ?_
 refine nx (kq 2 (kq 3 (kq 4 (kq 5 (kq 10 kn))))) ?_
 refine XC.reg1 ?_
 refine XL.q (q_num (4 : Int) rfl rfl (add64 (by decide) (by decide) (by decide))) rfl ?_
 refine mv_ ?_
 refine XL.nil ?_
 refine un (kq 2 (kq 3 (kq 4 (kq 5 (kq 10 kn))))) ?_
 refine XR.step ?_
 refine XC.reg ?_
 refine XL.q (q_cmp true rfl rfl (ltT (by decide))) rfl ?_
 refine XL.fin (kq 2 (kq 3 (kq 4 (kq 5 (kq 10 (kq 11 kn)))))) ?_
 refine XC.seq ?_
 refine XC.condT rfl ?_
 refine XC.skip ?_
 refine nx (kq 2 (kq 3 (kq 4 (kq 5 (kq 10 kn))))) ?_
 refine XC.seq ?_
 refine XC.block ?_
 refine XC.reg ?_
 refine mv_ (as_ ?_)
 refine XL.fin (kq 2 (kq 3 (kq 4 (kq 5 (kq 6 (kq 10 kn)))))) ?_
 refine XC.drawF1 [0, 1, 2, 3, 4, 5, 6, 7, 8, 9, 10, 11, 12] [(0, 0), (1, 0), (2, 1), (3, 0), (4, 0), (5, 1), (6, 0), (7, 0), (8, 0), (9, 1), (10, 0), (11, 0), (12, 0), (13, 2)] (by kernel_rfl) (by kernel_rfl) fun hs => ?_
 refine XF.q hs rfl qm_ rfl ?_
 refine XF.q hs rfl (qi_ 4 28 5 1 4) rfl ?_
 refine XF.r hs rfl ql_ rfl ?_
 refine XF.q hs rfl qm_ rfl ?_
 refine XF.q hs rfl (qi_ 4 28 5 1 4) rfl ?_
 refine XF.r hs rfl ql_ rfl ?_
 refine XF.q hs rfl (q_mulM 18446744073709551616 (a := 2) rfl rfl rfl rfl rfl rfl) rfl ?_
 refine XF.q hs rfl qm_ rfl ?_
 refine XF.q hs rfl (qi_ 4 28 5 1 4) rfl ?_
 refine XF.r hs rfl ql_ rfl ?_
 refine XF.q hs rfl (q_subM 18446744073709551616 rfl rfl rfl rfl rfl rfl (by omega)) rfl ?_
 refine XF.q hs rfl (q_addM 18446744073709551616 rfl rfl rfl rfl rfl rfl) rfl ?_
 refine XF.q hs rfl (qi_ 4 28 5 1 4) rfl ?_
 refine XF.tl rfl rfl rfl (l_store rfl rfl rfl (by kernel_rfl) SetC.set UpC.upd ?_)
 refine XF.nil ?_
 refine nb ?_
 refine nx (kq 2 (kq 3 (kq 4 (kq 5 (kq 10 kn))))) ?_
 refine XC.reg1 ?_
 refine XL.q (q_num (5 : Int) rfl rfl (add64 (by decide) (by decide) (by decide))) rfl ?_
 refine mv_ ?_
 refine XL.nil ?_
 refine un (kq 2 (kq 3 (kq 4 (kq 5 (kq 10 kn))))) ?_
 refine XR.step ?_
 refine XC.reg ?_
 refine XL.q (q_cmp false rfl rfl (ltF (by decide))) rfl ?_
 refine XL.fin (kq 2 (kq 3 (kq 4 (kq 5 (kq 10 (kq 11 kn)))))) ?_
 refine XC.seq ?_
 refine XC.condF rfl ?_
 refine XC.exit ?_
 refine te ?_
 refine ue ?_
 refine be rfl ?_
 refine nx (kq 2 (kq 4 kn)) ?_
 have q0 := lim_sub (t := 9007199254740916) (b := a3) ha (by decide) (by omega)
 have q1 := lim_sub (t := 9007199254740988) (b := b3) hb (by decide) (by omega)
 have q2 := lim_sub (t := 9007199254740988) (b := c3) hc (by decide) (by omega)
 have q3 := lim_sub (t := 9007199254740988) (b := d3) hd (by decide) (by omega)
 have q4 := lim_sub (t := 9007199254740988) (b := e3) he (by decide) (by omega)
 refine XC.reg ?_
 refine XL.q (qw_ 5) rfl ?_
 refine XL.call (aS rfl a0) (by kernel_rfl) (settle_spec _ _ _ _ _ (q0 ▸ lim_sub' ha (by decide) (by omega)) (q1 ▸ lim_sub' hb (by decide) (by omega)) (q2 ▸ lim_sub' hc (by decide) (by omega)) (q3 ▸ lim_sub' hd (by decide) (by omega)) (q4 ▸ lim_sub' he (by decide) (by omega)) _) rfl ?_
 rintro r4 M4 J4 ⟨rfl, rfl, a4, b4, c4, d4, e4, rfl, ha4, hb4, hc4, hd4, hv4, he4⟩
 refine XL.call (aS rfl a0) (by kernel_rfl) (settle_spec _ _ _ _ _ (by omega) (by omega) (by omega) (by omega) (by omega) _) rfl ?_
 rintro r5 M5 J5 ⟨rfl, rfl, a5, b5, c5, d5, e5, rfl, ha5, hb5, hc5, hd5, hv5, he5⟩
 refine XL.lo rfl (l_storeW rfl rfl Cel.cel (by kernel_rfl) (lnS (lnS (lnS (lnS (lnS (ln0)))))) (allS rfl (allS rfl (allS rfl (allS rfl (allS rfl (all0)))))) UpC.upd ?_)
 refine XL.fin (kq 4 kn) ?_
 refine XC.ret ?_
 refine ⟨_, [], [], resC rfl rfl (by kernel_rfl) At.mem (by rfl), List.nil_sublist _, by simp, rfl, rfl, a5, b5, c5, d5, e5, rfl, by omega, by omega, by omega, by omega, by omega, ?_⟩
 rw [mod_of_settle hv5, mod_of_settle hv4, ← mod_of_settle hv3]
 refine sub_mod ?_
 rw [← fv_sub (a := a) (b := b) (c := c) (d := d) (e := e) (a2 := a3) (b2 := b3) (c2 := c3) (d2 := d3) (e2 := e3) (by omega) (by omega) (by omega) (by omega) (by omega), ← q0, ← q1, ← q2, ← q3, ← q4]

abbrev wd (hi lo : Nat) : Value := .agg #[.int .u64 (hi : Int), .int .u64 (lo : Int)]

theorem mul64_spec (x y : Nat) (hx : x < 18446744073709551616) (hy : y < 18446744073709551616) (A : Mem) : FnV Tryz.prog 180 [.int .u64 (x : Int), .int .u64 (y : Int)] A (.tuple #[.int .u64 ((x * y / 18446744073709551616 : Nat) : Int), .int .u64 ((x * y % 18446744073709551616 : Nat) : Int)]) := by
 refine FnX.enter (N := 51) Tryz.func180 rfl rfl rfl fun w => ?_
 refine XC.keep (kq 0 (kq 1 kn)) ?_
 refine XC.reg ?_
 refine as_ (as_ ?_)
 refine XL.fin (kq 0 (kq 1 kn)) ?_
 refine XC.reg ?_
 refine mv_ ?_
 refine XL.q (q_andD 32 4294967296 rfl rfl rfl rfl rfl (by show _ < 18446744073709551616; first | assumption | exact Nat.mod_lt _ (by decide) | omega) (by decide)) rfl ?_
 refine as_ ?_
 refine XL.fin (kq 0 (kq 1 (kq 6 kn))) ?_
 refine XC.reg ?_
 refine mv_ ?_
 refine XL.q (q_shrD 32 4294967296 rfl rfl rfl rfl (by decide)) rfl ?_
 refine as_ ?_
 refine XL.fin (kq 0 (kq 1 (kq 6 (kq 7 kn)))) ?_
 refine XC.reg ?_
 refine mv_ ?_
 refine XL.q (q_andD 32 4294967296 rfl rfl rfl rfl rfl (by show _ < 18446744073709551616; first | assumption | exact Nat.mod_lt _ (by decide) | omega) (by decide)) rfl ?_
 refine as_ ?_
 refine XL.fin (kq 0 (kq 1 (kq 6 (kq 7 (kq 8 kn))))) ?_
 refine XC.reg ?_
 refine mv_ ?_
 refine XL.q (q_shrD 32 4294967296 rfl rfl rfl rfl (by decide)) rfl ?_
 refine as_ ?_
 refine XL.fin (kq 0 (kq 1 (kq 6 (kq 7 (kq 8 (kq 9 kn)))))) ?_
 refine XC.reg ?_
 refine mv_ (mv_ ?_)
 refine XL.q (q_mulM 18446744073709551616 rfl rfl rfl rfl rfl rfl) rfl ?_
 refine as_ ?_
 refine XL.fin (kq 0 (kq 1 (kq 6 (kq 7 (kq 8 (kq 9 (kq 10 kn))))))) ?_
 refine XC.reg ?_
 refine mv_ (mv_ ?_)
 refine XL.q (q_mulM 18446744073709551616 rfl rfl rfl rfl rfl rfl) rfl ?_
 refine mv_ ?_
 refine XL.q (q_shrD 32 4294967296 rfl rfl rfl rfl (by decide)) rfl ?_
 refine XL.q (q_addM 18446744073709551616 rfl rfl rfl rfl rfl rfl) rfl ?_
 refine as_ ?_
 refine XL.fin (kq 0 (kq 1 (kq 6 (kq 7 (kq 9 (kq 11 kn)))))) ?_
 refine XC.reg ?_
 refine mv_ ?_
 refine XL.q (q_andD 32 4294967296 rfl rfl rfl rfl rfl (by show _ < 18446744073709551616; first | assumption | exact Nat.mod_lt _ (by decide) | omega) (by decide)) rfl ?_
 refine as_ ?_
 refine XL.fin (kq 0 (kq 1 (kq 6 (kq 7 (kq 9 (kq 11 (kq 12 kn))))))) ?_
 refine XC.reg ?_
 refine mv_ ?_
 refine XL.q (q_shrD 32 4294967296 rfl rfl rfl rfl (by decide)) rfl ?_
 refine as_ ?_
 refine XL.fin (kq 0 (kq 1 (kq 6 (kq 7 (kq 9 (kq 12 (kq 13 kn))))))) ?_
 refine XC.reg ?_
 refine mv_ (mv_ (mv_ ?_))
 refine XL.q (q_mulM 18446744073709551616 rfl rfl rfl rfl rfl rfl) rfl ?_
 refine XL.q (q_addM 18446744073709551616 rfl rfl rfl rfl rfl rfl) rfl ?_
 refine as_ ?_
 refine XL.fin (kq 0 (kq 1 (kq 7 (kq 9 (kq 12 (kq 13 kn)))))) ?_
 refine XC.reg ?_
 refine mv_ (mv_ ?_)
 refine XL.q (q_mulM 18446744073709551616 rfl rfl rfl rfl rfl rfl) rfl ?_
 refine mv_ ?_
 refine XL.q (q_addM 18446744073709551616 rfl rfl rfl rfl rfl rfl) rfl ?_
 refine mv_ ?_
 refine XL.q (q_shrD 32 4294967296 rfl rfl rfl rfl (by decide)) rfl ?_
 refine XL.q (q_addM 18446744073709551616 rfl rfl rfl rfl rfl rfl) rfl ?_
 refine as_ ?_
 refine XL.fin (kq 0 (kq 1 (kq 4 kn))) ?_
 refine XC.reg ?_
 refine mv_ (mv_ ?_)
 refine XL.q (q_mulM 18446744073709551616 rfl rfl rfl rfl rfl rfl) rfl ?_
 refine as_ ?_
 refine XL.fin (kq 4 (kq 5 kn)) ?_
 refine XC.ret ?_
 refine ⟨_, [], [], res2 rfl rfl rfl, List.nil_sublist _, by simp, ?_, rfl, rfl⟩
 rw [mul64_law hx hy rfl rfl rfl rfl rfl rfl rfl]

theorem wadd_spec (hi lo a b : Nat) (h1 : hi < 18446744073709551616) (h2 : lo < 18446744073709551616) (h3 : a < 18446744073709551616) (h4 : b < 18446744073709551616) (A : Mem) :
  FnX Tryz.prog 156 [wd hi lo, .int .u64 (a : Int), .int .u64 (b : Int)] [] A fun r M J => M = [] ∧ J = [] ∧ ∃ hi' lo', r = wd hi' lo' ∧ hi' < 18446744073709551616 ∧ lo' < 18446744073709551616 ∧ hi' * 18446744073709551616 + lo' = (hi * 18446744073709551616 + lo + a * b) % 340282366920938463463374607431768211456 := by
 refine FnX.enter (N := 34) Tryz.func156 rfl rfl rfl fun w => ?_
 refine XC.keep (kq 0 (kq 1 (kq 2 kn))) ?_
 refine XC.reg ?_
 refine XL.lo rfl (bx_ fun b3 => ?_)
 refine XL.lo rfl (l_alloc (cs := [.int .u64 0, .int .u64 0]) (by kernel_rfl) rfl fun b6 => ?_)
 refine XL.fin (kq 1 (kq 2 (kq 3 (kq 6 kn)))) ?_
 refine XC.reg ?_
 refine mv_ (mv_ ?_)
 refine XL.callV (aS rfl (aS rfl a0)) (by kernel_rfl) (mul64_spec a b h3 h4 _) rfl ?_
 have hab : a * b ≤ 18446744073709551615 * 18446744073709551615 := Nat.mul_le_mul (by omega) (by omega)
 generalize a * b = z at *
 refine mv_ ?_
 refine XL.q (q_x0 rfl) rfl ?_
 refine XL.q (q_x1 rfl) rfl ?_
 refine as_ (as_ ?_)
 refine XL.fin (kq 3 (kq 6 (kq 7 (kq 8 kn)))) ?_
 refine XC.reg ?_
 refine XL.q (qf_ 1 1) rfl ?_
 refine XL.q ql_ rfl ?_
 refine mv_ ?_
 refine XL.q (q_bitsAdd Tryz.func181 (by kernel_rfl) (by kernel_rfl) (by kernel_rfl) (by kernel_rfl) rfl rfl rfl (c := 0) (by omega) rfl rfl rfl) rfl ?_
 refine mv_ ?_
 refine XL.q (q_x0 rfl) rfl ?_
 refine XL.q (q_x1 rfl) rfl ?_
 refine as_ (as_ ?_)
 refine XL.fin (kq 3 (kq 6 (kq 7 (kq 8 (kq 9 kn))))) ?_
 refine XC.reg ?_
 refine XL.q (qf_ 0 0) rfl ?_
 refine XL.q ql_ rfl ?_
 refine mv_ (mv_ ?_)
 refine XL.q (q_bitsAdd Tryz.func181 (by kernel_rfl) (by kernel_rfl) (by kernel_rfl) (by kernel_rfl) rfl rfl rfl (by omega) rfl rfl rfl) rfl ?_
 refine mv_ ?_
 refine XL.q (q_x0 rfl) rfl ?_
 refine XL.q (q_x1 rfl) rfl ?_
 refine as_ ?_
 refine XL.fin (kq 6 (kq 7 (kq 8 kn))) ?_
 refine XC.reg ?_
 refine mv_ (mv_ ?_)
 refine XL.q (q_build (place := fun x => #[(0, 1), (1, 1)][x]?) (z := [.int .u64 0, .int .u64 0]) (fun _ => by kernel_rfl) (eS rfl (eS rfl e0)) (bdS 0 1 rfl (by rfl) (bdS 1 1 rfl (by rfl) bd0))) rfl ?_
 refine XL.lo rfl (l_storeW rfl rfl Cel.cel (by kernel_rfl) (lnS (lnS (ln0))) (allS rfl (allS rfl (all0))) UpC.upd ?_)
 refine XL.fin (kq 6 kn) ?_
 refine XC.ret ?_
 refine ⟨_, [], [], resC rfl rfl (by kernel_rfl) At.mem (by rfl), List.nil_sublist _, by simp, rfl, rfl, _, _, rfl, Nat.mod_lt _ (by decide), Nat.mod_lt _ (by decide), ?_⟩
 omega

theorem wplus_spec (hi lo a : Nat) (h1 : hi < 18446744073709551616) (h2 : lo < 18446744073709551616) (h3 : a < 18446744073709551616) (A : Mem) :
  FnX Tryz.prog 157 [wd hi lo, .int .u64 (a : Int)] [] A fun r M J => M = [] ∧ J = [] ∧ ∃ hi' lo', r = wd hi' lo' ∧ hi' < 18446744073709551616 ∧ lo' < 18446744073709551616 ∧ hi' * 18446744073709551616 + lo' = (hi * 18446744073709551616 + lo + a) % 340282366920938463463374607431768211456 := by
 refine FnX.enter (N := 8) Tryz.func157 rfl rfl rfl fun w => ?_
 refine XC.keep (kq 0 (kq 1 kn)) ?_
 refine XC.reg ?_
 refine XL.lo rfl (bx_ fun b2 => ?_)
 refine XL.lo rfl (l_alloc (cs := [.int .u64 0, .int .u64 0]) (by kernel_rfl) rfl fun b4 => ?_)
 refine XL.fin (kq 1 (kq 2 (kq 4 kn))) ?_
 refine XC.reg ?_
 refine XL.q (qw_ 2) rfl ?_
 refine mv_ ?_
 refine XL.call (aS rfl (aS rfl (aS rfl a0))) (by kernel_rfl) (wadd_spec hi lo a 1 h1 h2 h3 (by decide) _) rfl ?_
 rintro r M1 J1 ⟨rfl, rfl, hi', lo', rfl, g1, g2, g3⟩
 refine XL.lo rfl (l_storeW rfl rfl Cel.cel (by kernel_rfl) (lnS (lnS (ln0))) (allS rfl (allS rfl (all0))) UpC.upd ?_)
 refine XL.fin (kq 4 kn) ?_
 refine XC.ret ?_
 refine ⟨_, [], [], resC rfl rfl (by kernel_rfl) At.mem (by rfl), List.nil_sublist _, by simp, rfl, rfl, hi', lo', rfl, g1, g2, ?_⟩
 rw [g3, Nat.mul_one]

theorem whigh_spec (hi lo : Nat) (h1 : hi < 18446744073709551616) (h2 : lo < 18446744073709551616) (A : Mem) : FnV Tryz.prog 158 [wd hi lo] A (.int .u64 (((hi * 18446744073709551616 + lo) / 2251799813685248 % 18446744073709551616 : Nat) : Int)) := by
 refine FnX.enter (N := 10) Tryz.func158 rfl rfl rfl fun w => ?_
 refine XC.keep (kq 0 kn) ?_
 refine XC.reg ?_
 refine XL.lo rfl (bx_ fun b1 => ?_)
 refine as_ ?_
 refine XL.fin (kq 1 kn) ?_
 refine XC.reg ?_
 refine XL.q (qf_ 0 0) rfl ?_
 refine XL.q ql_ rfl ?_
 refine XL.q (q_shlD 13 8192 18446744073709551616 rfl rfl rfl rfl rfl rfl (by decide)) rfl ?_
 refine XL.q (qf_ 1 1) rfl ?_
 refine XL.q ql_ rfl ?_
 refine XL.q (q_shrD 51 2251799813685248 rfl rfl rfl rfl (by decide)) rfl ?_
 refine XL.q (q_or rfl rfl rfl (by show _ < 18446744073709551616; omega) (by show _ < 18446744073709551616; omega)) rfl ?_
 refine as_ ?_
 refine XL.fin (kq 2 kn) ?_
 refine XC.ret ?_
 refine ⟨_, [], [], res1 rfl rfl, List.nil_sublist _, by simp, ?_, rfl, rfl⟩
 rw [or13 h1 h2]

end Go.Proofs.YtphcaiplgpmnnaaGreatDoor
