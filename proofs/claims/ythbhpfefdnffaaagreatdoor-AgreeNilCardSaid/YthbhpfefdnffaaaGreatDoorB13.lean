/- Part 13 of the texts of this claim, one behind the other. -/
import Derived.Test.YthbhpfefdnffaaaGreatDoorB12
import Derived.Laws.StructEq
import Derived.Laws.Cover3
set_option linter.unusedVariables false
set_option linter.unusedSimpArgs false
set_option maxRecDepth 100000
namespace Go.Proofs.YthbhpfefdnffaaaGreatDoor
open Go.Px Go.Ed
instance : NeZero p25 := ⟨by decide⟩
theorem A1q : 0 < p25 := by decide
def fF (x : Nat) : Fin p25 := ⟨x % p25, Nat.mod_lt _ A1q⟩
theorem A0v (x : Nat) : (fF x).val = x % p25 := rfl
theorem B02 (x y : Nat) : fF (fA x y) = fF x + fF y := by
  apply Fin.ext
  rw [Fin.val_add, A0v, A0v, A0v]
  unfold fA
  rw [Nat.mod_mod, Nat.add_mod]
theorem A0Z (x y : Nat) : fF (fM x y) = fF x * fF y := by
  apply Fin.ext
  rw [Fin.val_mul, A0v, A0v, A0v]
  unfold fM
  rw [Nat.mod_mod, Nat.mul_mod]
theorem B2d {x y : Nat} (hy : y < p25) : fF (fS x y) = fF x - fF y := by
  apply Fin.ext
  rw [Fin.sub_def, A0v]
  show fS x y % p25 = (p25 - y % p25 + x % p25) % p25
  unfold fS
  rw [Nat.mod_mod, Nat.mod_eq_of_lt hy, Nat.add_mod_mod]
  congr 1; omega
theorem A6j {x y : Nat} (hx : x < p25) (hy : y < p25) (h : fF x = fF y) : x = y := by
  have := congrArg Fin.val h
  rwa [A0v, A0v, Nat.mod_eq_of_lt hx, Nat.mod_eq_of_lt hy] at this
theorem B6F {x : Nat} : fF x = 0 ↔ x % p25 = 0 := by
  constructor
  · intro h; exact congrArg Fin.val h
  · intro h; exact Fin.ext h
theorem X7 (x y : Nat) : fM x y < p25 := Nat.mod_lt _ A1q
theorem B4Y (x n : Nat) : rtp x n < p25 := Nat.mod_lt _ A1q
theorem B8K {x : Nat} (h : x % p25 ≠ 0) : fM x (fI x) = 1 := by
  have h1 := A3w B9C (a := x) (fun hd => h (Nat.mod_eq_zero_of_dvd hd))
  rw [A85]
  unfold fM rtp
  rw [Nat.mul_mod, Nat.mod_mod, ← Nat.mul_mod, ← Nat.pow_succ']
  exact h1
theorem C0k {x : Nat} (h : fF x ≠ 0) : fF x * fF (fI x) = 1 := by
  rw [← A0Z, B8K (fun h0 => h (B6F.2 h0))]
  rfl
def B8L : Nat := 37095705934669439343138083508754565189542113879843219016388785533085940283555
def iLit : Nat := 19681161376707505956807079304988542015446066515923890162744021073123829784752
theorem B4Z : dN = B8L := rfl
theorem B8M : B8L ^ ((p25 - 1) / 2) % p25 = p25 - 1 := by
  rw [A6c (by decide) 256 _ _ (by decide)]
  decide +kernel
theorem C0l (a b : Fin p25) (h : a * b = 0) : a = 0 ∨ b = 0 := by
  have h1 := congrArg Fin.val h
  rw [Fin.val_mul] at h1
  have h2 : p25 ∣ a.val * b.val := Nat.dvd_of_mod_eq_zero h1
  rcases B9C.mul h2 with h3 | h3
  · exact .inl (Fin.ext (Nat.eq_zero_of_dvd_of_lt h3 a.isLt))
  · exact .inr (Fin.ext (Nat.eq_zero_of_dvd_of_lt h3 b.isLt))
theorem A2w (a : Fin p25) : fF a.val = a := Fin.ext (Nat.mod_eq_of_lt a.isLt)
theorem C0m (s t : Fin p25) (h : s * s = fF dN * (t * t)) : t = 0 := by
  rw [B4Z] at h
  apply Decidable.byContradiction
  intro ht
  have h1 := congrArg Fin.val h
  rw [Fin.val_mul, Fin.val_mul, Fin.val_mul, A0v, Nat.mod_eq_of_lt (show B8L < p25 by decide)] at h1
  rw [Nat.mul_mod_mod] at h1
  have ht' : ¬ p25 ∣ t.val := fun hd => ht (Fin.ext (Nat.eq_zero_of_dvd_of_lt hd t.isLt))
  have e2 : (p25 - 1) / 2 * 2 = p25 - 1 := by decide
  have key : ∀ m : Nat, (s.val * s.val) ^ m % p25 = (B8L * (t.val * t.val)) ^ m % p25 := fun m => by
    rw [Nat.pow_mod, h1, ← Nat.pow_mod]
  have k1 := key ((p25 - 1) / 2)
  generalize hm : (p25 - 1) / 2 = m at *
  have hd := B8M
  rw [hm] at hd
  have hft := A3w B9C ht'
  have q1 : ∀ x : Nat, (x * x) ^ m = x ^ (p25 - 1) := fun x => by rw [← Nat.pow_two, ← Nat.pow_mul, Nat.mul_comm 2 m, e2]
  rw [q1, Nat.mul_pow, q1, Nat.mul_mod, hd, hft, Nat.mul_one] at k1
  by_cases hs : p25 ∣ s.val
  · have : s.val = 0 := Nat.eq_zero_of_dvd_of_lt hs s.isLt
    rw [this] at h1
    have hz : p25 ∣ B8L * (t.val * t.val) := Nat.dvd_of_mod_eq_zero (by rw [← h1]; rfl)
    rcases B9C.mul hz with h3 | h3
    · exact absurd h3 (by decide)
    · rcases B9C.mul h3 with h4 | h4 <;> exact ht' h4
  · rw [A3w B9C hs] at k1
    exact absurd k1 (by decide)
noncomputable def FF : Fld p25 (fF dN) where
  inv a := fF (fI a.val)
  ii := fF iLit
  mul0 := C0l
  one := by decide
  two := by decide
  hinv a ha := by
    have h := C0k (x := a.val) (by rw [A2w]; exact ha)
    rwa [A2w] at h
  hii := by decide +kernel
  hd := C0m
structure PR (P : Pt) (Q : Fin p25 × Fin p25) : Prop where
  rep : Rep (fF P.X) (fF P.Y) (fF P.Z) (fF P.T) Q
  x : P.X < p25
  y : P.Y < p25
  z : P.Z < p25
  t : P.T < p25
theorem PR.o : PR pO ((0 : Fin p25), (1 : Fin p25)) := ⟨⟨by decide, by decide, by decide, by decide⟩, by decide, by decide, by decide, by decide⟩
theorem B8N : fF d2N = 2 * fF dN := by rw [← B6u, A0Z]; rfl
theorem PR.add {P1 P2 : Pt} {Q1 Q2 : Fin p25 × Fin p25} (h1 : PR P1 Q1) (h2 : PR P2 Q2) (o1 : On (fF dN) Q1) (o2 : On (fF dN) Q2) : PR (A6f d2N P1 P2) (FF.add Q1 Q2) := by
  refine ⟨?_, X7 _ _, X7 _ _, X7 _ _, X7 _ _⟩
  unfold A6f
  dsimp only
  rw [A0Z, A0Z, A0Z, A0Z]
  exact FF.rep_add o1 o2 h1.rep h2.rep (a := fF (fM (fS P1.Y P1.X) (fS P2.Y P2.X))) (b := fF (fM (fA P1.Y P1.X) (fA P2.Y P2.X))) (c := fF (fM (fM P1.T d2N) P2.T)) (z := fF (fA (fM P1.Z P2.Z) (fM P1.Z P2.Z)))
    (by rw [A0Z, B2d h1.x, B2d h2.x]) (by rw [A0Z, B02, B02]) (by rw [A0Z, A0Z, B8N]) (by rw [B02, A0Z])
    (by rw [B2d (X7 _ _)]) (by rw [B2d (X7 _ _)]) (by rw [B02]) (by rw [B02])
theorem PR.timesK {P : Pt} {Q : Fin p25 × Fin p25} (h : PR P Q) (o : On (fF dN) Q) (n : Nat) : ∀ k, k ≤ 256 → PR (pTk P n k) (FF.nsm (n / 2 ^ (256 - k) % 2 ^ k) Q)
  | 0, _ => by
    rw [Nat.pow_zero, Nat.mod_one]; exact PR.o
  | k + 1, hk => by
    have ih := PR.timesK h o n k (by omega)
    have e1 : 256 - (k + 1) = 255 - k := by omega
    have e2 : n / 2 ^ (255 - k) % 2 ^ (k + 1) = 2 * (n / 2 ^ (256 - k) % 2 ^ k) + n / 2 ^ (255 - k) % 2 := by
      have e3 : n / 2 ^ (256 - k) = n / 2 ^ (255 - k) / 2 := by rw [Nat.div_div_eq_div_mul, ← Nat.pow_succ]; congr 2; omega
      rw [e3]
      generalize n / 2 ^ (255 - k) = m
      rw [Nat.pow_succ', Nat.mod_mul]; omega
    rw [e1, e2]
    generalize n / 2 ^ (256 - k) % 2 ^ k = m at *
    have hd := ih.add ih (FF.nsm_on o m) (FF.nsm_on o m)
    rw [← FF.nsm_add o, ← Nat.two_mul] at hd
    rw [A79]
    by_cases hb : n / 2 ^ (255 - k) % 2 = 1
    · rw [A67 hb, hb]
      exact hd.add h (FF.nsm_on o _) o
    · rw [A68 hb, show n / 2 ^ (255 - k) % 2 = 0 by omega]
      exact hd
theorem PR.times {P : Pt} {Q : Fin p25 × Fin p25} (h : PR P Q) (o : On (fF dN) Q) {n : Nat} (hn : n < 2 ^ 256) : PR (V1 P n) (FF.nsm n Q) := by
  have := h.timesK o n 256 (Nat.le_refl _)
  rwa [Nat.sub_self, Nat.pow_zero, Nat.div_one, Nat.mod_eq_of_lt hn] at this

theorem B03 {a b p : Nat} (h : a % p = b % p) (hle : b ≤ a) : p ∣ a - b := Nat.dvd_of_mod_eq_zero (Nat.sub_mod_eq_zero_of_mod_eq h)
theorem A8d {s x : Nat} (hs : s < p25) (hx : x < p25) (h : s * s % p25 = x * x % p25) : s = x ∨ s + x = p25 := by
  have key : p25 ∣ (s + x) * (s + (p25 - x)) := by
    have e : (s + x) * (s + (p25 - x)) + x * x = s * s + p25 * (s + x) := by
      obtain ⟨d, hd⟩ : ∃ d, p25 = x + d := ⟨p25 - x, by omega⟩
      rw [hd, Nat.add_sub_cancel_left]
      grind
    have e2 : ((s + x) * (s + (p25 - x)) + x * x) % p25 = (x * x) % p25 := by rw [e, Nat.add_mul_mod_self_left, h]
    have := B03 e2 (Nat.le_add_left _ _)
    rwa [Nat.add_sub_cancel] at this
  rcases B9C.mul key with ⟨c, hc⟩ | ⟨c, hc⟩
  · have : c < 2 := by
      rcases Nat.lt_or_ge c 2 with h | h
      · exact h
      · have := Nat.mul_le_mul_left p25 h; omega
    rcases (show c = 0 ∨ c = 1 by omega) with rfl | rfl
    · left; omega
    · right; omega
  · have : c < 2 := by
      rcases Nat.lt_or_ge c 2 with h | h
      · exact h
      · have := Nat.mul_le_mul_left p25 h; omega
    rcases (show c = 0 ∨ c = 1 by omega) with rfl | rfl
    · left; omega
    · left; omega
theorem B04 (x n : Nat) : x ^ n % p25 * (x ^ n % p25) % p25 = x ^ (2 * n) % p25 := by rw [← Nat.mul_mod, ← Nat.pow_add, Nat.two_mul]
theorem i_sq : rtp 2 (2 ^ 253 - 5) * rtp 2 (2 ^ 253 - 5) % p25 = p25 - 1 := by
  have h : ∀ n, n = 2 ^ 253 - 5 → rtp 2 n * rtp 2 n % p25 = p25 - 1 := by
    intro n hn
    unfold rtp
    rw [B04, A6c (by decide) 256 2 (2 * n) (by omega)]
    subst hn
    decide +kernel
  exact h _ rfl
theorem B6G (x : Nat) : ∃ n, 2 * n = p25 - 1 ∧ rt1 x * rt1 x % p25 * (rt1 x * rt1 x % p25) % p25 = x ^ n * (x * x) % p25 := by
  obtain ⟨m, hm⟩ : ∃ m, m = 2 ^ 252 - 2 := ⟨_, rfl⟩
  refine ⟨4 * m - 2, by unfold p25; omega, ?_⟩
  rw [← B4Q hm, B04, B04, ← Nat.pow_two, ← Nat.pow_add]
  congr 2
  omega
theorem A8e {y n : Nat} (hn : 2 * n = p25 - 1) (hy : ¬ p25 ∣ y) : (y * y % p25) ^ n % p25 = 1 := by
  rw [← Nat.pow_mod, ← Nat.pow_two, ← Nat.pow_mul, hn]
  exact A3w B9C hy
theorem B8O {r : Value} {x n : Nat} (hx : x < p25) (hn : 2 * n = p25 - 1) (h : Rt r x) : ∃ u b y, r = .tuple #[u, .bool b] ∧ Fe u y ∧ b = decide (x = 0 ∨ x ^ n % p25 = 1) ∧ (b = true → y * y % p25 = x) := by
  have conv : ∀ y, y * y % p25 = x → (x = 0 ∨ x ^ n % p25 = 1) := by
    intro y hy
    by_cases h0 : x = 0
    · exact .inl h0
    · right
      rw [← hy]
      refine A8e hn fun hd => h0 ?_
      obtain ⟨c, rfl⟩ := hd
      rw [← hy, Nat.mul_assoc, Nat.mul_mod_right]
  obtain ⟨u, b, rfl, h⟩ := h
  rcases h with ⟨h1, rfl, hu⟩ | ⟨h1, h2, rfl, hu⟩ | ⟨h1, h2, rfl, hu⟩
  · exact ⟨u, true, _, rfl, hu, by rw [decide_eq_true (conv _ h1)], fun _ => h1⟩
  · exact ⟨u, true, _, rfl, hu, by rw [decide_eq_true (conv _ h2)], fun _ => h2⟩
  · refine ⟨u, false, 0, rfl, hu, ?_, fun h => by cases h⟩
    symm
    rw [decide_eq_false_iff_not]
    intro hc
    obtain ⟨m, hm, h4⟩ := B6G x
    obtain rfl : m = n := by omega
    have h5 : rt1 x * rt1 x % p25 * (rt1 x * rt1 x % p25) % p25 = x * x % p25 := by
      rw [h4]
      rcases hc with rfl | hc
      · rw [Nat.mul_zero, Nat.mul_zero]
      · rw [Nat.mul_mod, hc, Nat.one_mul, Nat.mod_mod]
    rcases A8d (Nat.mod_lt _ (by decide)) hx h5 with h6 | h6
    · exact h1 h6
    · apply h2
      unfold rt2
      rw [← Nat.mul_mod, show rt1 x * rtp 2 (2 ^ 253 - 5) * (rt1 x * rtp 2 (2 ^ 253 - 5)) = (rt1 x * rt1 x) * (rtp 2 (2 ^ 253 - 5) * rtp 2 (2 ^ 253 - 5)) by generalize rtp 2 (2 ^ 253 - 5) = i; grind, Nat.mul_mod, i_sq]
      generalize rt1 x * rt1 x % p25 = s at *
      have e : s * (p25 - 1) = x + p25 * (s - 1) := by
        obtain rfl : x = p25 - s := by omega
        rw [Nat.mul_sub, Nat.mul_sub, Nat.mul_one, Nat.mul_one, Nat.mul_comm]
        have : p25 ≤ p25 * s := Nat.le_mul_of_pos_right _ (by omega)
        omega
      rw [e, Nat.add_mul_mod_self_left, Nat.mod_eq_of_lt hx]
theorem B8P {a n : Nat} (hn : 2 * n = p25 - 1) : (a * a % p25 = 0 ∨ (a * a % p25) ^ n % p25 = 1) := by
  by_cases h : p25 ∣ a
  · obtain ⟨c, rfl⟩ := h
    exact .inl (by rw [Nat.mul_assoc, Nat.mul_mod_right])
  · exact .inr (A8e hn h)

theorem B41 : ∀ (l : List Nat) (i x : Nat), i < l.length → bv (l.set i x) + 256 ^ i * l.getD i 0 = bv l + 256 ^ i * x
  | [], i, x, h => by simp at h
  | b :: r, 0, x, _ => by simp only [List.set_cons_zero, bv, List.getD_cons_zero, Nat.pow_zero]; omega
  | b :: r, i + 1, x, h => by
    have ih := B41 r i x (by simpa using h)
    simp only [List.set_cons_succ, bv, List.getD_cons_succ]
    rw [Nat.pow_succ]
    generalize r.getD i 0 = g at *
    have e1 : 256 ^ i * 256 * g = 256 * (256 ^ i * g) := by rw [Nat.mul_comm (256 ^ i), Nat.mul_assoc]
    have e2 : 256 ^ i * 256 * x = 256 * (256 ^ i * x) := by rw [Nat.mul_comm (256 ^ i), Nat.mul_assoc]
    rw [e1, e2]; omega
def B2e (x y : Nat) : List Nat := if x % 2 = 1 then (W8 8 32 y 255).set 31 ((W8 8 32 y 255).getD 31 0 ||| 128) else W8 8 32 y 255
theorem B8Q (P : Pt) : pB P = B2e (fM P.X (fI P.Z)) (fM P.Y (fI P.Z)) := rfl
theorem A8f (x y : Nat) : (B2e x y).length = 32 := by unfold B2e; split <;> simp [L0]
theorem B6H (y : Nat) : (W8 8 32 y 255).getD 31 0 < 128 := by
  rw [A0Y (by decide)]
  unfold prt
  have h : y % 2 ^ 255 < 128 * 2 ^ (8 * 31) := Nat.lt_of_lt_of_le (Nat.mod_lt _ (Nat.two_pow_pos _)) (by decide)
  exact Nat.lt_of_le_of_lt (Nat.mod_le _ _) ((Nat.div_lt_iff_lt_mul (Nat.two_pow_pos _)).2 h)
theorem B05 {v : Nat} (h : v < 128) : v ||| 128 = v + 128 := by
  have h2 : 128 + v = 128 ||| v := Nat.two_pow_add_eq_or_of_lt (i := 7) h 1
  rw [Nat.or_comm, ← h2]; omega
theorem B6I {x y : Nat} (hy : y < p25) : bv (B2e x y) = y + 2 ^ 255 * (x % 2) := by
  have h1 := A42 y
  rw [Nat.mod_eq_of_lt (Nat.lt_trans hy (by decide))] at h1
  unfold B2e
  split
  · rename_i hx
    have h2 := B41 (W8 8 32 y 255) 31 ((W8 8 32 y 255).getD 31 0 ||| 128) (by rw [L0]; decide)
    rw [h1, B05 (B6H y), Nat.mul_add] at h2
    rw [B05 (B6H y), hx]
    generalize (W8 8 32 y 255).getD 31 0 = v at *
    generalize 256 ^ 31 * v = q at *
    generalize bv ((W8 8 32 y 255).set 31 (v + 128)) = z at *
    have e : (256 : Nat) ^ 31 * 128 = 2 ^ 255 * 1 := by decide
    omega
  · rename_i hx
    rw [h1, show x % 2 = 0 by omega, Nat.mul_zero, Nat.add_zero]
theorem B3u {x y : Nat} : decide (128 ≤ (B2e x y).getD 31 0) = decide (x % 2 = 1) := by
  have ht := B6H y
  unfold B2e
  split
  · rename_i hx
    rw [decide_eq_true hx, B05 ht]
    apply decide_eq_true
    rw [List.getD_eq_getElem?_getD, List.getElem?_set_self (by rw [L0]; decide)]
    show 128 ≤ _ + 128
    omega
  · rename_i hx
    rw [decide_eq_false hx]
    apply decide_eq_false
    omega
theorem B6J {x y : Nat} (hy : y < p25) : rdN (B2e x y) = y := by
  unfold rdN
  rw [if_pos (A8f _ _), B6I hy]
  have e : (2 : Nat) ^ 255 = 57896044618658097711785492504343953926634992332820282019728792003956564819968 := by decide
  have h2 : y < 57896044618658097711785492504343953926634992332820282019728792003956564819968 := Nat.lt_trans hy (by decide)
  rw [e, Nat.add_mul_mod_self_left, Nat.mod_eq_of_lt h2, Nat.mod_eq_of_lt hy]
theorem fe_z : ∃ u, Fe u 0 := ⟨_, K4⟩
theorem B8R {a : Nat} (ha : a < p25) : ∃ n, rtN (a * a % p25) = some n ∧ (n = a ∨ n + a = p25) := by
  have hv : a * a % p25 < p25 := Nat.mod_lt _ A1q
  have hh := fun n hn => B8P (a := a) (n := n) hn
  have fin : ∀ n, n < p25 → n * n % p25 = a * a % p25 → n = a ∨ n + a = p25 := fun n hn h => A8d hn ha h
  generalize a * a % p25 = v at *
  rw [A77]
  unfold B7J
  split
  · rename_i h; exact ⟨_, rfl, fin _ (B4Y _ _) h⟩
  · rename_i h1
    split
    · rename_i h; exact ⟨_, rfl, fin _ (Nat.mod_lt _ A1q) h⟩
    · rename_i h2
      exfalso
      obtain ⟨u, hu⟩ := fe_z
      have hn : 2 * ((p25 - 1) / 2) = p25 - 1 := by decide
      obtain ⟨u', b', y', e1, -, e3, -⟩ := B8O (r := .tuple #[u, .bool false]) hv hn ⟨u, false, rfl, .inr (.inr ⟨h1, h2, rfl, hu⟩)⟩
      rw [decide_eq_true (hh _ hn)] at e3
      subst e3
      simp at e1
theorem C0n {Q : Fin p25 × Fin p25} (o : On (fF dN) Q) : xxN Q.2.val = Q.1.val * Q.1.val % p25 := by
  apply A6j (X7 _ _) (Nat.mod_lt _ A1q)
  have e0 : fF (Q.1.val * Q.1.val % p25) = Q.1 * Q.1 := by
    have := A0Z Q.1.val Q.1.val
    rwa [A2w] at this
  have hD : fF (fA (fM dN (fM Q.2.val Q.2.val)) 1) = fF dN * (Q.2 * Q.2) + 1 := by rw [B02, A0Z, A0Z, A2w]; rfl
  have hne : fF dN * (Q.2 * Q.2) + 1 ≠ 0 := FF.dy_ne
  rw [← hD] at hne
  have hi := C0k hne
  rw [hD] at hi
  rw [e0]
  rw [A0Z, B2d (by decide), A0Z, A2w]
  have ho := o.eq
  generalize fF (fI (fA (fM dN (fM Q.2.val Q.2.val)) 1)) = j at *
  generalize fF dN = d at *
  rw [show fF 1 = 1 from rfl]
  obtain ⟨x, y⟩ := Q
  dsimp only at *
  grind
theorem C0o {Q : Fin p25 × Fin p25} (o : On (fF dN) Q) : atN Q.2.val (decide (Q.1.val % 2 = 1)) = some Q.1.val := by
  have hx := C0n o
  have hlt := Q.1.isLt
  obtain ⟨n, h1, h2⟩ := B8R hlt
  rw [← hx] at h1
  generalize Q.1.val = x at *
  have hp : p25 % 2 = 1 := by decide
  unfold atN
  rw [h1]
  unfold atO
  dsimp only
  rcases h2 with rfl | h2
  · by_cases h0 : n = 0
    · subst h0; rfl
    · rw [decide_eq_false h0, Bool.and_false]
      simp
  · by_cases h0 : x = 0
    · subst h0
      obtain rfl : n = p25 := by omega
      exfalso
      rw [A77] at h1
      unfold B7J at h1
      split at h1
      · have := Option.some.inj h1; have h3 := B4Y (xxN Q.2.val) (2 ^ 252 - 2); unfold rt1 at this; omega
      · split at h1
        · have := Option.some.inj h1; have h3 : rt2 (xxN Q.2.val) < p25 := Nat.mod_lt _ A1q; omega
        · cases h1
    · have hn0 : n ≠ 0 := by omega
      rw [decide_eq_false hn0, Bool.and_false]
      have hpar : (n % 2 = 1) ↔ ¬ (x % 2 = 1) := by omega
      have e : (!(decide (n % 2 = 1) == decide (x % 2 = 1))) = true := by
        by_cases hx1 : x % 2 = 1
        · rw [decide_eq_true hx1, decide_eq_false (fun h => hpar.1 h hx1)]; rfl
        · rw [decide_eq_false hx1, decide_eq_true (hpar.2 hx1)]; rfl
      rw [e]
      have : fN n = x := by
        unfold fN
        rw [show p25 - n = x by omega, Nat.mod_eq_of_lt hlt]
      simp [this]
noncomputable def S6 (b : List Nat) : Option Pt := if b.length = 32 then (match atN (rdN b) (decide (128 ≤ b.getD 31 0)) with
  | some x => if pB (pAt x (rdN b)) = b then some (pAt x (rdN b)) else none
  | none => none) else none
theorem PR.at {Q : Fin p25 × Fin p25} : PR (pAt Q.1.val Q.2.val) Q := by
  refine ⟨⟨?_, ?_, ?_, ?_⟩, Q.1.isLt, Q.2.isLt, show 1 < p25 by decide, X7 _ _⟩
  · exact FF.one
  · show fF Q.1.val = Q.1 * fF 1
    rw [A2w, show fF 1 = 1 from rfl]; grind
  · show fF Q.2.val = Q.2 * fF 1
    rw [A2w, show fF 1 = 1 from rfl]; grind
  · show fF (fM Q.1.val Q.2.val) = Q.1 * Q.2 * fF 1
    rw [A0Z, A2w, A2w, show fF 1 = 1 from rfl]; grind
theorem PR.aff {P : Pt} {Q : Fin p25 × Fin p25} (h : PR P Q) : fM P.X (fI P.Z) = Q.1.val ∧ fM P.Y (fI P.Z) = Q.2.val := by
  have hi := C0k h.rep.z
  have hx := h.rep.x
  have hy := h.rep.y
  constructor
  · apply A6j (X7 _ _) Q.1.isLt
    rw [A0Z, A2w, hx]; grind
  · apply A6j (X7 _ _) Q.2.isLt
    rw [A0Z, A2w, hy]; grind
theorem PR.bytes {P : Pt} {Q : Fin p25 × Fin p25} (h : PR P Q) : pB P = B2e Q.1.val Q.2.val := by rw [B8Q, h.aff.1, h.aff.2]
theorem B3v {Q : Fin p25 × Fin p25} (o : On (fF dN) Q) : S6 (B2e Q.1.val Q.2.val) = some (pAt Q.1.val Q.2.val) := by
  unfold S6
  rw [if_pos (A8f _ _), B3u, B6J Q.2.isLt, C0o o]
  dsimp only
  rw [if_pos (PR.at.bytes)]
theorem A8g {P : Pt} {Q : Fin p25 × Fin p25} (h : PR P Q) (o : On (fF dN) Q) : S6 (pB P) = some (pAt Q.1.val Q.2.val) := by rw [h.bytes, B3v o]
def A69 (P Q : Pt) : Bool := decide (fM P.X Q.Z = fM Q.X P.Z) && decide (fM P.Y Q.Z = fM Q.Y P.Z)
theorem PR.same {P P' : Pt} {Q : Fin p25 × Fin p25} (h : PR P Q) (h' : PR P' Q) : A69 P P' = true := by
  have hr := (FF.rep_same h.rep h'.rep).2 rfl
  unfold A69
  rw [decide_eq_true (A6j (X7 _ _) (X7 _ _) (by rw [A0Z, A0Z, hr.1])), decide_eq_true (A6j (X7 _ _) (X7 _ _) (by rw [A0Z, A0Z, hr.2]))]
  rfl

end Go.Proofs.YthbhpfefdnffaaaGreatDoor
namespace Go.Px
noncomputable def U4 {α : Type} (x : Nat) (f : Nat → α) : α := Nat.rec (motive := fun _ => α) (f 0) (fun n _ => f (Nat.succ n)) x
theorem B3w {α : Type} (x : Nat) (f : Nat → α) : U4 x f = f x := by cases x <;> rfl
def B2f (x n m : Nat) : Nat := Nat.lor (Nat.shiftRight x n) (Nat.mod (Nat.shiftLeft x m) 4294967296)
def rF : List Nat → List Nat → S8 → S8
  | k :: ks, w :: ws, s => rF ks ws (s.step k w)
  | _, _, s => s
def t1F (e f g h k w : Nat) : Nat :=
  Nat.mod (Nat.add (Nat.mod (Nat.add (Nat.mod (Nat.add (Nat.mod (Nat.add h (Nat.xor (Nat.xor (B2f e 6 26) (B2f e 11 21)) (B2f e 25 7))) 4294967296) (Nat.xor (Nat.land e f) (Nat.land (Nat.xor 4294967295 e) g))) 4294967296) k) 4294967296) w) 4294967296
def aF (t a b c : Nat) : Nat :=
  Nat.mod (Nat.add (Nat.mod (Nat.add t (Nat.xor (Nat.xor (B2f a 2 30) (B2f a 13 19)) (B2f a 22 10))) 4294967296) (Nat.xor (Nat.xor (Nat.land a b) (Nat.land a c)) (Nat.land b c))) 4294967296
noncomputable def rFF (ks : List Nat) : List Nat → Nat → Nat → Nat → Nat → Nat → Nat → Nat → Nat → S8 :=
  List.rec (motive := fun _ => List Nat → Nat → Nat → Nat → Nat → Nat → Nat → Nat → Nat → S8) (fun _ a b c d e f g h => ⟨a, b, c, d, e, f, g, h⟩)
    (fun k _ ih ws => List.rec (motive := fun _ => Nat → Nat → Nat → Nat → Nat → Nat → Nat → Nat → S8) (fun a b c d e f g h => ⟨a, b, c, d, e, f, g, h⟩)
      (fun w ws _ a b c d e f g h => U4 (t1F e f g h k w) fun t => U4 (aF t a b c) fun a' => U4 (Nat.mod (Nat.add d t) 4294967296) fun e' => ih ws a' a b c e' e f g) ws) ks
noncomputable def B9D : Nat → List Nat → Nat := fun n => Nat.rec (motive := fun _ => List Nat → Nat) (fun l => List.rec (motive := fun _ => Nat) 0 (fun x _ _ => x) l) (fun _ ih l => List.rec (motive := fun _ => Nat) 0 (fun _ r _ => ih r) l) n
def wnF (w16 w15 w7 w2 : Nat) : Nat :=
  Nat.mod (Nat.add (Nat.mod (Nat.add (Nat.mod (Nat.add w16 (Nat.xor (Nat.xor (B2f w15 7 25) (B2f w15 18 14)) (Nat.shiftRight w15 3))) 4294967296) w7) 4294967296) (Nat.xor (Nat.xor (B2f w2 17 15) (B2f w2 19 13)) (Nat.shiftRight w2 10))) 4294967296
noncomputable def wF (n : Nat) : List Nat → List Nat :=
  Nat.rec (motive := fun _ => List Nat → List Nat) (fun r => r) (fun _ ih r => U4 (wnF (B9D 15 r) (B9D 14 r) (B9D 6 r) (B9D 1 r)) fun x => ih (x :: r)) n
def C0p (a b c d : Nat) : Nat := Nat.add (Nat.mul (Nat.add (Nat.mul (Nat.add (Nat.mul a 256) b) 256) c) 256) d
noncomputable def B47 : Nat → List Nat → List Nat → List Nat
  | 0, _, r => r
  | n + 1, a :: b :: c :: d :: p, r => U4 (C0p a b c d) fun x => B47 n p (x :: r)
  | _ + 1, _, r => r
noncomputable def blkF (a b c d e f g h : Nat) (p : List Nat) (k : Nat → Nat → Nat → Nat → Nat → Nat → Nat → Nat → List Nat) : List Nat :=
  match rFF A20 (wF 48 (B47 16 p [])).reverse a b c d e f g h with
  | ⟨a1, b1, c1, d1, e1, f1, g1, h1⟩ =>
    U4 (Nat.mod (Nat.add a a1) 4294967296) fun a => U4 (Nat.mod (Nat.add b b1) 4294967296) fun b => U4 (Nat.mod (Nat.add c c1) 4294967296) fun c => U4 (Nat.mod (Nat.add d d1) 4294967296) fun d =>
    U4 (Nat.mod (Nat.add e e1) 4294967296) fun e => U4 (Nat.mod (Nat.add f f1) 4294967296) fun f => U4 (Nat.mod (Nat.add g g1) 4294967296) fun g => U4 (Nat.mod (Nat.add h h1) 4294967296) fun h => k a b c d e f g h
noncomputable def B8S : Nat → Nat → Nat → Nat → Nat → Nat → Nat → Nat → Nat → List Nat → List Nat
  | 0, a, b, c, d, e, f, g, h, _ => [a, b, c, d, e, f, g, h].flatMap B5B
  | n + 1, a, b, c, d, e, f, g, h, p => blkF a b c d e f g h p fun a b c d e f g h => B8S n a b c d e f g h (p.drop 64)
noncomputable def A5d (p : List Nat) : List Nat := B8S ((N0 p).length / 64) 1779033703 3144134277 1013904242 2773480762 1359893119 2600822924 528734635 1541459225 (N0 p)
noncomputable def hmacF (key p : List Nat) : List Nat := A5d (A2l (if 64 < key.length then A5d key else key) 92 ++ A5d (A2l (if 64 < key.length then A5d key else key) 54 ++ p))
end Go.Px

namespace Go.Proofs.YthbhpfefdnffaaaGreatDoor
open Go.Px Go.Ed
def A9a : Nat := bxN
def A9b : Nat := s45
def C0q : Nat := d2N
def bPt : Fin p25 × Fin p25 := (fF A9a, fF A9b)
theorem B5a : On (fF dN) bPt := by rw [B4Z]; exact ⟨by decide +kernel⟩
theorem B8T : bPt.1.val = A9a := by decide +kernel
theorem B8U : bPt.2.val = A9b := by decide +kernel
theorem B5c : pS = pAt A9a A9b := rfl
theorem PR.s : PR pS bPt := by
  have h := PR.at (Q := bPt)
  rw [B8T, B8U] at h
  rw [B5c]; exact h
theorem B8V : d2N = C0q := rfl
def kM (x y : Nat) : Nat := Nat.mod (Nat.mul x y) 57896044618658097711785492504343953926634992332820282019728792003956564819949
def kA (x y : Nat) : Nat := Nat.mod (Nat.add x y) 57896044618658097711785492504343953926634992332820282019728792003956564819949
def kS (x y : Nat) : Nat := Nat.mod (Nat.sub (Nat.add x 57896044618658097711785492504343953926634992332820282019728792003956564819949) y) 57896044618658097711785492504343953926634992332820282019728792003956564819949
noncomputable def B6K {α : Type} (X1 Y1 Z1 T1 X2 Y2 Z2 T2 : Nat) (k : Nat → Nat → Nat → Nat → α) : α :=
  U4 (kM (kS Y1 X1) (kS Y2 X2)) fun a => U4 (kM (kA Y1 X1) (kA Y2 X2)) fun b => U4 (kM (kM T1 16295367250680780974490674513165176452449235426866156013048779062215315747161) T2) fun c => U4 (kM Z1 Z2) fun z0 => U4 (kA z0 z0) fun z =>
  U4 (kS b a) fun e => U4 (kS z c) fun f => U4 (kA z c) fun g => U4 (kA b a) fun h => U4 (kM e f) fun x => U4 (kM g h) fun y => U4 (kM f g) fun z => U4 (kM e h) fun t => k x y z t
theorem B06 {α : Type} (P Q : Pt) (k : Nat → Nat → Nat → Nat → α) : B6K P.X P.Y P.Z P.T Q.X Q.Y Q.Z Q.T k = k (A6f d2N P Q).X (A6f d2N P Q).Y (A6f d2N P Q).Z (A6f d2N P Q).T := by
  rw [B8V]
  unfold B6K
  simp only [B3w]
  rfl
noncomputable def tF (n : Nat) (P : Pt) : Nat → Nat → Nat → Nat → Nat → Pt := fun k =>
  Nat.rec (motive := fun _ => Nat → Nat → Nat → Nat → Pt) (fun X Y Z T => ⟨X, Y, Z, T⟩)
    (fun i ih X Y Z T => B6K X Y Z T X Y Z T fun X Y Z T => Nat.rec (motive := fun _ => Pt) (ih X Y Z T) (fun _ _ => B6K X Y Z T P.X P.Y P.Z P.T fun X Y Z T => ih X Y Z T) (Nat.mod (Nat.shiftRight n i) 2)) k
theorem B6L (n i : Nat) (P Q : Pt) : tF n P (i + 1) Q.X Q.Y Q.Z Q.T = tF n P i (pSt P n i Q).X (pSt P n i Q).Y (pSt P n i Q).Z (pSt P n i Q).T := by
  have e : tF n P (i + 1) Q.X Q.Y Q.Z Q.T = B6K Q.X Q.Y Q.Z Q.T Q.X Q.Y Q.Z Q.T fun X Y Z T => Nat.rec (motive := fun _ => Pt) (tF n P i X Y Z T) (fun _ _ => B6K X Y Z T P.X P.Y P.Z P.T fun X Y Z T => tF n P i X Y Z T) (Nat.mod (Nat.shiftRight n i) 2) := rfl
  rw [e, B06, show Nat.mod (Nat.shiftRight n i) 2 = n / 2 ^ i % 2 by rw [← Nat.shiftRight_eq_div_pow]; rfl]
  have h2 : n / 2 ^ i % 2 < 2 := Nat.mod_lt _ (by decide)
  rcases (show n / 2 ^ i % 2 = 0 ∨ n / 2 ^ i % 2 = 1 by omega) with h | h
  · rw [A68 (by omega), h]
    show tF n P i _ _ _ _ = _
    rfl
  · rw [A67 h, h]
    show B6K _ _ _ _ P.X P.Y P.Z P.T _ = _
    rw [B06]
theorem B5d (n : Nat) (P : Pt) : ∀ i, i ≤ 256 → tF n P i (pTk P n (256 - i)).X (pTk P n (256 - i)).Y (pTk P n (256 - i)).Z (pTk P n (256 - i)).T = V1 P n
  | 0, _ => rfl
  | i + 1, h => by rw [B6L, ← A8a (by omega)]; exact B5d n P i (by omega)
theorem B6M (n : Nat) (P : Pt) : V1 P n = tF n P 256 0 1 1 0 := (B5d n P 256 (Nat.le_refl _)).symm
theorem B6N : (tF lN (pAt A9a A9b) 256 0 1 1 0).X = 0 ∧ (tF lN (pAt A9a A9b) 256 0 1 1 0).Y = (tF lN (pAt A9a A9b) 256 0 1 1 0).Z := by decide +kernel
theorem A7a : FF.nsm lN bPt = ((0 : Fin p25), (1 : Fin p25)) := by
  have h := PR.s.times B5a (n := lN) (by decide)
  have hb := B6N
  rw [← B6M, ← B5c] at hb
  have hx := h.rep.x
  have hy := h.rep.y
  rw [hb.1] at hx
  rw [hb.2] at hy
  have hz := h.rep.z
  generalize fF (V1 pS lN).Z = z at *
  generalize FF.nsm lN bPt = Q at *
  obtain ⟨x, y⟩ := Q
  dsimp only at *
  have e1 : x = 0 := (FF.mul0 _ _ hx.symm).resolve_right hz
  have e2 : y = 1 := by
    have : z * y = z * 1 := by grind
    exact FF.cancel hz this
  rw [e1, e2]

def A9c (seed : List Nat) : Nat := bv (B2v ([115, 101, 99, 114, 101, 116] ++ seed)) % lN
def B5e (seed msg : List Nat) : Nat := bv (B2v ([110, 111, 110, 99, 101] ++ seed ++ msg)) % lN
def A3R (r p msg : List Nat) : Nat := bv (B2v ([99, 104, 97, 108, 108, 101, 110, 103, 101] ++ r ++ p ++ msg)) % lN
noncomputable def A5q (seed : List Nat) : List Nat := pB (V1 pS (A9c seed))
noncomputable def rB (seed msg : List Nat) : List Nat := pB (V1 pS (B5e seed msg))
noncomputable def sN (seed msg : List Nat) : Nat := (A3R (rB seed msg) (A5q seed) msg * A9c seed % lN + B5e seed msg) % lN
noncomputable def A7b (seed msg : List Nat) : List Nat := rB seed msg ++ A0x (sN seed msg) 32
def B9E (oa ob : Option Pt) (f : Pt → Pt → Bool) : Bool := match oa, ob with
  | some a, some r => f a r
  | _, _ => false
theorem A3x (a r : Pt) (f : Pt → Pt → Bool) : B9E (some a) (some r) f = f a r := rfl
theorem B3x (o : Option Pt) (f : Pt → Pt → Bool) : B9E none o f = false := by cases o <;> rfl
theorem B3y (o : Option Pt) (f : Pt → Pt → Bool) : B9E o none f = false := by cases o <;> rfl
noncomputable def A7c (p msg sig : List Nat) : Bool := decide (sig.length = 64) && B9E (S6 p) (S6 (sig.take 32)) fun a r => decide (A0x (bv (sig.drop 32) % lN) 32 = sig.drop 32) && A69 (V1 pS (bv (sig.drop 32) % lN)) (A6f d2N r (V1 a (A3R (sig.take 32) p msg)))
theorem A4i : 0 < lN := by decide
theorem B5f : lN < 2 ^ 256 := by decide
theorem A7d (s : List Nat) : A9c s < lN := Nat.mod_lt _ A4i
theorem A7e (s m : List Nat) : B5e s m < lN := Nat.mod_lt _ A4i
theorem B07 (r p m : List Nat) : A3R r p m < lN := Nat.mod_lt _ A4i
theorem C0r (s m : List Nat) : sN s m < lN := Nat.mod_lt _ A4i
theorem A8h (s : List Nat) : (A5q s).length = 32 := B4U _
theorem A3y (s m : List Nat) : (rB s m).length = 32 := B4U _
theorem A5e (s m : List Nat) : (A7b s m).length = 64 := by simp [A7b, A3y, N6]
theorem B3z (s m : List Nat) : (A7b s m).take 32 = rB s m := by unfold A7b; rw [List.take_append_of_le_length (by rw [A3y]; decide), List.take_of_length_le (by rw [A3y]; decide)]
theorem B3A (s m : List Nat) : (A7b s m).drop 32 = A0x (sN s m) 32 := by
  unfold A7b
  rw [List.drop_append, List.drop_of_length_le (by rw [A3y]; decide), A3y, Nat.sub_self, List.drop_zero, List.nil_append]
theorem B08 {n : Nat} (h : n < lN) : PR (V1 pS n) (FF.nsm n bPt) ∧ On (fF dN) (FF.nsm n bPt) := ⟨PR.s.times B5a (Nat.lt_trans h B5f), FF.nsm_on B5a n⟩
theorem B6O (seed msg : List Nat) : A7c (A5q seed) msg (A7b seed msg) = true := by
  have ha := A7d seed
  have hk := A7e seed msg
  have hs := C0r seed msg
  have hh := B07 (rB seed msg) (A5q seed) msg
  have hd : bv (A0x (sN seed msg) 32) % lN = sN seed msg := by
    rw [B0V, Nat.mod_eq_of_lt (Nat.lt_trans hs (by decide)), Nat.mod_eq_of_lt hs]
  unfold A7c
  rw [B3z, B3A, hd, decide_eq_true (A5e _ _)]
  obtain ⟨A1, A2⟩ := B08 ha
  obtain ⟨R1, R2⟩ := B08 hk
  obtain ⟨S1, S2⟩ := B08 hs
  have eA : S6 (A5q seed) = _ := A8g A1 A2
  have eR : S6 (rB seed msg) = _ := A8g R1 R2
  rw [eA, eR, A3x, decide_eq_true rfl, Bool.true_and, Bool.true_and]
  have T := (PR.at (Q := FF.nsm (A9c seed) bPt)).times A2 (Nat.lt_trans hh B5f)
  have U := (PR.at (Q := FF.nsm (B5e seed msg) bPt)).add T R2 (FF.nsm_on A2 _)
  refine S1.same ?_
  have e : FF.nsm (sN seed msg) bPt = FF.add (FF.nsm (B5e seed msg) bPt) (FF.nsm (A3R (rB seed msg) (A5q seed) msg) (FF.nsm (A9c seed) bPt)) := by
    show FF.nsm ((A3R (rB seed msg) (A5q seed) msg * A9c seed % lN + B5e seed msg) % lN) bPt = _
    rw [FF.nsm_mod B5a A7a, FF.nsm_add B5a, FF.nsm_mod B5a A7a, FF.nsm_mul B5a, FF.add_comm]
  rw [e]; exact U
def kLit : Nat := 4928719331454755403606303759647346995543222500395151019611105437466400029446
def rLit : List Nat := [158, 126, 43, 192, 36, 223, 93, 133, 238, 222, 103, 118, 108, 52, 17, 7, 171, 37, 142, 21, 42, 169, 185, 35, 17, 77, 225, 83, 3, 28, 151, 170]
end Go.Proofs.YthbhpfefdnffaaaGreatDoor
namespace Go.Px
open Go
theorem A1T : ∀ (xs ys : List Nat), xs.length = ys.length → ((List.range xs.length).all fun i => xs.getD i 0 == ys.getD i 0) = decide (xs = ys)
  | [], [], _ => rfl
  | x :: xs, y :: ys, h => by
    have ih := A1T xs ys (by simpa using h)
    rw [List.length_cons, List.range_succ_eq_map, List.all_cons, List.all_map]
    simp only [List.getD_cons_zero, Function.comp_def, List.getD_cons_succ, ih]
    by_cases hxy : x = y <;> simp [hxy]
  | [], _ :: _, h => by simp at h
  | _ :: _, [], h => by simp at h
def B9F (P : Program) (t : TypeId) : Option (Nat × IntKind) := match P.underlying t with
  | some (.array n e) => match P.underlying e with
    | some (.int k) => if N9 P e = some 1 then some (n, k) else none
    | _ => none
  | _ => none
theorem B09 {P : Program} {e : TypeId} {n : Nat} (h : N9 P e = some n) (w : World) : (sizeOf e).run P w = .ok n w := by
  unfold N9 at h
  cases hi : P.info? e with
  | none => rw [hi] at h; cases h
  | some i => rw [hi] at h; simp at h; simp [sizeOf, typeInfo, hi, h]
section
variable {P : Program} {R : Mem} {l : Env} {d : Option Nat} {ty t : TypeId} {pos : String} {af : Array Edge} {g : Option (Nat × Bool)} {x y : Operand} {k : IntKind}
theorem A6k {n : Nat} (h : B9F P t = some (n, k)) : ∃ e, P.underlying t = some (.array n e) ∧ P.underlying e = some (.int k) ∧ N9 P e = some 1 := by
  unfold B9F at h
  split at h
  · rename_i m e h1
    split at h
    · rename_i k' h2
      split at h
      · rename_i h3
        cases h
        exact ⟨e, h1, h2, h3⟩
      · cases h
    · cases h
  · cases h
theorem A6l (dp : Nat) {e : TypeId} {n : Nat} (w : World) (ht : P.underlying t = some (.array n e)) (he : P.underlying e = some (.int k)) (hsz : ∀ w, (sizeOf e).run P w = .ok 1 w)
    (xs ys : List Nat) (hx : xs.length = n) (hy : ys.length = n) : (Op.equalIn (dp + 2) t (.agg (nums k xs).toArray) (.agg (nums k ys).toArray)).run P w = .ok (decide (xs = ys)) w := by
  rw [← A1T xs ys (hx.trans hy.symm), hx, List.range_eq_range', Op.equalIn]
  simp only [Sem.run_bind, run_underlying ht, Result.andThen_ok, hsz, Std.Legacy.Range.forIn_eq_forIn_range', Std.Legacy.Range.size, Nat.sub_zero, Nat.add_sub_cancel, Nat.div_one]
  have hl : ∀ i ∈ List.range' 0 n 1, i < n := fun i hi => by simpa using (List.mem_range'_1.1 hi).2
  generalize List.range' 0 n 1 = r at hl ⊢
  induction r with
  | nil => simp
  | cons i r ih =>
    have hi : i < n := hl i (by simp)
    have gx : xs.getD i 0 = xs[i]'(by omega) := by simp [List.getD, List.getElem?_eq_getElem (show i < xs.length by omega)]
    have gy : ys.getD i 0 = ys[i]'(by omega) := by simp [List.getD, List.getElem?_eq_getElem (show i < ys.length by omega)]
    have px : (part e (nums k xs).toArray (i * 1)).run P w = .ok (.int k ((xs.getD i 0 : Nat) : Int)) w := by
      rw [gx]; simp [nums, part, isAgg, run_underlying he, List.getElem?_eq_getElem (show i < xs.length by omega)]
    have py : (part e (nums k ys).toArray (i * 1)).run P w = .ok (.int k ((ys.getD i 0 : Nat) : Int)) w := by
      rw [gy]; simp [nums, part, isAgg, run_underlying he, List.getElem?_eq_getElem (show i < ys.length by omega)]
    have pe : (Op.equalIn (dp + 1) e (.int k ((xs.getD i 0 : Nat) : Int)) (.int k ((ys.getD i 0 : Nat) : Int))).run P w = .ok (xs.getD i 0 == ys.getD i 0) w := by
      rw [run_equalIn_int w dp e k k _ _ he]
      congr 1
      rw [Bool.eq_iff_iff]
      simp only [beq_iff_eq]
      omega
    simp only [List.forIn_cons, Sem.run_bind, px, py, pe, Result.andThen_ok, List.all_cons]
    cases hb : (xs.getD i 0 == ys.getD i 0)
    · simp
    · simp only [Bool.not_true, Bool.false_eq_true, if_false, Sem.run_pure, Result.andThen_ok, Bool.true_and]
      exact ih fun j hj => hl j (by simp [hj])
theorem B6P {t' : TypeId} {n : Nat} {xs ys : List Nat} (hx : ev l x = some (.agg (nums k xs).toArray)) (hy : ev l y = some (.agg (nums k ys).toArray)) (ht : B9F P t = some (n, k)) (hg : P.eqGuardType P.depth t = false) (hxl : xs.length = n) (hyl : ys.length = n) :
    OpQ P R ⟨d, .binOp .neq t x y t', ty, pos, af, g⟩ l (.bool !(decide (xs = ys))) := fun N A w ha hw => by
  obtain ⟨e, h1, h2, h3⟩ := A6k ht
  simp only [execOp, ha.ev hx, ha.ev hy, Sem.run_bind, run_eqGuard_agg w _ _ _ _ _ _ hg, Result.andThen_ok, run_neq_struct]
  have hq : (Op.equalIn 10000 t (.agg (nums k xs).toArray) (.agg (nums k ys).toArray)).run P w = _ := A6l 9998 w h1 h2 (fun w => B09 h3 w) xs ys hxl hyl
  simp only [hq, Result.andThen_ok, Sem.run_pure]
theorem B3B {n m c : Nat} {p : Option Addr} (hx : ev l x = some (.slice p m c)) (ht : B9F P t = some (n, k)) (hn : n ≤ m) : OpQ P R ⟨d, .sliceToArrayPointer t x, ty, pos, af, g⟩ l (.pointer p) := fun N A w ha hw => by
  obtain ⟨e, h1, -, -⟩ := A6k ht
  simp [execOp, ha.ev hx, run_arrayAt w t e n p m c h1 hn]
end
end Go.Px

namespace Go.Px
structure Gx where
  i : Nat
  d : Nat
  us : List Nat
  φ : List Value → Value → Mem → Mem → Prop
def B6Q (G : List Gx) (vs : Nat → Value) : Env := G.map fun g => (g.d, vs g.i)
def GrowsX (φ : List Value → Value → Mem → Mem → Prop) : Prop := ∀ us v B R R', (∀ x ∈ R, x ∈ R') → φ us v B R → φ us v B R'
def toGx (G : List Gx) : List Gm := G.map fun g => ⟨g.i, g.d, fun _ _ => True⟩
section group
variable {C : Cx} {Q : XQ} {l : Env} {M J : Mem} {os : List Oper} {K : Nat → Prop} {n0 : Nat} {nd : List Nat} {plan : List (Nat × Nat)}
def OwesX (C : Cx) (os : List Oper) (l : Env) (M J : Mem) (G : List Gx) (g : Gx) : Prop :=
  ∃ o, nth os g.i = some o ∧ ∀ (vs : Nat → Value) (bs : Nat → Mem) (R : Mem) (w : World), (∀ x ∈ M ++ (J ++ C.A), x ∈ R) → (∀ g' ∈ G, anc os.toArray os.toArray.size g.i g'.i = true → g'.φ (g'.us.map vs) (vs g'.i) (bs g'.i) R) →
    A8O os (B6Q G vs ++ l) o ∧ OpL ⟨C.P, w, [], R, C.N⟩ o (B6Q G vs ++ l) [] [] (fun l' M' J' => ∃ v, l' = (g.d, v) :: (B6Q G vs ++ l) ∧ g.φ (g.us.map vs) v M' (M' ++ (J' ++ R)))
end group
end Go.Px

namespace Go.Proofs.YthbhpfefdnffaaaGreatDoor
open Go.Px
structure GlS (A : Mem) : Prop where
  first : ∃ e f, (0, Obj.cells (nums .u32 A21.list).toArray e f) ∈ A
  round : ∃ e f, (1, Obj.cells (nums .u32 A20).toArray e f) ∈ A
theorem GlS.sub {A A' : Mem} (h : GlS A) (hs : ∀ x, x ∈ A → x ∈ A') : GlS A' := by
  obtain ⟨⟨a, b, c⟩, ⟨d, e, f⟩⟩ := h
  exact ⟨⟨a, b, hs _ c⟩, ⟨d, e, hs _ f⟩⟩
theorem GlS.up {M J A : Mem} (h : GlS A) : GlS (M ++ (J ++ A)) := h.sub fun _ h => mA h
theorem A00 (p : List Nat) : (B2v p).length = 64 := by simp [B2v, A33]
theorem A7f (p : List Nat) : ∀ x ∈ B2v p, x < 256 := by
  intro x hx
  rcases List.mem_append.1 hx with h | h <;> exact A7G _ x h
theorem B3C {R B : Mem} {v : Value} {w : List Nat} {n : Nat} (h : Sl 1 v n (nums .u8 w) B) (hn : n = w.length) (hlt : ∀ x ∈ w, x < 256) (hl : w.length ≤ 16777216) (hR : ∀ x, x ∈ B → x ∈ R) : By R v w := ⟨hn ▸ h.rd hR, hlt, hl⟩
theorem B6R {k : IntKind} (x y : Nat) : I1 .geq k (x : Int) (y : Int) = some (.bool (decide (y ≤ x))) := by
  by_cases h : y ≤ x
  · rw [decide_eq_true h]; exact geT (by omega)
  · rw [decide_eq_false h]; exact geF (by omega)
theorem B6S {n : Nat} (h : n < lN) : bv (A0x n 32) = n := by rw [B0V, Nat.mod_eq_of_lt (Nat.lt_trans h (by decide))]
def RdR (r : Value) (w : List Nat) : Prop := ∃ V b, r = .tuple #[V, .bool b] ∧ ((∃ P, S6 w = some P ∧ b = true ∧ FeP V P) ∨ (S6 w = none ∧ b = false ∧ FeP V pZ))
theorem B1a {w : List Nat} (h : ¬ w.length = 32) : S6 w = none := if_neg h
theorem A9d {w : List Nat} (h : atN (rdN w) (decide (128 ≤ w.getD 31 0)) = none) : S6 w = none := by
  unfold S6
  split
  · rw [h]
  · rfl
theorem B3D {w : List Nat} {x : Nat} (hl : w.length = 32) (h : atN (rdN w) (decide (128 ≤ w.getD 31 0)) = some x) (hb : ¬ pB (pAt x (rdN w)) = w) : S6 w = none := by
  unfold S6
  rw [if_pos hl, h]
  exact if_neg hb
theorem B3E {w : List Nat} {x : Nat} (hl : w.length = 32) (h : atN (rdN w) (decide (128 ≤ w.getD 31 0)) = some x) (hb : pB (pAt x (rdN w)) = w) : S6 w = some (pAt x (rdN w)) := by
  unfold S6
  rw [if_pos hl, h]
  exact if_pos hb
theorem B6T (V W : Value) (P Q : Pt) (hV : FeP V P) (hW : FeP W Q) (A : Mem) : FnX Tryz.prog 147 [V, W] [] A fun r M J => M = [] ∧ J = [] ∧ FeP r (A6f d2N P Q) := by
 have hP0 := hV
 have hQ0 := hW
 obtain ⟨xsp, rfl, p0, p1, p2, p3, p4, p5, p6, p7, p8, p9, p10, p11, p12, p13, p14, p15, p16, p17, p18, p19, rfl, hPX, hPY, hPZ, hPT⟩ := hV
 dsimp only [nums, List.map]
 obtain ⟨xsq, rfl, q0, q1, q2, q3, q4, q5, q6, q7, q8, q9, q10, q11, q12, q13, q14, q15, q16, q17, q18, q19, rfl, hQX, hQY, hQZ, hQT⟩ := hW
 dsimp only [nums, List.map]
 refine FnX.enter (N := 11) Tryz.func147 rfl rfl rfl fun w => ?_
 refine C4 (D4 0 1) (A3 ?_)
 refine A6 rfl (bx_ fun b2 => ?_)
 refine A6 rfl (bx_ fun b3 => ?_)
 refine A6 rfl (C5 (cs := [A7, A7, A7, A7, A7, A7, A7, A7, A7, A7, A7, A7, A7, A7, A7, A7, A7, A7, A7, A7]) kR rfl fun b4 => ?_)
 refine A0 (E1 2 3 4) ?_
 refine D3 [0, 1, 2, 3, 4, 5] (zp 0 [1, 1, 2, 2, 2, 2, 2]) kR kR fun hs => ?_
 refine F8 hs rfl (qw_ 20) rfl ?_
 refine F8 hs rfl (qw_ 20) rfl ?_
 refine G4 rfl (aS rfl a0) kR (A0w 2 (by decide) _) rfl ?_
 rintro rn2 Mn2 Jn2 ⟨rfl, rfl, kn2⟩
 have hn2 := kn2
 obtain ⟨an2, bn2, cn2, dn2, en2, rfl, -⟩ := kn2
 refine G4 rfl a0 kR (A65 _) rfl ?_
 rintro rn3 Mn3 Jn3 ⟨rfl, rfl, kn3⟩
 have hn3 := kn3
 obtain ⟨an3, bn3, cn3, dn3, en3, rfl, -⟩ := kn3
 refine G4 rfl (aS rfl (aS rfl a0)) kR (R7 hn2 hn3 _) rfl ?_
 rintro rn4 Mn4 Jn4 ⟨rfl, rfl, kn4⟩
 rw [B6u] at kn4
 have hn4 := kn4
 obtain ⟨an4, bn4, cn4, dn4, en4, rfl, -⟩ := kn4
 refine G4 rfl (aS rfl (aS rfl (aS rfl a0))) kR (B0N _ _ _ P Q d2N hP0 hQ0 hn4 _) rfl ?_
 rintro r5 M5 J5 ⟨rfl, rfl, h5⟩
 have h50 := h5
 obtain ⟨xsz, rfl, z0, z1, z2, z3, z4, z5, z6, z7, z8, z9, z10, z11, z12, z13, z14, z15, z16, z17, z18, z19, rfl, h5X, h5Y, h5Z, h5T⟩ := h5
 dsimp only [nums, List.map]
 refine G5 rfl rfl rfl (A8 rfl rfl Cel.cel kR A2F A2G UpC.upd ?_)
 refine E4 (D8 4) (C1 ?_)
 exact ⟨_, [], [], A1g rfl rfl kR At.mem (by rfl), List.nil_sublist _, by simp, rfl, rfl, h50⟩
theorem B6U (V W : Value) (P Q : Pt) (hV : FeP V P) (hW : FeP W Q) (A : Mem) : FnV Tryz.prog 149 [V, W] A (.bool (A69 P Q)) := by
 obtain ⟨xsp, rfl, p0, p1, p2, p3, p4, p5, p6, p7, p8, p9, p10, p11, p12, p13, p14, p15, p16, p17, p18, p19, rfl, hPX, hPY, hPZ, hPT⟩ := hV
 dsimp only [nums, List.map]
 obtain ⟨xsq, rfl, q0, q1, q2, q3, q4, q5, q6, q7, q8, q9, q10, q11, q12, q13, q14, q15, q16, q17, q18, q19, rfl, hQX, hQY, hQZ, hQT⟩ := hW
 dsimp only [nums, List.map]
 refine FnX.enter (N := 29) Tryz.func149 rfl rfl rfl fun w => ?_
 refine C4 (D4 0 1) (A3 ?_)
 refine A6 rfl (bx_ fun b2 => ?_)
 refine A6 rfl (bx_ fun b3 => ?_)
 refine as_ (A0 (D4 2 3) ?_)
 refine D3 (.range 25) [(0, 0), (1, 1), (2, 0), (3, 1), (5, 0), (6, 1), (7, 0), (8, 1), (4, 2), (9, 2), (10, 2), (11, 0), (12, 0), (13, 1), (14, 0), (15, 1), (17, 0), (18, 1), (19, 0), (20, 1), (16, 2), (21, 2), (22, 2), (23, 0), (24, 0)] kR kR fun hs => ?_
 refine D2 hs rfl (qf_ 0 0) rfl ?_
 refine F8 hs rfl (H2 (n := 5) rfl kR (by first | exact At.mem | exact mA (by assumption)) TakeC.take) rfl ?_
 refine D2 hs rfl (qf_ 10 10) rfl ?_
 refine F8 hs rfl (H2 (n := 5) rfl kR (by first | exact At.mem | exact mA (by assumption)) TakeC.take) rfl ?_
 refine D2 hs rfl (qf_ 0 0) rfl ?_
 refine F8 hs rfl (H2 (n := 5) rfl kR (by first | exact At.mem | exact mA (by assumption)) TakeC.take) rfl ?_
 refine D2 hs rfl (qf_ 10 10) rfl ?_
 refine F8 hs rfl (H2 (n := 5) rfl kR (by first | exact At.mem | exact mA (by assumption)) TakeC.take) rfl ?_
 refine G4 rfl (aS rfl (aS rfl a0)) kR (R7 hPX hQZ _) rfl ?_
 rintro rn4 Mn4 Jn4 ⟨rfl, rfl, kn4⟩
 have hn4 := kn4
 obtain ⟨an4, bn4, cn4, dn4, en4, rfl, -⟩ := kn4
 refine G4 rfl (aS rfl (aS rfl a0)) kR (R7 hQX hPZ _) rfl ?_
 rintro rn9 Mn9 Jn9 ⟨rfl, rfl, kn9⟩
 have hn9 := kn9
 obtain ⟨an9, bn9, cn9, dn9, en9, rfl, -⟩ := kn9
 refine P8 rfl (aS rfl (aS rfl a0)) kR (A0d _ _ _ _ hn4 hn9 _) rfl ?_
 refine fm_ hs ?_
 refine V5 (t := 16) rfl (fun hb => ?_) (fun hb => ?_)
 ·
  have hx : fM P.X Q.Z = fM Q.X P.Z := of_decide_eq_true hb
  refine N4 hs rfl rfl rfl rfl (qf_ 5 5) rfl ?_
  refine Z0 hs rfl rfl rfl rfl (H2 (n := 5) rfl kR (by first | exact At.mem | exact mA (by assumption)) TakeC.take) rfl ?_
  refine N4 hs rfl rfl rfl rfl (qf_ 10 10) rfl ?_
  refine Z0 hs rfl rfl rfl rfl (H2 (n := 5) rfl kR (by first | exact At.mem | exact mA (by assumption)) TakeC.take) rfl ?_
  refine N4 hs rfl rfl rfl rfl (qf_ 5 5) rfl ?_
  refine Z0 hs rfl rfl rfl rfl (H2 (n := 5) rfl kR (by first | exact At.mem | exact mA (by assumption)) TakeC.take) rfl ?_
  refine N4 hs rfl rfl rfl rfl (qf_ 10 10) rfl ?_
  refine Z0 hs rfl rfl rfl rfl (H2 (n := 5) rfl kR (by first | exact At.mem | exact mA (by assumption)) TakeC.take) rfl ?_
  refine A2E rfl rfl rfl rfl (aS rfl (aS rfl a0)) kR (R7 hPY hQZ _) rfl ?_
  rintro rn16 Mn16 Jn16 ⟨rfl, rfl, kn16⟩
  have hn16 := kn16
  obtain ⟨an16, bn16, cn16, dn16, en16, rfl, -⟩ := kn16
  refine A2E rfl rfl rfl rfl (aS rfl (aS rfl a0)) kR (R7 hQY hPZ _) rfl ?_
  rintro rn21 Mn21 Jn21 ⟨rfl, rfl, kn21⟩
  have hn21 := kn21
  obtain ⟨an21, bn21, cn21, dn21, en21, rfl, -⟩ := kn21
  refine A3a rfl rfl rfl rfl (aS rfl (aS rfl a0)) kR (A0d _ _ _ _ hn16 hn21 _) rfl ?_
  refine D2 hs rfl (D7 rfl rfl) rfl ?_
  refine fa_ hs ?_
  refine E4 (D8 4) (C1 ?_)
  exact ⟨_, [], [], I2 rfl rfl, List.nil_sublist _, by simp, by unfold A69; rw [decide_eq_true hx]; rfl, rfl, rfl⟩
 ·
  have hx : ¬ fM P.X Q.Z = fM Q.X P.Z := of_decide_eq_false hb
  refine L5 hs ?_
  refine T9 hs ?_
  refine L5 hs ?_
  refine T9 hs ?_
  refine L5 hs ?_
  refine T9 hs ?_
  refine L5 hs ?_
  refine T9 hs ?_
  refine A6S hs rfl rfl rfl rfl rfl rfl ?_
  refine A6S hs rfl rfl rfl rfl rfl rfl ?_
  refine A6S hs rfl rfl rfl rfl rfl rfl ?_
  refine D2 hs rfl (E2 rfl rfl) rfl ?_
  refine fa_ hs ?_
  refine E4 (D8 4) (C1 ?_)
  exact ⟨_, [], [], I2 rfl rfl, List.nil_sublist _, by simp, by unfold A69; rw [decide_eq_false hx]; rfl, rfl, rfl⟩
theorem B1b (v : Value) (ws : List Nat) (A : Mem) (hv : By A v ws) : FnX Tryz.prog 145 [v] [] A fun r M J => M = [] ∧ J = [] ∧ RdR r ws := by
 haveI := hv.cel
 have hvl := hv.len
 refine FnX.enter (N := 32) Tryz.func145 rfl rfl rfl fun w => ?_
 refine C4 (D8 0) (A3 ?_)
 refine A6 rfl (C5 (cs := [A7, A7, A7, A7, A7, A7, A7, A7, A7, A7, A7, A7, A7, A7, A7, A7, A7, A7, A7, A7]) kR rfl fun b2 => ?_)
 refine as_ (A0 (D4 0 2) (A5 (A3 (mv_ ?_))))
 refine A4 (H6 (sz := 1) rfl kR hv.rd) rfl ?_
 refine A4 (F5 rfl rfl rfl) rfl ?_
 refine A0 (E1 0 2 8) ?_
 refine C7 rfl (fun hc => ?_) (fun hc => ?_)
 ·
  have h32 : ¬ ws.length = 32 := by simp at hc; omega
  refine A3 ?_
  refine A4 (F6 (place := fun x => #[(0, 5), (5, 5), (10, 5), (15, 5)][x]?) (z := [A7, A7, A7, A7, A7, A7, A7, A7, A7, A7, A7, A7, A7, A7, A7, A7, A7, A7, A7, A7]) (fun _ => by kernel_rfl) e0 bd0) rfl ?_
  refine A6 rfl (A8 rfl rfl Cel.cel kR A2F A2G UpC.upd ?_)
  refine as_ (A0 (D4 2 3) (C1 (tr ?_)))
  exact ⟨_, [], [], A04 rfl rfl rfl kR At.mem (by rfl), List.nil_sublist _, by simp, rfl, rfl, ⟨_, _, rfl, .inr ⟨B1a h32, rfl, ⟨_, rfl, _, _, _, _, _, _, _, _, _, _, _, _, _, _, _, _, _, _, _, _, rfl, K4, K4, K4, K4⟩⟩⟩⟩
 ·
  have h32 : ws.length = 32 := by simp at hc; omega
  refine A9 (nx (D4 0 2) ?_)
  refine D3 [0, 1, 2, 3, 4, 5, 6, 7, 8, 9, 10, 12] [(0, 0), (2, 0), (3, 0), (4, 1), (5, 0), (1, 6), (6, 6), (7, 6), (8, 6), (10, 6), (9, 7), (11, 2), (12, 0)] kR kR fun hs => ?_
  refine fm_ hs ?_
  refine fm_ hs ?_
  refine D2 hs rfl (K6 (sz := 1) (a := 31) rfl rfl kR rfl hv.rd (by omega)) rfl ?_
  refine F8 hs rfl (A05 (j := 31) (u := .int .u8 ((ws.getD 31 0 : Nat) : Int)) (hv.rd.mono SubC.sub) rfl kR (Y0 (by omega))) rfl ?_
  refine D2 hs rfl (E7 (decide (128 ≤ ws.getD 31 0)) rfl rfl (B6R _ 128)) rfl ?_
  refine A6g [⟨1, 12, fun v B _ => B = [] ∧ Fe v (rdN ws)⟩, ⟨6, 17, fun v B _ => B = [] ∧ AtR v (rdN ws) (decide (128 ≤ ws.getD 31 0))⟩, ⟨7, 10, fun v B _ => B = [] ∧ AtR v (rdN ws) (decide (128 ≤ ws.getD 31 0))⟩, ⟨8, 18, fun v B _ => B = [] ∧ ∃ P, FeP v P ∧ ∀ x, atN (rdN ws) (decide (128 ≤ ws.getD 31 0)) = some x → P = pAt x (rdN ws)⟩, ⟨10, 4, fun v B _ => ∃ b, v = .pointer (some ⟨b, 0, none⟩) ∧ B = [(b, blk [.int .u64 0, .int .u64 0, .int .u64 0, .int .u64 0, .int .u64 0, .int .u64 0, .int .u64 0, .int .u64 0, .int .u64 0, .int .u64 0, .int .u64 0, .int .u64 0, .int .u64 0, .int .u64 0, .int .u64 0, .int .u64 0, .int .u64 0, .int .u64 0, .int .u64 0, .int .u64 0] 218)]⟩] ⟨9, 19, fun v B _ => B = [] ∧ v = .bool (atN (rdN ws) (decide (128 ≤ ws.getD 31 0))).isSome⟩ hs
   (C3 (fun _ _ _ _ _ h => h) (C3 (fun _ _ _ _ _ h => h) (C3 (fun _ _ _ _ _ h => h) (C3 (fun _ _ _ _ _ h => h) (C3 (fun _ _ _ _ _ h => h) (C3 (fun _ _ _ _ _ h => h) (L1))))))) (show List.Nodup [12, 17, 10, 18, 4, 19] by decide) (show List.Nodup [1, 6, 7, 8, 10, 9] by decide) (C3 (C9 rfl) (C3 (C9 rfl) (C3 (C9 rfl) (C3 (C9 rfl) (C3 (C9 rfl) (C3 (C9 rfl) (L1)))))))
   (C3 ⟨_, rfl, fun vs bs R w hb ha => ⟨.inl rfl, ?_⟩⟩ (C3 ⟨_, rfl, fun vs bs R w hb ha => ⟨.inl rfl, ?_⟩⟩ (C3 ⟨_, rfl, fun vs bs R w hb ha => ⟨.inl rfl, ?_⟩⟩ (C3 ⟨_, rfl, fun vs bs R w hb ha => ⟨.inl rfl, ?_⟩⟩ (C3 ⟨_, rfl, fun vs bs R w hb ha => ⟨.inl rfl, ?_⟩⟩ (L1)))))) ⟨_, _, _, _, rfl, fun vs bs R hb ha => ?_⟩ ?_
  ·
   refine D5 (aS rfl a0) kR (A4f v ws _ (hv.rd.mono fun x hx => hb _ (SubC.sub x hx)) hv.lt (by omega)) rfl ?_
   rintro r M1 J1 ⟨rfl, rfl, hh⟩
   exact ⟨_, rfl, rfl, hh⟩
  ·
   have g1 := ha _ (List.mem_of_getElem? (i := 0) rfl) kR
   replace g1 : (fun v B _ => B = [] ∧ Fe v (rdN ws)) (vs 1) (bs 1) R := g1
   dsimp only at g1
   obtain ⟨-, k1⟩ := g1
   refine D5 (aS rfl (aS rfl a0)) kR (at_f _ _ _ k1 _) rfl ?_
   rintro r M1 J1 ⟨rfl, rfl, hh⟩
   exact ⟨_, rfl, rfl, hh⟩
  ·
   have g6 := ha _ (List.mem_of_getElem? (i := 1) rfl) kR
   replace g6 : (fun v B _ => B = [] ∧ AtR v (rdN ws) (decide (128 ≤ ws.getD 31 0))) (vs 6) (bs 6) R := g6
   dsimp only at g6
   obtain ⟨-, k6⟩ := g6
   exact OpQ.opL qm_ rfl ⟨_, rfl, rfl, k6⟩
  ·
   have g7 := ha _ (List.mem_of_getElem? (i := 2) rfl) kR
   replace g7 : (fun v B _ => B = [] ∧ AtR v (rdN ws) (decide (128 ≤ ws.getD 31 0))) (vs 7) (bs 7) R := g7
   dsimp only at g7
   obtain ⟨-, k7⟩ := g7
   obtain ⟨V, b, hw, hr⟩ := k7
   refine OpQ.opL (K1 (vs := #[V, .bool b]) (by rw [← hw]; rfl) rfl) rfl ⟨_, rfl, rfl, ?_⟩
   rcases hr with ⟨x, h1, -, h2⟩ | ⟨h1, -, h2⟩
   · exact ⟨_, h2, fun y hy => by rw [h1] at hy; cases hy; rfl⟩
   · exact ⟨_, h2, fun y hy => by rw [h1] at hy; cases hy⟩
  ·
   exact C5 (cs := [A7, A7, A7, A7, A7, A7, A7, A7, A7, A7, A7, A7, A7, A7, A7, A7, A7, A7, A7, A7]) kR rfl fun b => ⟨_, rfl, b, rfl, rfl⟩
  ·
   have g7 := ha _ (List.mem_of_getElem? (i := 2) rfl) kR
   replace g7 : (fun v B _ => B = [] ∧ AtR v (rdN ws) (decide (128 ≤ ws.getD 31 0))) (vs 7) (bs 7) R := g7
   dsimp only at g7
   obtain ⟨-, k7⟩ := g7
   obtain ⟨V, b, hw, hr⟩ := k7
   refine ⟨.bool b, K1 (vs := #[V, .bool b]) (by rw [← hw]; rfl) rfl, rfl, ?_⟩
   rcases hr with ⟨x, h1, rfl, -⟩ | ⟨h1, rfl, -⟩ <;> rw [h1] <;> rfl
  intro vs bs Jn0 hφ
  have g1 := ofH hφ
  dsimp only at g1
  replace hφ := ofT hφ
  have g6 := ofH hφ
  dsimp only at g6
  replace hφ := ofT hφ
  have g7 := ofH hφ
  dsimp only at g7
  replace hφ := ofT hφ
  have g8 := ofH hφ
  dsimp only at g8
  replace hφ := ofT hφ
  have g10 := ofH hφ
  dsimp only at g10
  replace hφ := ofT hφ
  have g9 := ofH hφ
  dsimp only at g9
  clear hφ
  dsimp only [P3, H9, List.map, List.flatten, List.cons_append, List.nil_append]
  generalize bs 1 = B12 at *
  generalize bs 6 = B17 at *
  generalize bs 7 = B10 at *
  generalize bs 8 = B18 at *
  generalize bs 10 = B4 at *
  generalize bs 9 = B19 at *
  generalize vs 1 = u12 at *
  generalize vs 6 = u17 at *
  generalize vs 7 = u10 at *
  generalize vs 8 = u18 at *
  generalize vs 10 = u4 at *
  generalize vs 9 = u19 at *
  obtain ⟨rfl, -⟩ := g1
  obtain ⟨rfl, -⟩ := g6
  obtain ⟨rfl, -⟩ := g7
  obtain ⟨rfl, P, hP, hPx⟩ := g8
  obtain ⟨rfl, h9⟩ := g9
  obtain ⟨b10, rfl, rfl⟩ := g10
  obtain ⟨o, ho⟩ : ∃ o, atN (rdN ws) (decide (128 ≤ ws.getD 31 0)) = o := ⟨_, rfl⟩
  rw [ho] at hPx h9
  subst h9
  have hP0 := hP
  obtain ⟨xsp, rfl, p0, p1, p2, p3, p4, p5, p6, p7, p8, p9, p10, p11, p12, p13, p14, p15, p16, p17, p18, p19, rfl, hpX, hpY, hpZ, hpT⟩ := hP
  dsimp only [nums, List.map]
  dsimp only [List.append_eq, List.nil_append, List.cons_append]
  refine G5 rfl rfl rfl (A8 rfl rfl Cel.cel kR A2F A2G UpC.upd ?_)
  refine fa_ hs ?_
  refine E4 (E9 0 2 4 5) (A5 ?_)
  rcases o with _ | xo
  ·
   refine D3 (.range 10) [(0, 0), (1, 0), (2, 0), (3, 1), (6, 0), (7, 1), (4, 2), (5, 1), (8, 0), (9, 0)] kR kR fun hs => ?_
   refine fm_ hs ?_
   refine D2 hs rfl (V3 rfl) rfl ?_
   refine fm_ hs ?_
   refine T9 hs ?_
   refine L5 hs ?_
   refine T9 hs ?_
   refine A6S hs rfl rfl rfl rfl rfl rfl ?_
   refine T9 hs ?_
   refine L5 hs ?_
   refine D2 hs rfl (D7 rfl rfl) rfl ?_
   refine E4 (E1 2 4 29) ?_
   refine E0 rfl ?_
   refine A3 ?_
   refine A4 (F6 (place := fun x => #[(0, 5), (5, 5), (10, 5), (15, 5)][x]?) (z := [A7, A7, A7, A7, A7, A7, A7, A7, A7, A7, A7, A7, A7, A7, A7, A7, A7, A7, A7, A7]) (fun _ => by kernel_rfl) e0 bd0) rfl ?_
   refine A6 rfl (A8 rfl rfl Cel.cel kR A2F A2G UpC.upd ?_)
   refine as_ (A0 (D4 2 3) (C1 (tr ?_)))
   exact ⟨_, [], [], A04 rfl rfl rfl kR At.mem (by rfl), List.nil_sublist _, by simp, rfl, rfl, ⟨_, _, rfl, .inr ⟨A9d ho, rfl, ⟨_, rfl, _, _, _, _, _, _, _, _, _, _, _, _, _, _, _, _, _, _, _, _, rfl, K4, K4, K4, K4⟩⟩⟩⟩
  ·
   refine D3 (.range 10) [(0, 0), (1, 0), (2, 0), (3, 1), (6, 0), (4, 3), (5, 3), (7, 4), (8, 0), (9, 0)] kR kR fun hs => ?_
   refine fm_ hs ?_
   refine D2 hs rfl (V3 rfl) rfl ?_
   refine fm_ hs ?_
   refine Z0 hs rfl rfl rfl rfl (qw_ 20) rfl ?_
   refine N4 hs rfl rfl rfl rfl qm_ rfl ?_
   refine N2 [⟨4, 24, fun v B R => Sl 1 v 32 (nums .u8 (pB P)) B ∧ ∀ x ∈ B, x ∈ R⟩, ⟨5, 25, fun v B _ => B = [] ∧ v = .string (txt (pB P))⟩, ⟨7, 27, fun v B _ => B = [] ∧ v = .string (txt ws)⟩]
    (C3 (fun _ _ _ _ hR h => ⟨h.1, fun x hx => hR x (h.2 x hx)⟩) (C3 (fun _ _ _ _ _ h => h) (C3 (fun _ _ _ _ _ h => h) (L1)))) (show List.Nodup [24, 25, 27] by decide) (show List.Nodup [4, 5, 7] by decide) (C3 (C9 rfl) (C3 (C9 rfl) (C3 (C9 rfl) (L1))))
    (C3 ⟨_, rfl, fun vs bs R w hb ha => ⟨.inr ⟨_, _, _, _, rfl, rfl, rfl, rfl⟩, ?_⟩⟩ (C3 ⟨_, rfl, fun vs bs R w hb ha => ⟨.inr ⟨_, _, _, _, rfl, rfl, rfl, rfl⟩, ?_⟩⟩ (C3 ⟨_, rfl, fun vs bs R w hb ha => ⟨.inr ⟨_, _, _, _, rfl, rfl, rfl, rfl⟩, ?_⟩⟩ (L1)))) ?_
   ·
    refine D5 (aS rfl a0) kR (A48 _ P hP0 _) rfl ?_
    rintro r M1 J1 ⟨rfl, hh⟩
    exact ⟨_, rfl, by simpa using hh, fun x hx => List.mem_append_left _ hx⟩
   ·
    have g4 := ha _ (List.mem_of_getElem? (i := 0) rfl) kR
    replace g4 : (fun v B R => Sl 1 v 32 (nums .u8 (pB P)) B ∧ ∀ x ∈ B, x ∈ R) (vs 4) (bs 4) R := g4
    dsimp only at g4
    obtain ⟨k4, k4s⟩ := g4
    exact OpQ.opL (A0i rfl kR (k4.rd fun x hx => k4s x hx)) rfl ⟨_, rfl, rfl, rfl⟩
   ·
    exact OpQ.opL (A0i rfl kR (hv.rd.mono fun x hx => hb _ (SubC.sub x hx))) rfl ⟨_, rfl, rfl, rfl⟩
   intro vs bs Jn0 hφ
   have g4 := ofH hφ
   dsimp only at g4
   replace hφ := ofT hφ
   have g5 := ofH hφ
   dsimp only at g5
   replace hφ := ofT hφ
   have g7 := ofH hφ
   dsimp only at g7
   clear hφ
   dsimp only [P3, H9, List.map, List.flatten, List.cons_append, List.nil_append]
   generalize bs 4 = B24 at *
   generalize bs 5 = B25 at *
   generalize bs 7 = B27 at *
   generalize vs 4 = u24 at *
   generalize vs 5 = u25 at *
   generalize vs 7 = u27 at *
   obtain ⟨k4, -⟩ := g4
   obtain ⟨rfl, rfl⟩ := g5
   obtain ⟨rfl, rfl⟩ := g7
   obtain rfl := hPx _ rfl
   dsimp only [List.append_eq, List.nil_append, List.cons_append]
   refine N4 hs rfl rfl rfl rfl (B97 rfl rfl rfl rfl (B3q _) hv.lt) rfl ?_
   refine D2 hs rfl (E2 rfl rfl) rfl ?_
   refine E4 (E1 2 4 29) ?_
   refine C7 rfl (fun hc => ?_) (fun hc => ?_)
   ·
    have hne : ¬ pB (pAt xo (rdN ws)) = ws := by simpa using hc
    refine A3 ?_
    refine A4 (F6 (place := fun x => #[(0, 5), (5, 5), (10, 5), (15, 5)][x]?) (z := [A7, A7, A7, A7, A7, A7, A7, A7, A7, A7, A7, A7, A7, A7, A7, A7, A7, A7, A7, A7]) (fun _ => by kernel_rfl) e0 bd0) rfl ?_
    refine A6 rfl (A8 rfl rfl Cel.cel kR A2F A2G UpC.upd ?_)
    refine as_ (A0 (D4 2 3) (C1 (tr ?_)))
    exact ⟨_, [], [], A04 rfl rfl rfl kR At.mem (by rfl), List.nil_sublist _, by simp, rfl, rfl, ⟨_, _, rfl, .inr ⟨B3D h32 ho hne, rfl, ⟨_, rfl, _, _, _, _, _, _, _, _, _, _, _, _, _, _, _, _, _, _, _, _, rfl, K4, K4, K4, K4⟩⟩⟩⟩
   ·
    have hne : pB (pAt xo (rdN ws)) = ws := by simpa using hc
    refine A9 (nx (D4 2 4) (A3 ?_))
    refine A4 (qw_ 20) rfl ?_
    refine A6 rfl (A8 rfl rfl Cel.cel kR A2F A2G UpC.upd ?_)
    refine as_ (A0 (D4 2 3) (C1 ?_))
    exact ⟨_, [], [], A04 rfl rfl rfl kR At.mem (by rfl), List.nil_sublist _, by simp, rfl, rfl, ⟨_, _, rfl, .inl ⟨_, B3E h32 ho hne, rfl, hP0⟩⟩⟩

end Go.Proofs.YthbhpfefdnffaaaGreatDoor
