/- Part 10 of the texts of this claim, one behind the other. -/
import Derived.Test.YtlilcmjbaknafaaGreatDoorB9
set_option linter.unusedVariables false
set_option linter.unusedSimpArgs false
set_option maxRecDepth 100000
namespace Go.Px
def IsPr (p : Nat) : Prop := 2 ≤ p ∧ ∀ d, d ∣ p → d = 1 ∨ d = p
theorem IsPr.cop {p a : Nat} (h : IsPr p) (ha : ¬ p ∣ a) : Nat.Coprime p a := by
  rcases h.2 _ (Nat.gcd_dvd_left p a) with h1 | h1
  · exact h1
  · exact absurd (h1 ▸ Nat.gcd_dvd_right p a) ha
theorem IsPr.mul {p a b : Nat} (h : IsPr p) (hd : p ∣ a * b) : p ∣ a ∨ p ∣ b := by
  by_cases ha : p ∣ a
  · exact .inl ha
  · exact .inr ((h.cop ha).dvd_of_dvd_mul_left hd)
theorem exPr (n : Nat) (h : 2 ≤ n) : ∃ r, IsPr r ∧ r ∣ n := by
  induction n using Nat.strongRecOn with
  | _ n ih =>
    by_cases hp : IsPr n
    · exact ⟨n, hp, Nat.dvd_refl n⟩
    · have : ∃ d, d ∣ n ∧ d ≠ 1 ∧ d ≠ n := by
        false_or_by_contra
        rename_i hc
        refine hp ⟨h, fun d hd => ?_⟩
        by_cases h1 : d = 1
        · exact .inl h1
        · by_cases h2 : d = n
          · exact .inr h2
          · exact absurd ⟨d, hd, h1, h2⟩ hc
      obtain ⟨d, hd, h1, h2⟩ := this
      have hle := Nat.le_of_dvd (by omega) hd
      have h0 : d ≠ 0 := by rintro rfl; rw [Nat.zero_dvd] at hd; omega
      obtain ⟨r, hr, hrd⟩ := ih d (by omega) (by omega)
      exact ⟨r, hr, Nat.dvd_trans hrd hd⟩
theorem IsPr.of {n : Nat} (h2 : 2 ≤ n) (h : ∀ r, IsPr r → r ∣ n → r * r ≤ n → False) : IsPr n := by
  refine ⟨h2, fun d hd => ?_⟩
  by_cases h1 : d = 1
  · exact .inl h1
  by_cases hn : d = n
  · exact .inr hn
  exfalso
  obtain ⟨e, he⟩ := hd
  have he1 : e ≠ 1 := by rintro rfl; rw [Nat.mul_one] at he; exact hn he.symm
  have hd0 : d ≠ 0 := by rintro rfl; rw [Nat.zero_mul] at he; omega
  have he0 : e ≠ 0 := by rintro rfl; rw [Nat.mul_zero] at he; omega
  rcases Nat.le_total d e with hle | hle
  · obtain ⟨r, hr, hrd⟩ := exPr d (by omega)
    have := Nat.le_of_dvd (by omega) hrd
    refine h r hr (he ▸ Nat.dvd_trans hrd (Nat.dvd_mul_right d e)) ?_
    rw [he]; exact Nat.mul_le_mul this (Nat.le_trans this hle)
  · obtain ⟨r, hr, hrd⟩ := exPr e (by omega)
    have := Nat.le_of_dvd (by omega) hrd
    refine h r hr (he ▸ Nat.dvd_trans hrd (Nat.dvd_mul_left e d)) ?_
    rw [he]; exact Nat.mul_le_mul (Nat.le_trans this hle) this
def cho : Nat → Nat → Nat
  | _, 0 => 1
  | 0, _ + 1 => 0
  | n + 1, k + 1 => cho n k + cho n (k + 1)
theorem A7G : ∀ n k, n < k → cho n k = 0
  | 0, k + 1, _ => by rw [cho]
  | n + 1, k + 1, h => by rw [cho, A7G n k (by omega), A7G n (k + 1) (by omega)]
theorem A7H : ∀ n, cho n n = 1
  | 0 => by rw [cho]
  | n + 1 => by rw [cho, A7H n, A7G n (n + 1) (by omega)]
theorem A5a : ∀ n k, (k + 1) * cho (n + 1) (k + 1) = (n + 1) * cho n k
  | 0, 0 => by simp [cho]
  | 0, k + 1 => by simp [cho]
  | n + 1, 0 => by
    have := A5a n 0
    rw [cho]
    simp only [cho, Nat.mul_one, Nat.one_mul, Nat.zero_add] at *
    omega
  | n + 1, k + 1 => by
    have h1 := A5a n k
    have h2 := A5a n (k + 1)
    rw [cho.eq_3 (n + 1) (k + 1)]
    rw [cho.eq_3 n k] at *
    generalize cho n (k + 1 + 1) = x at *
    generalize cho (n + 1) (k + 1 + 1) = z at *
    generalize cho n (k + 1) = y at *
    generalize cho n k = u at *
    grind
def Q4 (f : Nat → Nat) : Nat → Nat
  | 0 => 0
  | n + 1 => Q4 f n + f n
theorem A3t {f g : Nat → Nat} : ∀ n, (∀ i, i < n → f i = g i) → Q4 f n = Q4 g n
  | 0, _ => rfl
  | n + 1, h => by rw [Q4, Q4, A3t n fun i hi => h i (by omega), h n (by omega)]
theorem A6c (f g : Nat → Nat) : ∀ n, Q4 (fun i => f i + g i) n = Q4 f n + Q4 g n
  | 0 => rfl
  | n + 1 => by rw [Q4, Q4, Q4, A6c f g n]; omega
theorem A6d (c : Nat) (f : Nat → Nat) : ∀ n, Q4 (fun i => c * f i) n = c * Q4 f n
  | 0 => rfl
  | n + 1 => by rw [Q4, Q4, A6d c f n, Nat.mul_add]
theorem A0A (f : Nat → Nat) : ∀ n, Q4 f (n + 1) = f 0 + Q4 (fun i => f (i + 1)) n
  | 0 => by simp [Q4]
  | n + 1 => by rw [Q4, A0A f n, Q4]; omega
theorem A6e {p : Nat} {f : Nat → Nat} : ∀ n, (∀ i, i < n → p ∣ f i) → p ∣ Q4 f n
  | 0, _ => Nat.dvd_zero p
  | n + 1, h => by rw [Q4]; exact Nat.dvd_add (A6e n fun i hi => h i (by omega)) (h n (by omega))
theorem B77 (a : Nat) : ∀ n, (a + 1) ^ n = Q4 (fun k => cho n k * a ^ k) (n + 1)
  | 0 => by simp [Q4, cho]
  | n + 1 => by
    rw [Nat.pow_succ, B77 a n, A0A (fun k => cho (n + 1) k * a ^ k)]
    try dsimp only
    have e : Q4 (fun i => cho (n + 1) (i + 1) * a ^ (i + 1)) (n + 1) = a * Q4 (fun k => cho n k * a ^ k) (n + 1) + Q4 (fun i => cho n (i + 1) * a ^ (i + 1)) (n + 1) := by
      rw [← A6d, ← A6c]
      refine A3t _ fun i _ => ?_
      rw [cho, Nat.add_mul, Nat.pow_succ]
      grind
    rw [e]
    have e2 : Q4 (fun i => cho n (i + 1) * a ^ (i + 1)) (n + 1) = Q4 (fun i => cho n (i + 1) * a ^ (i + 1)) n := by
      rw [Q4, A7G n (n + 1) (by omega), Nat.zero_mul, Nat.add_zero]
    rw [e2]
    have e3 := A0A (fun k => cho n k * a ^ k) n
    have c0 : cho n 0 = 1 := by cases n <;> rfl
    have c1 : cho (n + 1) 0 = 1 := rfl
    rw [c0] at e3
    rw [c1]
    generalize Q4 (fun k => cho n k * a ^ k) (n + 1) = S at *
    generalize Q4 (fun i => cho n (i + 1) * a ^ (i + 1)) n = T at *
    simp only [Nat.pow_zero, Nat.mul_one] at *
    grind
theorem B79 {p k : Nat} (h : IsPr p) (h0 : 0 < k) (hk : k < p) : p ∣ cho p k := by
  have h2 := h.1
  obtain ⟨n, rfl⟩ : ∃ n, p = n + 1 := ⟨p - 1, by omega⟩
  obtain ⟨j, rfl⟩ : ∃ j, k = j + 1 := ⟨k - 1, by omega⟩
  have e := A5a n j
  have hd : (n + 1) ∣ (j + 1) * cho (n + 1) (j + 1) := by rw [e]; exact Nat.dvd_mul_right _ _
  rcases h.mul hd with h1 | h1
  · have := Nat.le_of_dvd (by omega) h1; omega
  · exact h1
theorem B8a {p : Nat} (h : IsPr p) (a : Nat) : a ^ p % p = a % p := by
  have h2 := h.1
  induction a with
  | zero => rw [Nat.zero_pow (by omega)]
  | succ a ih =>
    obtain ⟨n, rfl⟩ : ∃ n, p = n + 1 := ⟨p - 1, by omega⟩
    rw [B77, Q4, A7H, Nat.one_mul, A0A]
    obtain ⟨c, hc⟩ : (n + 1) ∣ Q4 (fun i => cho (n + 1) (i + 1) * a ^ (i + 1)) n := A6e n fun i hi => Nat.dvd_trans (B79 h (by omega) (by omega)) (Nat.dvd_mul_right _ _)
    rw [hc, show cho (n + 1) 0 * a ^ 0 = 1 from rfl]
    have e : (1 + (n + 1) * c + a ^ (n + 1)) % (n + 1) = (1 + a ^ (n + 1)) % (n + 1) := by
      rw [Nat.add_right_comm, Nat.add_mul_mod_self_left]
    rw [e, Nat.add_mod, ih, ← Nat.add_mod, Nat.add_comm]
theorem A5b {p a : Nat} (h : IsPr p) (ha : ¬ p ∣ a) : a ^ (p - 1) % p = 1 := by
  have h2 := h.1
  have hf := B8a h a
  obtain ⟨n, rfl⟩ : ∃ n, p = n + 1 := ⟨p - 1, by omega⟩
  rw [Nat.add_sub_cancel]
  have h1 : 1 ≤ a ^ n := Nat.pow_pos (Nat.pos_of_ne_zero (by rintro rfl; exact ha (Nat.dvd_zero _)))
  have hd : (n + 1) ∣ a * (a ^ n - 1) := by
    rw [Nat.mul_sub, Nat.mul_one, ← Nat.pow_succ']
    have hle : a ≤ a ^ (n + 1) := Nat.le_self_pow (by omega) a
    exact Nat.dvd_of_mod_eq_zero (Nat.sub_mod_eq_zero_of_mod_eq hf)
  rcases h.mul hd with h3 | h3
  · exact absurd h3 ha
  · obtain ⟨c, hc⟩ := h3
    rw [show a ^ n = 1 + (n + 1) * c by omega, Nat.add_mul_mod_self_left]
    exact Nat.mod_eq_of_lt (by omega)
theorem B56 {r b : Nat} (m n : Nat) (hm : b ^ m % r = 1 % r) (hn : b ^ n % r = 1 % r) : b ^ (Nat.gcd m n) % r = 1 % r := by
  induction m, n using Nat.gcd.induction with
  | H0 n => rw [Nat.gcd_zero_left]; exact hn
  | H1 m n h0 ih =>
    rw [Nat.gcd_rec]
    refine ih ?_ hm
    have e : b ^ n = (b ^ m) ^ (n / m) * b ^ (n % m) := by
      rw [← Nat.pow_mul, ← Nat.pow_add, Nat.div_add_mod]
    rw [e, Nat.mul_mod, Nat.pow_mod, hm, ← Nat.pow_mod, Nat.one_pow, ← Nat.mul_mod, Nat.one_mul] at hn
    exact hn
theorem B9I {N q a r : Nat} (hN : 2 ≤ N) (hq : IsPr q) (hqd : q * ((N - 1) / q) = N - 1) (h1 : a ^ (N - 1) % N = 1) (h2 : Nat.gcd (a ^ ((N - 1) / q) % N + (N - 1)) N = 1) (hr : IsPr r) (hrN : r ∣ N) : q ∣ r - 1 := by
  have hr2 := hr.1
  generalize hb : a ^ ((N - 1) / q) = b at *
  have hbq : b ^ q % r = 1 % r := by
    rw [← hb, ← Nat.pow_mul, Nat.mul_comm, hqd, ← Nat.mod_mod_of_dvd _ hrN, h1]
  have hnb : ¬ b % r = 1 % r := by
    intro hc
    have : r ∣ b % N + (N - 1) := by
      have e : (b % N + (N - 1)) % r = 0 := by
        obtain ⟨c, rfl⟩ := hrN
        rw [Nat.add_mod, Nat.mod_mul_right_mod, hc, ← Nat.add_mod, show 1 + (r * c - 1) = r * c by omega, Nat.mul_mod_right]
      exact Nat.dvd_of_mod_eq_zero e
    have := Nat.dvd_gcd this hrN
    rw [h2, Nat.dvd_one] at this
    omega
  have hrb : ¬ r ∣ b := by
    intro hc
    have hq1 := hq.1
    have : b ^ q % r = 0 := Nat.mod_eq_zero_of_dvd (Nat.dvd_trans hc (show b ∣ b ^ q from ⟨b ^ (q - 1), by rw [← Nat.pow_succ']; congr 1; omega⟩))
    rw [this, Nat.mod_eq_of_lt (by omega)] at hbq
    omega
  have hf := A5b hr hrb
  have hg := B56 q (r - 1) hbq (by rw [hf, Nat.mod_eq_of_lt (by omega)])
  rcases hq.2 _ (Nat.gcd_dvd_left q (r - 1)) with h3 | h3
  · rw [h3, Nat.pow_one] at hg; exact absurd hg hnb
  · exact h3 ▸ Nat.gcd_dvd_right q (r - 1)
theorem Y7 {p q m : Nat} (hp : IsPr p) (hq : IsPr q) (hne : p ≠ q) (h1 : p ∣ m) (h2 : q ∣ m) : p * q ∣ m := by
  obtain ⟨c, rfl⟩ := h1
  rcases hq.mul h2 with h | h
  · rcases hp.2 _ h with h3 | h3
    · have := hq.1; omega
    · exact absurd h3.symm hne
  · exact Nat.mul_dvd_mul_left p h
theorem A8E {N F : Nat} (hN : 2 ≤ N) (hF : N < (F + 1) * (F + 1)) (h : ∀ r, IsPr r → r ∣ N → F ∣ r - 1) : IsPr N := by
  refine IsPr.of hN fun r hr hd hle => ?_
  have h1 := hr.1
  have := Nat.le_of_dvd (by omega) (h r hr hd)
  have := Nat.mul_le_mul (show F + 1 ≤ r by omega) (show F + 1 ≤ r by omega)
  omega
def B3a (n : Nat) : Nat → Bool
  | 0 => true
  | k + 1 => (k < 2 || n % k != 0) && B3a n k
theorem A4p {n : Nat} : ∀ k, B3a n k = true → ∀ d, 2 ≤ d → d < k → ¬ d ∣ n
  | 0, _, d, _, h => by omega
  | k + 1, h, d, h2, hd => by
    rw [B3a, Bool.and_eq_true] at h
    by_cases e : d = k
    · subst e
      intro hc
      have := Nat.mod_eq_zero_of_dvd hc
      simp [this] at h
      omega
    · exact A4p k h.2 d h2 (by omega)
theorem A6X {n : Nat} (k : Nat) (h2 : 2 ≤ n) (hk : n < k * k) (h : B3a n k = true) : IsPr n := by
  refine IsPr.of h2 fun r hr hd hle => A4p k h r hr.1 ?_ hd
  rcases Nat.lt_or_ge r k with h1 | h1
  · exact h1
  · have := Nat.mul_le_mul h1 h1; omega
def pm (N : Nat) : Nat → Nat → Nat → Nat → Nat
  | 0, _, _, acc => acc
  | f + 1, b, e, acc => pm N f (b * b % N) (e / 2) (if e % 2 = 1 then acc * b % N else acc)
theorem B0v (N : Nat) : ∀ f b e acc, e < 2 ^ f → acc % N = acc → pm N f b e acc = acc * b ^ e % N
  | 0, b, e, acc, h, ha => by
    obtain rfl : e = 0 := by simpa using h
    rw [pm, Nat.pow_zero, Nat.mul_one, ha]
  | f + 1, b, e, acc, h, ha => by
    rw [pm, B0v N f _ _ _ (by rw [Nat.pow_succ] at h; omega) (by split <;> simp [ha])]
    have e2 : b ^ e = (b * b) ^ (e / 2) * b ^ (e % 2) := by
      rw [← Nat.pow_two, ← Nat.pow_mul, ← Nat.pow_add, Nat.div_add_mod]
    rw [e2]
    rcases Nat.mod_two_eq_zero_or_one e with h0 | h0
    · rw [h0, if_neg (by decide), Nat.mul_mod, ← Nat.pow_mod, ← Nat.mul_mod, Nat.pow_zero, Nat.mul_one]
    · rw [h0, if_pos rfl, Nat.mul_mod, ← Nat.pow_mod, Nat.mod_mod, ← Nat.mul_mod, Nat.pow_one, Nat.mul_assoc, Nat.mul_comm b]
theorem A7I {N : Nat} (hN : 2 ≤ N) (f a e : Nat) (h : e < 2 ^ f) : a ^ e % N = pm N f a e 1 := by
  rw [B0v N f a e 1 h (Nat.mod_eq_of_lt (by omega)), Nat.one_mul]
def B8b (N q a : Nat) : Bool := q * ((N - 1) / q) == N - 1 && pm N 256 a (N - 1) 1 == 1 && Nat.gcd (pm N 256 a ((N - 1) / q) 1 + (N - 1)) N == 1
theorem H4 {N q a : Nat} (hN : 2 ≤ N) (hN2 : N < 2 ^ 256) (hq : IsPr q) (h : B8b N q a = true) : ∀ r, IsPr r → r ∣ N → q ∣ r - 1 := by
  simp only [B8b, Bool.and_eq_true, beq_iff_eq] at h
  obtain ⟨⟨h1, h2⟩, h3⟩ := h
  intro r hr hd
  refine B9I (a := a) hN hq h1 ?_ ?_ hr hd
  · rw [A7I hN 256 _ _ (by omega)]; exact h2
  · rw [A7I hN 256 _ _ (Nat.lt_of_le_of_lt (Nat.div_le_self _ _) (by omega))]; exact h3
theorem B4w : IsPr 4153 := A6X 65 (by decide) (by decide) (by decide +kernel)
theorem A7J : IsPr 430751 := A6X 657 (by decide) (by decide) (by decide +kernel)
theorem A6f : IsPr 8574133 := A6X 2929 (by decide) (by decide) (by decide +kernel)
theorem B8c : IsPr 127 := A6X 12 (by decide) (by decide) (by decide +kernel)
theorem B3b : IsPr 569003 := A6X 755 (by decide) (by decide) (by decide +kernel)
theorem A6g : IsPr 2773320623 := A8E (F := 569003) (by decide) (by decide) (H4 (a := 2) (by decide) (by decide) B3b (by decide +kernel))
theorem A1V : IsPr 72106336199 := A8E (F := 2773320623) (by decide) (by decide) (H4 (a := 2) (by decide) (by decide) A6g (by decide +kernel))
theorem A0c : IsPr 1919519569386763 := A8E (F := 8574133 * 127) (by decide) (by decide) fun s hs hd => Y7 A6f B8c (by decide) (H4 (a := 2) (by decide) (by decide) A6f (by decide +kernel) s hs hd) (H4 (a := 2) (by decide) (by decide) B8c (by decide +kernel) s hs hd)
theorem Y8 : IsPr 31757755568855353 := A8E (F := 430751 * 4153) (by decide) (by decide) fun s hs hd => Y7 A7J B4w (by decide) (H4 (a := 2) (by decide) (by decide) A7J (by decide +kernel) s hs hd) (H4 (a := 2) (by decide) (by decide) B4w (by decide +kernel) s hs hd)
theorem K3 : IsPr 75445702479781427272750846543864801 := A8E (F := 72106336199 * 1919519569386763) (by decide) (by decide) fun s hs hd => Y7 A1V A0c (by decide) (H4 (a := 2) (by decide) (by decide) A1V (by decide +kernel) s hs hd) (H4 (a := 2) (by decide) (by decide) A0c (by decide +kernel) s hs hd)
theorem G7 : IsPr 74058212732561358302231226437062788676166966415465897661863160754340907 := A8E (F := 31757755568855353 * 75445702479781427272750846543864801) (by decide) (by decide) fun s hs hd => Y7 Y8 K3 (by decide) (H4 (a := 2) (by decide) (by decide) Y8 (by decide +kernel) s hs hd) (H4 (a := 2) (by decide) (by decide) K3 (by decide +kernel) s hs hd)
theorem B9J : IsPr p25 := A8E (F := 74058212732561358302231226437062788676166966415465897661863160754340907) (by decide) (by decide) (H4 (a := 2) (by decide) (by decide) G7 (by decide +kernel))
end Go.Px

namespace Go.Proofs.YtlilcmjbaknafaaGreatDoor
open Go.Px
def fS (x y : Nat) : Nat := (x + p25 - y) % p25
def fA (x y : Nat) : Nat := (x + y) % p25
def fM (x y : Nat) : Nat := x * y % p25
def fN (x : Nat) : Nat := (p25 - x) % p25
theorem B8d (x : Nat) : ∃ y, y = rtp x (p25 - 2) := ⟨_, rfl⟩
noncomputable def fI (x : Nat) : Nat := Classical.choose (B8d x)
theorem B58 (x : Nat) : fI x = rtp x (p25 - 2) := Classical.choose_spec (B8d x)
theorem B3c {v u : Value} {x y : Nat} (hx : Fe v x) (hy : Fe u y) (A : Mem) : FnX Tryz.prog 102 [v, u] [] A fun r M J => M = [] ∧ J = [] ∧ Fe r (fS x y) := B0l v u x y hx hy A
theorem B3d {v u : Value} {x y : Nat} (hx : Fe v x) (hy : Fe u y) (A : Mem) : FnX Tryz.prog 101 [v, u] [] A fun r M J => M = [] ∧ J = [] ∧ Fe r (fA x y) := B0k v u x y hx hy A
theorem A6Y {v u : Value} {x y : Nat} (hx : Fe v x) (hy : Fe u y) (A : Mem) : FnX Tryz.prog 90 [v, u] [] A fun r M J => M = [] ∧ J = [] ∧ Fe r (fM x y) := A3o v u x y hx hy A
theorem B9a {v : Value} {x : Nat} (hx : Fe v x) (A : Mem) : FnX Tryz.prog 103 [v] [] A fun r M J => M = [] ∧ J = [] ∧ Fe r (fM x x) := A2q v x hx A
theorem B3e (n : Nat) (hn : n < 4294967296) (A : Mem) : FnX Tryz.prog 87 [.int .u32 (n : Int)] [] A fun r M J => M = [] ∧ J = [] ∧ Fe r n := A6b n hn A
theorem B9K {v : Value} {x : Nat} (hx : Fe v x) (A : Mem) : FnX Tryz.prog 91 [v] [] A fun r M J => M = [] ∧ J = [] ∧ Fe r (fI x) :=
  (B0u v x hx A).mono fun r M J ⟨h1, h2, n, h3, h4⟩ => ⟨h1, h2, by rw [B58, ← B76 (show n = p25 - 2 by omega)]; exact h4⟩
structure Pt where
  X : Nat
  Y : Nat
  Z : Nat
  T : Nat
def FeL (xs : LN) (P : Pt) : Prop := ∃ x0 x1 x2 x3 x4 x5 x6 x7 x8 x9 x10 x11 x12 x13 x14 x15 x16 x17 x18 x19 : Nat, xs = [x0, x1, x2, x3, x4, x5, x6, x7, x8, x9, x10, x11, x12, x13, x14, x15, x16, x17, x18, x19] ∧ Fe (el x0 x1 x2 x3 x4) P.X ∧ Fe (el x5 x6 x7 x8 x9) P.Y ∧ Fe (el x10 x11 x12 x13 x14) P.Z ∧ Fe (el x15 x16 x17 x18 x19) P.T
def FeP (V : Value) (P : Pt) : Prop := ∃ xs, V = .agg (nums .u64 xs).toArray ∧ FeL xs P
def pO : Pt := ⟨0, 1, 1, 0⟩
def dN : Nat := 37095705934669439343138083508754565189542113879843219016388785533085940283555
def d2N : Nat := 16295367250680780974490674513165176452449235426866156013048779062215315747161
theorem B8e {x n : Nat} (h : n < 2 ^ 256) : rtp x n = pm p25 256 x n 1 := A7I qD 256 x n h
theorem B9L : fM 2 dN = d2N := by decide +kernel
def A8F (d2 : Nat) (P Q : Pt) : Pt :=
  let a := fM (fS P.Y P.X) (fS Q.Y Q.X)
  let b := fM (fA P.Y P.X) (fA Q.Y Q.X)
  let c := fM (fM P.T d2) Q.T
  let z := fA (fM P.Z Q.Z) (fM P.Z Q.Z)
  let e := fS b a
  let f := fS z c
  let g := fA z c
  let h := fA b a
  ⟨fM e f, fM g h, fM f g, fM e h⟩


end Go.Proofs.YtlilcmjbaknafaaGreatDoor
namespace Go.Px
structure Gv where
  i : Nat
  d : Nat
  m : Mem
  φ : Value → Mem → Mem → Prop
def B59 (G : List Gv) (vs : Nat → Value) : Env := G.map fun g => (g.d, vs g.i)
def toGM (G : List Gv) : List Gm := G.map fun g => ⟨g.i, g.d, fun _ _ => True⟩
def curM (X : List Nat) (bs : Nat → Mem) (G : List Gv) : Mem := (G.map fun g => if g.i ∈ X then bs g.i else g.m).flatten
def doneM (X : List Nat) (bs : Nat → Mem) (G : List Gv) : Mem := (G.map fun g => if g.i ∈ X then bs g.i else []).flatten
def allM (bs : Nat → Mem) (G : List Gv) : Mem := (G.map fun g => bs g.i).flatten
theorem St.widen {P : Program} {w w' : World} {F : List Nat} {A A' Mc M' J' : Mem} {n : Nat} (h : St ⟨P, w, F, A', n⟩ Mc [] w) (hs : St ⟨P, w, F, A, n⟩ M' J' w') : St ⟨P, w, F, A', n⟩ M' J' w' := by
  refine ⟨hs.os, hs.tape, hs.output, hs.size, hs.frame, fun b o hb => ?_, hs.nodup, hs.own, hs.sepJ, h.sepA, hs.old⟩
  simp only [List.mem_append] at hb
  rcases hb with hb | hb | hb
  · exact hs.mem b o (by simp [hb])
  · exact hs.mem b o (by simp [hb])
  · have h1 := h.sepA b o hb
    have h2 := hs.frame b h1.2 h1.1
    rw [h2]
    exact h.mem b o (by simp; exact .inr hb)
theorem St.less {P : Program} {w : World} {F : List Nat} {A A' Mc : Mem} {n : Nat} (h : St ⟨P, w, F, A', n⟩ Mc [] w) (hA : ∀ x ∈ A, x ∈ A') : St ⟨P, w, F, A, n⟩ Mc [] w :=
  ⟨h.os, h.tape, h.output, h.size, h.frame, fun b o hb => h.mem b o (by simp at hb ⊢; exact hb.imp id (hA _)), h.nodup, h.own, h.sepJ, fun b o hb => h.sepA b o (hA _ hb), h.old⟩
section group
variable {C : Cx} {Q : XQ} {l : Env} {M M0 J : Mem} {os : List Oper} {K : Nat → Prop} {n0 : Nat} {nd : List Nat} {plan : List (Nat × Nat)}
def OwesM (C : Cx) (os : List Oper) (l : Env) (M0 J : Mem) (G : List Gv) (g : Gv) : Prop :=
  ∃ o, nth os g.i = some o ∧ ∀ (vs : Nat → Value) (bs : Nat → Mem) (R Rj : Mem) (w : World), (∀ x ∈ M0 ++ (J ++ C.A), x ∈ R) → (∀ x ∈ J ++ C.A, x ∈ Rj) → (∀ x ∈ Rj, x ∈ R) → (∀ g' ∈ G, anc os.toArray os.toArray.size g.i g'.i = true → g'.φ (vs g'.i) (bs g'.i) Rj) →
    A8m os (B59 G vs ++ l) o ∧ OpL ⟨C.P, w, g.m.map Prod.fst, R, C.N⟩ o (B59 G vs ++ l) g.m [] (fun l' M' J' => ∃ v, l' = (g.d, v) :: (B59 G vs ++ l) ∧ g.φ v M' (J' ++ Rj))
end group
end Go.Px

namespace Go.Px
structure Gc where
  i : Nat
  d : Nat
  s : Option Nat
  m : Mem
  φ : Value → Mem → Mem → Prop
def Gc.inp (g : Gc) (bs : Nat → Mem) : Mem := match g.s with
  | none => g.m
  | some s => bs s
theorem Gc.inp_none {g : Gc} {bs : Nat → Mem} (h : g.s = none) : g.inp bs = g.m := by unfold Gc.inp; rw [h]
theorem Gc.inp_some {g : Gc} {bs : Nat → Mem} {s : Nat} (h : g.s = some s) : g.inp bs = bs s := by unfold Gc.inp; rw [h]
def U1 (G : List Gc) (vs : Nat → Value) : Env := G.map fun g => (g.d, vs g.i)
def B3f (G : List Gc) : List Gm := G.map fun g => ⟨g.i, g.d, fun _ _ => True⟩
theorem B0w (G : List Gc) : (B3f G).map (·.i) = G.map (·.i) := by simp [B3f]
theorem B0x (G : List Gc) : (B3f G).map (·.d) = G.map (·.d) := by simp [B3f]
theorem A08 (G : List Gc) (vs : Nat → Value) : A23 (B3f G) vs = U1 G vs := by simp [A23, U1, B3f]
theorem A0d {G : List Gc} (h : (G.map (·.i)).Nodup) {g g' : Gc} (hg : g ∈ G) (hg' : g' ∈ G) (e : g.i = g'.i) : g = g' := by
  induction G with
  | nil => cases hg
  | cons x G ih =>
    simp only [List.map_cons, List.nodup_cons] at h
    rcases List.mem_cons.1 hg with h1 | h1 <;> rcases List.mem_cons.1 hg' with h2 | h2
    · rw [h1, h2]
    · exact absurd (by rw [← h1, e]; exact List.mem_map_of_mem (f := Gc.i) h2) h.1
    · exact absurd (by rw [← h2, ← e]; exact List.mem_map_of_mem (f := Gc.i) h1) h.1
    · exact ih h.2 h1 h2
def A2r (G : List Gc) (X : List Nat) (bs : Nat → Mem) (g : Gc) : Mem :=
  if g.i ∈ X then (if ∃ g' ∈ G, g'.s = some g.i ∧ g'.i ∈ X then [] else bs g.i) else (if g.s = none then g.m else [])
def A6Z (X : List Nat) (bs : Nat → Mem) (G : List Gc) : Mem := (G.map (A2r G X bs)).flatten
def B0y (l : List (Nat × Option Nat)) (i : Nat) : Bool := l.any fun p => p.2 == some i
def A8G (G : List Gc) (bs : Nat → Mem) : List Mem := (G.filter fun g => !B0y (G.map fun g => (g.i, g.s)) g.i).map fun g => bs g.i
def A1c (l : List Mem) (M : Mem) : Mem := l.foldr (· ++ ·) M
def A1w (G : List Gc) : List Mem := (G.filter fun g => g.s.isNone).map (·.m)
def A60 (ops : Array Oper) (l : List (Nat × Option Nat)) : Bool :=
  l.all fun p => match p.2 with
    | none => true
    | some s => (l.map Prod.fst).contains s && anc ops ops.size p.1 s && l.all fun q => q.2 != some s || q.1 == p.1
structure ChainOk (ops : Array Oper) (G : List Gc) : Prop where
  anc : ∀ g ∈ G, ∀ s, g.s = some s → anc ops ops.size g.i s = true
  mem : ∀ g ∈ G, ∀ s, g.s = some s → s ∈ G.map (·.i)
  one : ∀ g ∈ G, ∀ g' ∈ G, ∀ s, g.s = some s → g'.s = some s → g'.i = g.i
theorem A7K {ops : Array Oper} {G : List Gc} (h : A60 ops (G.map fun g => (g.i, g.s)) = true) : ChainOk ops G := by
  have key : ∀ g ∈ G, ∀ s, g.s = some s → s ∈ G.map (·.i) ∧ Px.anc ops ops.size g.i s = true ∧ ∀ g' ∈ G, g'.s = some s → g'.i = g.i := by
    intro g hg s hs
    have h1 := List.all_eq_true.1 h (g.i, g.s) (List.mem_map_of_mem (f := fun g : Gc => (g.i, g.s)) hg)
    simp only [hs, Bool.and_eq_true, List.contains_iff_mem, List.map_map] at h1
    obtain ⟨⟨h2, h3⟩, h4⟩ := h1
    refine ⟨by simpa [Function.comp_def] using h2, h3, fun g' hg' hs' => ?_⟩
    have h5 := List.all_eq_true.1 h4 (g'.i, g'.s) (List.mem_map_of_mem (f := fun g : Gc => (g.i, g.s)) hg')
    simp [hs'] at h5
    exact h5
  exact ⟨fun g hg s hs => (key g hg s hs).2.1, fun g hg s hs => (key g hg s hs).1, fun g hg g' hg' s hs hs' => (key g hg s hs).2.2 g' hg' hs'⟩
theorem A61 {G : List Gc} (hi : (G.map (·.i)).Nodup) {g : Gc} (hg : g ∈ G) (f : Gc → Mem) :
    ∃ R, ∀ f' : Gc → Mem, (∀ x ∈ G, x.i ≠ g.i → f' x = f x) → (G.map f').flatten.Perm (f' g ++ R) := by
  obtain ⟨s, t, rfl⟩ := List.append_of_mem hg
  have hne : ∀ x ∈ s ++ t, x.i ≠ g.i := by
    intro x hx e
    simp only [List.map_append, List.map_cons, List.nodup_append, List.nodup_cons] at hi
    rcases List.mem_append.1 hx with h | h
    · exact hi.2.2 _ (List.mem_map_of_mem (f := Gc.i) h) _ List.mem_cons_self e
    · exact hi.2.1.1 (e ▸ List.mem_map_of_mem (f := Gc.i) h)
  refine ⟨(s.map f).flatten ++ (t.map f).flatten, fun f' h => ?_⟩
  have es : s.map f' = s.map f := List.map_congr_left fun x hx => h x (by simp [hx]) (hne x (List.mem_append_left _ hx))
  have et : t.map f' = t.map f := List.map_congr_left fun x hx => h x (by simp [hx]) (hne x (List.mem_append_right _ hx))
  simp only [List.map_append, List.map_cons, List.flatten_append, List.flatten_cons, es, et]
  exact List.perm_append_comm_assoc _ _ _
theorem A3u {ops : Array Oper} {X : List Nat} {bs : Nat → Mem} {G : List Gc} {g : Gc} (hi : (G.map (·.i)).Nodup) (hc : ChainOk ops G) (hg : g ∈ G) (hX : g.i ∉ X) (hcl : ∀ g' ∈ G, g'.i ∈ X → ∀ s, g'.s = some s → s ∈ X) (hsx : ∀ s, g.s = some s → s ∈ X) :
    ∃ R, (A6Z X bs G).Perm (g.inp bs ++ R) ∧ ∀ M', (M' ++ R).Perm (A6Z (X ++ [g.i]) (fun k => if k = g.i then M' else bs k) G) := by
  have hmem : ∀ x : Gc, x.i ≠ g.i → (x.i ∈ X ++ [g.i] ↔ x.i ∈ X) := fun x h => by simp [h]
  have hself : ∀ M' : Mem, A2r G (X ++ [g.i]) (fun k => if k = g.i then M' else bs k) g = M' := by
    intro M'
    have hno : ¬ ∃ g' ∈ G, g'.s = some g.i ∧ g'.i ∈ X ++ [g.i] := by
      rintro ⟨g', hg', hs', hx'⟩
      rcases List.mem_append.1 hx' with h | h
      · exact hX (hcl g' hg' h _ hs')
      · have h2 : g' = g := A0d hi hg' hg (by simpa using h)
        subst h2
        exact hX (hsx _ hs')
    unfold A2r
    rw [if_pos (by simp), if_neg hno]
    exact if_pos rfl
  cases hs : g.s with
  | none =>
    obtain ⟨R, hR⟩ := A61 hi hg (A2r G X bs)
    refine ⟨R, ?_, fun M' => ?_⟩
    · have h1 := hR (A2r G X bs) fun _ _ _ => rfl
      have h2 : A2r G X bs g = g.inp bs := by unfold A2r; rw [if_neg hX, if_pos hs, Gc.inp_none hs]
      rw [h2] at h1
      exact h1
    · have h1 := hR (A2r G (X ++ [g.i]) fun k => if k = g.i then M' else bs k) fun x hx hne => by
        unfold A2r
        by_cases hxX : x.i ∈ X
        · rw [if_pos ((hmem x hne).2 hxX), if_pos hxX]
          have hiff : (∃ g' ∈ G, g'.s = some x.i ∧ g'.i ∈ X ++ [g.i]) ↔ (∃ g' ∈ G, g'.s = some x.i ∧ g'.i ∈ X) := by
            constructor
            · rintro ⟨g', h1, h2, h3⟩
              rcases List.mem_append.1 h3 with h4 | h4
              · exact ⟨g', h1, h2, h4⟩
              · have h5 : g' = g := A0d hi h1 hg (by simpa using h4)
                subst h5; rw [hs] at h2; cases h2
            · rintro ⟨g', h1, h2, h3⟩; exact ⟨g', h1, h2, List.mem_append_left _ h3⟩
          simp only [hiff, if_neg hne]
        · rw [if_neg (fun h => hxX ((hmem x hne).1 h)), if_neg hxX]
      rw [hself M'] at h1
      exact h1.symm
  | some s =>
    have hsX := hsx s hs
    obtain ⟨gs, hgs, rfl⟩ := List.mem_map.1 (hc.mem g hg s hs)
    have hne0 : gs.i ≠ g.i := fun h => hX (h ▸ hsX)
    obtain ⟨R1, hR1⟩ := A61 hi hgs (A2r G X bs)
    have h1 := hR1 (A2r G X bs) fun _ _ _ => rfl
    have e1 : A2r G X bs gs = bs gs.i := by
      unfold A2r
      rw [if_pos hsX, if_neg]
      rintro ⟨g', hg', hs', hx'⟩
      exact hX (hc.one g hg g' hg' _ hs hs' ▸ hx')
    rw [e1] at h1
    have h2 := hR1 (fun x => if x.i = gs.i then [] else A2r G X bs x) fun x _ hne => if_neg hne
    simp only [if_true, List.nil_append] at h2
    obtain ⟨R2, hR2⟩ := A61 hi hg (fun x => if x.i = gs.i then [] else A2r G X bs x)
    have h3 := hR2 (fun x => if x.i = gs.i then [] else A2r G X bs x) fun _ _ _ => rfl
    have e3 : (if g.i = gs.i then [] else A2r G X bs g) = ([] : Mem) := by
      rw [if_neg (Ne.symm hne0)]
      unfold A2r
      rw [if_neg hX, if_neg (by rw [hs]; exact fun h => by cases h)]
    simp only [e3, List.nil_append] at h3
    refine ⟨R2, ?_, fun M' => ?_⟩
    · rw [Gc.inp_some hs]
      exact h1.trans (List.Perm.append_left _ (h2.symm.trans h3))
    · have h4 := hR2 (A2r G (X ++ [g.i]) fun k => if k = g.i then M' else bs k) fun x hx hne => by
        by_cases hxs : x.i = gs.i
        · rw [if_pos hxs]
          unfold A2r
          rw [if_pos ((hmem x hne).2 (hxs ▸ hsX)), if_pos ⟨g, hg, by rw [hs, hxs], by simp⟩]
        · rw [if_neg hxs]
          unfold A2r
          by_cases hxX : x.i ∈ X
          · rw [if_pos ((hmem x hne).2 hxX), if_pos hxX]
            have hiff : (∃ g' ∈ G, g'.s = some x.i ∧ g'.i ∈ X ++ [g.i]) ↔ (∃ g' ∈ G, g'.s = some x.i ∧ g'.i ∈ X) := by
              constructor
              · rintro ⟨g', h1, h2, h3⟩
                rcases List.mem_append.1 h3 with h4 | h4
                · exact ⟨g', h1, h2, h4⟩
                · have h5 : g' = g := A0d hi h1 hg (by simpa using h4)
                  subst h5; rw [hs] at h2; exact absurd (Option.some.inj h2).symm hxs
              · rintro ⟨g', h1, h2, h3⟩; exact ⟨g', h1, h2, List.mem_append_left _ h3⟩
            simp only [hiff, if_neg hne]
          · rw [if_neg (fun h => hxX ((hmem x hne).1 h)), if_neg hxX]
      rw [hself M'] at h4
      exact h4.symm
theorem A7L {bs : Nat → Mem} {G : List Gc} : A6Z [] bs G = (A1w G).flatten := by
  have : ∀ G' : List Gc, (G'.map (A2r G [] bs)).flatten = (A1w G').flatten := by
    intro G'
    induction G' with
    | nil => rfl
    | cons g G' ih =>
      rw [List.map_cons, List.flatten_cons, ih]
      have e : A2r G [] bs g = if g.s = none then g.m else [] := by unfold A2r; rw [if_neg (by simp)]
      rw [e]
      cases hs : g.s with
      | none => simp [A1w, hs]
      | some s => simp [A1w, hs]
  exact this G
theorem A7M {X : List Nat} {bs : Nat → Mem} {G : List Gc} (h : ∀ g ∈ G, g.i ∈ X) : A6Z X bs G = (A8G G bs).flatten := by
  have he : ∀ g ∈ G, A2r G X bs g = if B0y (G.map fun g => (g.i, g.s)) g.i = true then [] else bs g.i := by
    intro g hg
    unfold A2r
    rw [if_pos (h g hg)]
    have : (∃ g' ∈ G, g'.s = some g.i ∧ g'.i ∈ X) ↔ B0y (G.map fun g => (g.i, g.s)) g.i = true := by
      unfold B0y
      simp only [List.any_eq_true, List.mem_map]
      constructor
      · rintro ⟨g', h1, h2, _⟩; exact ⟨_, ⟨g', h1, rfl⟩, by simp [h2]⟩
      · rintro ⟨_, ⟨g', h1, rfl⟩, h2⟩; exact ⟨g', h1, by simpa using h2, h g' h1⟩
    simp only [this]
  unfold A6Z A8G
  rw [List.map_congr_left he]
  have : ∀ (G' : List Gc) (p : Gc → Bool), (G'.map fun g => if p g = true then ([] : Mem) else bs g.i).flatten = ((G'.filter fun g => !p g).map fun g => bs g.i).flatten := by
    intro G' p
    induction G' with
    | nil => rfl
    | cons g G' ih =>
      rw [List.map_cons, List.flatten_cons, ih]
      cases hp : p g <;> simp [hp]
  exact this G fun g => B0y (G.map fun g => (g.i, g.s)) g.i
theorem A2K (l : List Mem) (M : Mem) : A1c l M = l.flatten ++ M := by
  induction l with
  | nil => rfl
  | cons a l ih => show a ++ A1c l M = _; rw [ih, List.flatten_cons, List.append_assoc]
section group
variable {C : Cx} {Q : XQ} {l : Env} {M M0 J : Mem} {os : List Oper} {K : Nat → Prop} {n0 : Nat} {nd : List Nat} {plan : List (Nat × Nat)}
def B0z (C : Cx) (os : List Oper) (l : Env) (M0 J : Mem) (G : List Gc) (g : Gc) : Prop :=
  ∃ o, nth os g.i = some o ∧ ∀ (vs : Nat → Value) (bs : Nat → Mem) (R Rj : Mem) (w : World), (∀ x ∈ M0 ++ (J ++ C.A), x ∈ R) → (∀ x ∈ J ++ C.A, x ∈ Rj) → (∀ x ∈ Rj, x ∈ R) → (∀ g' ∈ G, anc os.toArray os.toArray.size g.i g'.i = true → g'.φ (vs g'.i) (bs g'.i) Rj) →
    A8m os (U1 G vs ++ l) o ∧ OpL ⟨C.P, w, (g.inp bs).map Prod.fst, R, C.N⟩ o (U1 G vs ++ l) (g.inp bs) [] (fun l' M' J' => ∃ v, l' = (g.d, v) :: (U1 G vs ++ l) ∧ g.φ v M' (J' ++ Rj))
theorem B0A {G : List Gc} (hmono : ∀ g ∈ G, A2o g.φ) (hd : (G.map (·.d)).Nodup) (hi : (G.map (·.i)).Nodup) (hc : ChainOk os.toArray G) (hKn : ∀ b, n0 ≤ b → K b) (hK : ∀ m ∈ A1w G, ∀ x ∈ m, K x.1) (hob : ∀ g ∈ G, B0z C os l M0 J G g) {A B : Array Bool} (hok : GOk os.toArray A (G.map (·.i)) B)
    (hfin : ∀ (vs : Nat → Value) (bs : Nat → Mem) Jn a w, (∀ g ∈ G, g.φ (vs g.i) (bs g.i) ((Jn ++ J) ++ C.A)) → (∀ g ∈ G, ∀ x ∈ bs g.i, K x.1) → Ag C.N (U1 G vs ++ l) a → St C ((A8G G bs).flatten ++ M0) (Jn ++ J) w → n0 ≤ w.heap.size → Z4 C.P os.toArray (P8 (A6v C Q)) (Sk K) nd.contains plan.length B a w) :
    ∀ (n : Nat) (X : List Nat) (vs : Nat → Value) (bs : Nat → Mem) (Jn : Mem) (a : Act) (w : World), X.Nodup → (∀ i ∈ X, i ∈ G.map (·.i)) → n + X.length = G.length → P5 os.toArray (mark A X) → (∀ g ∈ G, g.i ∈ X → ∀ s, g.s = some s → s ∈ X) →
      (∀ g ∈ G, g.i ∈ X → g.φ (vs g.i) (bs g.i) ((Jn ++ J) ++ C.A)) → (∀ g ∈ G, g.i ∈ X → ∀ x ∈ bs g.i, K x.1) → Ag C.N (U1 G vs ++ l) a → St C (A6Z X bs G ++ M0) (Jn ++ J) w → n0 ≤ w.heap.size →
      Z4 C.P os.toArray (P8 (A6v C Q)) (Sk K) nd.contains (n + plan.length) (mark A X) a w := by
  intro n
  induction n with
  | zero =>
    intro X vs bs Jn a w hnd hX hlen hcl hXs hφ hN ha hw hn
    have hall : ∀ i, i ∈ X ↔ i ∈ G.map (·.i) := fun i => ⟨hX i, A1O hnd hX (by simp; omega) i⟩
    have hin : ∀ g ∈ G, g.i ∈ X := fun g hg => (hall _).2 (List.mem_map_of_mem (f := Gc.i) hg)
    have hcur := A7M (bs := bs) hin
    rw [hcur] at hw
    rw [Nat.zero_add, A4S hall, ← hok.mark]
    exact hfin vs bs Jn a w (fun g hg => hφ g hg (hin g hg)) (fun g hg => hN g hg (hin g hg)) ha hw hn
  | succ n ih =>
    intro X vs bs Jn a w hnd hX hlen hcl hXs hφ hN ha hw hn
    have hmiss : ∃ k ∈ G.map (·.i), k ∉ X := by
      apply Classical.byContradiction
      intro hno
      have hs : ∀ k ∈ G.map (·.i), k ∈ X := fun k hk => Classical.byContradiction fun h => hno ⟨k, hk, h⟩
      have := A1N hi hs
      simp at this; omega
    obtain ⟨k, hkG, hkX⟩ := hmiss
    have hun : ∀ i ∈ G.map (·.i), A.getD i true = false := by
      have : ∀ {is A B}, GOk os.toArray A is B → ∀ i ∈ is, A.getD i true = false := by
        intro is A B h
        induction h with
        | nil => intro i hi; cases hi
        | @cons A B i r hr ho h ih =>
          intro k hk
          rcases List.mem_cons.1 hk with rfl | hk
          · exact I9 hr
          · have h2 := ih k hk
            by_cases e : i = k
            · subst e; exact I9 hr
            · rwa [getD_set_ne true e] at h2
      exact this hok
    have hkun : (mark A X).getD k true = false := G9.2 ⟨hun k hkG, fun h => hkX h.1⟩
    rw [show n + 1 + plan.length = (n + plan.length) + 1 by omega]
    refine ⟨fun h0 => ?_, fun i hir => ?_⟩
    · obtain ⟨i, hir⟩ := hok.first (A0R A X) (fun j hj => A0S hj) hkG hkun
      rw [h0] at hir; cases hir
    · have hiG : i ∈ G.map (·.i) := by
        apply Classical.byContradiction
        intro hno
        have h1 := G9.1 (I9 hir)
        have h2 := hok.outer k hkG i (A2A hir) h1.1 hno
        exact R6 hkun (P6 hcl h2 hir)
      obtain ⟨g, hg, rfl⟩ := List.mem_map.1 hiG
      have hiX : g.i ∉ X := fun h => (G9.1 (I9 hir)).2 ⟨h, W2 (hun _ hiG)⟩
      have hin : ∀ j ∈ G.map (·.i), anc os.toArray os.toArray.size g.i j = true → j ∈ X := fun j hj hanc => by
        have h3 := P6 hcl hanc hir
        rcases Y4 h3 with h4 | h4
        · exact (R6 (hun _ hj) h4).elim
        · exact h4
      have hsx : ∀ s, g.s = some s → s ∈ X := fun s hs => hin s (hc.mem g hg s hs) (hc.anc g hg s hs)
      have hKi : ∀ x ∈ g.inp bs, K x.1 := by
        intro x hx
        cases hs : g.s with
        | none =>
          rw [Gc.inp_none hs] at hx
          exact hK g.m (List.mem_map.2 ⟨g, List.mem_filter.2 ⟨hg, by simp [hs]⟩, rfl⟩) x hx
        | some s =>
          rw [Gc.inp_some hs] at hx
          obtain ⟨gs, hgs, rfl⟩ := List.mem_map.1 (hc.mem g hg s hs)
          exact hN gs hgs (hsx _ hs) x hx
      obtain ⟨o, hget, howe⟩ := hob g hg
      have hi' : os.toArray[g.i]? = some o := by rw [U8] at hget; simpa using hget
      obtain ⟨hask, hop⟩ := howe vs bs (M0 ++ ((Jn ++ J) ++ C.A)) ((Jn ++ J) ++ C.A) w (fun x hx => by simp only [List.mem_append] at hx ⊢; rcases hx with h | h | h <;> simp [h]) (fun x hx => by simp only [List.mem_append] at hx ⊢; rcases hx with h | h <;> simp [h]) (fun x hx => List.mem_append_right _ hx) (fun g' hg' hanc => hφ g' hg' (hin _ (List.mem_map_of_mem (f := Gc.i) hg') hanc))
      unfold wpOp
      simp only [hi']
      rw [if_pos (hask.wanted ha)]
      obtain ⟨R0, hp0, hq0⟩ := A3u (bs := bs) hi hc hg hiX hXs hsx
      have hpc : (A6Z X bs G ++ M0).Perm (g.inp bs ++ (R0 ++ M0)) := by
        rw [← List.append_assoc]; exact List.Perm.append_right _ hp0
      have hcal := hw.callee hpc
      have hcal2 := St.less (A := M0 ++ ((Jn ++ J) ++ C.A)) hcal fun x hx => by
        simp only [List.mem_append] at hx ⊢
        rcases hx with h | h
        · exact .inl (.inr h)
        · exact .inr h
      refine .inl (Oper.wp_mono ?_ (hop _ a w ha hcal2.cx))
      rintro a' w' ⟨l', M', J', ha', hs', v, rfl, hφv⟩
      have hsz : w.heap.size ≤ w'.heap.size := hs'.size
      have hs2 := St.widen hcal.cx hs'
      have hb := hw.back hpc hs2.cx
      let bs' : Nat → Mem := fun k => if k = g.i then M' else bs k
      have hperm : (M' ++ (R0 ++ M0)).Perm (A6Z (X ++ [g.i]) bs' G ++ M0) := by
        rw [← List.append_assoc]
        exact List.Perm.append_right _ (hq0 M')
      have hfr2 : St C (A6Z (X ++ [g.i]) bs' G ++ M0) ((J' ++ Jn) ++ J) w' := (hb.perm hperm).drop (List.Sublist.refl _) fun x hx => by
        simp only [List.mem_append] at hx ⊢
        rcases hx with (h | h) | h <;> simp [h]
      refine ⟨fun _ b hb' hnk => hs'.frame b hb' fun hm => ?_, ?_⟩
      · obtain ⟨x, hx, e⟩ := List.mem_map.1 hm
        exact hnk (e ▸ hKi x hx)
      rw [← Q9]
      have henv := A1P (N := C.N) (G := B3f G) (l := l) (vs := vs) (g := ⟨g.i, g.d, fun _ _ => True⟩) (a := a') (v := v) (List.mem_map_of_mem (f := fun g : Gc => (⟨g.i, g.d, fun _ _ => True⟩ : Gm)) hg) (by rw [B0x]; exact hd) (by rw [B0w]; exact hi) (by rw [A08]; exact ha')
      rw [A08] at henv
      refine ih (X ++ [g.i]) (fun k => if k = g.i then v else vs k) bs' (J' ++ Jn) a' w' ?_ ?_ (by simp; omega) ?_ ?_ ?_ ?_ henv hfr2 (Nat.le_trans hn hsz)
      · rw [List.nodup_append]; exact ⟨hnd, by simp, fun x hx y hy e => hiX (by simp at hy; subst hy; exact e ▸ hx)⟩
      · intro j hj
        rcases List.mem_append.1 hj with hj | hj
        · exact hX j hj
        · simp at hj; subst hj; exact hiG
      · rw [Q9]; exact H2 hcl hir
      · intro g' hg' hm s hs
        rcases List.mem_append.1 hm with h | h
        · exact List.mem_append_left _ (hXs g' hg' h s hs)
        · have h2 : g' = g := A0d hi hg' hg (by simpa using h)
          subst h2
          exact List.mem_append_left _ (hsx s hs)
      · intro g' hg' hm
        by_cases e : g'.i = g.i
        · have : g' = g := A0d hi hg' hg e
          subst this
          simp only [if_true, bs']
          exact hmono g' hg' _ _ _ _ (fun x hx => by simp only [List.mem_append] at hx ⊢; rcases hx with h | (h | h) | h <;> simp [h]) hφv
        · simp only [e, if_false, bs']
          have hm' : g'.i ∈ X := by simpa [e] using hm
          exact hmono g' hg' _ _ _ _ (fun x hx => by simp only [List.mem_append] at hx ⊢; rcases hx with (h | h) | h <;> simp [h]) (hφ g' hg' hm')
      · intro g' hg' hk x hx
        by_cases e : g'.i = g.i
        · have : g' = g := A0d hi hg' hg e
          subst this
          simp only [if_true, bs'] at hx
          rcases hs'.own x.1 x.2 (by simp [hx]) with h6 | h6
          · obtain ⟨y, hy, e6⟩ := List.mem_map.1 h6
            exact e6 ▸ hKi y hy
          · exact hKn _ (Nat.le_trans hn h6)
        · simp only [e, if_false, bs'] at hx
          have hk' : g'.i ∈ X := by simpa [e] using hk
          exact hN g' hg' hk' x hx
theorem B0B (G : List Gc) (M0 : Mem) (Lf : (Nat → Mem) → List Mem) (hKn : ∀ b, n0 ≤ b → K b) (hM : M.Perm (A1c (A1w G) M0)) (hK : ∀ m ∈ A1w G, ∀ x ∈ m, K x.1) (hck : A60 os.toArray (G.map fun g => (g.i, g.s)) = true) (hLf : ∀ bs, A8G G bs = Lf bs)
    (hmono : ∀ g ∈ G, A2o g.φ) (hd : (G.map (·.d)).Nodup) (hi : (G.map (·.i)).Nodup) (hdN : ∀ g ∈ G, g.d < C.N) (hob : ∀ g ∈ G, B0z C os l M0 J G g)
    (h : ∀ (vs : Nat → Value) (bs : Nat → Mem) Jn, (∀ g ∈ G, g.φ (vs g.i) (bs g.i) ((Jn ++ J) ++ C.A)) → (∀ g ∈ G, ∀ x ∈ bs g.i, K x.1) → XK C os Q K n0 nd plan (U1 G vs ++ l) (A1c (Lf bs) M0) (Jn ++ J)) : XK C os Q K n0 nd (enc (G.map (·.i)) ++ plan) l M J := by
  refine A6M hM ?_
  rw [A2K]
  intro listed hcl hp a w ha hw hn
  obtain ⟨B, hok, hp2⟩ := A7o hp
  have hBcl : P5 os.toArray B := by
    have : ∀ {A is B}, GOk os.toArray A is B → P5 os.toArray A → P5 os.toArray B := by
      intro A is B h
      induction h with
      | nil => exact id
      | cons hr _ _ ih => exact fun hc => ih (H2 hc hr)
    exact this hok hcl
  have hlen : (enc (G.map (·.i)) ++ plan).length = G.length + plan.length := by
    have : ∀ is : List Nat, (enc is).length = is.length := by
      intro is
      induction is with
      | nil => rfl
      | cons i r ih => cases r with
        | nil => rfl
        | cons j r => simp only [enc, List.length_cons] at ih ⊢; rw [ih]
    simp [this]
  rw [hlen]
  let vs : Nat → Value := fun k => match G.find? (fun g => g.i == k) with
    | some g => (a.tmps[g.d]?).getD undef
    | none => undef
  have hag : Ag C.N (U1 G vs ++ l) a := by
    refine ⟨ha.defers, ha.size, ?_⟩
    intro k u hk
    have key : ∀ G' : List Gc, (∀ g ∈ G', g ∈ G) → lk (U1 G' vs ++ l) k = some u → a.tmps[k]? = some u := by
      intro G'
      induction G' with
      | nil => intro _ h; exact ha.slot k u h
      | cons g G' ih =>
        intro hs h
        simp only [U1, List.map_cons, List.cons_append, lk] at h
        by_cases e : g.d = k
        · subst e
          simp at h
          have hf : G.find? (fun x => x.i == g.i) = some g := by
            have hgG := hs g List.mem_cons_self
            cases hq : G.find? (fun x => x.i == g.i) with
            | none => have := List.find?_eq_none.1 hq g hgG; simp at this
            | some x =>
              have h1 := List.find?_some hq
              have h2 := List.mem_of_find?_eq_some hq
              rw [A0d hi h2 hgG (by simpa using h1)]
          have hlt : g.d < a.tmps.size := by rw [ha.size]; exact hdN g (hs g List.mem_cons_self)
          rw [← h]
          show a.tmps[g.d]? = some (vs g.i)
          simp only [vs, hf, Array.getElem?_eq_getElem hlt, Option.getD_some]
        · simp only [X7 e, cond_false] at h
          exact ih (fun x hx => hs x (List.mem_cons_of_mem _ hx)) h
    exact key G (fun _ h => h) hk
  refine B0A (n0 := n0) (K := K) hmono hd hi (A7K hck) hKn hK hob hok (fun vs bs Jn a w hφ hN ha hw hn => h vs bs Jn hφ hN B hBcl hp2 a w ha (by rw [A2K, ← hLf]; exact hw) hn) G.length [] vs (fun _ => []) [] a w .nil (fun _ h => by cases h) (by simp) hcl (fun _ _ h => by cases h) (fun _ _ h => by cases h) (fun _ _ h => by cases h) hag (by rw [A7L]; exact hw) hn
end group
end Go.Px

namespace Go.Px
def A3v : List Nat → List (Nat × Nat)
  | [] => []
  | [q] => [(q, 10)]
  | q :: q' :: r => (q, 9) :: A3v (q' :: r)
def A8Y (qs : List Nat) : List Nat → List (Nat × Nat)
  | [] => A3v qs
  | i :: r => (i, 8) :: A8Y qs r
theorem B6a (plan : List (Nat × Nat)) : ∀ {qs : List Nat}, qs ≠ [] → grz (A3v qs ++ plan) = qs ∧ qsz (A3v qs ++ plan) = qs
  | [], h => absurd rfl h
  | [q], _ => ⟨rfl, rfl⟩
  | q :: q' :: r, _ => by
    obtain ⟨h1, h2⟩ := B6a plan (qs := q' :: r) (by simp)
    refine ⟨?_, ?_⟩
    · show q :: grz (A3v (q' :: r) ++ plan) = _; rw [h1]
    · show q :: qsz (A3v (q' :: r) ++ plan) = _; rw [h2]
theorem A62 {qs : List Nat} (plan : List (Nat × Nat)) (h : qs ≠ []) : ∀ r : List Nat, grz (A8Y qs r ++ plan) = r ++ qs ∧ qsz (A8Y qs r ++ plan) = qs
  | [] => B6a plan h
  | i :: r => by
    obtain ⟨h1, h2⟩ := A62 plan h r
    refine ⟨?_, ?_⟩
    · show i :: grz (A8Y qs r ++ plan) = _; rw [h1]; rfl
    · show qsz (A8Y qs r ++ plan) = _; rw [h2]
inductive GOz (ops : Array Oper) (qs : List Nat) : Array Bool → List Nat → Array Bool → Prop
  | nil {A : Array Bool} : GOz ops qs A [] A
  | cons {A B : Array Bool} {i : Nat} {r : List Nat} (hr : i ∈ Region.ready .any ops A) (ho : i ∉ qs → ∀ j, j < ops.size → A.getD j true = false → j ∉ i :: r → anc ops ops.size j i = true) (h : GOz ops qs (A.setIfInBounds i true) r B) : GOz ops qs A (i :: r) B
theorem A7N {ops : Array Oper} {nd : List Nat} {Q : List Nat} {plan : List (Nat × Nat)} : ∀ {qs : List Nat} {A : Array Bool}, qs ≠ [] → (∀ q ∈ qs, q ∈ Q) → I8 ops nd (A3v qs ++ plan) A = true → ∃ B, GOz ops Q A qs B ∧ (∀ q ∈ qs, A3R ops A q = true) ∧ I8 ops nd plan B = true
  | [], A, h, _, _ => absurd rfl h
  | [q], A, _, hQ, h => by
    simp only [A3v, List.cons_append, List.nil_append, I8, Bool.and_eq_true] at h
    exact ⟨_, .cons (by simpa using h.1.1) (fun hq => absurd (hQ q (by simp)) hq) .nil, (fun x hx => by rw [List.mem_singleton.1 hx]; exact h.1.2), h.2⟩
  | q :: q' :: r, A, _, hQ, h => by
    simp only [A3v, List.cons_append, I8, Bool.and_eq_true] at h
    obtain ⟨B, hB, -, hp⟩ := A7N (qs := q' :: r) (by simp) (fun x hx => hQ x (List.mem_cons_of_mem _ hx)) h.2
    refine ⟨B, .cons (by simpa using h.1.1) (fun hq => absurd (hQ q (by simp)) hq) hB, fun x hx => ?_, hp⟩
    have h2 := h.1.2
    rw [(B6a plan (qs := q' :: r) (by simp)).2] at h2
    exact List.all_eq_true.1 h2 x hx
theorem B0C {ops : Array Oper} {nd : List Nat} {qs : List Nat} {plan : List (Nat × Nat)} (hne : qs ≠ []) : ∀ {is : List Nat} {A : Array Bool}, I8 ops nd (A8Y qs is ++ plan) A = true → ∃ B, GOz ops qs A (is ++ qs) B ∧ (∀ q ∈ qs, A3R ops A q = true) ∧ I8 ops nd plan B = true
  | [], A, h => A7N hne (fun _ h => h) h
  | i :: r, A, h => by
    simp only [A8Y, List.cons_append, I8, A6C, Bool.and_eq_true, List.all_eq_true, List.mem_range, Bool.or_eq_true, (A62 plan hne r).1, (A62 plan hne r).2] at h
    obtain ⟨B, hB, -, hp⟩ := B0C hne (is := r) h.2
    refine ⟨B, .cons (by simpa using h.1.1.1) (fun _ j hj hu hn => ?_) hB, h.1.2, hp⟩
    rcases h.1.1.2 j hj with (h1 | h1) | h1
    · rw [hu] at h1; cases h1
    · exact absurd (by simpa using h1) hn
    · exact h1
theorem GOz.mark {ops : Array Oper} {q : List Nat} {A B : Array Bool} {is : List Nat} (h : GOz ops q A is B) : B = mark A is := by
  induction h with
  | nil => rfl
  | cons _ _ _ ih => rw [ih]; rfl
theorem GOz.un {ops : Array Oper} {q : List Nat} {A B : Array Bool} {is : List Nat} (h : GOz ops q A is B) : ∀ i ∈ is, A.getD i true = false := by
  induction h with
  | nil => intro i hi; cases hi
  | @cons A B i r hr ho h ih =>
    intro k hk
    rcases List.mem_cons.1 hk with rfl | hk
    · exact I9 hr
    · have h2 := ih k hk
      by_cases e : i = k
      · subst e; exact I9 hr
      · rwa [getD_set_ne true e] at h2
theorem GOz.outer {ops : Array Oper} {q : List Nat} {A B : Array Bool} {is : List Nat} (h : GOz ops q A is B) : ∀ i ∈ is, i ∉ q → ∀ j, j < ops.size → A.getD j true = false → j ∉ is → anc ops ops.size j i = true := by
  induction h with
  | nil => intro i hi; cases hi
  | @cons A B i r hr ho h ih =>
    intro k hk hq j hj hu hn
    rcases List.mem_cons.1 hk with rfl | hk
    · exact ho hq j hj hu hn
    · have hne : i ≠ j := fun e => hn (e ▸ List.mem_cons_self)
      exact ih k hk hq j hj (by rw [getD_set_ne true hne]; exact hu) (fun hm => hn (List.mem_cons_of_mem _ hm))
theorem GOz.first {ops : Array Oper} {q : List Nat} {A B : Array Bool} {is : List Nat} (h : GOz ops q A is B) {A' : Array Bool} (hsz : A'.size = A.size) (hm : ∀ j, A.getD j false = true → A'.getD j false = true) {k : Nat} (hk : k ∈ is) (hk' : A'.getD k true = false) : ∃ i, i ∈ is ∧ i ∈ Region.ready .any ops A' := by
  induction h generalizing k with
  | nil => cases hk
  | @cons A B i r hr ho h ih =>
    by_cases hi : A'.getD i true = false
    · exact ⟨i, List.mem_cons_self, A4c hr hi hm⟩
    · rcases List.mem_cons.1 hk with rfl | hk
      · exact absurd hk' hi
      · obtain ⟨x, hx1, hx2⟩ := ih (by simpa using hsz) (fun j hj => by
          by_cases e : i = j
          · subst e
            have hlt := W2 (I9 hr)
            have hlt' : i < A'.size := by omega
            simp [hlt'] at hi ⊢; exact hi
          · rw [getD_set_ne false e] at hj
            exact hm j hj) hk hk'
        exact ⟨x, List.mem_cons_of_mem _ hx1, hx2⟩
section group
variable {C : Cx} {Q : XQ} {l : Env} {M M0 J : Mem} {os : List Oper} {K : Nat → Prop} {n0 : Nat} {nd : List Nat} {plan : List (Nat × Nat)}
def B6b (C : Cx) (os : List Oper) (l : Env) (J : Mem) (G : List Gc) (g : Gc) : Prop :=
  g.s = none ∧ g.m = [] ∧ ∃ op ty pos af, nth os g.i = some ⟨some g.d, op, ty, pos, af, none⟩ ∧ ∀ (vs : Nat → Value) (bs : Nat → Mem) (Rj : Mem), (∀ x ∈ J ++ C.A, x ∈ Rj) → (∀ g' ∈ G, anc os.toArray os.toArray.size g.i g'.i = true → g'.φ (vs g'.i) (bs g'.i) Rj) →
    ∃ v, OpQ C.P [] ⟨some g.d, op, ty, pos, af, none⟩ (U1 G vs ++ l) v ∧ g.φ v [] Rj
theorem B0D {G : List Gc} (hmono : ∀ g ∈ G, A2o g.φ) (hd : (G.map (·.d)).Nodup) (hi : (G.map (·.i)).Nodup) (hc : ChainOk os.toArray G) (hKn : ∀ b, n0 ≤ b → K b) (hK : ∀ m ∈ A1w G, ∀ x ∈ m, K x.1) (hs : Region.noSelect os.toArray = true) (hdN : ∀ g ∈ G, g.d < C.N) {qs : List Nat} (hob : ∀ g ∈ G, g.i ∉ qs → B0z C os l M0 J G g) (hoq : ∀ g ∈ G, g.i ∈ qs → B6b C os l J G g) {A B : Array Bool} (hok : GOz os.toArray qs A (G.map (·.i)) B) (hfr : ∀ q ∈ qs, A3R os.toArray A q = true)
    (hfin : ∀ (vs : Nat → Value) (bs : Nat → Mem) Jn a w, (∀ g ∈ G, g.φ (vs g.i) (bs g.i) ((Jn ++ J) ++ C.A)) → (∀ g ∈ G, ∀ x ∈ bs g.i, K x.1) → Ag C.N (U1 G vs ++ l) a → St C ((A8G G bs).flatten ++ M0) (Jn ++ J) w → n0 ≤ w.heap.size → Z4 C.P os.toArray (P8 (A6v C Q)) (Sk K) nd.contains plan.length B a w) :
    ∀ (n : Nat) (X : List Nat) (vs : Nat → Value) (bs : Nat → Mem) (Jn : Mem) (a : Act) (w : World), X.Nodup → (∀ i ∈ X, i ∈ G.map (·.i)) → n + X.length = G.length → P5 os.toArray (mark A X) → (∀ g ∈ G, g.i ∈ X → ∀ s, g.s = some s → s ∈ X) →
      (∀ g ∈ G, g.i ∈ X → g.φ (vs g.i) (bs g.i) ((Jn ++ J) ++ C.A)) → (∀ g ∈ G, g.i ∈ X → ∀ x ∈ bs g.i, K x.1) → Ag C.N (U1 G vs ++ l) a → St C (A6Z X bs G ++ M0) (Jn ++ J) w → n0 ≤ w.heap.size →
      Z4 C.P os.toArray (P8 (A6v C Q)) (Sk K) nd.contains (n + plan.length) (mark A X) a w := by
  intro n
  induction n with
  | zero =>
    intro X vs bs Jn a w hnd hX hlen hcl hXs hφ hN ha hw hn
    have hall : ∀ i, i ∈ X ↔ i ∈ G.map (·.i) := fun i => ⟨hX i, A1O hnd hX (by simp; omega) i⟩
    have hin : ∀ g ∈ G, g.i ∈ X := fun g hg => (hall _).2 (List.mem_map_of_mem (f := Gc.i) hg)
    have hcur := A7M (bs := bs) hin
    rw [hcur] at hw
    rw [Nat.zero_add, A4S hall, ← hok.mark]
    exact hfin vs bs Jn a w (fun g hg => hφ g hg (hin g hg)) (fun g hg => hN g hg (hin g hg)) ha hw hn
  | succ n ih =>
    intro X vs bs Jn a w hnd hX hlen hcl hXs hφ hN ha hw hn
    have hun : ∀ i ∈ G.map (·.i), A.getD i true = false := hok.un
    by_cases hqe : ∃ g ∈ G, g.i ∈ qs ∧ g.i ∈ Region.ready .any os.toArray (mark A X)
    · obtain ⟨g, hg, hgq, hqr⟩ := hqe
      obtain ⟨hsn, hmn, op, ty, pos, af, hget, howe⟩ := hoq g hg hgq
      have hi' : os.toArray[g.i]? = some ⟨some g.d, op, ty, pos, af, none⟩ := by rw [U8] at hget; simpa using hget
      have hiG : g.i ∈ G.map (·.i) := List.mem_map_of_mem (f := Gc.i) hg
      have hiX : g.i ∉ X := fun h => (G9.1 (I9 hqr)).2 ⟨h, W2 (hun _ hiG)⟩
      obtain ⟨v, hq, hφv⟩ := howe vs bs ((Jn ++ J) ++ C.A) (fun x hx => by simp only [List.mem_append] at hx ⊢; rcases hx with h | h <;> simp [h]) (fun g' hg' hanc => hφ g' hg' (by
        have h3 := P6 hcl hanc hqr
        rcases Y4 h3 with h4 | h4
        · exact (R6 (hun _ (List.mem_map_of_mem (f := Gc.i) hg')) h4).elim
        · exact h4))
      rw [show n + 1 + plan.length = (n + plan.length) + 1 by omega]
      refine W1 (S := Sk K) (T := fun _ => True) (N := 0) (v := v) hi' (Region.noSelect_spec hs) (fun _ _ _ h => h) (fun _ _ _ _ => rfl) _ (mark A X) a w hcl (fun j oj hj hne hun' hno => A8b hi' (hfr _ hgq) j oj hj hne (G9.1 hun').1 (by
        cases ha0 : anc os.toArray os.toArray.size g.i j with
        | false => rfl
        | true => exact (R6 hun' (P6 hcl ha0 hqr)).elim) hno) (fun _ _ _ _ => .inr fun _ _ _ _ => trivial) hqr (.inl ⟨rfl, fun w hw => hq C.N a w ha (fun _ _ hb => by cases hb)⟩) trivial ?_
      rw [← Q9]
      have hsx : ∀ s, g.s = some s → s ∈ X := fun s hs' => by rw [hsn] at hs'; cases hs'
      obtain ⟨R0, hp0, hq0⟩ := A3u (bs := bs) hi hc hg hiX hXs hsx
      rw [Gc.inp_none hsn, hmn] at hp0
      let bs' : Nat → Mem := fun k => if k = g.i then [] else bs k
      have hperm : (A6Z X bs G ++ M0).Perm (A6Z (X ++ [g.i]) bs' G ++ M0) := List.Perm.append_right _ (hp0.trans (hq0 []))
      have ha' : Ag C.N ((g.d, v) :: (U1 G vs ++ l)) (a.put (some g.d) v) := ha.put (hdN g hg) v
      have henv := A1P (N := C.N) (G := B3f G) (l := l) (vs := vs) (g := ⟨g.i, g.d, fun _ _ => True⟩) (a := a.put (some g.d) v) (v := v) (List.mem_map_of_mem (f := fun g : Gc => (⟨g.i, g.d, fun _ _ => True⟩ : Gm)) hg) (by rw [B0x]; exact hd) (by rw [B0w]; exact hi) (by rw [A08]; exact ha')
      rw [A08] at henv
      refine ih (X ++ [g.i]) (fun k => if k = g.i then v else vs k) bs' Jn (a.put (some g.d) v) w ?_ ?_ (by simp; omega) ?_ ?_ ?_ ?_ henv (hw.perm hperm) hn
      · rw [List.nodup_append]; exact ⟨hnd, by simp, fun x hx y hy e => hiX (by simp at hy; subst hy; exact e ▸ hx)⟩
      · intro j hj
        rcases List.mem_append.1 hj with hj | hj
        · exact hX j hj
        · simp at hj; subst hj; exact hiG
      · rw [Q9]; exact H2 hcl hqr
      · intro g' hg' hm s hs'
        rcases List.mem_append.1 hm with h | h
        · exact List.mem_append_left _ (hXs g' hg' h s hs')
        · have h2 : g' = g := A0d hi hg' hg (by simpa using h)
          subst h2
          exact List.mem_append_left _ (hsx s hs')
      · intro g' hg' hm
        by_cases e : g'.i = g.i
        · have : g' = g := A0d hi hg' hg e
          subst this
          simp only [if_true, bs']
          exact hφv
        · simp only [e, if_false, bs']
          exact hφ g' hg' (by simpa [e] using hm)
      · intro g' hg' hk x hx
        by_cases e : g'.i = g.i
        · simp only [e, if_true, bs'] at hx
          cases hx
        · simp only [e, if_false, bs'] at hx
          exact hN g' hg' (by simpa [e] using hk) x hx
    have hmiss : ∃ k ∈ G.map (·.i), k ∉ X ∧ k ∉ qs := by
      apply Classical.byContradiction
      intro hno
      have hs' : ∀ k ∈ G.map (·.i), k ∉ qs → k ∈ X := fun k hk hne => Classical.byContradiction fun h => hno ⟨k, hk, h, hne⟩
      by_cases hall : ∀ k ∈ G.map (·.i), k ∈ X
      · have := A1N hi hall
        simp at this; omega
      · obtain ⟨k, hk⟩ := Classical.not_forall.1 hall
        obtain ⟨hkG, hkX⟩ := Classical.not_imp.1 hk
        obtain ⟨i, hiG, hir⟩ := hok.first (A0R A X) (fun j hj => A0S hj) hkG (G9.2 ⟨hun _ hkG, fun h => hkX h.1⟩)
        have hiX : i ∉ X := fun h => (G9.1 (I9 hir)).2 ⟨h, W2 (hun _ hiG)⟩
        by_cases e : i ∈ qs
        · obtain ⟨g, hg, rfl⟩ := List.mem_map.1 hiG
          exact hqe ⟨g, hg, e, hir⟩
        · exact hiX (hs' i hiG e)
    obtain ⟨k, hkG, hkX, hkq⟩ := hmiss
    have hkun : (mark A X).getD k true = false := G9.2 ⟨hun k hkG, fun h => hkX h.1⟩
    rw [show n + 1 + plan.length = (n + plan.length) + 1 by omega]
    refine ⟨fun h0 => ?_, fun i hir => ?_⟩
    · obtain ⟨i, -, hir⟩ := hok.first (A0R A X) (fun j hj => A0S hj) hkG hkun
      rw [h0] at hir; cases hir
    · have hiG : i ∈ G.map (·.i) := by
        apply Classical.byContradiction
        intro hno
        have h1 := G9.1 (I9 hir)
        have h2 := hok.outer k hkG hkq i (A2A hir) h1.1 hno
        exact R6 hkun (P6 hcl h2 hir)
      obtain ⟨g, hg, rfl⟩ := List.mem_map.1 hiG
      have hiX : g.i ∉ X := fun h => (G9.1 (I9 hir)).2 ⟨h, W2 (hun _ hiG)⟩
      have hin : ∀ j ∈ G.map (·.i), anc os.toArray os.toArray.size g.i j = true → j ∈ X := fun j hj hanc => by
        have h3 := P6 hcl hanc hir
        rcases Y4 h3 with h4 | h4
        · exact (R6 (hun _ hj) h4).elim
        · exact h4
      have hsx : ∀ s, g.s = some s → s ∈ X := fun s hs => hin s (hc.mem g hg s hs) (hc.anc g hg s hs)
      have hKi : ∀ x ∈ g.inp bs, K x.1 := by
        intro x hx
        cases hs : g.s with
        | none =>
          rw [Gc.inp_none hs] at hx
          exact hK g.m (List.mem_map.2 ⟨g, List.mem_filter.2 ⟨hg, by simp [hs]⟩, rfl⟩) x hx
        | some s =>
          rw [Gc.inp_some hs] at hx
          obtain ⟨gs, hgs, rfl⟩ := List.mem_map.1 (hc.mem g hg s hs)
          exact hN gs hgs (hsx _ hs) x hx
      obtain ⟨o, hget, howe⟩ := hob g hg (fun e => hqe ⟨g, hg, e, hir⟩)
      have hi' : os.toArray[g.i]? = some o := by rw [U8] at hget; simpa using hget
      obtain ⟨hask, hop⟩ := howe vs bs (M0 ++ ((Jn ++ J) ++ C.A)) ((Jn ++ J) ++ C.A) w (fun x hx => by simp only [List.mem_append] at hx ⊢; rcases hx with h | h | h <;> simp [h]) (fun x hx => by simp only [List.mem_append] at hx ⊢; rcases hx with h | h <;> simp [h]) (fun x hx => List.mem_append_right _ hx) (fun g' hg' hanc => hφ g' hg' (hin _ (List.mem_map_of_mem (f := Gc.i) hg') hanc))
      unfold wpOp
      simp only [hi']
      rw [if_pos (hask.wanted ha)]
      obtain ⟨R0, hp0, hq0⟩ := A3u (bs := bs) hi hc hg hiX hXs hsx
      have hpc : (A6Z X bs G ++ M0).Perm (g.inp bs ++ (R0 ++ M0)) := by
        rw [← List.append_assoc]; exact List.Perm.append_right _ hp0
      have hcal := hw.callee hpc
      have hcal2 := St.less (A := M0 ++ ((Jn ++ J) ++ C.A)) hcal fun x hx => by
        simp only [List.mem_append] at hx ⊢
        rcases hx with h | h
        · exact .inl (.inr h)
        · exact .inr h
      refine .inl (Oper.wp_mono ?_ (hop _ a w ha hcal2.cx))
      rintro a' w' ⟨l', M', J', ha', hs', v, rfl, hφv⟩
      have hsz : w.heap.size ≤ w'.heap.size := hs'.size
      have hs2 := St.widen hcal.cx hs'
      have hb := hw.back hpc hs2.cx
      let bs' : Nat → Mem := fun k => if k = g.i then M' else bs k
      have hperm : (M' ++ (R0 ++ M0)).Perm (A6Z (X ++ [g.i]) bs' G ++ M0) := by
        rw [← List.append_assoc]
        exact List.Perm.append_right _ (hq0 M')
      have hfr2 : St C (A6Z (X ++ [g.i]) bs' G ++ M0) ((J' ++ Jn) ++ J) w' := (hb.perm hperm).drop (List.Sublist.refl _) fun x hx => by
        simp only [List.mem_append] at hx ⊢
        rcases hx with (h | h) | h <;> simp [h]
      refine ⟨fun _ b hb' hnk => hs'.frame b hb' fun hm => ?_, ?_⟩
      · obtain ⟨x, hx, e⟩ := List.mem_map.1 hm
        exact hnk (e ▸ hKi x hx)
      rw [← Q9]
      have henv := A1P (N := C.N) (G := B3f G) (l := l) (vs := vs) (g := ⟨g.i, g.d, fun _ _ => True⟩) (a := a') (v := v) (List.mem_map_of_mem (f := fun g : Gc => (⟨g.i, g.d, fun _ _ => True⟩ : Gm)) hg) (by rw [B0x]; exact hd) (by rw [B0w]; exact hi) (by rw [A08]; exact ha')
      rw [A08] at henv
      refine ih (X ++ [g.i]) (fun k => if k = g.i then v else vs k) bs' (J' ++ Jn) a' w' ?_ ?_ (by simp; omega) ?_ ?_ ?_ ?_ henv hfr2 (Nat.le_trans hn hsz)
      · rw [List.nodup_append]; exact ⟨hnd, by simp, fun x hx y hy e => hiX (by simp at hy; subst hy; exact e ▸ hx)⟩
      · intro j hj
        rcases List.mem_append.1 hj with hj | hj
        · exact hX j hj
        · simp at hj; subst hj; exact hiG
      · rw [Q9]; exact H2 hcl hir
      · intro g' hg' hm s hs
        rcases List.mem_append.1 hm with h | h
        · exact List.mem_append_left _ (hXs g' hg' h s hs)
        · have h2 : g' = g := A0d hi hg' hg (by simpa using h)
          subst h2
          exact List.mem_append_left _ (hsx s hs)
      · intro g' hg' hm
        by_cases e : g'.i = g.i
        · have : g' = g := A0d hi hg' hg e
          subst this
          simp only [if_true, bs']
          exact hmono g' hg' _ _ _ _ (fun x hx => by simp only [List.mem_append] at hx ⊢; rcases hx with h | (h | h) | h <;> simp [h]) hφv
        · simp only [e, if_false, bs']
          have hm' : g'.i ∈ X := by simpa [e] using hm
          exact hmono g' hg' _ _ _ _ (fun x hx => by simp only [List.mem_append] at hx ⊢; rcases hx with (h | h) | h <;> simp [h]) (hφ g' hg' hm')
      · intro g' hg' hk x hx
        by_cases e : g'.i = g.i
        · have : g' = g := A0d hi hg' hg e
          subst this
          simp only [if_true, bs'] at hx
          rcases hs'.own x.1 x.2 (by simp [hx]) with h6 | h6
          · obtain ⟨y, hy, e6⟩ := List.mem_map.1 h6
            exact e6 ▸ hKi y hy
          · exact hKn _ (Nat.le_trans hn h6)
        · simp only [e, if_false, bs'] at hx
          have hk' : g'.i ∈ X := by simpa [e] using hk
          exact hN g' hg' hk' x hx
theorem A1W (G0 Gq : List Gc) (M0 : Mem) (Lf : (Nat → Mem) → List Mem) (hKn : ∀ b, n0 ≤ b → K b) (hM : M.Perm (A1c (A1w (G0 ++ Gq)) M0)) (hK : ∀ m ∈ A1w (G0 ++ Gq), ∀ x ∈ m, K x.1) (hck : A60 os.toArray ((G0 ++ Gq).map fun g => (g.i, g.s)) = true) (hLf : ∀ bs, A8G (G0 ++ Gq) bs = Lf bs)
    (hmono : ∀ g ∈ G0 ++ Gq, A2o g.φ) (hd : ((G0 ++ Gq).map (·.d)).Nodup) (hi : ((G0 ++ Gq).map (·.i)).Nodup) (hdN : ∀ g ∈ G0 ++ Gq, g.d < C.N) (hs : Region.noSelect os.toArray = true) (hne : Gq.map (·.i) ≠ []) (hob0 : ∀ g ∈ G0, B0z C os l M0 J (G0 ++ Gq) g) (hoq0 : ∀ g ∈ Gq, B6b C os l J (G0 ++ Gq) g)
    (h : ∀ (vs : Nat → Value) (bs : Nat → Mem) Jn, (∀ g ∈ G0 ++ Gq, g.φ (vs g.i) (bs g.i) ((Jn ++ J) ++ C.A)) → (∀ g ∈ G0 ++ Gq, ∀ x ∈ bs g.i, K x.1) → XK C os Q K n0 nd plan (U1 (G0 ++ Gq) vs ++ l) (A1c (Lf bs) M0) (Jn ++ J)) : XK C os Q K n0 nd (A8Y (Gq.map (·.i)) (G0.map (·.i)) ++ plan) l M J := by
  refine A6M hM ?_
  rw [A2K]
  intro listed hcl hp a w ha hw hn
  obtain ⟨B, hok, hfr, hp2⟩ := B0C hne hp
  have hBcl : P5 os.toArray B := by
    have : ∀ {A is B}, GOz os.toArray (Gq.map (·.i)) A is B → P5 os.toArray A → P5 os.toArray B := by
      intro A is B h
      induction h with
      | nil => exact id
      | cons hr _ _ ih => exact fun hc => ih (H2 hc hr)
    exact this hok hcl
  rw [← List.map_append] at hok
  have hlen : (A8Y (Gq.map (·.i)) (G0.map (·.i)) ++ plan).length = (G0 ++ Gq).length + plan.length := by
    have h1 : ∀ qs : List Nat, (A3v qs).length = qs.length := by
      intro qs
      induction qs with
      | nil => rfl
      | cons q r ih => cases r with
        | nil => rfl
        | cons q' r => simp only [A3v, List.length_cons] at ih ⊢; rw [ih]
    have h2 : ∀ (qs is : List Nat), (A8Y qs is).length = is.length + qs.length := by
      intro qs is
      induction is with
      | nil => simp [A8Y, h1]
      | cons i r ih => simp only [A8Y, List.length_cons, ih]; omega
    simp [h2]
  have hob : ∀ g ∈ G0 ++ Gq, g.i ∉ Gq.map (·.i) → B0z C os l M0 J (G0 ++ Gq) g := fun g hg hq => by
    rcases List.mem_append.1 hg with h1 | h1
    · exact hob0 g h1
    · exact absurd (List.mem_map_of_mem (f := Gc.i) h1) hq
  have hoq : ∀ g ∈ G0 ++ Gq, g.i ∈ Gq.map (·.i) → B6b C os l J (G0 ++ Gq) g := fun g hg hq => by
    obtain ⟨g', hg', e⟩ := List.mem_map.1 hq
    have := A0d hi (List.mem_append_right _ hg') hg e
    exact this ▸ hoq0 g' hg'
  rw [hlen]
  generalize Gq.map (·.i) = qs at *
  generalize G0 ++ Gq = G at *
  let vs : Nat → Value := fun k => match G.find? (fun g => g.i == k) with
    | some g => (a.tmps[g.d]?).getD undef
    | none => undef
  have hag : Ag C.N (U1 G vs ++ l) a := by
    refine ⟨ha.defers, ha.size, ?_⟩
    intro k u hk
    have key : ∀ G' : List Gc, (∀ g ∈ G', g ∈ G) → lk (U1 G' vs ++ l) k = some u → a.tmps[k]? = some u := by
      intro G'
      induction G' with
      | nil => intro _ h; exact ha.slot k u h
      | cons g G' ih =>
        intro hs h
        simp only [U1, List.map_cons, List.cons_append, lk] at h
        by_cases e : g.d = k
        · subst e
          simp at h
          have hf : G.find? (fun x => x.i == g.i) = some g := by
            have hgG := hs g List.mem_cons_self
            cases hq : G.find? (fun x => x.i == g.i) with
            | none => have := List.find?_eq_none.1 hq g hgG; simp at this
            | some x =>
              have h1 := List.find?_some hq
              have h2 := List.mem_of_find?_eq_some hq
              rw [A0d hi h2 hgG (by simpa using h1)]
          have hlt : g.d < a.tmps.size := by rw [ha.size]; exact hdN g (hs g List.mem_cons_self)
          rw [← h]
          show a.tmps[g.d]? = some (vs g.i)
          simp only [vs, hf, Array.getElem?_eq_getElem hlt, Option.getD_some]
        · simp only [X7 e, cond_false] at h
          exact ih (fun x hx => hs x (List.mem_cons_of_mem _ hx)) h
    exact key G (fun _ h => h) hk
  refine B0D (n0 := n0) (K := K) hmono hd hi (A7K hck) hKn hK hs hdN hob hoq hok hfr (fun vs bs Jn a w hφ hN ha hw hn => h vs bs Jn hφ hN B hBcl hp2 a w ha (by rw [A2K, ← hLf]; exact hw) hn) G.length [] vs (fun _ => []) [] a w .nil (fun _ h => by cases h) (by simp) hcl (fun _ _ h => by cases h) (fun _ _ h => by cases h) (fun _ _ h => by cases h) hag (by rw [A7L]; exact hw) hn
end group
end Go.Px

namespace Go.Proofs.YtlilcmjbaknafaaGreatDoor
open Go.Px
def rtN0 (x : Nat) : Option Nat := if rt1 x * rt1 x % p25 = x then some (rt1 x) else if rt2 x * rt2 x % p25 = x then some (rt2 x) else none
theorem B8f (x : Nat) : ∃ y, y = rtN0 x := ⟨_, rfl⟩
noncomputable def rtN (x : Nat) : Option Nat := Classical.choose (B8f x)
noncomputable def xxN (y : Nat) : Nat := fM (fS (fM y y) 1) (fI (fA (fM dN (fM y y)) 1))
def atO (o : Option Nat) (odd : Bool) : Option Nat := match o with
  | none => none
  | some x => if odd && decide (x = 0) then none else some (if !(decide (x % 2 = 1) == odd) then fN x else x)
noncomputable def atN (y : Nat) (odd : Bool) : Option Nat := atO (rtN (xxN y)) odd
def pZ : Pt := ⟨0, 0, 0, 0⟩
def pAt (x y : Nat) : Pt := ⟨x, y, 1, fM x y⟩
def AtR (r : Value) (y : Nat) (odd : Bool) : Prop := ∃ V b, r = .tuple #[V, .bool b] ∧ ((∃ x, atN y odd = some x ∧ b = true ∧ FeP V (pAt x y)) ∨ (atN y odd = none ∧ b = false ∧ FeP V pZ))
def s45 : Nat := 46316835694926478169428394003475163141307993866256225615783033603165251855960
def bxN : Nat := 15112221349535400772501151409588531511454012693041857206046113283949847762202
def pS : Pt := pAt bxN s45
def rtK (x : Nat) : Option Nat := if pm p25 256 x (2 ^ 252 - 2) 1 * pm p25 256 x (2 ^ 252 - 2) 1 % p25 = x then some (pm p25 256 x (2 ^ 252 - 2) 1) else if (pm p25 256 x (2 ^ 252 - 2) 1 * pm p25 256 2 (2 ^ 253 - 5) 1 % p25) * (pm p25 256 x (2 ^ 252 - 2) 1 * pm p25 256 2 (2 ^ 253 - 5) 1 % p25) % p25 = x then some (pm p25 256 x (2 ^ 252 - 2) 1 * pm p25 256 2 (2 ^ 253 - 5) 1 % p25) else none
end Go.Proofs.YtlilcmjbaknafaaGreatDoor
namespace Go.Px
theorem B3g {P : Program} {R : Mem} {l : Env} {d : Option Nat} {ty : TypeId} {pos : String} {af : Array Edge} {g : Option (Nat × Bool)} {fn : Fn} {xs : List Operand} {vs : List Value} (hx : Evs l xs vs) :
    OpQ P R ⟨d, .makeFunc fn #[] xs.toArray, ty, pos, af, g⟩ l (.func fn #[] vs.toArray) := fun N a w ha hw => by
  have e : xs.toArray.map a.eval = vs.toArray := by simp [hx.map ha]
  simp only [execOp, e]
  simp [Instr.makeFunc]
section call
variable {C : Cx} {l : Env} {M J : Mem} {K : Env → Mem → Mem → Prop} {d : Nat} {ty : TypeId} {pos : String} {af : Array Edge} {g : Option (Nat × Bool)} {x : Operand} {f : FuncId} {xs : List Operand} {vs cs : List Value} {ts : Array TypeId}
theorem B6c {Mc R : Mem} {post : Value → Mem → Mem → Prop} (h0 : ev l x = some (.func (.func f) #[] cs.toArray)) (hx : Evs l xs vs) (hc : K7 C.P f = true)
    (hM : M.Perm (Mc ++ R)) (hf : FnX C.P f (vs ++ cs) Mc (R ++ (J ++ C.A)) post) (hd : Nat.blt d C.N = true) (k : ∀ v M' J', post v M' J' → K ((d, v) :: l) (M' ++ R) (J' ++ J)) :
    OpL C ⟨some d, .call { callee := .value x, args := xs.toArray, argTypes := ts }, ty, pos, af, g⟩ l M J K := by
  intro Qp a w ha hw
  have hrun : (execOp a.eval ⟨some d, .call { callee := .value x, args := xs.toArray, argTypes := ts }, ty, pos, af, g⟩).run C.P w = .ok (.enter f (vs ++ cs).toArray) w := by
    have e : xs.toArray.map a.eval = vs.toArray := by simp [hx.map ha]
    simp only [execOp, resolve, e, Sem.run_bind, ha.ev h0]
    simp [Deferred.ofValue, invoke, A7f hc]
  unfold Oper.wp
  rw [hrun]
  refine Calls.mono (hf w (hw.callee hM)) ?_
  rintro e w' ⟨v, M', J', rfl, hp, hs⟩
  exact ⟨_, _, _, ha.put (C8 hd) v, hw.back hM hs, k v M' J' hp⟩
theorem B3h {v : Value} (h0 : ev l x = some (.func (.func f) #[] cs.toArray)) (hx : Evs l xs vs) (hc : K7 C.P f = true) (hf : FnV C.P f (vs ++ cs) (M ++ (J ++ C.A)) v) (hd : Nat.blt d C.N = true) (k : K ((d, v) :: l) M J) :
    OpL C ⟨some d, .call { callee := .value x, args := xs.toArray, argTypes := ts }, ty, pos, af, g⟩ l M J K :=
  B6c (Mc := []) (R := M) h0 hx hc (.refl _) hf hd fun r M' J' ⟨e, h1, h2⟩ => by subst e; subst h1; subst h2; exact k
end call
def B4x (p : Nat → Bool) (n : Nat) : Int := match (List.range n).find? p with
  | some i => (i : Int)
  | none => -1
theorem A6h {p : Nat → Bool} {n i : Nat} (hi : i < n) (h0 : ∀ j, j < i → p j = false) (h : p i = true) : B4x p n = (i : Int) := by
  unfold B4x
  have : (List.range n).find? p = some i := by
    rw [List.find?_range_eq_some]
    exact ⟨h, List.mem_range.2 hi, fun j hj => by rw [h0 j hj]; rfl⟩
  rw [this]
theorem A6i {p : Nat → Bool} {n : Nat} (h0 : ∀ j, j < n → p j = false) : B4x p n = -1 := by
  unfold B4x
  have : (List.range n).find? p = none := by
    rw [List.find?_eq_none]
    intro j hj
    rw [h0 j (List.mem_range.1 hj)]; decide
  rw [this]
theorem A8H (p : Nat → Bool) (n : Nat) : (B4x p n = -1 ∧ ∀ j, j < n → p j = false) ∨ ∃ i, i < n ∧ B4x p n = (i : Int) ∧ p i = true ∧ ∀ j, j < i → p j = false := by
  cases h : (List.range n).find? p with
  | none =>
    have h1 : ∀ j, j < n → p j = false := fun j hj => by
      have := List.find?_eq_none.1 h j (List.mem_range.2 hj)
      simpa using this
    exact .inl ⟨A6i h1, h1⟩
  | some i =>
    obtain ⟨h1, h2, h3⟩ := List.find?_range_eq_some.1 h
    have h4 : ∀ j, j < i → p j = false := fun j hj => by simpa using h3 j hj
    exact .inr ⟨i, List.mem_range.1 h2, A6h (List.mem_range.1 h2) h4 h1, h1, h4⟩
structure RowT {α : Type} (sz : Nat) (φ : Mem → α → List Value → Prop) : Prop where
  mono : ∀ R R' x r, (∀ q, q ∈ R → q ∈ R') → φ R x r → φ R' x r
  len : ∀ R x r, φ R x r → r.length = sz
  one : ∀ R x r, φ R x r → ∀ c ∈ r, c.oneCell' = true
structure RwL {α : Type} (φ : Mem → α → List Value → Prop) (R : Mem) (rows : List (List Value)) (xs : List α) : Prop where
  len : rows.length = xs.length
  get : ∀ (j : Nat) (x : α), xs[j]? = some x → ∃ r, rows[j]? = some r ∧ φ R x r
section rows
variable {α : Type} {sz : Nat} {φ : Mem → α → List Value → Prop} {R R' : Mem} {rows : List (List Value)} {xs : List α} {x : α} {r : List Value}
theorem RwL.mono (hφ : RowT sz φ) (h : RwL φ R rows xs) (hR : ∀ q, q ∈ R → q ∈ R') : RwL φ R' rows xs := ⟨h.len, fun j x hj => by
  obtain ⟨r, h1, h2⟩ := h.get j x hj
  exact ⟨r, h1, hφ.mono _ _ _ _ hR h2⟩⟩
theorem RwL.nil : RwL φ R [] [] := ⟨rfl, fun j x h => by simp at h⟩
theorem RwL.of (h : RwL φ R rows xs) {j : Nat} (hr : rows[j]? = some r) : ∃ x, xs[j]? = some x ∧ φ R x r := by
  have hj : j < xs.length := by rw [← h.len]; exact (List.getElem?_eq_some_iff.1 hr).1
  obtain ⟨r', h1, h2⟩ := h.get j xs[j] (List.getElem?_eq_getElem hj)
  rw [hr] at h1
  cases h1
  exact ⟨_, List.getElem?_eq_getElem hj, h2⟩
theorem RwL.lens (hφ : RowT sz φ) (h : RwL φ R rows xs) : ∀ r ∈ rows, r.length = sz := by
  intro r hr
  obtain ⟨j, hj⟩ := List.getElem?_of_mem hr
  obtain ⟨x, _, h2⟩ := h.of hj
  exact hφ.len _ _ _ h2
theorem RwL.ones (hφ : RowT sz φ) (h : RwL φ R rows xs) : ∀ c ∈ rows.flatten, c.oneCell' = true := by
  intro c hc
  obtain ⟨r, hr, hc⟩ := List.mem_flatten.1 hc
  obtain ⟨j, hj⟩ := List.getElem?_of_mem hr
  obtain ⟨x, _, h2⟩ := h.of hj
  exact hφ.one _ _ _ h2 c hc
theorem RwL.snoc (h : RwL φ R rows xs) (hx : φ R x r) : RwL φ R (rows ++ [r]) (xs ++ [x]) := ⟨by simp [h.len], fun j y hj => by
  by_cases hlt : j < xs.length
  · rw [List.getElem?_append_left hlt] at hj
    obtain ⟨r', h1, h2⟩ := h.get j y hj
    exact ⟨r', by rw [List.getElem?_append_left (List.getElem?_eq_some_iff.1 h1).1]; exact h1, h2⟩
  · rw [List.getElem?_append_right (by omega)] at hj
    have hj0 : j = xs.length := by
      have := (List.getElem?_eq_some_iff.1 hj).1
      simp at this; omega
    subst hj0
    simp at hj
    subst hj
    exact ⟨r, by rw [List.getElem?_append_right (by rw [h.len]; omega), h.len]; simp, hx⟩⟩
theorem RwL.app {rows' : List (List Value)} {xs' : List α} (h : RwL φ R rows xs) (h' : RwL φ R rows' xs') : RwL φ R (rows ++ rows') (xs ++ xs') := ⟨by simp [h.len, h'.len], fun j y hj => by
  by_cases hlt : j < xs.length
  · rw [List.getElem?_append_left hlt] at hj
    obtain ⟨r', h1, h2⟩ := h.get j y hj
    exact ⟨r', by rw [List.getElem?_append_left (List.getElem?_eq_some_iff.1 h1).1]; exact h1, h2⟩
  · rw [List.getElem?_append_right (by omega)] at hj
    obtain ⟨r', h1, h2⟩ := h'.get _ y hj
    exact ⟨r', by rw [List.getElem?_append_right (by rw [h.len]; omega), h.len]; exact h1, h2⟩⟩
theorem RwL.cons (hx : φ R x r) (h : RwL φ R rows xs) : RwL φ R (r :: rows) (x :: xs) := ⟨by simp [h.len], fun j y hj => by
  cases j with
  | zero => simp at hj; subst hj; exact ⟨r, rfl, hx⟩
  | succ j => exact h.get j y hj⟩
theorem RwL.take (h : RwL φ R rows xs) (k : Nat) : RwL φ R (rows.take k) (xs.take k) := ⟨by simp [h.len], fun j y hj => by
  have hk : j < k := by
    rcases Nat.lt_or_ge j k with h | h
    · exact h
    · rw [List.getElem?_eq_none (by simp; omega)] at hj; cases hj
  rw [List.getElem?_take_of_lt hk] at hj ⊢
  exact h.get j y hj⟩
theorem RwL.drop (h : RwL φ R rows xs) (k : Nat) : RwL φ R (rows.drop k) (xs.drop k) := ⟨by simp [h.len], fun j y hj => by
  rw [List.getElem?_drop] at hj ⊢
  exact h.get _ y hj⟩
theorem RwL.erase (h : RwL φ R rows xs) (i : Nat) : RwL φ R (rows.take i ++ rows.drop (i + 1)) (xs.eraseIdx i) := by
  rw [List.eraseIdx_eq_take_drop_succ]
  exact (h.take i).app (h.drop (i + 1))
theorem A4q (hl : ∀ r ∈ rows, r.length = sz) (i : Nat) : rows.flatten.take (i * sz) ++ rows.flatten.drop ((i + 1) * sz) = (rows.take i ++ rows.drop (i + 1)).flatten := by
  rw [A89 hl, A2T hl, List.flatten_append]
end rows
def A1d {α : Type} (q : α → Bool) (xs : List α) : Int := B4x (fun j => (xs[j]?.map q).getD false) xs.length
theorem V3 {α : Type} (q : α → Bool) (xs : List α) : (A1d q xs = -1 ∧ ∀ x ∈ xs, q x = false) ∨ ∃ (i : Nat) (x : α), A1d q xs = (i : Int) ∧ xs[i]? = some x ∧ q x = true ∧ ∀ (j : Nat) (y : α), j < i → xs[j]? = some y → q y = false := by
  rcases A8H (fun j => (xs[j]?.map q).getD false) xs.length with ⟨h1, h2⟩ | ⟨i, h1, h2, h3, h4⟩
  · refine .inl ⟨h1, fun x hx => ?_⟩
    obtain ⟨j, hj⟩ := List.getElem?_of_mem hx
    have := h2 j (List.getElem?_eq_some_iff.1 hj).1
    rw [hj] at this
    exact this
  · refine .inr ⟨i, xs[i], h2, List.getElem?_eq_getElem h1, ?_, fun j y hj hy => ?_⟩
    · rw [List.getElem?_eq_getElem h1] at h3
      exact h3
    · have := h4 j hj
      rw [hy] at this
      exact this
end Go.Px

namespace Go.Px
def mkB (P : Program) (t : TypeId) : Option (TypeId × Nat) :=
  match P.underlying t with
  | some (.slice e) => match P.info? e with
    | some i => match i.zero with
      | some (.bool false) => if i.size = 1 then some (e, i.bytes) else none
      | _ => none
    | none => none
  | _ => none
def B8g (h : List Bool) : List Value := h.map .bool
@[simp] theorem bools_len (h : List Bool) : (B8g h).length = h.length := by simp [B8g]
def appB (P : Program) (t tn : TypeId) : Option (TypeId × Nat) :=
  match P.underlying tn with
  | some (.int _) => mkB P t
  | _ => none
section zb
variable {C : Cx} {l : Env} {M J : Mem} {K : Env → Mem → Mem → Prop} {d : Nat} {ty t tn e : TypeId} {pos : String} {af : Array Edge} {g : Option (Nat × Bool)} {x y : Operand}
end zb
section call
variable {C : Cx} {l : Env} {M J : Mem} {K : Env → Mem → Mem → Prop} {d : Nat} {ty : TypeId} {pos : String} {af : Array Edge} {g : Option (Nat × Bool)} {x : Operand} {f : FuncId} {xs : List Operand} {us vs cs : List Value} {ts : Array TypeId}
end call
end Go.Px

