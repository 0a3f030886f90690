/-
  SHA-256 in plain natural numbers, and what is true of it. No program in sight.
-/
import Derived.Test.YthmnlkpikgglbaaGreatDoorNum
set_option linter.unusedVariables false
set_option linter.unusedSimpArgs false
namespace Go.Px

def rotr (x n : Nat) : Nat := (x >>> n) ||| ((x <<< (32 - n)) % 4294967296)
def sg0 (a : Nat) : Nat := rotr a 7 ^^^ rotr a 18 ^^^ (a >>> 3)
def sg1 (b : Nat) : Nat := rotr b 17 ^^^ rotr b 19 ^^^ (b >>> 10)
def wnext (w : List Nat) (i : Nat) : Nat :=
  (((w.getD (i - 16) 0 + sg0 (w.getD (i - 15) 0)) % 4294967296 + w.getD (i - 7) 0) % 4294967296 + sg1 (w.getD (i - 2) 0)) % 4294967296
/-- The words, so many more. -/
def wx (w : List Nat) : Nat → List Nat
  | 0 => w
  | n + 1 => wx w n ++ [wnext (wx w n) (w.length + n)]
theorem wx_len (w : List Nat) (n : Nat) : (wx w n).length = w.length + n := by
  induction n with
  | zero => rfl
  | succ n ih => simp [wx, ih]; omega

structure S8 where
  a : Nat
  b : Nat
  c : Nat
  d : Nat
  e : Nat
  f : Nat
  g : Nat
  h : Nat
def S8.list (s : S8) : List Nat := [s.a, s.b, s.c, s.d, s.e, s.f, s.g, s.h]
def S8.ok (s : S8) : Prop := ∀ x ∈ s.list, x < 4294967296
def bs1 (e : Nat) : Nat := rotr e 6 ^^^ rotr e 11 ^^^ rotr e 25
def bs0 (a : Nat) : Nat := rotr a 2 ^^^ rotr a 13 ^^^ rotr a 22
def chz (e f g : Nat) : Nat := (e &&& f) ^^^ ((4294967295 ^^^ e) &&& g)
def maj (a b c : Nat) : Nat := (a &&& b) ^^^ (a &&& c) ^^^ (b &&& c)
def tmp1 (s : S8) (k w : Nat) : Nat := ((((s.h + bs1 s.e) % 4294967296 + chz s.e s.f s.g) % 4294967296 + k) % 4294967296 + w) % 4294967296
def S8.step (s : S8) (k w : Nat) : S8 :=
  ⟨((tmp1 s k w + bs0 s.a) % 4294967296 + maj s.a s.b s.c) % 4294967296, s.a, s.b, s.c, (s.d + tmp1 s k w) % 4294967296, s.e, s.f, s.g⟩
def rounds (ks ws : List Nat) (s : S8) : Nat → S8
  | 0 => s
  | n + 1 => (rounds ks ws s n).step (ks.getD n 0) (ws.getD n 0)
def S8.plus (s t : S8) : S8 :=
  ⟨(s.a + t.a) % 4294967296, (s.b + t.b) % 4294967296, (s.c + t.c) % 4294967296, (s.d + t.d) % 4294967296, (s.e + t.e) % 4294967296, (s.f + t.f) % 4294967296, (s.g + t.g) % 4294967296, (s.h + t.h) % 4294967296⟩
def word (p : List Nat) (i : Nat) : Nat := ((p.getD (4 * i) 0 * 256 + p.getD (4 * i + 1) 0) * 256 + p.getD (4 * i + 2) 0) * 256 + p.getD (4 * i + 3) 0
def words (p : List Nat) (n : Nat) : List Nat := (List.range n).map (word p)
def shaBlock (ks : List Nat) (s : S8) (p : List Nat) : S8 := s.plus (rounds ks (wx (words p 16) 48) s 64)
/-- So many blocks, one behind the other. -/
def shaB (ks : List Nat) : Nat → S8 → List Nat → S8
  | 0, s, _ => s
  | n + 1, s, p => shaB ks n (shaBlock ks s (p.take 64)) (p.drop 64)
def zeros (n : Nat) : Nat := (119 - n % 64) % 64
def len8 (n : Nat) (k : Nat) : List Nat := (List.range k).map fun i => (8 * n) >>> (56 - 8 * i) % 256
def padded (p : List Nat) : List Nat := p ++ (128 :: (List.replicate (zeros p.length) 0 ++ len8 p.length 8))
def out4 (x : Nat) : List Nat := [(x >>> 24) % 256, (x >>> 16) % 256, (x >>> 8) % 256, x % 256]
def S8.bytes (s : S8) : List Nat := s.list.flatMap out4
def kTab : List Nat := [1116352408, 1899447441, 3049323471, 3921009573, 961987163, 1508970993, 2453635748, 2870763221, 3624381080, 310598401, 607225278, 1426881987, 1925078388, 2162078206, 2614888103, 3248222580, 3835390401, 4022224774, 264347078, 604807628, 770255983, 1249150122, 1555081692, 1996064986, 2554220882, 2821834349, 2952996808, 3210313671, 3336571891, 3584528711, 113926993, 338241895, 666307205, 773529912, 1294757372, 1396182291, 1695183700, 1986661051, 2177026350, 2456956037, 2730485921, 2820302411, 3259730800, 3345764771, 3516065817, 3600352804, 4094571909, 275423344, 430227734, 506948616, 659060556, 883997877, 958139571, 1322822218, 1537002063, 1747873779, 1955562222, 2024104815, 2227730452, 2361852424, 2428436474, 2756734187, 3204031479, 3329325298]
def hFirst : S8 := ⟨1779033703, 3144134277, 1013904242, 2773480762, 1359893119, 2600822924, 528734635, 1541459225⟩
def sha256 (p : List Nat) : List Nat := (shaB kTab ((padded p).length / 64) hFirst (padded p)).bytes
def keyPad (key : List Nat) (x : Nat) : List Nat := (key ++ List.replicate (64 - key.length) 0).map (· ^^^ x)
def macKey (key : List Nat) : List Nat := if 64 < key.length then sha256 key else key
def hmac (key p : List Nat) : List Nat := sha256 (keyPad (macKey key) 92 ++ sha256 (keyPad (macKey key) 54 ++ p))

theorem ktab_lt : ∀ x ∈ kTab, x < 4294967296 := by decide
theorem first_ok : hFirst.ok := by unfold S8.ok; decide

theorem wx_get (w : List Nat) {n m i : Nat} (h : m ≤ n) (hi : i < w.length + m) : (wx w n).getD i 0 = (wx w m).getD i 0 := by
  induction n with
  | zero => obtain rfl : m = 0 := by omega
            rfl
  | succ n ih =>
    by_cases hm : m = n + 1
    · subst hm; rfl
    · rw [wx, ← ih (by omega)]
      have : i < (wx w n).length := by rw [wx_len]; omega
      simp [List.getD, List.getElem?_append_left this]
theorem rotr_lt {x n : Nat} (h : x < 4294967296) : rotr x n < 4294967296 := by
  unfold rotr
  refine Nat.or_lt_two_pow (n := 32) ?_ (Nat.mod_lt _ (by decide))
  exact Nat.lt_of_le_of_lt (Nat.shiftRight_le _ _) h
theorem xor32 {a b : Nat} (ha : a < 4294967296) (hb : b < 4294967296) : a ^^^ b < 4294967296 := Nat.xor_lt_two_pow (n := 32) ha hb
theorem or32 {a b : Nat} (ha : a < 4294967296) (hb : b < 4294967296) : a ||| b < 4294967296 := Nat.or_lt_two_pow (n := 32) ha hb
theorem and32 {a b : Nat} (ha : a < 4294967296) : a &&& b < 4294967296 := Nat.lt_of_le_of_lt Nat.and_le_left ha
theorem shr32 {a n : Nat} (ha : a < 4294967296) : a >>> n < 4294967296 := Nat.lt_of_le_of_lt (Nat.shiftRight_le _ _) ha
theorem mod32 {a : Nat} : a % 4294967296 < 4294967296 := Nat.mod_lt _ (by decide)
theorem sg0_lt {x : Nat} (h : x < 4294967296) : sg0 x < 4294967296 := xor32 (xor32 (rotr_lt h) (rotr_lt h)) (shr32 h)
theorem sg1_lt {x : Nat} (h : x < 4294967296) : sg1 x < 4294967296 := xor32 (xor32 (rotr_lt h) (rotr_lt h)) (shr32 h)
theorem bs0_lt {x : Nat} (h : x < 4294967296) : bs0 x < 4294967296 := xor32 (xor32 (rotr_lt h) (rotr_lt h)) (rotr_lt h)
theorem bs1_lt {x : Nat} (h : x < 4294967296) : bs1 x < 4294967296 := xor32 (xor32 (rotr_lt h) (rotr_lt h)) (rotr_lt h)
theorem S8.ok_iff {s : S8} : s.ok ↔ s.a < 4294967296 ∧ s.b < 4294967296 ∧ s.c < 4294967296 ∧ s.d < 4294967296 ∧ s.e < 4294967296 ∧ s.f < 4294967296 ∧ s.g < 4294967296 ∧ s.h < 4294967296 := by
  simp [S8.ok, S8.list]
theorem S8.ok.step {s : S8} (h : s.ok) (k w : Nat) : (s.step k w).ok := by
  rw [S8.ok_iff] at h ⊢
  obtain ⟨h1, h2, h3, h4, h5, h6, h7, h8⟩ := h
  exact ⟨mod32, h1, h2, h3, mod32, h5, h6, h7⟩
theorem S8.ok.plus (s t : S8) : (s.plus t).ok := by
  rw [S8.ok_iff]
  exact ⟨mod32, mod32, mod32, mod32, mod32, mod32, mod32, mod32⟩
theorem S8.ok.rounds {s : S8} (h : s.ok) (ks ws : List Nat) (n : Nat) : (rounds ks ws s n).ok := by
  induction n with
  | zero => exact h
  | succ n ih => exact ih.step _ _
theorem shaBlock_ok (ks : List Nat) (s : S8) (p : List Nat) : (shaBlock ks s p).ok := S8.ok.plus _ _
theorem shaB_ok (ks : List Nat) : ∀ (n : Nat) {s : S8} (p : List Nat), s.ok → (shaB ks n s p).ok
  | 0, _, _, h => h
  | n + 1, s, p, _ => shaB_ok ks n _ (shaBlock_ok ks s _)
theorem shaB_succ (ks : List Nat) : ∀ (n : Nat) (s : S8) (p : List Nat), shaB ks (n + 1) s p = shaBlock ks (shaB ks n s p) ((p.drop (64 * n)).take 64)
  | 0, s, p => by simp [shaB]
  | n + 1, s, p => by
    rw [shaB, shaB_succ ks n, shaB, List.drop_drop, show 64 + 64 * n = 64 * (n + 1) by omega]
theorem shaB_pre (ks : List Nat) : ∀ (n : Nat) (s : S8) (p q : List Nat), 64 * n ≤ p.length → shaB ks n s (p ++ q) = shaB ks n s p
  | 0, s, p, q, h => rfl
  | n + 1, s, p, q, h => by
    rw [shaB, shaB, List.take_append_of_le_length (by omega), List.drop_append_of_le_length (by omega), shaB_pre ks n _ _ _ (by rw [List.length_drop]; omega)]
theorem shaB_add (ks : List Nat) : ∀ (n m : Nat) (s : S8) (p : List Nat), shaB ks (n + m) s p = shaB ks m (shaB ks n s p) (p.drop (64 * n))
  | 0, m, s, p => by simp [shaB]
  | n + 1, m, s, p => by
    rw [show n + 1 + m = (n + m) + 1 by omega, shaB, shaB_add ks n m, shaB, List.drop_drop, show 64 + 64 * n = 64 * (n + 1) by omega]
theorem word_lt {p : List Nat} (h : ∀ x ∈ p, x < 256) (i : Nat) : word p i < 4294967296 := by
  have := fun j => getD_lt (i := j) h (by decide)
  have h0 := this (4 * i); have h1 := this (4 * i + 1); have h2 := this (4 * i + 2); have h3 := this (4 * i + 3)
  unfold word; omega
theorem words_lt {p : List Nat} (h : ∀ x ∈ p, x < 256) (n : Nat) : ∀ x ∈ words p n, x < 4294967296 := by
  intro x hx
  obtain ⟨i, _, rfl⟩ := List.mem_map.1 hx
  exact word_lt h i
theorem words_len (p : List Nat) (n : Nat) : (words p n).length = n := by simp [words]
theorem words_succ (p : List Nat) (n : Nat) : words p (n + 1) = words p n ++ [word p n] := by simp [words, List.range_succ]
theorem wx_lt {w : List Nat} (h : ∀ x ∈ w, x < 4294967296) : ∀ n, ∀ x ∈ wx w n, x < 4294967296
  | 0, x, hx => h x hx
  | n + 1, x, hx => by
    rcases List.mem_append.1 hx with hx | hx
    · exact wx_lt h n x hx
    · simp at hx; subst hx; exact mod32
theorem word_or {a b c d : Nat} (ha : a < 256) (hb : b < 256) (hc : c < 256) (hd : d < 256) :
    ((((a <<< 24) % 4294967296 ||| (b <<< 16) % 4294967296) ||| (c <<< 8) % 4294967296) ||| d) = ((a * 256 + b) * 256 + c) * 256 + d := by
  have e1 : a <<< 24 = (a <<< 8) <<< 16 := by rw [← Nat.shiftLeft_add]
  have f1 : (a <<< 24) % 4294967296 = a <<< 24 := Nat.mod_eq_of_lt (by rw [Nat.shiftLeft_eq]; omega)
  have f2 : (b <<< 16) % 4294967296 = b <<< 16 := Nat.mod_eq_of_lt (by rw [Nat.shiftLeft_eq]; omega)
  have f3 : (c <<< 8) % 4294967296 = c <<< 8 := Nat.mod_eq_of_lt (by rw [Nat.shiftLeft_eq]; omega)
  rw [f1, f2, f3]
  have g1 : (a <<< 24 ||| b <<< 16) = (a * 256 + b) <<< 16 := by
    rw [e1, ← Nat.shiftLeft_or_distrib, ← Nat.shiftLeft_add_eq_or_of_lt (i := 8) hb, Nat.shiftLeft_eq a 8]
  have g2 : ((a * 256 + b) <<< 16 ||| c <<< 8) = ((a * 256 + b) * 256 + c) <<< 8 := by
    rw [show (16 : Nat) = 8 + 8 from rfl, Nat.shiftLeft_add, ← Nat.shiftLeft_or_distrib, ← Nat.shiftLeft_add_eq_or_of_lt (i := 8) hc, Nat.shiftLeft_eq (a * 256 + b) 8]
  rw [g1, g2, ← Nat.shiftLeft_add_eq_or_of_lt (i := 8) hd, Nat.shiftLeft_eq _ 8]
end Go.Px
