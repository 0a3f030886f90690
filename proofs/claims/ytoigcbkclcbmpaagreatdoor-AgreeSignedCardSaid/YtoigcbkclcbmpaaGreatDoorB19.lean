/- Part 19 of the texts of this claim, one behind the other. -/
import Derived.Test.YtoigcbkclcbmpaaGreatDoorB18
set_option linter.unusedVariables false
set_option linter.unusedSimpArgs false
set_option maxRecDepth 100000
namespace Go.Proofs.YtoigcbkclcbmpaaGreatDoor
open Go.Px Go.Ed
noncomputable def B2T {α : Type} (z : α) (l : List α) : Nat → α := List.rec (motive := fun _ => Nat → α) (fun _ => z) (fun a _ ih d => Nat.rec (motive := fun _ => α) a (fun d _ => ih d) d) l
theorem B6y {α : Type} (z a : α) (l : List α) : B2T z (a :: l) 0 = a := rfl
theorem B6z {α : Type} (z a : α) (l : List α) (d : Nat) : B2T z (a :: l) (d + 1) = B2T z l d := rfl
noncomputable def C0J {β : Type} (P : Pt) (k : List Pt → Pt → β) (m : Nat) : List Pt → Nat → Nat → Nat → Nat → β :=
  Nat.rec (motive := fun _ => List Pt → Nat → Nat → Nat → Nat → β) (fun l X Y Z T => k l ⟨X, Y, Z, T⟩)
    (fun _ ih l X Y Z T => B1S X Y Z T P.X P.Y P.Z P.T fun X' Y' Z' T' => ih (⟨X, Y, Z, T⟩ :: l) X' Y' Z' T') m
structure RowOk (Q : Fin p25 × Fin p25) (b n : Nat) (l : List Pt) : Prop where
  at_ : ∀ d, d < n → PR (B2T pO l (n - 1 - d)) (FF.nsm (b + d) Q)
theorem RowOk.snoc {Q : Fin p25 × Fin p25} {b n : Nat} {l : List Pt} {c : Pt} (h : RowOk Q b n l) (hc : PR c (FF.nsm (b + n) Q)) : RowOk Q b (n + 1) (c :: l) := ⟨fun d hd => by
  by_cases e : d = n
  · subst e; rw [show d + 1 - 1 - d = 0 by omega, B6y]; exact hc
  · rw [show n + 1 - 1 - d = (n - 1 - d) + 1 by omega, B6z]; exact h.at_ d qO⟩
theorem B2U {β : Type} {P : Pt} {Q : Fin p25 × Fin p25} (hP : PR P Q) (o : On (fF dN) Q) (k : List Pt → Pt → β) (b : Nat) : ∀ (m n : Nat) (l : List Pt) (c : Pt), RowOk Q b n l → PR c (FF.nsm (b + n) Q) → ∃ l' c', C0J P k m l c.X c.Y c.Z c.T = k l' c' ∧ RowOk Q b (n + m) l' ∧ PR c' (FF.nsm (b + (n + m)) Q)
  | 0, n, l, c, h, hc => ⟨l, c, rfl, h, hc⟩
  | m + 1, n, l, c, h, hc => by
    have e : C0J P k (m + 1) l c.X c.Y c.Z c.T = B1S c.X c.Y c.Z c.T P.X P.Y P.Z P.T fun X' Y' Z' T' => C0J P k m (c :: l) X' Y' Z' T' := rfl
    have hd := hc.add hP (FF.nsm_on o (b + n)) o
    rw [e, A5J, show n + (m + 1) = (n + 1) + m by omega]
    exact B2U hP o k b m (n + 1) (c :: l) (A56 d2N c P) (h.snoc hc) hd
noncomputable def B8T {β : Type} (P : Pt) (k : List (List Pt) → Pt → β) (m : Nat) : List (List Pt) → Pt → β :=
  Nat.rec (motive := fun _ => List (List Pt) → Pt → β) (fun g c => k g c) (fun _ ih g c => C0J P (fun l c' => ih (l :: g) c') 16 [] c.X c.Y c.Z c.T) m
structure GrdOk (Q : Fin p25 × Fin p25) (n : Nat) (g : List (List Pt)) : Prop where
  at_ : ∀ d, d < n → RowOk Q (16 * d) 16 (B2T [] g (n - 1 - d))
theorem GrdOk.snoc {Q : Fin p25 × Fin p25} {n : Nat} {g : List (List Pt)} {l : List Pt} (h : GrdOk Q n g) (hl : RowOk Q (16 * n) 16 l) : GrdOk Q (n + 1) (l :: g) := ⟨fun d hd => by
  by_cases e : d = n
  · subst e; rw [show d + 1 - 1 - d = 0 by omega, B6y]; exact hl
  · rw [show n + 1 - 1 - d = (n - 1 - d) + 1 by omega, B6z]; exact h.at_ d qO⟩
theorem B2V {β : Type} {P : Pt} {Q : Fin p25 × Fin p25} (hP : PR P Q) (o : On (fF dN) Q) (k : List (List Pt) → Pt → β) : ∀ (m n : Nat) (g : List (List Pt)) (c : Pt), GrdOk Q n g → PR c (FF.nsm (16 * n) Q) → ∃ g' c', B8T P k m g c = k g' c' ∧ GrdOk Q (n + m) g' ∧ PR c' (FF.nsm (16 * (n + m)) Q)
  | 0, n, g, c, h, hc => ⟨g, c, rfl, h, hc⟩
  | m + 1, n, g, c, h, hc => by
    have e : B8T P k (m + 1) g c = C0J P (fun l c' => B8T P k m (l :: g) c') 16 [] c.X c.Y c.Z c.T := rfl
    obtain ⟨l, c', h1, h2, h3⟩ := B2U hP o (fun l c' => B8T P k m (l :: g) c') (16 * n) 16 0 [] c ⟨fun d hd => absurd hd (Nat.not_lt_zero d)⟩ hc
    rw [e, h1, show n + (m + 1) = (n + 1) + m by omega]
    exact B2V hP o k m (n + 1) (l :: g) c' (h.snoc (by rwa [Nat.zero_add] at h2)) (by rwa [show 16 * (n + 1) = 16 * n + (0 + 16) by omega])
noncomputable def C0K {β : Type} (k : List (List (List Pt)) → β) (m : Nat) : List (List (List Pt)) → Pt → β :=
  Nat.rec (motive := fun _ => List (List (List Pt)) → Pt → β) (fun t _ => k t) (fun _ ih t P => B8T P (fun g P' => ih (g :: t) P') 16 [] pO) m
inductive TabOk : Nat → List (List (List Pt)) → Prop
  | nil : TabOk 0 []
  | cons {i : Nat} {g : List (List Pt)} {t : List (List (List Pt))} (h : GrdOk (FF.nsm (256 ^ i) bPt) 16 g) (r : TabOk i t) : TabOk (i + 1) (g :: t)
theorem B2W {β : Type} (k : List (List (List Pt)) → β) : ∀ (m i : Nat) (t : List (List (List Pt))) (P : Pt), TabOk i t → PR P (FF.nsm (256 ^ i) bPt) → ∃ t', C0K k m t P = k t' ∧ TabOk (i + m) t'
  | 0, i, t, P, h, hP => ⟨t, rfl, h⟩
  | m + 1, i, t, P, h, hP => by
    have e : C0K k (m + 1) t P = B8T P (fun g P' => C0K k m (g :: t) P') 16 [] pO := rfl
    obtain ⟨g, c, h1, h2, h3⟩ := B2V hP (FF.nsm_on A4i _) (fun g P' => C0K k m (g :: t) P') 16 0 [] pO ⟨fun d hd => absurd hd (Nat.not_lt_zero d)⟩ PR.o
    rw [e, h1, show i + (m + 1) = (i + 1) + m by omega]
    rw [Nat.zero_add, ← FF.nsm_mul A4i] at h3
    exact B2W k m (i + 1) (g :: t) c (.cons (by rwa [Nat.zero_add] at h2) h) (by rwa [Nat.pow_succ', show 256 = 16 * 16 from rfl])
noncomputable def C0L {β : Type} (n : Nat) (k : Nat → Nat → Nat → Nat → β) (m : Nat) : List (List (List Pt)) → Nat → Nat → Nat → Nat → β :=
  Nat.rec (motive := fun _ => List (List (List Pt)) → Nat → Nat → Nat → Nat → β) (fun _ X Y Z T => k X Y Z T)
    (fun i ih t X Y Z T => List.rec (motive := fun _ => β) (k 0 0 0 0) (fun g rest _ => Pt.rec (motive := fun _ => β) (fun X2 Y2 Z2 T2 => B1S X Y Z T X2 Y2 Z2 T2 fun X' Y' Z' T' => ih rest X' Y' Z' T')
      (B2T pO (B2T [] g (Nat.sub 15 (Nat.mod (Nat.shiftRight n (Nat.add (Nat.mul 8 i) 4)) 16))) (Nat.sub 15 (Nat.mod (Nat.shiftRight n (Nat.mul 8 i)) 16)))) t) m
theorem C2h (n m : Nat) : Nat.mod (Nat.shiftRight n (Nat.mul 8 m)) 16 = n / 256 ^ m % 256 % 16 ∧ Nat.mod (Nat.shiftRight n (Nat.add (Nat.mul 8 m) 4)) 16 = n / 256 ^ m % 256 / 16 := by
  constructor
  · show n >>> (8 * m) % 16 = _
    rw [Nat.shiftRight_eq_div_pow, Nat.pow_mul, show 2 ^ 8 = 256 from rfl]
    omega
  · show n >>> (8 * m + 4) % 16 = _
    rw [Nat.shiftRight_add, Nat.shiftRight_eq_div_pow _ (8 * m), Nat.pow_mul, show 2 ^ 8 = 256 from rfl, Nat.shiftRight_eq_div_pow]
    omega
theorem B2X {β : Type} (n : Nat) (k : Nat → Nat → Nat → Nat → β) : ∀ (m : Nat) (t : List (List (List Pt))) (c : Pt) (s : Nat), TabOk m t → PR c (FF.nsm s bPt) → ∃ c' : Pt, C0L n k m t c.X c.Y c.Z c.T = k c'.X c'.Y c'.Z c'.T ∧ PR c' (FF.nsm (s + n % 256 ^ m) bPt)
  | 0, t, c, s, h, hc => ⟨c, rfl, by rwa [Nat.pow_zero, Nat.mod_one, Nat.add_zero]⟩
  | m + 1, _, c, s, .cons (g := g) (t := t) h r, hc => by
    obtain ⟨d1, d2⟩ := C2h n m
    have hp := (h.at_ (n / 256 ^ m % 256 / 16) qO).at_ (n / 256 ^ m % 256 % 16) qO
    rw [show 16 * (n / 256 ^ m % 256 / 16) + n / 256 ^ m % 256 % 16 = n / 256 ^ m % 256 by omega] at hp
    have e : C0L n k (m + 1) (g :: t) c.X c.Y c.Z c.T = (fun p : Pt => B1S c.X c.Y c.Z c.T p.X p.Y p.Z p.T fun X' Y' Z' T' => C0L n k m t X' Y' Z' T') (B2T pO (B2T [] g (15 - Nat.mod (Nat.shiftRight n (Nat.add (Nat.mul 8 m) 4)) 16)) (15 - Nat.mod (Nat.shiftRight n (Nat.mul 8 m)) 16)) := rfl
    rw [e, d1, d2]
    dsimp only
    change PR (B2T pO (B2T [] g (15 - n / 256 ^ m % 256 / 16)) (15 - n / 256 ^ m % 256 % 16)) _ at hp
    rw [A5J]
    have hq := hc.add hp (FF.nsm_on A4i _) (FF.nsm_on (FF.nsm_on A4i _) _)
    rw [← FF.nsm_mul A4i, ← FF.nsm_add A4i] at hq
    obtain ⟨c', h1, h2⟩ := B2X n k m t _ _ r hq
    refine ⟨c', h1, ?_⟩
    rwa [Nat.pow_succ, Nat.mod_mul, Nat.mul_comm (256 ^ m), ← Nat.add_assoc, Nat.add_right_comm]
theorem A2O (x : Nat) (r : LN) : bv (A7h x ++ r) = swp x + 4294967296 * bv r := by
  show x >>> 24 % 256 + 256 * (x >>> 16 % 256 + 256 * (x >>> 8 % 256 + 256 * (x % 256 + 256 * bv r))) = _
  unfold swp
  omega
theorem B6A (T : S8) (i : Nat) : dgF T i = bv (B5o T i).bytes := by
  obtain ⟨a, b, c, d, e, f, g, h⟩ := T
  have k : bv (B5o ⟨a, b, c, d, e, f, g, h⟩ i).bytes = bv (A7h (a >>> (64 * i) % 18446744073709551616) ++ (A7h (b >>> (64 * i) % 18446744073709551616) ++ (A7h (c >>> (64 * i) % 18446744073709551616) ++ (A7h (d >>> (64 * i) % 18446744073709551616) ++ (A7h (e >>> (64 * i) % 18446744073709551616) ++ (A7h (f >>> (64 * i) % 18446744073709551616) ++ (A7h (g >>> (64 * i) % 18446744073709551616) ++ (A7h (h >>> (64 * i) % 18446744073709551616) ++ [])))))))) := rfl
  rw [k, A2O, A2O, A2O, A2O, A2O, A2O, A2O, A2O]
  unfold dgF
  simp only [G9, S8.list]
  rfl
noncomputable def B3f (y n : Nat) (t : List (List (List Pt))) : Bool := C0L n (fun _ Y Z _ => !Nat.beq Y (kM y Z)) 32 t 0 1 1 0
theorem B8G {y n x : Nat} {t : List (List (List Pt))} (hy : y < p25) (hn : n < 256 ^ 32) (ht : TabOk 32 t) (h : B3f y n t = true) : (fF x, fF y) ≠ FF.nsm n bPt := fun e => by
  unfold B3f at h
  obtain ⟨c, h1, h2⟩ := B2X n (fun _ Y Z _ => !Nat.beq Y (kM y Z)) 32 t pO 0 ht PR.o
  rw [show C0L n (fun _ Y Z _ => !Nat.beq Y (kM y Z)) 32 t 0 1 1 0 = _ from h1, Nat.zero_add, Nat.mod_eq_of_lt hn] at *
  rw [← e] at h2
  have h3 : c.Y = kM y c.Z := A4I h2.y (Nat.mod_lt _ W3) (by
    rw [h2.rep.y]
    show fF y * fF c.Z = fF (fM y c.Z)
    rw [A0k])
  rw [h3, Nat.beq_refl] at h
  cases h
theorem C0M {S c a : Nat} (hS : S < lN) : nOf S c a < 256 ^ 32 := by
  unfold nOf
  have : lN + lN < 256 ^ 32 := by decide
  have : 0 < lN := A1u
  omega
noncomputable def C07 (q0 q1 : LN) (p : Nat) (x y : Nat → Nat) (S a : Nat) (ls : LN) (t : List (List (List Pt))) : Bool :=
  F8 (pkF (fun _ => 4294967295) 256 0) fun M => F8 (pkF (fun _ => 1) 256 0) fun O => C0I 256 M O A0V q0 p x A0M fun T0 => C0I 256 M O A0V q1 p x A0M fun T1 =>
    ls.all fun l => F8 ((dgF T0 l + 115792089237316195423570985008687907853269984665640564039457584007913129639936 * dgF T1 l) % lN) fun c => F8 (S + (lN - c * a % lN)) fun n => F8 (y l) fun y => B3f y n t
theorem S8.bytes_len (s : S8) : s.bytes.length = 32 := rfl
theorem C0N {a b : LN} (h : a.length = 32) : bv (a ++ b) = bv a + 115792089237316195423570985008687907853269984665640564039457584007913129639936 * bv b := by
  have := A6M a b
  rw [h] at this
  exact this
theorem B6B {m : LN} {p : Nat} (h : p < m.length) : p < (G6 m).length := by unfold G6; rw [List.length_append]; omega
theorem B2Y {m0 m1 : LN} {p : Nat} {x y : Nat → Nat} {S a : Nat} {ls : LN} {t : List (List (List Pt))} (b0 : ∀ x ∈ G6 m0, x < 256) (b1 : ∀ x ∈ G6 m1, x < 256) (hx : ∀ l, x l < 256) (p0 : p < m0.length) (p1 : p < m1.length) (l0 : (G6 m0).length / 64 = 3) (l1 : (G6 m1).length / 64 = 3)
    (h : C07 (G6 m0) (G6 m1) p x y S a ls t = true) : ∀ l ∈ ls, l < 256 → B3f (y l) (nOf S (bv (U1 (m0.set p (x l)) ++ U1 (m1.set p (x l))) % lN) a) t = true := fun l hl h256 => by
  unfold C07 at h
  rw [G9, G9, B8E, B8E] at h
  obtain ⟨T0, e0, i0⟩ := B2S (K := 256) (ks := A0V) (p := p) (x := x) qD A7r (B6B p0) b0 hx A1S (fun T0 => C0I 256 (mK 256) (oK 256) A0V (G6 m1) p x A0M fun T1 =>
    ls.all fun l => F8 ((dgF T0 l + 115792089237316195423570985008687907853269984665640564039457584007913129639936 * dgF T1 l) % lN) fun c => F8 (S + (lN - c * a % lN)) fun n => F8 (y l) fun y => B3f y n t)
  obtain ⟨T1, e1, i1⟩ := B2S (K := 256) (ks := A0V) (p := p) (x := x) qD A7r (B6B p1) b1 hx A1S (fun T1 =>
    ls.all fun l => F8 ((dgF T0 l + 115792089237316195423570985008687907853269984665640564039457584007913129639936 * dgF T1 l) % lN) fun c => F8 (S + (lN - c * a % lN)) fun n => F8 (y l) fun y => B3f y n t)
  unfold mK oK at e0 e1
  rw [e0, e1] at h
  have h2 := List.all_eq_true.1 h l hl
  rw [G9, G9, G9, B6A, B6A, i0.lane h256, i1.lane h256, ← C0N (S8.bytes_len _), ← A9m p0 l0, ← A9m p1 l1] at h2
  exact h2
noncomputable def B6C (l : LN) (f : Nat → List (List (List Pt)) → Bool) : Bool := C0K (fun t => l.all fun i => f i t) 32 [] pS
theorem A52 {l : LN} {f : Nat → List (List (List Pt)) → Bool} (h : B6C l f = true) : ∃ t, TabOk 32 t ∧ ∀ i ∈ l, f i t = true := by
  unfold B6C at h
  obtain ⟨t, h1, h2⟩ := B2W (fun t => l.all fun i => f i t) 32 0 [] pS .nil (by rw [Nat.pow_zero, show FF.nsm 1 bPt = FF.add ((0 : Fin p25), (1 : Fin p25)) bPt from rfl, FF.add_comm, FF.add_o]; exact PR.s)
  rw [h1] at h
  exact ⟨t, h2, List.all_eq_true.1 h⟩
theorem B8H {p msg sig : LN} {A : Pt} {a : Nat} {t : List (List (List Pt))} (hp : P8 p = some A) (hA : PR A (FF.nsm a bPt)) (ht : TabOk 32 t) (h : B3f (rdN (sig.take 32)) (nOf (bv (sig.drop 32) % lN) (A1N (sig.take 32) p msg) a) t = true) : A2U p msg sig = false := by
  rw [← Bool.not_eq_true]
  intro hc
  obtain ⟨x, o, e⟩ := B2L hp hA hc
  exact B8G (x := x) (B6u _) (C0M (Nat.mod_lt _ A1u)) ht h e

noncomputable def stF {α : Type} (u a b c d : Nat) (k : Nat → Nat → Nat → Nat → α) : α :=
  F8 (Nat.mod (Nat.add a b) 57896044618658097711785492504343953926634992332820282019728792003956564819949) fun p => F8 (Nat.mod (Nat.sub (Nat.add a 57896044618658097711785492504343953926634992332820282019728792003956564819949) b) 57896044618658097711785492504343953926634992332820282019728792003956564819949) fun q => F8 (Nat.mod (Nat.mul p p) 57896044618658097711785492504343953926634992332820282019728792003956564819949) fun ss => F8 (Nat.mod (Nat.mul q q) 57896044618658097711785492504343953926634992332820282019728792003956564819949) fun tt =>
  F8 (Nat.mod (Nat.sub (Nat.add ss 57896044618658097711785492504343953926634992332820282019728792003956564819949) tt) 57896044618658097711785492504343953926634992332820282019728792003956564819949) fun e => F8 (Nat.mod (Nat.mul (Nat.mod (Nat.sub (Nat.add c 57896044618658097711785492504343953926634992332820282019728792003956564819949) d) 57896044618658097711785492504343953926634992332820282019728792003956564819949) p) 57896044618658097711785492504343953926634992332820282019728792003956564819949) fun da => F8 (Nat.mod (Nat.mul (Nat.mod (Nat.add c d) 57896044618658097711785492504343953926634992332820282019728792003956564819949) q) 57896044618658097711785492504343953926634992332820282019728792003956564819949) fun cb =>
  F8 (Nat.mod (Nat.mul ss tt) 57896044618658097711785492504343953926634992332820282019728792003956564819949) fun x => F8 (Nat.mod (Nat.mul e (Nat.mod (Nat.add ss (Nat.mod (Nat.mul 121665 e) 57896044618658097711785492504343953926634992332820282019728792003956564819949)) 57896044618658097711785492504343953926634992332820282019728792003956564819949)) 57896044618658097711785492504343953926634992332820282019728792003956564819949) fun y => F8 (Nat.mod (Nat.add da cb) 57896044618658097711785492504343953926634992332820282019728792003956564819949) fun s => F8 (Nat.mod (Nat.sub (Nat.add da 57896044618658097711785492504343953926634992332820282019728792003956564819949) cb) 57896044618658097711785492504343953926634992332820282019728792003956564819949) fun t =>
  F8 (Nat.mod (Nat.mul s s) 57896044618658097711785492504343953926634992332820282019728792003956564819949) fun z => F8 (Nat.mod (Nat.mul u (Nat.mod (Nat.mul t t) 57896044618658097711785492504343953926634992332820282019728792003956564819949)) 57896044618658097711785492504343953926634992332820282019728792003956564819949) fun w => k x y z w
theorem C2i : p25 = 57896044618658097711785492504343953926634992332820282019728792003956564819949 := by decide +kernel
theorem C0O {α : Type} (u : Nat) (s : Lad) (k : Nat → Nat → Nat → Nat → α) : stF u s.a s.b s.c s.d k = k (A4j u s).a (A4j u s).b (A4j u s).c (A4j u s).d := by
  unfold stF A4j fM fA fS
  simp only [G9, C2i]
  rfl
noncomputable def swF {α : Type} (bt a b c d : Nat) (k : Nat → Nat → Nat → Nat → α) : α := Nat.rec (motive := fun _ => α) (k a b c d) (fun _ _ => k c d a b) bt
theorem B6D {α : Type} (x : Nat) (s : Lad) (k : Nat → Nat → Nat → Nat → α) : swF (x % 2) s.a s.b s.c s.d k = (fun t : Lad => k t.a t.b t.c t.d) (swL (decide (x % 2 = 1)) s) := by
  rcases Nat.mod_two_eq_zero_or_one x with h | h <;> rw [h] <;> rfl
noncomputable def C08 {α : Type} (u n : Nat) (K : Nat → Nat → Nat → Nat → α) (m : Nat) : Nat → Nat → Nat → Nat → α :=
  Nat.rec (motive := fun _ => Nat → Nat → Nat → Nat → α) K (fun i ih a b c d => F8 (Nat.mod (Nat.shiftRight n i) 2) fun bt => swF bt a b c d fun a b c d => stF u a b c d fun a b c d => swF bt a b c d ih) m
theorem B2Z {α : Type} (u n : Nat) (K : Nat → Nat → Nat → Nat → α) : ∀ m, m ≤ 255 → C08 u n K m (A0l u n (255 - m)).a (A0l u n (255 - m)).b (A0l u n (255 - m)).c (A0l u n (255 - m)).d = K (A0l u n 255).a (A0l u n 255).b (A0l u n 255).c (A0l u n 255).d
  | 0, _ => rfl
  | m + 1, h => by
    have ih := B2Z u n K m qO
    have hs := A60 (u := u) (n := n) (i := m) qO
    generalize A0l u n (255 - (m + 1)) = s at *
    have e : Nat.mod (Nat.shiftRight n m) 2 = n / 2 ^ m % 2 := by
      show n >>> m % 2 = _
      rw [Nat.shiftRight_eq_div_pow]
    show F8 (Nat.mod (Nat.shiftRight n m) 2) (fun bt => swF bt s.a s.b s.c s.d fun a b c d => stF u a b c d fun a b c d => swF bt a b c d (C08 u n K m)) = _
    rw [G9, e, B6D]
    dsimp only
    rw [C0O, B6D]
    dsimp only
    rw [← hs]
    exact ih
theorem A7f {x : Nat} (h : x < p25) : X3 8 32 x 255 = N9 x 32 := by
  unfold X3 N9
  apply List.map_congr_left
  intro j _
  rw [prt, Nat.mod_eq_of_lt (Nat.lt_trans h qD), Nat.pow_mul]
noncomputable def dhF (k : LN) (u v : Nat) : Bool := F8 (bv (H5 k)) fun n => C08 u n (fun a b _ _ => Nat.beq (Nat.mod (Nat.mul v b) 57896044618658097711785492504343953926634992332820282019728792003956564819949) a && (Nat.blt v 57896044618658097711785492504343953926634992332820282019728792003956564819949 && !Nat.beq (Nat.mod b 57896044618658097711785492504343953926634992332820282019728792003956564819949) 0)) 255 1 0 u 1
theorem B6E {k : LN} {u v : Nat} (h : dhF k u v = true) : (∀ p, rdN p = u → x25 k p = N9 v 32) ∧ rdN (N9 v 32) = v := by
  unfold dhF at h
  rw [G9] at h
  have e := B2Z u (bv (H5 k)) (fun a b _ _ => Nat.beq (Nat.mod (Nat.mul v b) 57896044618658097711785492504343953926634992332820282019728792003956564819949) a && (Nat.blt v 57896044618658097711785492504343953926634992332820282019728792003956564819949 && !Nat.beq (Nat.mod b 57896044618658097711785492504343953926634992332820282019728792003956564819949) 0)) 255 (Nat.le_refl _)
  rw [Nat.sub_self] at e
  rw [show C08 u (bv (H5 k)) (fun a b _ _ => Nat.beq (Nat.mod (Nat.mul v b) 57896044618658097711785492504343953926634992332820282019728792003956564819949) a && (Nat.blt v 57896044618658097711785492504343953926634992332820282019728792003956564819949 && !Nat.beq (Nat.mod b 57896044618658097711785492504343953926634992332820282019728792003956564819949) 0)) 255 1 0 u 1 = _ from e, Bool.and_eq_true, Bool.and_eq_true] at h
  obtain ⟨h1, h2, h3⟩ := h
  have a1 := Nat.eq_of_beq_eq_true h1
  have a2 := C8 h2
  have a3 : ¬ (A0l u (bv (H5 k)) 255).b % p25 = 0 := fun e => by
    rw [C2i] at e
    change (A0l u (bv (H5 k)) 255).b.mod 57896044618658097711785492504343953926634992332820282019728792003956564819949 = 0 at e
    rw [e] at h3
    cases h3
  have a4 := B6c a3
  rw [← C2i] at a1 a2
  have a5 : fM (A0l u (bv (H5 k)) 255).a (fI (A0l u (bv (H5 k)) 255).b) = v := by
    generalize (A0l u (bv (H5 k)) 255).a = a at *
    generalize (A0l u (bv (H5 k)) 255).b = b at *
    generalize fI b = c at *
    unfold fM at a4 ⊢
    rw [← a1]
    show (v * b % p25) * c % p25 = v
    rw [Nat.mod_mul_mod, Nat.mul_assoc, Nat.mul_mod, a4, Nat.mul_one, Nat.mod_mod, Nat.mod_eq_of_lt a2]
  refine ⟨fun p hp => ?_, by rw [← A7f a2]; exact rd32 a2⟩
  unfold x25
  rw [hp, a5, A7f a2]

open Go.Px Go.Ed
def sdA : LN := [97, 103, 114, 101, 101]
noncomputable def C09 (i : Nat) : LN := A1J (A1J [] sdA) (([107, 101, 121] ++ A9J i) ++ [1])
def k2L : Nat := 64136147774406265781605098454783516719227049068175772818260462724937089962125
def k9L : Nat := 6340560651549905285348202012953193541144194745531376754638579671295956057896
def kaL : Nat := 115293218532529378827916250761532590476792242174949885352625456389103768704591
def kfL : Nat := 17640984890409245988036262756745853969857007960838437220795181880810095152906
def paL : Nat := 51751602291729706956845583875837815115092016562555736050949961279202307548967
def pfL : Nat := 38748618576221799329345267297762138061535840633903841880451214950358937255910
theorem A2F : ((C09 2 = N9 k2L 32 ∧ C09 9 = N9 k9L 32) ∧ (C09 10 = N9 kaL 32 ∧ C09 15 = N9 kfL 32)) ∧ (dhF (N9 kaL 32) 9 paL = true ∧ dhF (N9 kfL 32) 9 pfL = true) := by decide +kernel
theorem C1a (x : Nat) : R5 (N9 x 32) 32 = N9 x 32 := A71 (L8 _ _)
theorem ky2 : R5 (A2R sdA 2) 32 = N9 k2L 32 := by rw [A5T, show A1J (A1J [] sdA) (([107, 101, 121] ++ A9J 2) ++ [1]) = _ from A2F.1.1.1, C1a]
theorem ky9 : R5 (A2R sdA 9) 32 = N9 k9L 32 := by rw [A5T, show A1J (A1J [] sdA) (([107, 101, 121] ++ A9J 9) ++ [1]) = _ from A2F.1.1.2, C1a]
theorem pb10 : V4 (R5 (A2R sdA 10) 32) = N9 paL 32 := by
  rw [A5T, show A1J (A1J [] sdA) (([107, 101, 121] ++ A9J 10) ++ [1]) = _ from A2F.1.2.1, C1a]
  exact (B6E A2F.2.1).1 _ (by decide +kernel)
theorem pb15 : V4 (R5 (A2R sdA 15) 32) = N9 pfL 32 := by
  rw [A5T, show A1J (A1J [] sdA) (([107, 101, 121] ++ A9J 15) ++ [1]) = _ from A2F.1.2.2, C1a]
  exact (B6E A2F.2.2).1 _ (by decide +kernel)
def a2L : Nat := 2071514048886544788337735996043748615581953364993744825131071091188136010013
def a9L : Nat := 6133161253216659921977843109533636810066801988260082555678961823611407551783
def nnL : Nat := 940911102031098960894096830355509778793294219733554517177054591551985930940
def s9L : Nat := 1677571350788935089522543881724032230544134336883776854362341988767119183821
def p2L : LN := [227, 134, 66, 129, 165, 69, 28, 193, 249, 159, 211, 61, 16, 105, 121, 167, 12, 165, 40, 192, 69, 226, 4, 10, 36, 183, 95, 0, 213, 200, 143, 67]
def p9L : LN := [247, 157, 58, 102, 243, 113, 34, 138, 196, 195, 243, 51, 177, 163, 47, 100, 187, 155, 92, 59, 24, 5, 21, 160, 85, 234, 38, 148, 17, 57, 217, 215]
def r9L : LN := [132, 234, 158, 11, 146, 6, 20, 5, 228, 14, 71, 203, 77, 244, 108, 104, 12, 46, 124, 159, 250, 239, 217, 163, 17, 11, 247, 195, 122, 26, 41, 51]
def m9L : LN := [0, 0, 0, 6, 112, 114, 101, 107, 101, 121, 0, 0, 0, 1, 0, 0, 0, 32, 39, 39, 119, 192, 82, 140, 115, 133, 225, 245, 215, 155, 80, 143, 229, 181, 228, 25, 27, 2, 166, 201, 118, 122, 7, 204, 188, 72, 111, 94, 106, 114]
theorem B5p : A0U 1 (N9 paL 32) = m9L := by decide +kernel
theorem sec2 : A5M (N9 k2L 32) = a2L := by
  unfold A5M A9y
  rw [← P6, ← P6]
  decide +kernel
theorem C2j : A5M (N9 k9L 32) = a9L := by
  unfold A5M A9y
  rw [← P6, ← P6]
  decide +kernel
theorem non9 : B1T (N9 k9L 32) m9L = nnL := by
  unfold B1T A9y
  rw [← P6, ← P6]
  decide +kernel
theorem pub2 : A2T (N9 k2L 32) = p2L := by
  unfold A2T
  rw [sec2, A6X, A5K]
  unfold pB
  rw [A5w, A2a qD]
  decide +kernel
theorem C2k : A2T (N9 k9L 32) = p9L := by
  unfold A2T
  rw [C2j, A6X, A5K]
  unfold pB
  rw [A5w, A2a qD]
  decide +kernel
theorem rB9 : rB (N9 k9L 32) m9L = r9L := by
  unfold rB
  rw [non9, A6X, A5K]
  unfold pB
  rw [A5w, A2a qD]
  decide +kernel
def c9L : Nat := 918730343702460561409731728899276712605333414154918140259998118854003133434
theorem chl9 : A1N r9L p9L m9L = c9L := by
  unfold A1N A9y
  rw [← P6, ← P6]
  decide +kernel
theorem sNv : (c9L * a9L % lN + nnL) % lN = s9L := by decide +kernel
theorem C2l {seed m r p : LN} {c a n : Nat} (h1 : rB seed m = r) (h2 : A2T seed = p) (h3 : A5M seed = a) (h4 : B1T seed m = n) (h5 : A1N r p m = c) : sN seed m = (c * a % lN + n) % lN := by
  unfold sN
  rw [h1, h2, h3, h4, h5]
theorem C0P {seed m r : LN} {s : Nat} (h1 : rB seed m = r) (h2 : sN seed m = s) : A4a seed m = r ++ N9 s 32 := by
  unfold A4a
  rw [h1, h2]
theorem sN9 : sN (N9 k9L 32) m9L = s9L := (C2l rB9 C2k C2j non9 chl9).trans sNv
theorem sig9 : A4a (N9 k9L 32) m9L = r9L ++ N9 s9L 32 := C0P rB9 sN9
theorem B6F (seed : LN) : ∃ A, P8 (A2T seed) = some A ∧ PR A (FF.nsm (A5M seed) bPt) := by
  obtain ⟨A1, A2⟩ := A84 (A5N seed)
  exact ⟨_, A5G A1 A2, PR.at⟩
def chW : LN := [99, 104, 97, 108, 108, 101, 110, 103, 101]
def txC (c : Nat) (R p m : LN) : LN := c :: (chW ++ R ++ p ++ m)
theorem B6G (R p m : LN) : A1N R p m = bv (U1 (txC 0 R p m) ++ U1 (txC 1 R p m)) % lN := rfl
theorem C0Q {c j v : Nat} {R p m : LN} (hR : R.length = 32) (hj : j < 32) : (txC c R p m).set (10 + j) v = txC c (R.set j v) p m := by
  have hc : chW.length = 9 := rfl
  unfold txC
  rw [show 10 + j = (9 + j) + 1 by omega, List.set_cons_succ, List.set_append_left _ _ (by rw [List.length_append, List.length_append, hc]; omega), List.set_append_left _ _ (by rw [List.length_append, hc]; omega), List.set_append_right _ _ (by rw [hc]; omega), hc, Nat.add_sub_cancel_left]
theorem C0R {c v : Nat} {R p m : LN} (hR : R.length = 32) (hp : p.length = 32) : (txC c R p m).set 87 v = txC c R p (m.set 13 v) := by
  have hc : chW.length = 9 := rfl
  unfold txC
  rw [List.set_cons_succ, List.set_append_right _ _ (by rw [List.length_append, List.length_append, hc]; omega), List.length_append, List.length_append, hc, hR, hp]
theorem B6H {c : Nat} {R p m : LN} (hR : R.length = 32) (hp : p.length = 32) (hm : m.length = 50) : (txC c R p m).length = 124 := by
  have hc : chW.length = 9 := rfl
  unfold txC
  rw [List.length_cons, List.length_append, List.length_append, List.length_append, hc]; omega
theorem C0S : bv (N9 s9L 32) % lN = s9L := by decide +kernel
theorem C0T {R : LN} (hR : R.length = 32) : (R ++ N9 s9L 32).take 32 = R ∧ (R ++ N9 s9L 32).drop 32 = N9 s9L 32 := ⟨by rw [List.take_append_of_le_length qO, List.take_of_length_le qO], by rw [List.drop_append, List.drop_of_length_le qO, hR, Nat.sub_self, List.drop_zero, List.nil_append]⟩
theorem A37 {R p m : LN} {a : Nat} {t : List (List (List Pt))} (hR : R.length = 32) (ht : TabOk 32 t) (hp : ∃ A, P8 p = some A ∧ PR A (FF.nsm a bPt)) (h : B3f (rdN R) (nOf s9L (A1N R p m) a) t = true) : A2U p m (R ++ N9 s9L 32) = false := by
  obtain ⟨A, h1, h2⟩ := hp
  obtain ⟨e1, e2⟩ := C0T hR
  refine B8H h1 h2 ht ?_
  rw [e1, e2, C0S]
  exact h
noncomputable def C0U (p m : LN) (a : Nat) (t : List (List (List Pt))) : Bool :=
  F8 (bv (A1I (txC 0 r9L p m) ++ A1I (txC 1 r9L p m)) % lN) fun c => F8 (nOf s9L c a) fun n => F8 (rdN r9L) fun y => B3f y n t
theorem A8d {p m : LN} {a : Nat} {t : List (List (List Pt))} (h : C0U p m a t = true) : B3f (rdN r9L) (nOf s9L (A1N r9L p m) a) t = true := by
  unfold C0U at h
  rw [G9, G9, G9, P6, P6] at h
  exact h
theorem B5q : ∃ A, P8 p9L = some A ∧ PR A (FF.nsm a9L bPt) := by
  have h := B6F (N9 k9L 32)
  rwa [C2k, C2j] at h
theorem C2m : ∃ A, P8 p2L = some A ∧ PR A (FF.nsm a2L bPt) := by
  have h := B6F (N9 k2L 32)
  rwa [pub2, sec2] at h
theorem B8I {n : Nat} (hn : n < 256) : A0U n (N9 paL 32) = m9L.set 13 n := by
  have e : ∀ n < 256, beN n 4 = [0, 0, 0, n] := by decide +kernel
  rw [← B5p]
  unfold A0U
  rw [e n hn, e 1 qD]
  rfl
noncomputable def C1b (t : List (List (List Pt))) : Bool := C0U p9L (A0U 1 (N9 pfL 32)) a9L t && (C0U p9L (A0U 256 (N9 paL 32)) a9L t && (C0U p2L m9L a2L t && C07 (G6 (txC 0 r9L p9L m9L)) (G6 (txC 1 r9L p9L m9L)) 87 (fun l => (1 + l) % 256) (fun _ => rdN r9L) s9L a9L (List.range' 1 254) t))
theorem B3a : B6C [0] (fun _ t => C1b t) = true := by decide +kernel
theorem A2P (c : Nat) (hc : c < 2) : (∀ x ∈ G6 (txC c r9L p9L m9L), x < 256) ∧ (G6 (txC c r9L p9L m9L)).length / 64 = 3 := by
  rcases (by omega : c = 0 ∨ c = 1) with rfl | rfl <;> exact ⟨by decide +kernel, by decide +kernel⟩
theorem B5r : A2U p9L (A0U 1 (N9 pfL 32)) (r9L ++ N9 s9L 32) = false := by
  obtain ⟨t, ht, h⟩ := A52 B3a
  have h := h 0 qM
  unfold C1b at h
  rw [Bool.and_eq_true] at h
  exact A37 rfl ht B5q (A8d h.1)
theorem B5s : A2U p2L m9L (r9L ++ N9 s9L 32) = false := by
  obtain ⟨t, ht, h⟩ := A52 B3a
  have h := h 0 qM
  unfold C1b at h
  rw [Bool.and_eq_true, Bool.and_eq_true, Bool.and_eq_true] at h
  exact A37 rfl ht C2m (A8d h.2.2.1)
theorem B5t {i : Nat} (h1 : 1 ≤ i) (h2 : i < 256) : A2U p9L (A0U (1 + i) (N9 paL 32)) (r9L ++ N9 s9L 32) = false := by
  obtain ⟨t, ht, h⟩ := A52 B3a
  have h := h 0 qM
  unfold C1b at h
  rw [Bool.and_eq_true, Bool.and_eq_true, Bool.and_eq_true] at h
  by_cases hi : i = 255
  · subst hi; exact A37 rfl ht B5q (A8d h.2.1)
  · refine A37 rfl ht B5q ?_
    have hl : ∀ c, (txC c r9L p9L m9L).length = 124 := fun c => B6H rfl rfl rfl
    have k := B2Y (A2P 0 qD).1 (A2P 1 qD).1 (fun l => Nat.mod_lt _ qD) (by rw [hl]; decide) (by rw [hl]; decide) (A2P 0 qD).2 (A2P 1 qD).2 h.2.2.2 i (by rw [List.mem_range'_1]; omega) h2
    rw [C0R rfl rfl, C0R rfl rfl, ← B6G, Nat.mod_eq_of_lt qO, ← B8I qO] at k
    exact k
noncomputable def B8U (j : Nat) (t : List (List (List Pt))) : Bool := C07 (G6 (txC 0 r9L p9L m9L)) (G6 (txC 1 r9L p9L m9L)) (10 + j) (fun l => (r9L.getD j 0 ^^^ l) % 256) (fun l => rdN (r9L.set j ((r9L.getD j 0 ^^^ l) % 256))) s9L a9L (List.range' 1 255) t
theorem A53 {l : LN} (h : B6C l B8U = true) : ∀ j ∈ l, j < 32 → ∀ i, 1 ≤ i → i < 256 → A2U p9L m9L ((r9L ++ N9 s9L 32).set j ((r9L ++ N9 s9L 32).getD j 0 ^^^ i)) = false := fun j hj h32 i h1 h2 => by
  obtain ⟨t, ht, h⟩ := A52 h
  have h := h j hj
  unfold B8U at h
  have hl : ∀ c, (txC c r9L p9L m9L).length = 124 := fun c => B6H rfl rfl rfl
  have hr : r9L.length = 32 := rfl
  have k := B2Y (A2P 0 qD).1 (A2P 1 qD).1 (fun l => Nat.mod_lt _ qD) (by rw [hl]; omega) (by rw [hl]; omega) (A2P 0 qD).2 (A2P 1 qD).2 h i (by rw [List.mem_range'_1]; omega) h2
  have e1 : (r9L ++ N9 s9L 32).getD j 0 = r9L.getD j 0 := by rw [List.getD_eq_getElem?_getD, List.getD_eq_getElem?_getD, List.getElem?_append_left qO]
  have e2 : r9L.getD j 0 < 256 := getD_lt qD qD
  have e3 : r9L.getD j 0 ^^^ i < 256 := Nat.xor_lt_two_pow (n := 8) e2 h2
  rw [C0Q hr h32, C0Q hr h32, ← B6G, Nat.mod_eq_of_lt e3] at k
  rw [e1, List.set_append_left _ _ qO]
  exact A37 (by rw [List.length_set]; rfl) ht B5q k

end Go.Proofs.YtoigcbkclcbmpaaGreatDoor
