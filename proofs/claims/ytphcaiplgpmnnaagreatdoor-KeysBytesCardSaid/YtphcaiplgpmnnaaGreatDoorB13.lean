/- Part 13 of the texts of this claim, one behind the other. -/
import Derived.Test.YtphcaiplgpmnnaaGreatDoorB12
import Derived.Laws.StructEq
import Derived.Laws.Cover3
set_option linter.unusedVariables false
set_option linter.unusedSimpArgs false
set_option maxRecDepth 100000
namespace Go.Proofs.YtphcaiplgpmnnaaGreatDoor
open Go.Px Go.Ed
instance : NeZero p25 := ⟨by decide⟩
theorem p25_pos : 0 < p25 := by decide
/-- A number, modulo p. -/
def fF (x : Nat) : Fin p25 := ⟨x % p25, Nat.mod_lt _ p25_pos⟩
theorem fF_val (x : Nat) : (fF x).val = x % p25 := rfl
theorem fF_A (x y : Nat) : fF (fA x y) = fF x + fF y := by
  apply Fin.ext
  rw [Fin.val_add, fF_val, fF_val, fF_val]
  unfold fA
  rw [Nat.mod_mod, Nat.add_mod]
theorem fF_M (x y : Nat) : fF (fM x y) = fF x * fF y := by
  apply Fin.ext
  rw [Fin.val_mul, fF_val, fF_val, fF_val]
  unfold fM
  rw [Nat.mod_mod, Nat.mul_mod]
theorem fF_S {x y : Nat} (hy : y < p25) : fF (fS x y) = fF x - fF y := by
  apply Fin.ext
  rw [Fin.sub_def, fF_val]
  show fS x y % p25 = (p25 - y % p25 + x % p25) % p25
  unfold fS
  rw [Nat.mod_mod, Nat.mod_eq_of_lt hy, Nat.add_mod_mod]
  congr 1; omega
theorem fF_inj {x y : Nat} (hx : x < p25) (hy : y < p25) (h : fF x = fF y) : x = y := by
  have := congrArg Fin.val h
  rwa [fF_val, fF_val, Nat.mod_eq_of_lt hx, Nat.mod_eq_of_lt hy] at this
theorem fF_zero {x : Nat} : fF x = 0 ↔ x % p25 = 0 := by
  constructor
  · intro h; exact congrArg Fin.val h
  · intro h; exact Fin.ext h
theorem fM_lt (x y : Nat) : fM x y < p25 := Nat.mod_lt _ p25_pos
theorem fI_mul {x : Nat} (h : x % p25 ≠ 0) : fM x (fI x) = 1 := by
  have h1 := fermat1 pr25 (a := x) (fun hd => h (Nat.mod_eq_zero_of_dvd hd))
  rw [fI_eq]
  unfold fM rtp
  rw [Nat.mul_mod, Nat.mod_mod, ← Nat.mul_mod, ← Nat.pow_succ']
  exact h1
theorem fF_I {x : Nat} (h : fF x ≠ 0) : fF x * fF (fI x) = 1 := by
  rw [← fF_M, fI_mul (fun h0 => h (fF_zero.2 h0))]
  rfl
/-! ### For the kernel: powers -/

def dLit : Nat := 37095705934669439343138083508754565189542113879843219016388785533085940283555
def iLit : Nat := 19681161376707505956807079304988542015446066515923890162744021073123829784752
theorem dN_val : dN = dLit := rfl
theorem d_half : dLit ^ ((p25 - 1) / 2) % p25 = p25 - 1 := by
  rw [pm_pow (by decide) 256 _ _ (by decide)]
  decide +kernel
theorem mul0F (a b : Fin p25) (h : a * b = 0) : a = 0 ∨ b = 0 := by
  have h1 := congrArg Fin.val h
  rw [Fin.val_mul] at h1
  have h2 : p25 ∣ a.val * b.val := Nat.dvd_of_mod_eq_zero h1
  rcases pr25.mul h2 with h3 | h3
  · exact .inl (Fin.ext (Nat.eq_zero_of_dvd_of_lt h3 a.isLt))
  · exact .inr (Fin.ext (Nat.eq_zero_of_dvd_of_lt h3 b.isLt))
theorem fF_of (a : Fin p25) : fF a.val = a := Fin.ext (Nat.mod_eq_of_lt a.isLt)
/-- d has no root. -/
theorem d_non (s t : Fin p25) (h : s * s = fF dN * (t * t)) : t = 0 := by
  rw [dN_val] at h
  apply Decidable.byContradiction
  intro ht
  have h1 := congrArg Fin.val h
  rw [Fin.val_mul, Fin.val_mul, Fin.val_mul, fF_val, Nat.mod_eq_of_lt (show dLit < p25 by decide)] at h1
  rw [Nat.mul_mod_mod] at h1
  have ht' : ¬ p25 ∣ t.val := fun hd => ht (Fin.ext (Nat.eq_zero_of_dvd_of_lt hd t.isLt))
  have e2 : (p25 - 1) / 2 * 2 = p25 - 1 := by decide
  have key : ∀ m : Nat, (s.val * s.val) ^ m % p25 = (dLit * (t.val * t.val)) ^ m % p25 := fun m => by
    rw [Nat.pow_mod, h1, ← Nat.pow_mod]
  have k1 := key ((p25 - 1) / 2)
  generalize hm : (p25 - 1) / 2 = m at *
  have hd := d_half
  rw [hm] at hd
  have hft := fermat1 pr25 ht'
  have q1 : ∀ x : Nat, (x * x) ^ m = x ^ (p25 - 1) := fun x => by rw [← Nat.pow_two, ← Nat.pow_mul, Nat.mul_comm 2 m, e2]
  rw [q1, Nat.mul_pow, q1, Nat.mul_mod, hd, hft, Nat.mul_one] at k1
  by_cases hs : p25 ∣ s.val
  · have : s.val = 0 := Nat.eq_zero_of_dvd_of_lt hs s.isLt
    rw [this] at h1
    have hz : p25 ∣ dLit * (t.val * t.val) := Nat.dvd_of_mod_eq_zero (by rw [← h1]; rfl)
    rcases pr25.mul hz with h3 | h3
    · exact absurd h3 (by decide)
    · rcases pr25.mul h3 with h4 | h4 <;> exact ht' h4
  · rw [fermat1 pr25 hs] at k1
    exact absurd k1 (by decide)
/-- The field of the curve. -/
noncomputable def FF : Fld p25 (fF dN) where
  inv a := fF (fI a.val)
  ii := fF iLit
  mul0 := mul0F
  one := by decide
  two := by decide
  hinv a ha := by
    have h := fF_I (x := a.val) (by rw [fF_of]; exact ha)
    rwa [fF_of] at h
  hii := by decide +kernel
  hd := d_non
/-- Four numbers that tell a point. -/
structure PR (P : Pt) (Q : Fin p25 × Fin p25) : Prop where
  rep : Rep (fF P.X) (fF P.Y) (fF P.Z) (fF P.T) Q
  x : P.X < p25
  y : P.Y < p25
  z : P.Z < p25
  t : P.T < p25
theorem d2_val : fF d2N = 2 * fF dN := by rw [← d2_eq, fF_M]; rfl
theorem PR.add {P1 P2 : Pt} {Q1 Q2 : Fin p25 × Fin p25} (h1 : PR P1 Q1) (h2 : PR P2 Q2) (o1 : On (fF dN) Q1) (o2 : On (fF dN) Q2) : PR (pAdd d2N P1 P2) (FF.add Q1 Q2) := by
  refine ⟨?_, fM_lt _ _, fM_lt _ _, fM_lt _ _, fM_lt _ _⟩
  unfold pAdd
  dsimp only
  rw [fF_M, fF_M, fF_M, fF_M]
  exact FF.rep_add o1 o2 h1.rep h2.rep (a := fF (fM (fS P1.Y P1.X) (fS P2.Y P2.X))) (b := fF (fM (fA P1.Y P1.X) (fA P2.Y P2.X))) (c := fF (fM (fM P1.T d2N) P2.T)) (z := fF (fA (fM P1.Z P2.Z) (fM P1.Z P2.Z)))
    (by rw [fF_M, fF_S h1.x, fF_S h2.x]) (by rw [fF_M, fF_A, fF_A]) (by rw [fF_M, fF_M, d2_val]) (by rw [fF_A, fF_M])
    (by rw [fF_S (fM_lt _ _)]) (by rw [fF_S (fM_lt _ _)]) (by rw [fF_A]) (by rw [fF_A])
end Go.Proofs.YtphcaiplgpmnnaaGreatDoor
/- The plain law of roots: which numbers have one. -/
namespace Go.Proofs.YtphcaiplgpmnnaaGreatDoor
open Go.Px
end Go.Proofs.YtphcaiplgpmnnaaGreatDoor
/- Plain laws of the curve: a point's bytes, and back. -/
namespace Go.Proofs.YtphcaiplgpmnnaaGreatDoor
open Go.Px Go.Ed
/-- A point's bytes, by its two numbers. -/
def encN (x y : Nat) : List Nat := if x % 2 = 1 then (prts 8 32 y 255).set 31 ((prts 8 32 y 255).getD 31 0 ||| 128) else prts 8 32 y 255
theorem pB_enc (P : Pt) : pB P = encN (fM P.X (fI P.Z)) (fM P.Y (fI P.Z)) := rfl
/-- Bytes as a point. -/
noncomputable def pRead (b : List Nat) : Option Pt := if b.length = 32 then (match atN (rdN b) (decide (128 ≤ b.getD 31 0)) with
  | some x => if pB (pAt x (rdN b)) = b then some (pAt x (rdN b)) else none
  | none => none) else none
theorem PR.at {Q : Fin p25 × Fin p25} : PR (pAt Q.1.val Q.2.val) Q := by
  refine ⟨⟨?_, ?_, ?_, ?_⟩, Q.1.isLt, Q.2.isLt, show 1 < p25 by decide, fM_lt _ _⟩
  · exact FF.one
  · show fF Q.1.val = Q.1 * fF 1
    rw [fF_of, show fF 1 = 1 from rfl]; grind
  · show fF Q.2.val = Q.2 * fF 1
    rw [fF_of, show fF 1 = 1 from rfl]; grind
  · show fF (fM Q.1.val Q.2.val) = Q.1 * Q.2 * fF 1
    rw [fF_M, fF_of, fF_of, show fF 1 = 1 from rfl]; grind
theorem PR.aff {P : Pt} {Q : Fin p25 × Fin p25} (h : PR P Q) : fM P.X (fI P.Z) = Q.1.val ∧ fM P.Y (fI P.Z) = Q.2.val := by
  have hi := fF_I h.rep.z
  have hx := h.rep.x
  have hy := h.rep.y
  constructor
  · apply fF_inj (fM_lt _ _) Q.1.isLt
    rw [fF_M, fF_of, hx]; grind
  · apply fF_inj (fM_lt _ _) Q.2.isLt
    rw [fF_M, fF_of, hy]; grind
theorem PR.bytes {P : Pt} {Q : Fin p25 × Fin p25} (h : PR P Q) : pB P = encN Q.1.val Q.2.val := by rw [pB_enc, h.aff.1, h.aff.2]
/-- Are two points one? -/
def pSame (P Q : Pt) : Bool := decide (fM P.X Q.Z = fM Q.X P.Z) && decide (fM P.Y Q.Z = fM Q.Y P.Z)
theorem PR.same {P P' : Pt} {Q : Fin p25 × Fin p25} (h : PR P Q) (h' : PR P' Q) : pSame P P' = true := by
  have hr := (FF.rep_same h.rep h'.rep).2 rfl
  unfold pSame
  rw [decide_eq_true (fF_inj (fM_lt _ _) (fM_lt _ _) (by rw [fF_M, fF_M, hr.1])), decide_eq_true (fF_inj (fM_lt _ _) (fM_lt _ _) (by rw [fF_M, fF_M, hr.2]))]
  rfl

end Go.Proofs.YtphcaiplgpmnnaaGreatDoor
/-
  SHA-256 in a form that the kernel computes fast: numbers are forced, the operations are Nat's own. Equal to sha256.
-/
namespace Go.Px
/-- The number is computed ahead of what goes on with it. -/
noncomputable def force {α : Type} (x : Nat) (f : Nat → α) : α := Nat.rec (motive := fun _ => α) (f 0) (fun n _ => f (Nat.succ n)) x
def rotF (x n m : Nat) : Nat := Nat.lor (Nat.shiftRight x n) (Nat.mod (Nat.shiftLeft x m) 4294967296)
def rF : List Nat → List Nat → S8 → S8
  | k :: ks, w :: ws, s => rF ks ws (s.step k w)
  | _, _, s => s
/-- The sum that both ends of a round take. -/
def t1F (e f g h k w : Nat) : Nat :=
  Nat.mod (Nat.add (Nat.mod (Nat.add (Nat.mod (Nat.add (Nat.mod (Nat.add h (Nat.xor (Nat.xor (rotF e 6 26) (rotF e 11 21)) (rotF e 25 7))) 4294967296) (Nat.xor (Nat.land e f) (Nat.land (Nat.xor 4294967295 e) g))) 4294967296) k) 4294967296) w) 4294967296
def aF (t a b c : Nat) : Nat :=
  Nat.mod (Nat.add (Nat.mod (Nat.add t (Nat.xor (Nat.xor (rotF a 2 30) (rotF a 13 19)) (rotF a 22 10))) 4294967296) (Nat.xor (Nat.xor (Nat.land a b) (Nat.land a c)) (Nat.land b c))) 4294967296
noncomputable def rFF (ks : List Nat) : List Nat → Nat → Nat → Nat → Nat → Nat → Nat → Nat → Nat → S8 :=
  List.rec (motive := fun _ => List Nat → Nat → Nat → Nat → Nat → Nat → Nat → Nat → Nat → S8) (fun _ a b c d e f g h => ⟨a, b, c, d, e, f, g, h⟩)
    (fun k _ ih ws => List.rec (motive := fun _ => Nat → Nat → Nat → Nat → Nat → Nat → Nat → Nat → S8) (fun a b c d e f g h => ⟨a, b, c, d, e, f, g, h⟩)
      (fun w ws _ a b c d e f g h => force (t1F e f g h k w) fun t => force (aF t a b c) fun a' => force (Nat.mod (Nat.add d t) 4294967296) fun e' => ih ws a' a b c e' e f g) ws) ks
/-- The words, the last first. -/
noncomputable def nthF : Nat → List Nat → Nat := fun n => Nat.rec (motive := fun _ => List Nat → Nat) (fun l => List.rec (motive := fun _ => Nat) 0 (fun x _ _ => x) l) (fun _ ih l => List.rec (motive := fun _ => Nat) 0 (fun _ r _ => ih r) l) n
def wnF (w16 w15 w7 w2 : Nat) : Nat :=
  Nat.mod (Nat.add (Nat.mod (Nat.add (Nat.mod (Nat.add w16 (Nat.xor (Nat.xor (rotF w15 7 25) (rotF w15 18 14)) (Nat.shiftRight w15 3))) 4294967296) w7) 4294967296) (Nat.xor (Nat.xor (rotF w2 17 15) (rotF w2 19 13)) (Nat.shiftRight w2 10))) 4294967296
noncomputable def wF (n : Nat) : List Nat → List Nat :=
  Nat.rec (motive := fun _ => List Nat → List Nat) (fun r => r) (fun _ ih r => force (wnF (nthF 15 r) (nthF 14 r) (nthF 6 r) (nthF 1 r)) fun x => ih (x :: r)) n
/-- Four bytes each as a word. -/
def wordF (a b c d : Nat) : Nat := Nat.add (Nat.mul (Nat.add (Nat.mul (Nat.add (Nat.mul a 256) b) 256) c) 256) d
noncomputable def wordsF : Nat → List Nat → List Nat → List Nat
  | 0, _, r => r
  | n + 1, a :: b :: c :: d :: p, r => force (wordF a b c d) fun x => wordsF n p (x :: r)
  | _ + 1, _, r => r
noncomputable def blkF (a b c d e f g h : Nat) (p : List Nat) (k : Nat → Nat → Nat → Nat → Nat → Nat → Nat → Nat → List Nat) : List Nat :=
  match rFF kTab (wF 48 (wordsF 16 p [])).reverse a b c d e f g h with
  | ⟨a1, b1, c1, d1, e1, f1, g1, h1⟩ =>
    force (Nat.mod (Nat.add a a1) 4294967296) fun a => force (Nat.mod (Nat.add b b1) 4294967296) fun b => force (Nat.mod (Nat.add c c1) 4294967296) fun c => force (Nat.mod (Nat.add d d1) 4294967296) fun d =>
    force (Nat.mod (Nat.add e e1) 4294967296) fun e => force (Nat.mod (Nat.add f f1) 4294967296) fun f => force (Nat.mod (Nat.add g g1) 4294967296) fun g => force (Nat.mod (Nat.add h h1) 4294967296) fun h => k a b c d e f g h
/-- So many blocks; the sum's bytes. -/
noncomputable def shaBF : Nat → Nat → Nat → Nat → Nat → Nat → Nat → Nat → Nat → List Nat → List Nat
  | 0, a, b, c, d, e, f, g, h, _ => [a, b, c, d, e, f, g, h].flatMap out4
  | n + 1, a, b, c, d, e, f, g, h, p => blkF a b c d e f g h p fun a b c d e f g h => shaBF n a b c d e f g h (p.drop 64)
noncomputable def sha256F (p : List Nat) : List Nat := shaBF ((padded p).length / 64) 1779033703 3144134277 1013904242 2773480762 1359893119 2600822924 528734635 1541459225 (padded p)
noncomputable def hmacF (key p : List Nat) : List Nat := sha256F (keyPad (if 64 < key.length then sha256F key else key) 92 ++ sha256F (keyPad (if 64 < key.length then sha256F key else key) 54 ++ p))
end Go.Px

/- The first point, and how often it is added till it is the origin: by the kernel. -/
namespace Go.Proofs.YtphcaiplgpmnnaaGreatDoor
open Go.Px Go.Ed
def bxLit : Nat := bxN
def byLit : Nat := s45
def d2Lit : Nat := d2N
def bPt : Fin p25 × Fin p25 := (fF bxLit, fF byLit)
theorem bx_val : bPt.1.val = bxLit := by decide +kernel
theorem by_val : bPt.2.val = byLit := by decide +kernel
theorem pS_val : pS = pAt bxLit byLit := rfl
theorem PR.s : PR pS bPt := by
  have h := PR.at (Q := bPt)
  rw [bx_val, by_val] at h
  rw [pS_val]; exact h
/-! ### Sums for the kernel -/
def kM (x y : Nat) : Nat := Nat.mod (Nat.mul x y) 57896044618658097711785492504343953926634992332820282019728792003956564819949
def kA (x y : Nat) : Nat := Nat.mod (Nat.add x y) 57896044618658097711785492504343953926634992332820282019728792003956564819949
def kS (x y : Nat) : Nat := Nat.mod (Nat.sub (Nat.add x 57896044618658097711785492504343953926634992332820282019728792003956564819949) y) 57896044618658097711785492504343953926634992332820282019728792003956564819949
noncomputable def addF {α : Type} (X1 Y1 Z1 T1 X2 Y2 Z2 T2 : Nat) (k : Nat → Nat → Nat → Nat → α) : α :=
  force (kM (kS Y1 X1) (kS Y2 X2)) fun a => force (kM (kA Y1 X1) (kA Y2 X2)) fun b => force (kM (kM T1 16295367250680780974490674513165176452449235426866156013048779062215315747161) T2) fun c => force (kM Z1 Z2) fun z0 => force (kA z0 z0) fun z =>
  force (kS b a) fun e => force (kS z c) fun f => force (kA z c) fun g => force (kA b a) fun h => force (kM e f) fun x => force (kM g h) fun y => force (kM f g) fun z => force (kM e h) fun t => k x y z t
noncomputable def tF (n : Nat) (P : Pt) : Nat → Nat → Nat → Nat → Nat → Pt := fun k =>
  Nat.rec (motive := fun _ => Nat → Nat → Nat → Nat → Pt) (fun X Y Z T => ⟨X, Y, Z, T⟩)
    (fun i ih X Y Z T => addF X Y Z T X Y Z T fun X Y Z T => Nat.rec (motive := fun _ => Pt) (ih X Y Z T) (fun _ _ => addF X Y Z T P.X P.Y P.Z P.T fun X Y Z T => ih X Y Z T) (Nat.mod (Nat.shiftRight n i) 2)) k
end Go.Proofs.YtphcaiplgpmnnaaGreatDoor
/- Plain laws of signatures: what is signed is, by whose that public one is. -/
namespace Go.Proofs.YtphcaiplgpmnnaaGreatDoor
open Go.Px Go.Ed
def secN (seed : List Nat) : Nat := bv (wide ([115, 101, 99, 114, 101, 116] ++ seed)) % lN
def nonN (seed msg : List Nat) : Nat := bv (wide ([110, 111, 110, 99, 101] ++ seed ++ msg)) % lN
def chlN (r p msg : List Nat) : Nat := bv (wide ([99, 104, 97, 108, 108, 101, 110, 103, 101] ++ r ++ p ++ msg)) % lN
noncomputable def pubB (seed : List Nat) : List Nat := pB (pTimes pS (secN seed))
noncomputable def rB (seed msg : List Nat) : List Nat := pB (pTimes pS (nonN seed msg))
noncomputable def sN (seed msg : List Nat) : Nat := (chlN (rB seed msg) (pubB seed) msg * secN seed % lN + nonN seed msg) % lN
noncomputable def sigB (seed msg : List Nat) : List Nat := rB seed msg ++ digs (sN seed msg) 32
def chkO (oa ob : Option Pt) (f : Pt → Pt → Bool) : Bool := match oa, ob with
  | some a, some r => f a r
  | _, _ => false
noncomputable def chkB (p msg sig : List Nat) : Bool := decide (sig.length = 64) && chkO (pRead p) (pRead (sig.take 32)) fun a r => decide (digs (bv (sig.drop 32) % lN) 32 = sig.drop 32) && pSame (pTimes pS (bv (sig.drop 32) % lN)) (pAdd d2N r (pTimes a (chlN (sig.take 32) p msg)))
theorem lN_pos : 0 < lN := by decide
theorem secN_lt (s : List Nat) : secN s < lN := Nat.mod_lt _ lN_pos
theorem nonN_lt (s m : List Nat) : nonN s m < lN := Nat.mod_lt _ lN_pos
theorem pubB_len (s : List Nat) : (pubB s).length = 32 := pB_len _
theorem rB_len (s m : List Nat) : (rB s m).length = 32 := pB_len _
theorem sigB_len (s m : List Nat) : (sigB s m).length = 64 := by simp [sigB, rB_len, digs_len]
/-! ### The example whose bit is turned -/
def kLit : Nat := 4928719331454755403606303759647346995543222500395151019611105437466400029446
def rLit : List Nat := [158, 126, 43, 192, 36, 223, 93, 133, 238, 222, 103, 118, 108, 52, 17, 7, 171, 37, 142, 21, 42, 169, 185, 35, 17, 77, 225, 83, 3, 28, 151, 170]
end Go.Proofs.YtphcaiplgpmnnaaGreatDoor
/-
  Rows of numbers that are arrays: are two one? A slice as an array.
-/
namespace Go.Px
open Go
def arrT (P : Program) (t : TypeId) : Option (Nat × IntKind) := match P.underlying t with
  | some (.array n e) => match P.underlying e with
    | some (.int k) => if sizeT P e = some 1 then some (n, k) else none
    | _ => none
  | _ => none
section
variable {P : Program} {R : Mem} {l : Env} {d : Option Nat} {ty t : TypeId} {pos : String} {af : Array Edge} {g : Option (Nat × Bool)} {x y : Operand} {k : IntKind}
end
end Go.Px

/-
  The same, where what is said of a value may name the values of operations for which it waits.
-/
namespace Go.Px
structure Gx where
  i : Nat
  d : Nat
  us : List Nat
  φ : List Value → Value → Mem → Mem → Prop
def gEnvX (G : List Gx) (vs : Nat → Value) : Env := G.map fun g => (g.d, vs g.i)
def GrowsX (φ : List Value → Value → Mem → Mem → Prop) : Prop := ∀ us v B R R', (∀ x ∈ R, x ∈ R') → φ us v B R → φ us v B R'
def toGx (G : List Gx) : List Gm := G.map fun g => ⟨g.i, g.d, fun _ _ => True⟩
section group
variable {C : Cx} {Q : XQ} {l : Env} {M J : Mem} {os : List Oper} {K : Nat → Prop} {n0 : Nat} {nd : List Nat} {plan : List (Nat × Nat)}
def OwesX (C : Cx) (os : List Oper) (l : Env) (M J : Mem) (G : List Gx) (g : Gx) : Prop :=
  ∃ o, nth os g.i = some o ∧ ∀ (vs : Nat → Value) (bs : Nat → Mem) (R : Mem) (w : World), (∀ x ∈ M ++ (J ++ C.A), x ∈ R) → (∀ g' ∈ G, anc os.toArray os.toArray.size g.i g'.i = true → g'.φ (g'.us.map vs) (vs g'.i) (bs g'.i) R) →
    Asked os (gEnvX G vs ++ l) o ∧ OpL ⟨C.P, w, [], R, C.N⟩ o (gEnvX G vs ++ l) [] [] (fun l' M' J' => ∃ v, l' = (g.d, v) :: (gEnvX G vs ++ l) ∧ g.φ (g.us.map vs) v M' (M' ++ (J' ++ R)))
end group
end Go.Px

/- The walks of package curve: Add, Same, Read; of package sign: secret, challenge, Public, Sign. -/
namespace Go.Proofs.YtphcaiplgpmnnaaGreatDoor
open Go.Px
/-- What the package variables of sha hold. -/
structure GlS (A : Mem) : Prop where
  first : ∃ e f, (0, Obj.cells (nums .u32 hFirst.list).toArray e f) ∈ A
  round : ∃ e f, (1, Obj.cells (nums .u32 kTab).toArray e f) ∈ A
theorem GlS.sub {A A' : Mem} (h : GlS A) (hs : ∀ x, x ∈ A → x ∈ A') : GlS A' := by
  obtain ⟨⟨a, b, c⟩, ⟨d, e, f⟩⟩ := h
  exact ⟨⟨a, b, hs _ c⟩, ⟨d, e, hs _ f⟩⟩
theorem GlS.up {M J A : Mem} (h : GlS A) : GlS (M ++ (J ++ A)) := h.sub fun _ h => mA h
theorem wide_len (p : List Nat) : (wide p).length = 64 := by simp [wide, sha256_len]
theorem wide_lt (p : List Nat) : ∀ x ∈ wide p, x < 256 := by
  intro x hx
  rcases List.mem_append.1 hx with h | h <;> exact sha_lt _ x h
theorem sl_by {R B : Mem} {v : Value} {w : List Nat} {n : Nat} (h : Sl 1 v n (nums .u8 w) B) (hn : n = w.length) (hlt : ∀ x ∈ w, x < 256) (hl : w.length ≤ 16777216) (hR : ∀ x, x ∈ B → x ∈ R) : By R v w := ⟨hn ▸ h.rd hR, hlt, hl⟩
theorem dg_bv {n : Nat} (h : n < lN) : bv (digs n 32) = n := by rw [bv_digs, Nat.mod_eq_of_lt (Nat.lt_trans h (by decide))]
/-- What Read answers. -/
def RdR (r : Value) (w : List Nat) : Prop := ∃ V b, r = .tuple #[V, .bool b] ∧ ((∃ P, pRead w = some P ∧ b = true ∧ FeP V P) ∨ (pRead w = none ∧ b = false ∧ FeP V pZ))
end Go.Proofs.YtphcaiplgpmnnaaGreatDoor
