/- Part 11 of the texts of this claim, one behind the other. -/
import Derived.Test.YtlilcmjbaknafaaGreatDoorB10
import Derived.Test.YtlilcmjbaknafaaGreatDoorRows
import Derived.Laws.StructEq
import Derived.Laws.Cover3
set_option linter.unusedVariables false
set_option linter.unusedSimpArgs false
set_option maxRecDepth 100000
namespace Go.Proofs.YtlilcmjbaknafaaGreatDoor
open Go.Px
def pSt (P : Pt) (n i : Nat) (Q : Pt) : Pt := if n / 2 ^ i % 2 = 1 then A8F d2N (A8F d2N Q Q) P else A8F d2N Q Q
def itr (f : Nat → Pt → Pt) (z : Pt) : Nat → Pt
  | 0 => z
  | k + 1 => f k (itr f z k)
theorem B3i (f : Nat → Pt → Pt) (z : Pt) (k : Nat) : itr f z (k + 1) = f k (itr f z k) := rfl
def pTk (P : Pt) (n : Nat) (k : Nat) : Pt := itr (fun k Q => pSt P n (255 - k) Q) pO k
theorem A7O (P : Pt) (n k : Nat) : pTk P n (k + 1) = pSt P n (255 - k) (pTk P n k) := B3i _ _ _
def A2s (P : Pt) (n : Nat) : Pt := pTk P n 256
theorem B0E {P Q : Pt} {n i : Nat} (h : n / 2 ^ i % 2 = 1) : pSt P n i Q = A8F d2N (A8F d2N Q Q) P := if_pos h
theorem B0F {P Q : Pt} {n i : Nat} (h : ¬ n / 2 ^ i % 2 = 1) : pSt P n i Q = A8F d2N Q Q := if_neg h
theorem tk1 {i : Nat} (h : i < 256) : 256 - i = (256 - (i + 1)) + 1 := by omega
theorem tk2 {i : Nat} (h : i < 256) : 255 - (256 - (i + 1)) = i := by omega
theorem tk3 {P : Pt} {n i : Nat} (h : i < 256) : pTk P n (256 - i) = pTk P n ((256 - (i + 1)) + 1) := congrArg (pTk P n) (tk1 h)
theorem tk4 {P : Pt} {n i : Nat} : pTk P n ((256 - (i + 1)) + 1) = pSt P n (255 - (256 - (i + 1))) (pTk P n (256 - (i + 1))) := A7O P n _
theorem tk5 {P : Pt} {n i : Nat} (h : i < 256) : pSt P n (255 - (256 - (i + 1))) (pTk P n (256 - (i + 1))) = pSt P n i (pTk P n (256 - (i + 1))) := congrArg (fun j => pSt P n j (pTk P n (256 - (i + 1)))) (tk2 h)
theorem B3j {P : Pt} {n i : Nat} (h : i < 256) : pTk P n (256 - i) = pSt P n i (pTk P n (256 - (i + 1))) := (tk3 h).trans (tk4.trans (tk5 h))
noncomputable def pB (P : Pt) : LN :=
  if fM P.X (fI P.Z) % 2 = 1 then (A0J 8 32 (fM P.Y (fI P.Z)) 255).set 31 ((A0J 8 32 (fM P.Y (fI P.Z)) 255).getD 31 0 ||| 128) else A0J 8 32 (fM P.Y (fI P.Z)) 255
theorem B0G {k : IntKind} {a b : LN} (h : nums k a = nums k b) : a = b := by
  unfold nums at h
  induction a generalizing b with
  | nil => cases b with
    | nil => rfl
    | cons y b => simp at h
  | cons x a ih => cases b with
    | nil => simp at h
    | cons y b =>
      simp only [List.map_cons, List.cons.injEq, Value.int.injEq, true_and] at h
      rw [ih h.2, Int.ofNat.inj h.1]

end Go.Proofs.YtlilcmjbaknafaaGreatDoor
namespace Go.Px
open Go Go.ChangeShapes Go.WideShapes Go.RowKit
section results
variable {P : Program} {fn : Func} {l : Env} {R : Mem}
theorem B9M {t0 t1 t2 t3 b0 b1 b2 b3 n : Nat} {ty : TypeId} {c0 c1 c2 c3 : List Value} {e0 e1 e2 e3 : TypeId} {f0 f1 f2 f3 : Nat × Nat} (h : fn.results = #[.cell t0 ty, .cell t1 ty, .cell t2 ty, .cell t3 ty])
    (h0 : lk l t0 = some (.pointer (some ⟨b0, 0, none⟩))) (h1 : lk l t1 = some (.pointer (some ⟨b1, 0, none⟩))) (h2 : lk l t2 = some (.pointer (some ⟨b2, 0, none⟩))) (h3 : lk l t3 = some (.pointer (some ⟨b3, 0, none⟩))) (ht : A6w P ty = some n)
    (m0 : (b0, Obj.cells c0.toArray e0 f0) ∈ R) (m1 : (b1, Obj.cells c1.toArray e1 f1) ∈ R) (m2 : (b2, Obj.cells c2.toArray e2 f2) ∈ R) (m3 : (b3, Obj.cells c3.toArray e3 f3) ∈ R) (n0 : c0.length = n) (n1 : c1.length = n) (n2 : c2.length = n) (n3 : c3.length = n) : Res P fn l R (.tuple #[.agg c0.toArray, .agg c1.toArray, .agg c2.toArray, .agg c3.toArray]) := fun N a w ha hw => by
  obtain ⟨dsc, g1, g2, g3⟩ := V9 ht
  have hk : ∀ (b : Nat) (cs : List Value) (e : TypeId) (fr : Nat × Nat), (b, Obj.cells cs.toArray e fr) ∈ R → cs.length = n → _ := fun b cs e fr hb hn => run_loadVar_row (P := P) w b e ty cs.toArray fr dsc (hw b _ hb) g1 (by cases dsc <;> simp_all [TypeDesc.isRow]) (by rw [g3, ← hn]; simp)
  have k0 := hk _ _ _ _ m0 n0
  have k1 := hk _ _ _ _ m1 n1
  have k2 := hk _ _ _ _ m2 n2
  have k3 := hk _ _ _ _ m3 n3
  simp [results, h, ha.slot t0 _ h0, ha.slot t1 _ h1, ha.slot t2 _ h2, ha.slot t3 _ h3, asAddr, k0, k1, k2, k3]
end results
end Go.Px

namespace Go.Px
def B3k (x n : Nat) : List Nat := (List.range n).map fun i => x / 256 ^ i % 256
theorem B3l (x n : Nat) : (B3k x n).length = n := by simp [B3k]
def wrds (x n : Nat) : List Nat := (List.range n).map fun i => x / xp i % 4294967296
end Go.Px

namespace Go.Proofs.YtlilcmjbaknafaaGreatDoor
open Go.Px
def ordW : LN := [1559614445, 1477600026, 2734136534, 350157278, 0, 0, 0, 268435456]
def lN : Nat := 7237005577332262213973186563042994240857116359379907606001950938285454250989
def Sc (v : Value) (n : Nat) : Prop := ∃ ws, v = .agg (nums .u32 ws).toArray ∧ ws.length = 8 ∧ w32 ws ∧ nv ws = n
def tmN (X Y i : Nat) : Nat := X / 2 ^ i * Y % lN
end Go.Proofs.YtlilcmjbaknafaaGreatDoor
set_option maxRecDepth 10000
namespace Go.Ed
variable {n : Nat} [NeZero n]
theorem B9N (x1 y1 x2 y2 x3 y3 d : Fin n) (h1 : y1*y1 - x1*x1 = 1 + d*x1*x1*y1*y1) (h2 : y2*y2 - x2*x2 = 1 + d*x2*x2*y2*y2) (h3 : y3*y3 - x3*x3 = 1 + d*x3*x3*y3*y3) :
    ((x1*y2+x2*y1)*(1-d*x1*x2*y1*y2)*y3 + (y1*y2+x1*x2)*(1+d*x1*x2*y1*y2)*x3) * ((1-d*x2*x3*y2*y3)*(1+d*x2*x3*y2*y3) + d*x1*y1*(x2*y3+x3*y2)*(y2*y3+x2*x3))
    = (x1*(y2*y3+x2*x3)*(1+d*x2*x3*y2*y3) + y1*(x2*y3+x3*y2)*(1-d*x2*x3*y2*y3)) * ((1-d*x1*x2*y1*y2)*(1+d*x1*x2*y1*y2) + d*(x1*y2+x2*y1)*(y1*y2+x1*x2)*x3*y3) := by
  have e1 : y1*y1 - x1*x1 - (1 + d*x1*x1*y1*y1) = 0 := by grind
  have e2 : y2*y2 - x2*x2 - (1 + d*x2*x2*y2*y2) = 0 := by grind
  have e3 : y3*y3 - x3*x3 - (1 + d*x3*x3*y3*y3) = 0 := by grind
  have e : ((x1*y2+x2*y1)*(1-d*x1*x2*y1*y2)*y3 + (y1*y2+x1*x2)*(1+d*x1*x2*y1*y2)*x3) * ((1-d*x2*x3*y2*y3)*(1+d*x2*x3*y2*y3) + d*x1*y1*(x2*y3+x3*y2)*(y2*y3+x2*x3))
    - (x1*(y2*y3+x2*x3)*(1+d*x2*x3*y2*y3) + y1*(x2*y3+x3*y2)*(1-d*x2*x3*y2*y3)) * ((1-d*x1*x2*y1*y2)*(1+d*x1*x2*y1*y2) + d*(x1*y2+x2*y1)*(y1*y2+x1*x2)*x3*y3)
    = (y1*x2*x2*x2*y2*y2*y2*y2*x3*x3*y3*d*d + y1*x2*x2*x2*x2*y2*y2*y2*x3*y3*y3*d*d - x1*x2*x2*x2*y2*y2*y2*y2*x3*y3*y3*d*d - x1*x2*x2*x2*x2*y2*y2*y2*x3*x3*y3*d*d - y1*x2*y2*y2*y2*y2*x3*x3*y3*d - y1*x2*x2*y2*y2*y2*x3*x3*x3*d + y1*x2*x2*x2*y2*y2*y3*y3*y3*d + y1*x2*x2*x2*x2*y2*x3*y3*y3*d + x1*x2*y2*y2*y2*y2*x3*y3*y3*d + x1*x2*x2*y2*y2*y2*y3*y3*y3*d - x1*x2*x2*x2*y2*y2*x3*x3*x3*d - x1*x2*x2*x2*x2*y2*x3*x3*y3*d - y1*x2*x2*y2*y2*y2*x3*d - y1*x2*x2*x2*y2*y2*y3*d - x1*x2*x2*y2*y2*y2*y3*d - x1*x2*x2*x2*y2*y2*x3*d) * (y1*y1 - x1*x1 - (1 + d*x1*x1*y1*y1)) + (x1*y1*y1*x2*y2*y2*x3*x3*x3*y3*y3*d*d - x1*y1*y1*x2*x2*y2*x3*x3*y3*y3*y3*d*d - x1*x1*y1*x2*y2*y2*x3*x3*y3*y3*y3*d*d + x1*x1*y1*x2*x2*y2*x3*x3*x3*y3*y3*d*d - y1*y1*y1*y2*x3*x3*x3*y3*y3*d - y1*y1*y1*x2*x3*x3*y3*y3*y3*d + y1*y1*y1*x2*y2*y2*x3*x3*y3*d + y1*y1*y1*x2*x2*y2*x3*y3*y3*d - x1*y1*y1*y2*x3*x3*y3*y3*y3*d - x1*y1*y1*x2*x3*x3*x3*y3*y3*d - x1*y1*y1*x2*y2*y2*x3*y3*y3*d - x1*y1*y1*x2*x2*y2*x3*x3*y3*d + x1*x1*y1*y2*x3*x3*x3*y3*y3*d + x1*x1*y1*x2*x3*x3*y3*y3*y3*d - x1*x1*y1*x2*y2*y2*x3*x3*y3*d - x1*x1*y1*x2*x2*y2*x3*y3*y3*d + x1*x1*x1*y2*x3*x3*y3*y3*y3*d + x1*x1*x1*x2*x3*x3*x3*y3*y3*d + x1*x1*x1*x2*y2*y2*x3*y3*y3*d + x1*x1*x1*x2*x2*y2*x3*x3*y3*d + y1*y2*x3*x3*x3*y3*y3*d + y1*x2*x3*x3*y3*y3*y3*d - y1*x2*y2*y2*x3*x3*y3*d - y1*x2*x2*y2*x3*y3*y3*d + x1*y2*x3*x3*y3*y3*y3*d + x1*x2*x3*x3*x3*y3*y3*d + x1*x2*y2*y2*x3*y3*y3*d + x1*x2*x2*y2*x3*x3*y3*d + y1*y1*y1*y2*x3*y3*y3 - y1*y1*y1*y2*x3*x3*x3 + y1*y1*y1*x2*y3*y3*y3 - y1*y1*y1*x2*x3*x3*y3 + x1*y1*y1*y2*y3*y3*y3 - x1*y1*y1*y2*x3*x3*y3 + x1*y1*y1*x2*x3*y3*y3 - x1*y1*y1*x2*x3*x3*x3 - x1*x1*y1*y2*x3*y3*y3 + x1*x1*y1*y2*x3*x3*x3 - x1*x1*y1*x2*y3*y3*y3 + x1*x1*y1*x2*x3*x3*y3 - x1*x1*x1*y2*y3*y3*y3 + x1*x1*x1*y2*x3*x3*y3 - x1*x1*x1*x2*x3*y3*y3 + x1*x1*x1*x2*x3*x3*x3 - y1*y2*x3*y3*y3 + y1*y2*x3*x3*x3 - y1*x2*y3*y3*y3 + y1*x2*x3*x3*y3 - y1*y1*y1*y2*x3 - y1*y1*y1*x2*y3 - x1*y2*y3*y3*y3 + x1*y2*x3*x3*y3 - x1*x2*x3*y3*y3 + x1*x2*x3*x3*x3 - x1*y1*y1*y2*y3 - x1*y1*y1*x2*x3 + x1*x1*y1*y2*x3 + x1*x1*y1*x2*y3 + x1*x1*x1*y2*y3 + x1*x1*x1*x2*x3 + y1*y2*x3 + y1*x2*y3 + x1*y2*y3 + x1*x2*x3) * (y2*y2 - x2*x2 - (1 + d*x2*x2*y2*y2)) + (-x1*y1*y1*x2*y2*y2*x3*d + x1*y1*y1*x2*x2*y2*y3*d + x1*x1*y1*x2*y2*y2*y3*d - x1*x1*y1*x2*x2*y2*x3*d - y1*y1*y1*y2*y2*y2*x3 - y1*y1*y1*x2*y2*y2*y3 + y1*y1*y1*x2*x2*y2*x3 + y1*y1*y1*x2*x2*x2*y3 - x1*y1*y1*y2*y2*y2*y3 - x1*y1*y1*x2*y2*y2*x3 + x1*y1*y1*x2*x2*y2*y3 + x1*y1*y1*x2*x2*x2*x3 + x1*x1*y1*y2*y2*y2*x3 + x1*x1*y1*x2*y2*y2*y3 - x1*x1*y1*x2*x2*y2*x3 - x1*x1*y1*x2*x2*x2*y3 + x1*x1*x1*y2*y2*y2*y3 + x1*x1*x1*x2*y2*y2*x3 - x1*x1*x1*x2*x2*y2*y3 - x1*x1*x1*x2*x2*x2*x3 + y1*y2*y2*y2*x3 + y1*x2*y2*y2*y3 - y1*x2*x2*y2*x3 - y1*x2*x2*x2*y3 + y1*y1*y1*y2*x3 + y1*y1*y1*x2*y3 + x1*y2*y2*y2*y3 + x1*x2*y2*y2*x3 - x1*x2*x2*y2*y3 - x1*x2*x2*x2*x3 + x1*y1*y1*y2*y3 + x1*y1*y1*x2*x3 - x1*x1*y1*y2*x3 - x1*x1*y1*x2*y3 - x1*x1*x1*y2*y3 - x1*x1*x1*x2*x3 - y1*y2*x3 - y1*x2*y3 - x1*y2*y3 - x1*x2*x3) * (y3*y3 - x3*x3 - (1 + d*x3*x3*y3*y3)) := by
    clear h1 h2 h3 e1 e2 e3
    grind
  rw [e1, e2, e3] at e
  clear h1 h2 h3 e1 e2 e3
  grind
theorem B9O (x1 y1 x2 y2 x3 y3 d : Fin n) (h1 : y1*y1 - x1*x1 = 1 + d*x1*x1*y1*y1) (h2 : y2*y2 - x2*x2 = 1 + d*x2*x2*y2*y2) (h3 : y3*y3 - x3*x3 = 1 + d*x3*x3*y3*y3) :
    ((y1*y2+x1*x2)*(1+d*x1*x2*y1*y2)*y3 + (x1*y2+x2*y1)*(1-d*x1*x2*y1*y2)*x3) * ((1-d*x2*x3*y2*y3)*(1+d*x2*x3*y2*y3) - d*x1*y1*(x2*y3+x3*y2)*(y2*y3+x2*x3))
    = (y1*(y2*y3+x2*x3)*(1+d*x2*x3*y2*y3) + x1*(x2*y3+x3*y2)*(1-d*x2*x3*y2*y3)) * ((1-d*x1*x2*y1*y2)*(1+d*x1*x2*y1*y2) - d*(x1*y2+x2*y1)*(y1*y2+x1*x2)*x3*y3) := by
  have e1 : y1*y1 - x1*x1 - (1 + d*x1*x1*y1*y1) = 0 := by grind
  have e2 : y2*y2 - x2*x2 - (1 + d*x2*x2*y2*y2) = 0 := by grind
  have e3 : y3*y3 - x3*x3 - (1 + d*x3*x3*y3*y3) = 0 := by grind
  have e : ((y1*y2+x1*x2)*(1+d*x1*x2*y1*y2)*y3 + (x1*y2+x2*y1)*(1-d*x1*x2*y1*y2)*x3) * ((1-d*x2*x3*y2*y3)*(1+d*x2*x3*y2*y3) - d*x1*y1*(x2*y3+x3*y2)*(y2*y3+x2*x3))
    - (y1*(y2*y3+x2*x3)*(1+d*x2*x3*y2*y3) + x1*(x2*y3+x3*y2)*(1-d*x2*x3*y2*y3)) * ((1-d*x1*x2*y1*y2)*(1+d*x1*x2*y1*y2) - d*(x1*y2+x2*y1)*(y1*y2+x1*x2)*x3*y3)
    = (-y1*x2*x2*x2*y2*y2*y2*y2*x3*y3*y3*d*d - y1*x2*x2*x2*x2*y2*y2*y2*x3*x3*y3*d*d + x1*x2*x2*x2*y2*y2*y2*y2*x3*x3*y3*d*d + x1*x2*x2*x2*x2*y2*y2*y2*x3*y3*y3*d*d + y1*x2*y2*y2*y2*y2*x3*y3*y3*d + y1*x2*x2*y2*y2*y2*y3*y3*y3*d - y1*x2*x2*x2*y2*y2*x3*x3*x3*d - y1*x2*x2*x2*x2*y2*x3*x3*y3*d - x1*x2*y2*y2*y2*y2*x3*x3*y3*d - x1*x2*x2*y2*y2*y2*x3*x3*x3*d + x1*x2*x2*x2*y2*y2*y3*y3*y3*d + x1*x2*x2*x2*x2*y2*x3*y3*y3*d - y1*x2*x2*y2*y2*y2*y3*d - y1*x2*x2*x2*y2*y2*x3*d - x1*x2*x2*y2*y2*y2*x3*d - x1*x2*x2*x2*y2*y2*y3*d) * (y1*y1 - x1*x1 - (1 + d*x1*x1*y1*y1)) + (x1*y1*y1*x2*y2*y2*x3*x3*y3*y3*y3*d*d - x1*y1*y1*x2*x2*y2*x3*x3*x3*y3*y3*d*d - x1*x1*y1*x2*y2*y2*x3*x3*x3*y3*y3*d*d + x1*x1*y1*x2*x2*y2*x3*x3*y3*y3*y3*d*d - y1*y1*y1*y2*x3*x3*y3*y3*y3*d - y1*y1*y1*x2*x3*x3*x3*y3*y3*d - y1*y1*y1*x2*y2*y2*x3*y3*y3*d - y1*y1*y1*x2*x2*y2*x3*x3*y3*d - x1*y1*y1*y2*x3*x3*x3*y3*y3*d - x1*y1*y1*x2*x3*x3*y3*y3*y3*d + x1*y1*y1*x2*y2*y2*x3*x3*y3*d + x1*y1*y1*x2*x2*y2*x3*y3*y3*d + x1*x1*y1*y2*x3*x3*y3*y3*y3*d + x1*x1*y1*x2*x3*x3*x3*y3*y3*d + x1*x1*y1*x2*y2*y2*x3*y3*y3*d + x1*x1*y1*x2*x2*y2*x3*x3*y3*d + x1*x1*x1*y2*x3*x3*x3*y3*y3*d + x1*x1*x1*x2*x3*x3*y3*y3*y3*d - x1*x1*x1*x2*y2*y2*x3*x3*y3*d - x1*x1*x1*x2*x2*y2*x3*y3*y3*d + y1*y2*x3*x3*y3*y3*y3*d + y1*x2*x3*x3*x3*y3*y3*d + y1*x2*y2*y2*x3*y3*y3*d + y1*x2*x2*y2*x3*x3*y3*d + x1*y2*x3*x3*x3*y3*y3*d + x1*x2*x3*x3*y3*y3*y3*d - x1*x2*y2*y2*x3*x3*y3*d - x1*x2*x2*y2*x3*y3*y3*d + y1*y1*y1*y2*y3*y3*y3 - y1*y1*y1*y2*x3*x3*y3 + y1*y1*y1*x2*x3*y3*y3 - y1*y1*y1*x2*x3*x3*x3 + x1*y1*y1*y2*x3*y3*y3 - x1*y1*y1*y2*x3*x3*x3 + x1*y1*y1*x2*y3*y3*y3 - x1*y1*y1*x2*x3*x3*y3 - x1*x1*y1*y2*y3*y3*y3 + x1*x1*y1*y2*x3*x3*y3 - x1*x1*y1*x2*x3*y3*y3 + x1*x1*y1*x2*x3*x3*x3 - x1*x1*x1*y2*x3*y3*y3 + x1*x1*x1*y2*x3*x3*x3 - x1*x1*x1*x2*y3*y3*y3 + x1*x1*x1*x2*x3*x3*y3 - y1*y2*y3*y3*y3 + y1*y2*x3*x3*y3 - y1*x2*x3*y3*y3 + y1*x2*x3*x3*x3 - y1*y1*y1*y2*y3 - y1*y1*y1*x2*x3 - x1*y2*x3*y3*y3 + x1*y2*x3*x3*x3 - x1*x2*y3*y3*y3 + x1*x2*x3*x3*y3 - x1*y1*y1*y2*x3 - x1*y1*y1*x2*y3 + x1*x1*y1*y2*y3 + x1*x1*y1*x2*x3 + x1*x1*x1*y2*x3 + x1*x1*x1*x2*y3 + y1*y2*y3 + y1*x2*x3 + x1*y2*x3 + x1*x2*y3) * (y2*y2 - x2*x2 - (1 + d*x2*x2*y2*y2)) + (-x1*y1*y1*x2*y2*y2*y3*d + x1*y1*y1*x2*x2*y2*x3*d + x1*x1*y1*x2*y2*y2*x3*d - x1*x1*y1*x2*x2*y2*y3*d - y1*y1*y1*y2*y2*y2*y3 - y1*y1*y1*x2*y2*y2*x3 + y1*y1*y1*x2*x2*y2*y3 + y1*y1*y1*x2*x2*x2*x3 - x1*y1*y1*y2*y2*y2*x3 - x1*y1*y1*x2*y2*y2*y3 + x1*y1*y1*x2*x2*y2*x3 + x1*y1*y1*x2*x2*x2*y3 + x1*x1*y1*y2*y2*y2*y3 + x1*x1*y1*x2*y2*y2*x3 - x1*x1*y1*x2*x2*y2*y3 - x1*x1*y1*x2*x2*x2*x3 + x1*x1*x1*y2*y2*y2*x3 + x1*x1*x1*x2*y2*y2*y3 - x1*x1*x1*x2*x2*y2*x3 - x1*x1*x1*x2*x2*x2*y3 + y1*y2*y2*y2*y3 + y1*x2*y2*y2*x3 - y1*x2*x2*y2*y3 - y1*x2*x2*x2*x3 + y1*y1*y1*y2*y3 + y1*y1*y1*x2*x3 + x1*y2*y2*y2*x3 + x1*x2*y2*y2*y3 - x1*x2*x2*y2*x3 - x1*x2*x2*x2*y3 + x1*y1*y1*y2*x3 + x1*y1*y1*x2*y3 - x1*x1*y1*y2*y3 - x1*x1*y1*x2*x3 - x1*x1*x1*y2*x3 - x1*x1*x1*x2*y3 - y1*y2*y3 - y1*x2*x3 - x1*y2*x3 - x1*x2*y3) * (y3*y3 - x3*x3 - (1 + d*x3*x3*y3*y3)) := by
    clear h1 h2 h3 e1 e2 e3
    grind
  rw [e1, e2, e3] at e
  clear h1 h2 h3 e1 e2 e3
  grind
theorem B8h (x1 y1 x2 y2 d : Fin n) (h1 : y1*y1 - x1*x1 = 1 + d*x1*x1*y1*y1) (h2 : y2*y2 - x2*x2 = 1 + d*x2*x2*y2*y2) :
    (y1*y2+x1*x2)*(y1*y2+x1*x2)*(1+d*x1*x2*y1*y2)*(1+d*x1*x2*y1*y2) - (x1*y2+x2*y1)*(x1*y2+x2*y1)*(1-d*x1*x2*y1*y2)*(1-d*x1*x2*y1*y2)
    = (1-d*x1*x2*y1*y2)*(1-d*x1*x2*y1*y2)*(1+d*x1*x2*y1*y2)*(1+d*x1*x2*y1*y2) + d*(x1*y2+x2*y1)*(x1*y2+x2*y1)*(y1*y2+x1*x2)*(y1*y2+x1*x2) := by
  have e1 : y1*y1 - x1*x1 - (1 + d*x1*x1*y1*y1) = 0 := by grind
  have e2 : y2*y2 - x2*x2 - (1 + d*x2*x2*y2*y2) = 0 := by grind
  have e : (y1*y2+x1*x2)*(y1*y2+x1*x2)*(1+d*x1*x2*y1*y2)*(1+d*x1*x2*y1*y2) - (x1*y2+x2*y1)*(x1*y2+x2*y1)*(1-d*x1*x2*y1*y2)*(1-d*x1*x2*y1*y2)
    - ((1-d*x1*x2*y1*y2)*(1-d*x1*x2*y1*y2)*(1+d*x1*x2*y1*y2)*(1+d*x1*x2*y1*y2) + d*(x1*y2+x2*y1)*(x1*y2+x2*y1)*(y1*y2+x1*x2)*(y1*y2+x1*x2))
    = (x1*x1*y1*y1*x2*x2*x2*x2*y2*y2*y2*y2*d*d*d + y1*y1*x2*x2*x2*x2*y2*y2*y2*y2*d*d - x1*x1*x2*x2*x2*x2*y2*y2*y2*y2*d*d - x2*x2*x2*x2*y2*y2*y2*y2*d*d - 2*x2*x2*x2*x2*y2*y2*y2*y2*d - y1*y1*x2*x2*y2*y2*y2*y2*d + y1*y1*x2*x2*x2*x2*y2*y2*d + x1*x1*x2*x2*y2*y2*y2*y2*d - x1*x1*x2*x2*x2*x2*y2*y2*d + 2*x2*x2*y2*y2*y2*y2 - 2*x2*x2*x2*x2*y2*y2 - 2*x2*x2*y2*y2*d + y2*y2*y2*y2 - 4*x2*x2*y2*y2 + x2*x2*x2*x2) * (y1*y1 - x1*x1 - (1 + d*x1*x1*y1*y1)) + (y1*y1*y1*y1*x2*x2*y2*y2*d + x1*x1*x1*x1*x2*x2*y2*y2*d - 2*y1*y1*x2*x2*y2*y2*d + 2*x1*x1*x2*x2*y2*y2*d - 2*y1*y1*x2*x2*y2*y2 + 2*x1*x1*x2*x2*y2*y2 + x2*x2*y2*y2*d + 2*x2*x2*y2*y2 - y1*y1*y2*y2 + y1*y1*x2*x2 + x1*x1*y2*y2 - x1*x1*x2*x2 + y2*y2 - x2*x2 + 1) * (y2*y2 - x2*x2 - (1 + d*x2*x2*y2*y2)) := by
    clear h1 h2 e1 e2
    grind
  rw [e1, e2] at e
  clear h1 h2 e1 e2
  grind
structure Fld (n : Nat) [NeZero n] (d : Fin n) where
  inv : Fin n → Fin n
  ii : Fin n
  mul0 : ∀ a b : Fin n, a * b = 0 → a = 0 ∨ b = 0
  one : (1 : Fin n) ≠ 0
  two : (2 : Fin n) ≠ 0
  hinv : ∀ a : Fin n, a ≠ 0 → a * inv a = 1
  hii : ii * ii = -1
  hd : ∀ s t : Fin n, s * s = d * (t * t) → t = 0
variable {d : Fin n} (F : Fld n d)
structure On (d : Fin n) (P : Fin n × Fin n) : Prop where
  eq : P.2*P.2 - P.1*P.1 = 1 + d*P.1*P.1*P.2*P.2
include F
theorem Fld.cancel {a b c : Fin n} (ha : a ≠ 0) (h : a * b = a * c) : b = c := by
  have : a * (b - c) = 0 := by grind
  rcases F.mul0 _ _ this with h1 | h1
  · exact absurd h1 ha
  · grind
theorem Fld.mul_ne {a b : Fin n} (ha : a ≠ 0) (hb : b ≠ 0) : a * b ≠ 0 := fun h => (F.mul0 _ _ h).elim ha hb
theorem Fld.complete {P Q : Fin n × Fin n} (hP : On d P) (hQ : On d Q) : 1 + d*P.1*Q.1*P.2*Q.2 ≠ 0 ∧ 1 - d*P.1*Q.1*P.2*Q.2 ≠ 0 := by
  obtain ⟨x1, y1⟩ := P
  obtain ⟨x2, y2⟩ := Q
  have h1 := hP.eq
  have h2 := hQ.eq
  dsimp only at h1 h2 ⊢
  have hii := F.hii
  have hd := F.hd
  have key : ∀ e : Fin n, d*x1*x2*y1*y2 = e → e * e = 1 → False := by
    intro e he hee
    have he0 : e ≠ 0 := fun h => F.one (by rw [h] at hee; grind)
    generalize F.ii = i at *
    have q1 : (i*x1 + e*y1) * (i*x1 + e*y1) = d * ((x1*y1*(i*x2+y2)) * (x1*y1*(i*x2+y2))) := by
      have a1 : x2*x2 = y2*y2 - 1 - d*x2*x2*y2*y2 := by grind
      have a2 : y1*y1 - x1*x1 = 1 + d*x1*x1*y1*y1 := h1
      have a3 : (d*x1*x2*y1*y2) * (d*x1*x2*y1*y2) = 1 := by rw [he]; exact hee
      grind
    have q2 : (i*x1 - e*y1) * (i*x1 - e*y1) = d * ((x1*y1*(i*x2-y2)) * (x1*y1*(i*x2-y2))) := by
      have a3 : (d*x1*x2*y1*y2) * (d*x1*x2*y1*y2) = 1 := by rw [he]; exact hee
      grind
    have z1 := hd _ _ q1
    have z2 := hd _ _ q2
    have hx1 : x1 ≠ 0 := fun h => he0 (by rw [← he, h]; grind)
    have hy1 : y1 ≠ 0 := fun h => he0 (by rw [← he, h]; grind)
    have hx2 : x2 ≠ 0 := fun h => he0 (by rw [← he, h]; grind)
    have hxy := F.mul_ne hx1 hy1
    have w1 : i*x2+y2 = 0 := (F.mul0 _ _ z1).resolve_left hxy
    have w2 : i*x2-y2 = 0 := (F.mul0 _ _ z2).resolve_left hxy
    have w3 : 2 * (i * x2) = 0 := by grind
    have w4 : i * x2 = 0 := (F.mul0 _ _ w3).resolve_left F.two
    have w5 : i = 0 := (F.mul0 _ _ w4).resolve_right hx2
    rw [w5] at hii
    exact F.one (by grind)
  refine ⟨fun h => key (-1) (by grind) (by grind), fun h => key 1 (by grind) (by grind)⟩
omit F in
theorem On.o : On d ((0 : Fin n), (1 : Fin n)) := ⟨by grind⟩
def Fld.add (P Q : Fin n × Fin n) : Fin n × Fin n :=
  ((P.1*Q.2 + Q.1*P.2) * F.inv (1 + d*P.1*Q.1*P.2*Q.2), (P.2*Q.2 + P.1*Q.1) * F.inv (1 - d*P.1*Q.1*P.2*Q.2))
theorem Fld.add_spec {P Q : Fin n × Fin n} (hP : On d P) (hQ : On d Q) : (F.add P Q).1 * (1 + d*P.1*Q.1*P.2*Q.2) = P.1*Q.2 + Q.1*P.2 ∧ (F.add P Q).2 * (1 - d*P.1*Q.1*P.2*Q.2) = P.2*Q.2 + P.1*Q.1 := by
  obtain ⟨h1, h2⟩ := F.complete hP hQ
  have i1 := F.hinv _ h1
  have i2 := F.hinv _ h2
  unfold Fld.add
  dsimp only
  generalize F.inv (1 + d*P.1*Q.1*P.2*Q.2) = a at *
  generalize F.inv (1 - d*P.1*Q.1*P.2*Q.2) = b at *
  generalize P.1*Q.2 + Q.1*P.2 = u
  generalize P.2*Q.2 + P.1*Q.1 = v
  generalize 1 + d*P.1*Q.1*P.2*Q.2 = w at *
  generalize 1 - d*P.1*Q.1*P.2*Q.2 = z at *
  exact ⟨by grind, by grind⟩
theorem Fld.add_on {P Q : Fin n × Fin n} (hP : On d P) (hQ : On d Q) : On d (F.add P Q) := by
  obtain ⟨h1, h2⟩ := F.complete hP hQ
  obtain ⟨s1, s2⟩ := F.add_spec hP hQ
  have hs := B8h P.1 P.2 Q.1 Q.2 d hP.eq hQ.eq
  constructor
  generalize F.add P Q = R at *
  generalize 1 + d*P.1*Q.1*P.2*Q.2 = H at *
  generalize 1 - d*P.1*Q.1*P.2*Q.2 = G at *
  refine F.cancel (F.mul_ne (F.mul_ne h1 h1) (F.mul_ne h2 h2)) ?_
  rw [← s1, ← s2] at hs
  grind
theorem Fld.add_comm (P Q : Fin n × Fin n) : F.add P Q = F.add Q P := by
  unfold Fld.add
  have e1 : d*P.1*Q.1*P.2*Q.2 = d*Q.1*P.1*Q.2*P.2 := by grind
  have e2 : P.1*Q.2 + Q.1*P.2 = Q.1*P.2 + P.1*Q.2 := by grind
  have e3 : P.2*Q.2 + P.1*Q.1 = Q.2*P.2 + Q.1*P.1 := by grind
  rw [e1, e2, e3]
theorem Fld.inv1 : F.inv 1 = 1 := by
  have := F.hinv 1 F.one
  grind
theorem Fld.add_o (P : Fin n × Fin n) : F.add P ((0 : Fin n), (1 : Fin n)) = P := by
  unfold Fld.add
  have e1 : 1 + d*P.1*0*P.2*1 = 1 := by grind
  have e2 : 1 - d*P.1*0*P.2*1 = 1 := by grind
  dsimp only
  rw [e1, e2, F.inv1]
  obtain ⟨x, y⟩ := P
  dsimp only
  have e3 : (x * 1 + 0 * y) * 1 = x := by grind
  have e4 : (y * 1 + x * 0) * 1 = y := by grind
  rw [e3, e4]
theorem Fld.add_eq {P Q R : Fin n × Fin n} (hP : On d P) (hQ : On d Q) (h1 : R.1 * (1 + d*P.1*Q.1*P.2*Q.2) = P.1*Q.2 + Q.1*P.2) (h2 : R.2 * (1 - d*P.1*Q.1*P.2*Q.2) = P.2*Q.2 + P.1*Q.1) : F.add P Q = R := by
  obtain ⟨c1, c2⟩ := F.complete hP hQ
  obtain ⟨s1, s2⟩ := F.add_spec hP hQ
  refine Prod.ext (F.cancel c1 ?_) (F.cancel c2 ?_)
  · grind
  · grind
omit F in
theorem cx1 {u v u' v' x1 y1 x3 y3 G H G' H' : Fin n}
    (hx : (u * H * G * y3 + v * G * H * x3) * (G' * H' + d * x1 * y1 * (u' * H') * (v' * G')) = (x1 * (v' * G') * H' + y1 * (u' * H') * G') * (G * H + d * (u * H) * (v * G) * x3 * y3)) :
    G * H * (G' * H') * ((u*y3 + x3*v) * (1 + d*x1*u'*y1*v')) = G * H * (G' * H') * ((x1*v' + u'*y1) * (1 + d*u*x3*v*y3)) := by
  have a : G * H * (G' * H') * ((u*y3 + x3*v) * (1 + d*x1*u'*y1*v')) = (u * H * G * y3 + v * G * H * x3) * (G' * H' + d * x1 * y1 * (u' * H') * (v' * G')) := by clear hx; grind
  have b : G * H * (G' * H') * ((x1*v' + u'*y1) * (1 + d*u*x3*v*y3)) = (x1 * (v' * G') * H' + y1 * (u' * H') * G') * (G * H + d * (u * H) * (v * G) * x3 * y3) := by clear hx; grind
  rw [a, b, hx]
omit F in
theorem cy1 {u v u' v' x1 y1 x3 y3 G H G' H' : Fin n}
    (hy : (v * G * H * y3 + u * H * G * x3) * (G' * H' - d * x1 * y1 * (u' * H') * (v' * G')) = (y1 * (v' * G') * H' + x1 * (u' * H') * G') * (G * H - d * (u * H) * (v * G) * x3 * y3)) :
    G * H * (G' * H') * ((v*y3 + u*x3) * (1 - d*x1*u'*y1*v')) = G * H * (G' * H') * ((y1*v' + x1*u') * (1 - d*u*x3*v*y3)) := by
  have a : G * H * (G' * H') * ((v*y3 + u*x3) * (1 - d*x1*u'*y1*v')) = (v * G * H * y3 + u * H * G * x3) * (G' * H' - d * x1 * y1 * (u' * H') * (v' * G')) := by clear hy; grind
  have b : G * H * (G' * H') * ((y1*v' + x1*u') * (1 - d*u*x3*v*y3)) = (y1 * (v' * G') * H' + x1 * (u' * H') * G') * (G * H - d * (u * H) * (v * G) * x3 * y3) := by clear hy; grind
  rw [a, b, hy]
omit F in
theorem c3r {a b p q : Fin n} (h : a * p * q = b * q * p) : p * q * a = p * q * b := by
  have e1 : p * q * a = a * p * q := by clear h; grind
  have e2 : p * q * b = b * q * p := by clear h; grind
  rw [e1, e2, h]
theorem Fld.add_assoc {P Q R : Fin n × Fin n} (hP : On d P) (hQ : On d Q) (hR : On d R) : F.add (F.add P Q) R = F.add P (F.add Q R) := by
  have hPQ := F.add_on hP hQ
  have hQR := F.add_on hQ hR
  obtain ⟨c1, c2⟩ := F.complete hP hQ
  obtain ⟨c3, c4⟩ := F.complete hQ hR
  obtain ⟨c5, c6⟩ := F.complete hPQ hR
  obtain ⟨c7, c8⟩ := F.complete hP hQR
  obtain ⟨s1, s2⟩ := F.add_spec hP hQ
  obtain ⟨s3, s4⟩ := F.add_spec hQ hR
  obtain ⟨s5, s6⟩ := F.add_spec hPQ hR
  obtain ⟨s7, s8⟩ := F.add_spec hP hQR
  have hx := B9N P.1 P.2 Q.1 Q.2 R.1 R.2 d hP.eq hQ.eq hR.eq
  have hy := B9O P.1 P.2 Q.1 Q.2 R.1 R.2 d hP.eq hQ.eq hR.eq
  generalize F.add (F.add P Q) R = L at *
  generalize F.add P (F.add Q R) = L' at *
  generalize F.add P Q = U at *
  generalize F.add Q R = V at *
  obtain ⟨x1, y1⟩ := P
  obtain ⟨x2, y2⟩ := Q
  obtain ⟨x3, y3⟩ := R
  obtain ⟨u, v⟩ := U
  obtain ⟨u', v'⟩ := V
  obtain ⟨l1, l2⟩ := L
  obtain ⟨m1, m2⟩ := L'
  dsimp only at *
  have f1 : x1*y2+x2*y1 = u * (1 + d*x1*x2*y1*y2) := s1.symm
  have f2 : y1*y2+x1*x2 = v * (1 - d*x1*x2*y1*y2) := s2.symm
  have f3 : x2*y3+x3*y2 = u' * (1 + d*x2*x3*y2*y3) := s3.symm
  have f4 : y2*y3+x2*x3 = v' * (1 - d*x2*x3*y2*y3) := s4.symm
  rw [f1, f2, f3, f4] at hx hy
  generalize 1 + d*x1*x2*y1*y2 = H at *
  generalize 1 - d*x1*x2*y1*y2 = G at *
  generalize 1 + d*x2*x3*y2*y3 = H' at *
  generalize 1 - d*x2*x3*y2*y3 = G' at *
  clear s1 s2 s3 s4 f1 f2 f3 f4 hP hQ hR hPQ hQR
  have hz : G * H * (G' * H') ≠ 0 := F.mul_ne (F.mul_ne c2 c1) (F.mul_ne c4 c3)
  have hx' : (u*y3 + x3*v) * (1 + d*x1*u'*y1*v') = (x1*v' + u'*y1) * (1 + d*u*x3*v*y3) := F.cancel hz (cx1 hx)
  have hy' : (v*y3 + u*x3) * (1 - d*x1*u'*y1*v') = (y1*v' + x1*u') * (1 - d*u*x3*v*y3) := F.cancel hz (cy1 hy)
  rw [← s5, ← s7] at hx'
  rw [← s6, ← s8] at hy'
  generalize 1 + d*x1*u'*y1*v' = p at *
  generalize 1 + d*u*x3*v*y3 = q at *
  generalize 1 - d*x1*u'*y1*v' = r at *
  generalize 1 - d*u*x3*v*y3 = s at *
  have ex : l1 = m1 := F.cancel (F.mul_ne c5 c7) (c3r hx')
  have ey : l2 = m2 := F.cancel (F.mul_ne c6 c8) (c3r hy')
  rw [ex, ey]
def Fld.nsm (k : Nat) (P : Fin n × Fin n) : Fin n × Fin n := Nat.rec ((0 : Fin n), (1 : Fin n)) (fun _ Q => F.add Q P) k
theorem Fld.nsm_succ (k : Nat) (P : Fin n × Fin n) : F.nsm (k + 1) P = F.add (F.nsm k P) P := rfl
theorem Fld.nsm_on {P : Fin n × Fin n} (hP : On d P) (k : Nat) : On d (F.nsm k P) := by
  induction k with
  | zero => exact On.o
  | succ k ih => exact F.add_on ih hP
theorem Fld.nsm_add {P : Fin n × Fin n} (hP : On d P) (j k : Nat) : F.nsm (j + k) P = F.add (F.nsm j P) (F.nsm k P) := by
  induction k with
  | zero => exact (F.add_o _).symm
  | succ k ih => rw [← Nat.add_assoc, F.nsm_succ, ih, F.nsm_succ, F.add_assoc (F.nsm_on hP _) (F.nsm_on hP _) hP]
theorem Fld.nsm_mul {P : Fin n × Fin n} (hP : On d P) (j k : Nat) : F.nsm (j * k) P = F.nsm j (F.nsm k P) := by
  induction j with
  | zero => rw [Nat.zero_mul]; rfl
  | succ j ih => rw [Nat.succ_mul, F.nsm_add hP, ih, F.nsm_succ]
theorem Fld.nsm_o (k : Nat) : F.nsm k ((0 : Fin n), (1 : Fin n)) = ((0 : Fin n), (1 : Fin n)) := by
  induction k with
  | zero => rfl
  | succ k ih => rw [F.nsm_succ, ih, F.add_o]
theorem Fld.nsm_mod {P : Fin n × Fin n} (hP : On d P) {L : Nat} (hL : F.nsm L P = ((0 : Fin n), (1 : Fin n))) (k : Nat) : F.nsm (k % L) P = F.nsm k P := by
  conv => rhs; rw [← Nat.mod_add_div k L, F.nsm_add hP, Nat.mul_comm, F.nsm_mul hP, hL, F.nsm_o, F.add_o]
structure Rep (X Y Z T : Fin n) (P : Fin n × Fin n) : Prop where
  z : Z ≠ 0
  x : X = P.1 * Z
  y : Y = P.2 * Z
  t : T = P.1 * P.2 * Z
theorem Fld.rep_add {X1 Y1 Z1 T1 X2 Y2 Z2 T2 : Fin n} {P Q : Fin n × Fin n} (hP : On d P) (hQ : On d Q) (h1 : Rep X1 Y1 Z1 T1 P) (h2 : Rep X2 Y2 Z2 T2 Q) {a b c z e f g h : Fin n}
    (ha : a = (Y1 - X1) * (Y2 - X2)) (hb : b = (Y1 + X1) * (Y2 + X2)) (hc : c = T1 * (2 * d) * T2) (hz : z = Z1 * Z2 + Z1 * Z2) (he : e = b - a) (hf : f = z - c) (hg : g = z + c) (hh : h = b + a) :
    Rep (e * f) (g * h) (f * g) (e * h) (F.add P Q) := by
  obtain ⟨c1, c2⟩ := F.complete hP hQ
  obtain ⟨s1, s2⟩ := F.add_spec hP hQ
  obtain ⟨z1, rfl, rfl, rfl⟩ := h1
  obtain ⟨z2, rfl, rfl, rfl⟩ := h2
  generalize F.add P Q = R at *
  obtain ⟨x1, y1⟩ := P
  obtain ⟨x2, y2⟩ := Q
  obtain ⟨u, v⟩ := R
  dsimp only at *
  have hzz := F.mul_ne z1 z2
  have e1 : e = 2 * (Z1 * Z2) * (u * (1 + d*x1*x2*y1*y2)) := by rw [s1, he, hb, ha]; grind
  have e2 : h = 2 * (Z1 * Z2) * (v * (1 - d*x1*x2*y1*y2)) := by rw [s2, hh, hb, ha]; grind
  have e3 : f = 2 * (Z1 * Z2) * (1 - d*x1*x2*y1*y2) := by rw [hf, hz, hc]; grind
  have e4 : g = 2 * (Z1 * Z2) * (1 + d*x1*x2*y1*y2) := by rw [hg, hz, hc]; grind
  clear he hf hg hh ha hb hc hz s1 s2
  generalize 1 + d*x1*x2*y1*y2 = H at *
  generalize 1 - d*x1*x2*y1*y2 = G at *
  subst e1 e2 e3 e4
  exact ⟨F.mul_ne (F.mul_ne (F.mul_ne F.two hzz) c2) (F.mul_ne (F.mul_ne F.two hzz) c1), by grind, by grind, by grind⟩
theorem Fld.rep_same {X1 Y1 Z1 T1 X2 Y2 Z2 T2 : Fin n} {P Q : Fin n × Fin n} (h1 : Rep X1 Y1 Z1 T1 P) (h2 : Rep X2 Y2 Z2 T2 Q) : (X1 * Z2 = X2 * Z1 ∧ Y1 * Z2 = Y2 * Z1) ↔ P = Q := by
  obtain ⟨z1, rfl, rfl, -⟩ := h1
  obtain ⟨z2, rfl, rfl, -⟩ := h2
  constructor
  · rintro ⟨a, b⟩
    refine Prod.ext (F.cancel (F.mul_ne z1 z2) (by grind)) (F.cancel (F.mul_ne z1 z2) (by grind))
  · rintro rfl
    exact ⟨by grind, by grind⟩
theorem Fld.dy_ne {y : Fin n} : d * (y * y) + 1 ≠ 0 := fun h => by
  have h2 := F.hii
  have h1 : F.ii * F.ii = d * (y * y) := by grind
  have h3 := F.hd _ _ h1
  rw [h3] at h
  exact F.one (by grind)
end Go.Ed

namespace Go.Proofs.YtlilcmjbaknafaaGreatDoor
open Go.Px Go.Ed
instance : NeZero p25 := ⟨by decide⟩
theorem B0H : 0 < p25 := by decide
def fF (x : Nat) : Fin p25 := ⟨x % p25, Nat.mod_lt _ B0H⟩
theorem A0G (x : Nat) : (fF x).val = x % p25 := rfl
theorem B1U (x y : Nat) : fF (fA x y) = fF x + fF y := by
  apply Fin.ext
  rw [Fin.val_add, A0G, A0G, A0G]
  unfold fA
  rw [Nat.mod_mod, Nat.add_mod]
theorem A1X (x y : Nat) : fF (fM x y) = fF x * fF y := by
  apply Fin.ext
  rw [Fin.val_mul, A0G, A0G, A0G]
  unfold fM
  rw [Nat.mod_mod, Nat.mul_mod]
theorem B3m {x y : Nat} (hy : y < p25) : fF (fS x y) = fF x - fF y := by
  apply Fin.ext
  rw [Fin.sub_def, A0G]
  show fS x y % p25 = (p25 - y % p25 + x % p25) % p25
  unfold fS
  rw [Nat.mod_mod, Nat.mod_eq_of_lt hy, Nat.add_mod_mod]
  congr 1; omega
theorem A7P {x y : Nat} (hx : x < p25) (hy : y < p25) (h : fF x = fF y) : x = y := by
  have := congrArg Fin.val h
  rwa [A0G, A0G, Nat.mod_eq_of_lt hx, Nat.mod_eq_of_lt hy] at this
theorem B6d {x : Nat} : fF x = 0 ↔ x % p25 = 0 := by
  constructor
  · intro h; exact congrArg Fin.val h
  · intro h; exact Fin.ext h
theorem A0f (x y : Nat) : fM x y < p25 := Nat.mod_lt _ B0H
theorem B4y {x : Nat} (h : x % p25 ≠ 0) : fM x (fI x) = 1 := by
  have h1 := A5b B9J (a := x) (fun hd => h (Nat.mod_eq_zero_of_dvd hd))
  rw [B58]
  unfold fM rtp
  rw [Nat.mul_mod, Nat.mod_mod, ← Nat.mul_mod, ← Nat.pow_succ']
  exact h1
theorem fF_I {x : Nat} (h : fF x ≠ 0) : fF x * fF (fI x) = 1 := by
  rw [← A1X, B4y (fun h0 => h (B6d.2 h0))]
  rfl
def B8i : Nat := 37095705934669439343138083508754565189542113879843219016388785533085940283555
def iLit : Nat := 19681161376707505956807079304988542015446066515923890162744021073123829784752
theorem B4z : dN = B8i := rfl
theorem B8j : B8i ^ ((p25 - 1) / 2) % p25 = p25 - 1 := by
  rw [A7I qD 256 _ _ qD]
  decide +kernel
theorem B9P (a b : Fin p25) (h : a * b = 0) : a = 0 ∨ b = 0 := by
  have h1 := congrArg Fin.val h
  rw [Fin.val_mul] at h1
  have h2 : p25 ∣ a.val * b.val := Nat.dvd_of_mod_eq_zero h1
  rcases B9J.mul h2 with h3 | h3
  · exact .inl (Fin.ext (Nat.eq_zero_of_dvd_of_lt h3 a.isLt))
  · exact .inr (Fin.ext (Nat.eq_zero_of_dvd_of_lt h3 b.isLt))
theorem A5c (a : Fin p25) : fF a.val = a := Fin.ext (Nat.mod_eq_of_lt a.isLt)
theorem B9Q (s t : Fin p25) (h : s * s = fF dN * (t * t)) : t = 0 := by
  rw [B4z] at h
  apply Decidable.byContradiction
  intro ht
  have h1 := congrArg Fin.val h
  rw [Fin.val_mul, Fin.val_mul, Fin.val_mul, A0G, Nat.mod_eq_of_lt (show B8i < p25 by decide)] at h1
  rw [Nat.mul_mod_mod] at h1
  have ht' : ¬ p25 ∣ t.val := fun hd => ht (Fin.ext (Nat.eq_zero_of_dvd_of_lt hd t.isLt))
  have e2 : (p25 - 1) / 2 * 2 = p25 - 1 := by decide
  have key : ∀ m : Nat, (s.val * s.val) ^ m % p25 = (B8i * (t.val * t.val)) ^ m % p25 := fun m => by
    rw [Nat.pow_mod, h1, ← Nat.pow_mod]
  have k1 := key ((p25 - 1) / 2)
  generalize hm : (p25 - 1) / 2 = m at *
  have hd := B8j
  rw [hm] at hd
  have hft := A5b B9J ht'
  have q1 : ∀ x : Nat, (x * x) ^ m = x ^ (p25 - 1) := fun x => by rw [← Nat.pow_two, ← Nat.pow_mul, Nat.mul_comm 2 m, e2]
  rw [q1, Nat.mul_pow, q1, Nat.mul_mod, hd, hft, Nat.mul_one] at k1
  by_cases hs : p25 ∣ s.val
  · have : s.val = 0 := Nat.eq_zero_of_dvd_of_lt hs s.isLt
    rw [this] at h1
    have hz : p25 ∣ B8i * (t.val * t.val) := Nat.dvd_of_mod_eq_zero (by rw [← h1]; rfl)
    rcases B9J.mul hz with h3 | h3
    · exact absurd h3 qD
    · rcases B9J.mul h3 with h4 | h4 <;> exact ht' h4
  · rw [A5b B9J hs] at k1
    exact absurd k1 qD
noncomputable def FF : Fld p25 (fF dN) where
  inv a := fF (fI a.val)
  ii := fF iLit
  mul0 := B9P
  one := by decide
  two := by decide
  hinv a ha := by
    have h := fF_I (x := a.val) (by rw [A5c]; exact ha)
    rwa [A5c] at h
  hii := by decide +kernel
  hd := B9Q
structure PR (P : Pt) (Q : Fin p25 × Fin p25) : Prop where
  rep : Rep (fF P.X) (fF P.Y) (fF P.Z) (fF P.T) Q
  x : P.X < p25
  y : P.Y < p25
  z : P.Z < p25
  t : P.T < p25
theorem PR.o : PR pO ((0 : Fin p25), (1 : Fin p25)) := ⟨⟨by decide, by decide, by decide, by decide⟩, by decide, by decide, by decide, by decide⟩
theorem B8k : fF d2N = 2 * fF dN := by rw [← B9L, A1X]; rfl
theorem PR.add {P1 P2 : Pt} {Q1 Q2 : Fin p25 × Fin p25} (h1 : PR P1 Q1) (h2 : PR P2 Q2) (o1 : On (fF dN) Q1) (o2 : On (fF dN) Q2) : PR (A8F d2N P1 P2) (FF.add Q1 Q2) := by
  refine ⟨?_, A0f _ _, A0f _ _, A0f _ _, A0f _ _⟩
  unfold A8F
  dsimp only
  rw [A1X, A1X, A1X, A1X]
  exact FF.rep_add o1 o2 h1.rep h2.rep (a := fF (fM (fS P1.Y P1.X) (fS P2.Y P2.X))) (b := fF (fM (fA P1.Y P1.X) (fA P2.Y P2.X))) (c := fF (fM (fM P1.T d2N) P2.T)) (z := fF (fA (fM P1.Z P2.Z) (fM P1.Z P2.Z)))
    (by rw [A1X, B3m h1.x, B3m h2.x]) (by rw [A1X, B1U, B1U]) (by rw [A1X, A1X, B8k]) (by rw [B1U, A1X])
    (by rw [B3m (A0f _ _)]) (by rw [B3m (A0f _ _)]) (by rw [B1U]) (by rw [B1U])
theorem PR.timesK {P : Pt} {Q : Fin p25 × Fin p25} (h : PR P Q) (o : On (fF dN) Q) (n : Nat) : ∀ k, k ≤ 256 → PR (pTk P n k) (FF.nsm (n / 2 ^ (256 - k) % 2 ^ k) Q)
  | 0, _ => by
    rw [Nat.pow_zero, Nat.mod_one]; exact PR.o
  | k + 1, hk => by
    have ih := PR.timesK h o n k qO
    have e1 : 256 - (k + 1) = 255 - k := by omega
    have e2 : n / 2 ^ (255 - k) % 2 ^ (k + 1) = 2 * (n / 2 ^ (256 - k) % 2 ^ k) + n / 2 ^ (255 - k) % 2 := by
      have e3 : n / 2 ^ (256 - k) = n / 2 ^ (255 - k) / 2 := by rw [Nat.div_div_eq_div_mul, ← Nat.pow_succ]; congr 2; omega
      rw [e3]
      generalize n / 2 ^ (255 - k) = m
      rw [Nat.pow_succ', Nat.mod_mul]; omega
    rw [e1, e2]
    generalize n / 2 ^ (256 - k) % 2 ^ k = m at *
    have hd := ih.add ih (FF.nsm_on o m) (FF.nsm_on o m)
    rw [← FF.nsm_add o, ← Nat.two_mul] at hd
    rw [A7O]
    by_cases hb : n / 2 ^ (255 - k) % 2 = 1
    · rw [B0E hb, hb]
      exact hd.add h (FF.nsm_on o _) o
    · rw [B0F hb, show n / 2 ^ (255 - k) % 2 = 0 by omega]
      exact hd
theorem PR.times {P : Pt} {Q : Fin p25 × Fin p25} (h : PR P Q) (o : On (fF dN) Q) {n : Nat} (hn : n < 2 ^ 256) : PR (A2s P n) (FF.nsm n Q) := by
  have := h.timesK o n 256 (Nat.le_refl _)
  rwa [Nat.sub_self, Nat.pow_zero, Nat.div_one, Nat.mod_eq_of_lt hn] at this

def encN (x y : Nat) : LN := if x % 2 = 1 then (A0J 8 32 y 255).set 31 ((A0J 8 32 y 255).getD 31 0 ||| 128) else A0J 8 32 y 255
theorem B8l (P : Pt) : pB P = encN (fM P.X (fI P.Z)) (fM P.Y (fI P.Z)) := rfl
noncomputable def B3n (b : LN) : Option Pt := if b.length = 32 then (match atN (rdN b) (decide (128 ≤ b.getD 31 0)) with
  | some x => if pB (pAt x (rdN b)) = b then some (pAt x (rdN b)) else none
  | none => none) else none
theorem PR.at {Q : Fin p25 × Fin p25} : PR (pAt Q.1.val Q.2.val) Q := by
  refine ⟨⟨?_, ?_, ?_, ?_⟩, Q.1.isLt, Q.2.isLt, show 1 < p25 by decide, A0f _ _⟩
  · exact FF.one
  · show fF Q.1.val = Q.1 * fF 1
    rw [A5c, show fF 1 = 1 from rfl]; grind
  · show fF Q.2.val = Q.2 * fF 1
    rw [A5c, show fF 1 = 1 from rfl]; grind
  · show fF (fM Q.1.val Q.2.val) = Q.1 * Q.2 * fF 1
    rw [A1X, A5c, A5c, show fF 1 = 1 from rfl]; grind
theorem PR.aff {P : Pt} {Q : Fin p25 × Fin p25} (h : PR P Q) : fM P.X (fI P.Z) = Q.1.val ∧ fM P.Y (fI P.Z) = Q.2.val := by
  have hi := fF_I h.rep.z
  have hx := h.rep.x
  have hy := h.rep.y
  constructor
  · apply A7P (A0f _ _) Q.1.isLt
    rw [A1X, A5c, hx]; grind
  · apply A7P (A0f _ _) Q.2.isLt
    rw [A1X, A5c, hy]; grind
theorem PR.bytes {P : Pt} {Q : Fin p25 × Fin p25} (h : PR P Q) : pB P = encN Q.1.val Q.2.val := by rw [B8l, h.aff.1, h.aff.2]
def B6e (P Q : Pt) : Bool := decide (fM P.X Q.Z = fM Q.X P.Z) && decide (fM P.Y Q.Z = fM Q.Y P.Z)
theorem PR.same {P P' : Pt} {Q : Fin p25 × Fin p25} (h : PR P Q) (h' : PR P' Q) : B6e P P' = true := by
  have hr := (FF.rep_same h.rep h'.rep).2 rfl
  unfold B6e
  rw [decide_eq_true (A7P (A0f _ _) (A0f _ _) (by rw [A1X, A1X, hr.1])), decide_eq_true (A7P (A0f _ _) (A0f _ _) (by rw [A1X, A1X, hr.2]))]
  rfl

end Go.Proofs.YtlilcmjbaknafaaGreatDoor
namespace Go.Px
noncomputable def K6 {α : Type} (x : Nat) (f : Nat → α) : α := Nat.rec (motive := fun _ => α) (f 0) (fun n _ => f (Nat.succ n)) x
theorem V8 {α : Type} (x : Nat) (f : Nat → α) : K6 x f = f x := by cases x <;> rfl
def B1V (x n m : Nat) : Nat := Nat.lor (Nat.shiftRight x n) (Nat.mod (Nat.shiftLeft x m) 4294967296)
def rF : List Nat → List Nat → S8 → S8
  | k :: ks, w :: ws, s => rF ks ws (s.step k w)
  | _, _, s => s
theorem B6f (ks ws : List Nat) (h : ks.length = ws.length) (k w : Nat) (s : S8) : rF (ks ++ [k]) (ws ++ [w]) s = (rF ks ws s).step k w := by
  induction ks generalizing ws s with
  | nil =>
    cases ws with
    | nil => rfl
    | cons w ws => simp at h
  | cons k' ks ih =>
    cases ws with
    | nil => simp at h
    | cons w' ws => exact ih ws (by simpa using h) (s.step k' w')
theorem B0I (ks ws : List Nat) (s : S8) (n : Nat) (h1 : n ≤ ks.length) (h2 : n ≤ ws.length) : rounds ks ws s n = rF (ks.take n) (ws.take n) s := by
  induction n with
  | zero => rfl
  | succ n ih =>
    rw [rounds, ih (by omega) (by omega), List.take_add_one, List.take_add_one, List.getElem?_eq_getElem (by omega), List.getElem?_eq_getElem (by omega)]
    simp only [Option.toList_some]
    rw [B6f _ _ (by simp; omega), List.getD_eq_getElem?_getD, List.getD_eq_getElem?_getD, List.getElem?_eq_getElem (by omega), List.getElem?_eq_getElem (by omega)]
    rfl
def t1F (e f g h k w : Nat) : Nat :=
  Nat.mod (Nat.add (Nat.mod (Nat.add (Nat.mod (Nat.add (Nat.mod (Nat.add h (Nat.xor (Nat.xor (B1V e 6 26) (B1V e 11 21)) (B1V e 25 7))) 4294967296) (Nat.xor (Nat.land e f) (Nat.land (Nat.xor 4294967295 e) g))) 4294967296) k) 4294967296) w) 4294967296
def aF (t a b c : Nat) : Nat :=
  Nat.mod (Nat.add (Nat.mod (Nat.add t (Nat.xor (Nat.xor (B1V a 2 30) (B1V a 13 19)) (B1V a 22 10))) 4294967296) (Nat.xor (Nat.xor (Nat.land a b) (Nat.land a c)) (Nat.land b c))) 4294967296
noncomputable def rFF (ks : List Nat) : List Nat → Nat → Nat → Nat → Nat → Nat → Nat → Nat → Nat → S8 :=
  List.rec (motive := fun _ => List Nat → Nat → Nat → Nat → Nat → Nat → Nat → Nat → Nat → S8) (fun _ a b c d e f g h => ⟨a, b, c, d, e, f, g, h⟩)
    (fun k _ ih ws => List.rec (motive := fun _ => Nat → Nat → Nat → Nat → Nat → Nat → Nat → Nat → S8) (fun a b c d e f g h => ⟨a, b, c, d, e, f, g, h⟩)
      (fun w ws _ a b c d e f g h => K6 (t1F e f g h k w) fun t => K6 (aF t a b c) fun a' => K6 (Nat.mod (Nat.add d t) 4294967296) fun e' => ih ws a' a b c e' e f g) ws) ks
theorem B8m (ks ws : List Nat) (s : S8) : rFF ks ws s.a s.b s.c s.d s.e s.f s.g s.h = rF ks ws s := by
  induction ks generalizing ws s with
  | nil => cases ws <;> rfl
  | cons k ks ih =>
    cases ws with
    | nil => rfl
    | cons w ws =>
      have e : rFF (k :: ks) (w :: ws) s.a s.b s.c s.d s.e s.f s.g s.h = K6 (t1F s.e s.f s.g s.h k w) fun t => K6 (aF t s.a s.b s.c) fun a' => K6 (Nat.mod (Nat.add s.d t) 4294967296) fun e' => rFF ks ws a' s.a s.b s.c e' s.e s.f s.g := rfl
      rw [e, V8, V8, V8]
      exact ih ws (s.step k w)
noncomputable def B3o : Nat → List Nat → Nat := fun n => Nat.rec (motive := fun _ => List Nat → Nat) (fun l => List.rec (motive := fun _ => Nat) 0 (fun x _ _ => x) l) (fun _ ih l => List.rec (motive := fun _ => Nat) 0 (fun _ r _ => ih r) l) n
theorem A5d (n : Nat) (l : List Nat) : B3o n l = l.getD n 0 := by
  induction n generalizing l with
  | zero => cases l <;> rfl
  | succ n ih =>
    cases l with
    | nil => rfl
    | cons x r => exact ih r
def wnF (w16 w15 w7 w2 : Nat) : Nat :=
  Nat.mod (Nat.add (Nat.mod (Nat.add (Nat.mod (Nat.add w16 (Nat.xor (Nat.xor (B1V w15 7 25) (B1V w15 18 14)) (Nat.shiftRight w15 3))) 4294967296) w7) 4294967296) (Nat.xor (Nat.xor (B1V w2 17 15) (B1V w2 19 13)) (Nat.shiftRight w2 10))) 4294967296
noncomputable def wF (n : Nat) : List Nat → List Nat :=
  Nat.rec (motive := fun _ => List Nat → List Nat) (fun r => r) (fun _ ih r => K6 (wnF (B3o 15 r) (B3o 14 r) (B3o 6 r) (B3o 1 r)) fun x => ih (x :: r)) n
theorem A2L {l : List Nat} {k : Nat} (h : k < l.length) : l.reverse.getD k 0 = l.getD (l.length - 1 - k) 0 := by
  rw [List.getD_eq_getElem?_getD, List.getD_eq_getElem?_getD, List.getElem?_reverse h]
theorem B9R (w : List Nat) (hw : 16 ≤ w.length) (n m : Nat) : wF n (wx w m).reverse = (wx w (m + n)).reverse := by
  induction n generalizing m with
  | zero => rfl
  | succ n ih =>
    have e : wF (n + 1) (wx w m).reverse = K6 (wnF (B3o 15 (wx w m).reverse) (B3o 14 (wx w m).reverse) (B3o 6 (wx w m).reverse) (B3o 1 (wx w m).reverse)) fun x => wF n (x :: (wx w m).reverse) := rfl
    have hl := A5C w m
    rw [e, V8, A5d, A5d, A5d, A5d, A2L (by omega), A2L (by omega), A2L (by omega), A2L (by omega), hl]
    have e2 : wnF ((wx w m).getD (w.length + m - 1 - 15) 0) ((wx w m).getD (w.length + m - 1 - 14) 0) ((wx w m).getD (w.length + m - 1 - 6) 0) ((wx w m).getD (w.length + m - 1 - 1) 0) = B2g (wx w m) (w.length + m) := by
      rw [show w.length + m - 1 - 15 = w.length + m - 16 by omega, show w.length + m - 1 - 14 = w.length + m - 15 by omega, show w.length + m - 1 - 6 = w.length + m - 7 by omega, show w.length + m - 1 - 1 = w.length + m - 2 by omega]
      rfl
    rw [e2, show B2g (wx w m) (w.length + m) :: (wx w m).reverse = (wx w (m + 1)).reverse by rw [wx, List.reverse_append]; rfl, ih (m + 1), show m + 1 + n = m + (n + 1) by omega]
def B9S (a b c d : Nat) : Nat := Nat.add (Nat.mul (Nat.add (Nat.mul (Nat.add (Nat.mul a 256) b) 256) c) 256) d
noncomputable def A4r : Nat → List Nat → List Nat → List Nat
  | 0, _, r => r
  | n + 1, a :: b :: c :: d :: p, r => K6 (B9S a b c d) fun x => A4r n p (x :: r)
  | _ + 1, _, r => r
theorem B0J (n : Nat) (p : List Nat) (i : Nat) (h : 4 * (i + n) ≤ p.length) (r : List Nat) : A4r n (p.drop (4 * i)) r = ((List.range' i n).map (B7g p)).reverse ++ r := by
  induction n generalizing i r with
  | zero => rfl
  | succ n ih =>
    have e : p.drop (4 * i) = p.getD (4 * i) 0 :: p.getD (4 * i + 1) 0 :: p.getD (4 * i + 2) 0 :: p.getD (4 * i + 3) 0 :: p.drop (4 * (i + 1)) := by
      rw [List.drop_eq_getElem_cons (by omega), List.drop_eq_getElem_cons (by omega), List.drop_eq_getElem_cons (by omega), List.drop_eq_getElem_cons (by omega)]
      simp only [List.getD_eq_getElem?_getD]
      rw [List.getElem?_eq_getElem (by omega), List.getElem?_eq_getElem (by omega), List.getElem?_eq_getElem (by omega), List.getElem?_eq_getElem (by omega)]
      rfl
    rw [e]
    show K6 _ _ = _
    rw [V8, ih (i + 1) (by omega), List.range'_succ, List.map_cons, List.reverse_cons, List.append_assoc]
    rfl
noncomputable def B9T (a b c d e f g h : Nat) (p : List Nat) (k : Nat → Nat → Nat → Nat → Nat → Nat → Nat → Nat → List Nat) : List Nat :=
  match rFF A1H (wF 48 (A4r 16 p [])).reverse a b c d e f g h with
  | ⟨a1, b1, c1, d1, e1, f1, g1, h1⟩ =>
    K6 (Nat.mod (Nat.add a a1) 4294967296) fun a => K6 (Nat.mod (Nat.add b b1) 4294967296) fun b => K6 (Nat.mod (Nat.add c c1) 4294967296) fun c => K6 (Nat.mod (Nat.add d d1) 4294967296) fun d =>
    K6 (Nat.mod (Nat.add e e1) 4294967296) fun e => K6 (Nat.mod (Nat.add f f1) 4294967296) fun f => K6 (Nat.mod (Nat.add g g1) 4294967296) fun g => K6 (Nat.mod (Nat.add h h1) 4294967296) fun h => k a b c d e f g h
theorem B6g (s : S8) (p : List Nat) (hp : 64 ≤ p.length) (k : Nat → Nat → Nat → Nat → Nat → Nat → Nat → Nat → List Nat) : B9T s.a s.b s.c s.d s.e s.f s.g s.h p k = (fun t : S8 => k t.a t.b t.c t.d t.e t.f t.g t.h) (V5 A1H s p) := by
  have h1 : A4r 16 p [] = (W5 p 16).reverse := by
    have := B0J 16 p 0 (by omega) []
    rw [List.append_nil] at this
    rw [show p = p.drop (4 * 0) from rfl, this, W5, List.range_eq_range']
    rfl
  have hw : (W5 p 16).length = 16 := by simp [W5]
  have h2 : (wF 48 (A4r 16 p [])).reverse = wx (W5 p 16) 48 := by
    have := B9R (W5 p 16) (by omega) 48 0
    rw [h1, show (W5 p 16).reverse = (wx (W5 p 16) 0).reverse from rfl, this, List.reverse_reverse]
  have h3 : rFF A1H (wF 48 (A4r 16 p [])).reverse s.a s.b s.c s.d s.e s.f s.g s.h = rounds A1H (wx (W5 p 16) 48) s 64 := by
    have hl := A5C (W5 p 16) 48
    rw [h2, B8m, B0I _ _ _ _ (by decide) (by omega), List.take_of_length_le (show A1H.length ≤ 64 by decide), List.take_of_length_le (by omega)]
  unfold B9T V5
  rw [h3]
  generalize rounds A1H (wx (W5 p 16) 48) s 64 = r
  obtain ⟨a1, b1, c1, d1, e1, f1, g1, h1⟩ := r
  simp only [V8]
  rfl
noncomputable def B3p : Nat → Nat → Nat → Nat → Nat → Nat → Nat → Nat → Nat → List Nat → List Nat
  | 0, a, b, c, d, e, f, g, h, _ => [a, b, c, d, e, f, g, h].flatMap B5l
  | n + 1, a, b, c, d, e, f, g, h, p => B9T a b c d e f g h p fun a b c d e f g h => B3p n a b c d e f g h (p.drop 64)
theorem B3q (n : Nat) (s : S8) (p : List Nat) (hp : 64 * n ≤ p.length) : B3p n s.a s.b s.c s.d s.e s.f s.g s.h p = (A3V A1H n s p).bytes := by
  induction n generalizing s p with
  | zero => rfl
  | succ n ih =>
    have e : V5 A1H s (p.take 64) = V5 A1H s p := by
      unfold V5
      have : W5 (p.take 64) 16 = W5 p 16 := by
        unfold W5
        refine List.map_congr_left fun i hi => ?_
        have hi := List.mem_range.1 hi
        unfold B7g
        have g : ∀ j, j < 64 → (p.take 64).getD j 0 = p.getD j 0 := fun j hj => by
          rw [List.getD_eq_getElem?_getD, List.getD_eq_getElem?_getD, List.getElem?_take_of_lt hj]
        rw [g _ (by omega), g _ (by omega), g _ (by omega), g _ (by omega)]
      rw [this]
    rw [B3p, B6g s p (by omega), A3V, e]
    exact ih _ _ (by rw [List.length_drop]; omega)
noncomputable def A3w (p : List Nat) : List Nat := B3p ((L1 p).length / 64) 1779033703 3144134277 1013904242 2773480762 1359893119 2600822924 528734635 1541459225 (L1 p)
theorem A8I (p : List Nat) : A3w p = Z9 p := B3q _ A2l (L1 p) (by omega)
noncomputable def W8 (key p : List Nat) : List Nat := A3w (A2m (if 64 < key.length then A3w key else key) 92 ++ A3w (A2m (if 64 < key.length then A3w key else key) 54 ++ p))
theorem A0B (key p : List Nat) : W8 key p = A37 key p := by
  unfold W8 A37 A0D
  simp only [A8I]
theorem B3r (key info : List Nat) : U9 key info 32 = W8 key (info ++ [1]) := by
  have h : (A37 key ([] ++ (info ++ [1]))).length = 32 := A0j _
  rw [A0B]
  show ([] ++ A37 key ([] ++ (info ++ [1]))).take 32 = _
  rw [List.nil_append, List.nil_append, List.take_of_length_le (by rw [← List.nil_append (info ++ [1])]; omega)]
theorem B3s (key info : List Nat) : U9 key info 64 = W8 key (info ++ [1]) ++ W8 key (W8 key (info ++ [1]) ++ (info ++ [2])) := by
  have h : ∀ p, (A37 key p).length = 32 := fun p => A0j _
  simp only [A0B]
  show (([] ++ A37 key ([] ++ (info ++ [1]))) ++ A37 key (A37 key ([] ++ (info ++ [1])) ++ (info ++ [2]))).take 64 = _
  simp only [List.nil_append]
  rw [List.take_of_length_le]
  rw [List.length_append, h, h]; decide
end Go.Px

namespace Go.Proofs.YtlilcmjbaknafaaGreatDoor
open Go.Px Go.Ed
def A8J : Nat := bxN
def A8K : Nat := s45
def B9U : Nat := d2N
def bPt : Fin p25 × Fin p25 := (fF A8J, fF A8K)
theorem b_on : On (fF dN) bPt := by rw [B4z]; exact ⟨by decide +kernel⟩
theorem B8n : bPt.1.val = A8J := by decide +kernel
theorem B8o : bPt.2.val = A8K := by decide +kernel
theorem B4A : pS = pAt A8J A8K := rfl
theorem PR.s : PR pS bPt := by
  have h := PR.at (Q := bPt)
  rw [B8n, B8o] at h
  rw [B4A]; exact h
theorem B8p : d2N = B9U := rfl
def kM (x y : Nat) : Nat := Nat.mod (Nat.mul x y) 57896044618658097711785492504343953926634992332820282019728792003956564819949
def kA (x y : Nat) : Nat := Nat.mod (Nat.add x y) 57896044618658097711785492504343953926634992332820282019728792003956564819949
def kS (x y : Nat) : Nat := Nat.mod (Nat.sub (Nat.add x 57896044618658097711785492504343953926634992332820282019728792003956564819949) y) 57896044618658097711785492504343953926634992332820282019728792003956564819949
noncomputable def B6h {α : Type} (X1 Y1 Z1 T1 X2 Y2 Z2 T2 : Nat) (k : Nat → Nat → Nat → Nat → α) : α :=
  K6 (kM (kS Y1 X1) (kS Y2 X2)) fun a => K6 (kM (kA Y1 X1) (kA Y2 X2)) fun b => K6 (kM (kM T1 16295367250680780974490674513165176452449235426866156013048779062215315747161) T2) fun c => K6 (kM Z1 Z2) fun z0 => K6 (kA z0 z0) fun z =>
  K6 (kS b a) fun e => K6 (kS z c) fun f => K6 (kA z c) fun g => K6 (kA b a) fun h => K6 (kM e f) fun x => K6 (kM g h) fun y => K6 (kM f g) fun z => K6 (kM e h) fun t => k x y z t
theorem B0K {α : Type} (P Q : Pt) (k : Nat → Nat → Nat → Nat → α) : B6h P.X P.Y P.Z P.T Q.X Q.Y Q.Z Q.T k = k (A8F d2N P Q).X (A8F d2N P Q).Y (A8F d2N P Q).Z (A8F d2N P Q).T := by
  rw [B8p]
  unfold B6h
  simp only [V8]
  rfl
noncomputable def tF (n : Nat) (P : Pt) : Nat → Nat → Nat → Nat → Nat → Pt := fun k =>
  Nat.rec (motive := fun _ => Nat → Nat → Nat → Nat → Pt) (fun X Y Z T => ⟨X, Y, Z, T⟩)
    (fun i ih X Y Z T => B6h X Y Z T X Y Z T fun X Y Z T => Nat.rec (motive := fun _ => Pt) (ih X Y Z T) (fun _ _ => B6h X Y Z T P.X P.Y P.Z P.T fun X Y Z T => ih X Y Z T) (Nat.mod (Nat.shiftRight n i) 2)) k
theorem B6i (n i : Nat) (P Q : Pt) : tF n P (i + 1) Q.X Q.Y Q.Z Q.T = tF n P i (pSt P n i Q).X (pSt P n i Q).Y (pSt P n i Q).Z (pSt P n i Q).T := by
  have e : tF n P (i + 1) Q.X Q.Y Q.Z Q.T = B6h Q.X Q.Y Q.Z Q.T Q.X Q.Y Q.Z Q.T fun X Y Z T => Nat.rec (motive := fun _ => Pt) (tF n P i X Y Z T) (fun _ _ => B6h X Y Z T P.X P.Y P.Z P.T fun X Y Z T => tF n P i X Y Z T) (Nat.mod (Nat.shiftRight n i) 2) := rfl
  rw [e, B0K, show Nat.mod (Nat.shiftRight n i) 2 = n / 2 ^ i % 2 by rw [← Nat.shiftRight_eq_div_pow]; rfl]
  have h2 : n / 2 ^ i % 2 < 2 := Nat.mod_lt _ qD
  rcases (show n / 2 ^ i % 2 = 0 ∨ n / 2 ^ i % 2 = 1 by omega) with h | h
  · rw [B0F qO, h]
    show tF n P i _ _ _ _ = _
    rfl
  · rw [B0E h, h]
    show B6h _ _ _ _ P.X P.Y P.Z P.T _ = _
    rw [B0K]
theorem B4B (n : Nat) (P : Pt) : ∀ i, i ≤ 256 → tF n P i (pTk P n (256 - i)).X (pTk P n (256 - i)).Y (pTk P n (256 - i)).Z (pTk P n (256 - i)).T = A2s P n
  | 0, _ => rfl
  | i + 1, h => by rw [B6i, ← B3j qO]; exact B4B n P i qO
theorem B6j (n : Nat) (P : Pt) : A2s P n = tF n P 256 0 1 1 0 := (B4B n P 256 (Nat.le_refl _)).symm
theorem B6k : (tF lN (pAt A8J A8K) 256 0 1 1 0).X = 0 ∧ (tF lN (pAt A8J A8K) 256 0 1 1 0).Y = (tF lN (pAt A8J A8K) 256 0 1 1 0).Z := by decide +kernel
theorem B6l : FF.nsm lN bPt = ((0 : Fin p25), (1 : Fin p25)) := by
  have h := PR.s.times b_on (n := lN) qD
  have hb := B6k
  rw [← B6j, ← B4A] at hb
  have hx := h.rep.x
  have hy := h.rep.y
  rw [hb.1] at hx
  rw [hb.2] at hy
  have hz := h.rep.z
  generalize fF (A2s pS lN).Z = z at *
  generalize FF.nsm lN bPt = Q at *
  obtain ⟨x, y⟩ := Q
  dsimp only at *
  have e1 : x = 0 := (FF.mul0 _ _ hx.symm).resolve_right hz
  have e2 : y = 1 := by
    have : z * y = z * 1 := by grind
    exact FF.cancel hz this
  rw [e1, e2]

def B9V (p : LN) : LN := Z9 (0 :: p) ++ Z9 (1 :: p)
def secN (seed : LN) : Nat := bv (B9V ([115, 101, 99, 114, 101, 116] ++ seed)) % lN
def nonN (seed msg : LN) : Nat := bv (B9V ([110, 111, 110, 99, 101] ++ seed ++ msg)) % lN
def chlN (r p msg : LN) : Nat := bv (B9V ([99, 104, 97, 108, 108, 101, 110, 103, 101] ++ r ++ p ++ msg)) % lN
noncomputable def B9W (seed : LN) : LN := pB (A2s pS (secN seed))
noncomputable def rB (seed msg : LN) : LN := pB (A2s pS (nonN seed msg))
noncomputable def sN (seed msg : LN) : Nat := (chlN (rB seed msg) (B9W seed) msg * secN seed % lN + nonN seed msg) % lN
noncomputable def sigB (seed msg : LN) : LN := rB seed msg ++ B3k (sN seed msg) 32
def chkO (oa ob : Option Pt) (f : Pt → Pt → Bool) : Bool := match oa, ob with
  | some a, some r => f a r
  | _, _ => false
noncomputable def chkB (p msg sig : LN) : Bool := decide (sig.length = 64) && chkO (B3n p) (B3n (sig.take 32)) fun a r => decide (B3k (bv (sig.drop 32) % lN) 32 = sig.drop 32) && B6e (A2s pS (bv (sig.drop 32) % lN)) (A8F d2N r (A2s a (chlN (sig.take 32) p msg)))
def kLit : Nat := 4928719331454755403606303759647346995543222500395151019611105437466400029446
def rLit : LN := [158, 126, 43, 192, 36, 223, 93, 133, 238, 222, 103, 118, 108, 52, 17, 7, 171, 37, 142, 21, 42, 169, 185, 35, 17, 77, 225, 83, 3, 28, 151, 170]
end Go.Proofs.YtlilcmjbaknafaaGreatDoor
namespace Go.Px
open Go
def arrT (P : Program) (t : TypeId) : Option (Nat × IntKind) := match P.underlying t with
  | some (.array n e) => match P.underlying e with
    | some (.int k) => if P3 P e = some 1 then some (n, k) else none
    | _ => none
  | _ => none
section
variable {P : Program} {R : Mem} {l : Env} {d : Option Nat} {ty t : TypeId} {pos : String} {af : Array Edge} {g : Option (Nat × Bool)} {x y : Operand} {k : IntKind}
end
end Go.Px

namespace Go.Px
structure Gx where
  i : Nat
  d : Nat
  us : List Nat
  φ : List Value → Value → Mem → Mem → Prop
def B6m (G : List Gx) (vs : Nat → Value) : Env := G.map fun g => (g.d, vs g.i)
def GrowsX (φ : List Value → Value → Mem → Mem → Prop) : Prop := ∀ us v B R R', (∀ x ∈ R, x ∈ R') → φ us v B R → φ us v B R'
def toGx (G : List Gx) : List Gm := G.map fun g => ⟨g.i, g.d, fun _ _ => True⟩
section group
variable {C : Cx} {Q : XQ} {l : Env} {M J : Mem} {os : List Oper} {K : Nat → Prop} {n0 : Nat} {nd : List Nat} {plan : List (Nat × Nat)}
def OwesX (C : Cx) (os : List Oper) (l : Env) (M J : Mem) (G : List Gx) (g : Gx) : Prop :=
  ∃ o, nth os g.i = some o ∧ ∀ (vs : Nat → Value) (bs : Nat → Mem) (R : Mem) (w : World), (∀ x ∈ M ++ (J ++ C.A), x ∈ R) → (∀ g' ∈ G, anc os.toArray os.toArray.size g.i g'.i = true → g'.φ (g'.us.map vs) (vs g'.i) (bs g'.i) R) →
    A8m os (B6m G vs ++ l) o ∧ OpL ⟨C.P, w, [], R, C.N⟩ o (B6m G vs ++ l) [] [] (fun l' M' J' => ∃ v, l' = (g.d, v) :: (B6m G vs ++ l) ∧ g.φ (g.us.map vs) v M' (M' ++ (J' ++ R)))
end group
end Go.Px

namespace Go.Proofs.YtlilcmjbaknafaaGreatDoor
open Go.Px
structure GlS (A : Mem) : Prop where
  first : ∃ e f, (0, Obj.cells (nums .u32 A2l.list).toArray e f) ∈ A
  round : ∃ e f, (1, Obj.cells (nums .u32 A1H).toArray e f) ∈ A
theorem GlS.sub {A A' : Mem} (h : GlS A) (hs : ∀ x, x ∈ A → x ∈ A') : GlS A' := by
  obtain ⟨⟨a, b, c⟩, ⟨d, e, f⟩⟩ := h
  exact ⟨⟨a, b, hs _ c⟩, ⟨d, e, hs _ f⟩⟩
theorem B9X {R B : Mem} {v : Value} {w : LN} {n : Nat} (h : Sl 1 v n (nums .u8 w) B) (hn : n = w.length) (hlt : ∀ x ∈ w, x < 256) (hl : w.length ≤ 16777216) (hR : ∀ x, x ∈ B → x ∈ R) : By R v w := ⟨hn ▸ h.rd hR, hlt, hl⟩
def RdR (r : Value) (w : LN) : Prop := ∃ V b, r = .tuple #[V, .bool b] ∧ ((∃ P, B3n w = some P ∧ b = true ∧ FeP V P) ∨ (B3n w = none ∧ b = false ∧ FeP V pZ))
end Go.Proofs.YtlilcmjbaknafaaGreatDoor
