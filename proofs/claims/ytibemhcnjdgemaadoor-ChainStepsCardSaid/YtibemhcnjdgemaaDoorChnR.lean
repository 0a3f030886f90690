/- The first twenty keys of a chain of numbers: at each step the two halves are unlike. -/
import Derived.Test.YtibemhcnjdgemaaDoorPrm2
import Derived.Test.YtibemhcnjdgemaaDoorShaF
set_option linter.unusedVariables false
namespace Go.Proofs.YtibemhcnjdgemaaDoor
open Go.Px
noncomputable def forceL {α : Type} (l : List Nat) : (List Nat → α) → α := List.rec (motive := fun _ => (List Nat → α) → α) (fun f => f []) (fun x _ ih f => force x fun x => ih fun r => f (x :: r)) l
theorem forceL_eq {α : Type} (l : List Nat) (f : List Nat → α) : forceL l f = f l := by
  induction l generalizing f with
  | nil => rfl
  | cons x r ih =>
    show force x (fun x => forceL r fun r => f (x :: r)) = _
    rw [force_eq]
    exact ih _
/-- The 64 bytes of a step, fast. -/
noncomputable def bigF {α : Type} (k : List Nat) (f : List Nat → List Nat → α) : α :=
  forceL (hmacF (fitN k 32) []) fun e => forceL (hmacF e ([115, 116, 101, 112] ++ [1])) fun b => forceL (hmacF e (b ++ ([115, 116, 101, 112] ++ [2]))) fun c => f b c
theorem hmacF_len (key p : List Nat) : (hmacF key p).length = 32 := by rw [hmacF_eq]; exact sha256_len _
theorem bigF_eq {α : Type} (k : List Nat) (f : List Nat → List Nat → α) : bigF k f = f (((bigR k [] [115, 116, 101, 112] 2).take 32).drop 0) (((bigR k [] [115, 116, 101, 112] 2).take 64).drop 32) := by
  have h : bigR k [] [115, 116, 101, 112] 2 = hmacF (hmacF (fitN k 32) []) ([115, 116, 101, 112] ++ [1]) ++ hmacF (hmacF (fitN k 32) []) (hmacF (hmacF (fitN k 32) []) ([115, 116, 101, 112] ++ [1]) ++ ([115, 116, 101, 112] ++ [2])) := by
    unfold bigR
    rw [← hmacF_eq]
    exact expand64 _ _
  unfold bigF
  rw [forceL_eq, forceL_eq, forceL_eq, h]
  have l1 := hmacF_len (hmacF (fitN k 32) []) ([115, 116, 101, 112] ++ [1])
  have l2 := hmacF_len (hmacF (fitN k 32) []) (hmacF (hmacF (fitN k 32) []) ([115, 116, 101, 112] ++ [1]) ++ ([115, 116, 101, 112] ++ [2]))
  generalize hmacF (hmacF (fitN k 32) []) ([115, 116, 101, 112] ++ [1]) = b at *
  generalize hmacF (hmacF (fitN k 32) []) (b ++ ([115, 116, 101, 112] ++ [2])) = c at *
  rw [List.drop_zero, List.take_of_length_le (i := 64) (by rw [List.length_append]; omega)]
  rw [List.take_append_of_le_length (by omega), List.take_of_length_le (by omega), List.drop_append_of_le_length (by omega), List.drop_of_length_le (by omega), List.nil_append]
def chkR : Nat → List Nat → Bool
  | 0, _ => true
  | n + 1, k => (!(((bigR k [] [115, 116, 101, 112] 2).take 32).drop 0 == ((bigR k [] [115, 116, 101, 112] 2).take 64).drop 32)) && chkR n (((bigR k [] [115, 116, 101, 112] 2).take 64).drop 32)
noncomputable def chkF : Nat → List Nat → Bool
  | 0, _ => true
  | n + 1, k => bigF k fun b c => (!(b == c)) && chkF n c
theorem chkF_eq (n : Nat) (k : List Nat) : chkF n k = chkR n k := by
  induction n generalizing k with
  | zero => rfl
  | succ n ih =>
    show bigF k _ = _
    rw [bigF_eq, ih]; rfl
set_option maxRecDepth 100000 in
theorem chk20F : (chkF 20 (hmacF (hmacF [] [99, 104, 97, 105, 110]) (([107, 101, 121] ++ le8n 1) ++ [1]))) = true := by decide +kernel
theorem chk20 : chkR 20 (keyR [99, 104, 97, 105, 110] 1) = true := by
  have e : keyR [99, 104, 97, 105, 110] 1 = hmacF (hmacF [] [99, 104, 97, 105, 110]) (([107, 101, 121] ++ le8n 1) ++ [1]) := by
    unfold keyR
    rw [← hmacF_eq]
    exact expand32 _ _
  rw [e, ← chkF_eq]
  exact chk20F
end Go.Proofs.YtibemhcnjdgemaaDoor
