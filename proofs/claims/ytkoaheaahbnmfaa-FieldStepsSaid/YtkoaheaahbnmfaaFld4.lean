/- The walks of package field: Same, Zero, Odd. -/
import Derived.Test.YtkoaheaahbnmfaaFld3
import Derived.Laws.Strings
set_option linter.unusedVariables false
set_option linter.unusedSimpArgs false
namespace Go.Proofs.Ytkoaheaahbnmfaa
open Go.Px
theorem txt_prts {x y : Nat} (hx : x < p25) (hy : y < p25) : ((txt (prts 8 32 x 255)).toList == (txt (prts 8 32 y 255)).toList) = decide (x = y) := by
  by_cases h : x = y
  · subst h; simp
  · have : (txt (prts 8 32 x 255)).toList ≠ (txt (prts 8 32 y 255)).toList := by
      rw [ByteArray.toList_eq, ByteArray.toList_eq]
      intro e
      refine h (prts_inj hx hy (txt_inj (prts_lt x 255) (prts_lt y 255) ?_))
      have := congrArg List.toArray e
      simp only [Array.toArray_toList] at this
      unfold txt at this ⊢
      exact congrArg ByteArray.mk this
    rw [beq_false_of_ne this]; simp [h]

theorem fsame_spec (v u : Value) (x y : Nat) (hx : Fe v x) (hy : Fe u y) (A : Mem) : FnV Try.prog 19 [v, u] A (.bool (decide (x = y))) := by
  have hx0 := hx
  have hxl := hx.lt
  obtain ⟨a, b, c, d, e, rfl, -⟩ := hx
  have hy0 := hy
  have hyl := hy.lt
  obtain ⟨a2, b2, c2, d2, e2, rfl, -⟩ := hy
  refine FnX.enter (N := 12) Try.func19 rfl rfl rfl fun w => ?_
  refine XC.keep (kp 0 rfl (kp 1 rfl kn)) ?_
  refine XC.reg ?_
  refine XL.lo rfl (l_box rfl rfl rfl fun b2 => ?_)
  refine XL.lo rfl (l_box rfl rfl rfl fun b3 => ?_)
  refine XL.q (q_assign rfl) rfl ?_
  refine XL.fin (kp 2 rfl (kp 3 rfl kn)) ?_
  refine XC.drawF [0, 1, 2, 3, 4, 5, 6, 7] [(0, 1), (3, 1), (1, 2), (2, 1), (4, 2), (5, 1), (6, 0), (7, 0)] (by kernel_rfl) (by kernel_rfl) fun hs => ?_
  refine XF.r hs rfl (q_loadW (n := 5) rfl (by kernel_rfl) (by first | exact At.mem | exact mA (by assumption)) (by rfl)) rfl ?_
  refine XF.r hs rfl (q_loadW (n := 5) rfl (by kernel_rfl) (by first | exact At.mem | exact mA (by assumption)) (by rfl)) rfl ?_
  refine XF.call rfl (aS rfl a0) (by kernel_rfl) (fbytes_spec _ _ hx0 _) rfl ?_
  rintro r1 M1 J1 ⟨rfl, h1⟩
  refine XF.r hs rfl (q_toStr (h1.rd fun _ h => by simp [h]) rfl (by kernel_rfl)) rfl ?_
  refine XF.call rfl (aS rfl a0) (by kernel_rfl) (fbytes_spec _ _ hy0 _) rfl ?_
  rintro r2 M2 J2 ⟨rfl, h2⟩
  refine XF.r hs rfl (q_toStr (h2.rd fun _ h => by simp [h]) rfl (by kernel_rfl)) rfl ?_
  refine XF.q hs rfl (q_strEq rfl rfl) rfl ?_
  refine XF.q hs rfl (q_assign rfl) rfl ?_
  refine XF.fin (kp 4 rfl kn) ?_
  refine XC.ret ?_
  refine ⟨_, [], [], res1 rfl rfl, List.nil_sublist _, by simp, by rw [txt_prts hxl hyl], rfl, rfl⟩

theorem fzero_spec (v : Value) (x : Nat) (hx : Fe v x) (A : Mem) : FnV Try.prog 25 [v] A (.bool (decide (x = 0))) := by
  have hx0 := hx
  have hxl := hx.lt
  obtain ⟨a, b, c, d, e, rfl, -⟩ := hx
  refine FnX.enter (N := 6) Try.func25 rfl rfl rfl fun w => ?_
  refine XC.keep (kp 0 rfl kn) ?_
  refine XC.reg ?_
  refine XL.lo rfl (l_box rfl rfl rfl fun b1 => ?_)
  refine XL.q (q_assign rfl) rfl ?_
  refine XL.fin (kp 1 rfl kn) ?_
  refine XC.reg ?_
  refine XL.q (q_loadW (n := 5) rfl (by kernel_rfl) (by first | exact At.mem | exact mA (by assumption)) (by rfl)) rfl ?_
  refine XL.q (q_build (place := fun i => some (i * 1, 1)) (z := [.int .u64 0, .int .u64 0, .int .u64 0, .int .u64 0, .int .u64 0]) (fun _ => by kernel_rfl) e0 bd0) rfl ?_
  refine XL.callV (aS rfl (aS rfl a0)) (by kernel_rfl) (fsame_spec _ _ _ _ hx0 fe_zero _) rfl ?_
  refine XL.q (q_assign rfl) rfl ?_
  refine XL.fin (kp 2 rfl kn) ?_
  refine XC.ret ?_
  refine ⟨_, [], [], res1 rfl rfl, List.nil_sublist _, by simp, rfl, rfl, rfl⟩

theorem fodd_spec (v : Value) (x : Nat) (hx : Fe v x) (A : Mem) : FnV Try.prog 23 [v] A (.bool (decide (x % 2 = 1))) := by
  have hx0 := hx
  have hxl := hx.lt
  obtain ⟨a, b, c, d, e, rfl, -⟩ := hx
  refine FnX.enter (N := 9) Try.func23 rfl rfl rfl fun w => ?_
  refine XC.keep (kp 0 rfl kn) ?_
  refine XC.reg ?_
  refine XL.lo rfl (l_box rfl rfl rfl fun b1 => ?_)
  refine XL.q (q_assign rfl) rfl ?_
  refine XL.fin (kp 1 rfl kn) ?_
  refine XC.reg ?_
  refine XL.q (q_loadW (n := 5) rfl (by kernel_rfl) (by first | exact At.mem | exact mA (by assumption)) (by rfl)) rfl ?_
  refine XL.call (aS rfl a0) (by kernel_rfl) (fbytes_spec _ _ hx0 _) rfl ?_
  rintro r1 M1 J1 ⟨rfl, h1⟩
  refine XL.q (q_atV (h1.rd fun _ h => h) rfl rfl (by kernel_rfl) 0 rfl (by decide)) rfl ?_
  refine XL.q (q_ldVN (h1.rd fun _ h => by simp [h]) rfl (by kernel_rfl) (by decide)) rfl ?_
  refine XL.q (q_andD 1 2 rfl rfl rfl rfl rfl (getD_lt (prts_lt x 255) (by decide)) (by decide)) rfl ?_
  refine XL.q (q_bin rfl rfl rfl) rfl ?_
  refine XL.q (q_assign rfl) rfl ?_
  refine XL.fin (kp 2 rfl kn) ?_
  refine XC.ret ?_
  refine ⟨_, [], [], res1 rfl rfl, List.nil_sublist _, by simp, ?_, rfl, rfl⟩
  rw [prts_get (by decide), prt]
  simp only [Nat.reducePow, Nat.reduceMul, Nat.div_one]
  congr 1
  unfold p25 at hxl
  have e : x % 57896044618658097711785492504343953926634992332820282019728792003956564819968 % 256 % 2 = x % 2 := by omega
  rw [e]
  rcases Nat.mod_two_eq_zero_or_one x with h | h <;> rw [h] <;> rfl
