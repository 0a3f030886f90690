/- The walk of pawllaw02.awake: the document's examples. -/
import Derived.Test.YtkoaheaahbnmfaaDoorSha7
set_option linter.unusedVariables false
set_option linter.unusedSimpArgs false
namespace Go.Proofs.YtkoaheaahbnmfaaDoor
open Go.Px
set_option maxRecDepth 100000 in
theorem ex_sum : sha256 [97, 98, 99] = [186, 120, 22, 191, 143, 1, 207, 234, 65, 65, 64, 222, 93, 174, 34, 35, 176, 3, 97, 163, 150, 23, 122, 156, 180, 16, 255, 97, 242, 0, 21, 173] := by decide +kernel
set_option maxRecDepth 100000 in
theorem ex_mac : hmac [74, 101, 102, 101] [119, 104, 97, 116, 32, 100, 111, 32, 121, 97, 32, 119, 97, 110, 116, 32, 102, 111, 114, 32, 110, 111, 116, 104, 105, 110, 103, 63] = [91, 220, 193, 70, 191, 96, 117, 78, 106, 4, 36, 38, 8, 149, 117, 199, 90, 0, 63, 8, 157, 39, 57, 131, 157, 236, 88, 185, 100, 236, 56, 67] := by decide +kernel

theorem awake_spec (A : Mem) {ef ek : TypeId} {ff fk : Nat × Nat} (h0 : (0, Obj.cells (nums .u32 hFirst.list).toArray ef ff) ∈ A) (h1 : (1, Obj.cells (nums .u32 kTab).toArray ek fk) ∈ A) : FnV Tryd.prog 8 [] A (.bool true) := by
  refine FnX.enter (N := 19) Tryd.func8 rfl rfl rfl fun w => ?_
  refine XC.keep kn ?_
  refine XC.reg ?_
  refine XL.q (q_assign rfl) rfl ?_
  refine XL.fin kn ?_
  refine XC.reg ?_
  refine XL.lo rfl (l_buildSlice (e := 5) (sz := 1) (z := [.int .u8 0]) (by kernel_rfl) (eS rfl e0) (bdS 0 1 rfl (by rfl) bd0) rfl fun b1 => ?_)
  refine XL.lo rfl (l_mark rfl (by kernel_rfl) UpC.upd rfl ?_)
  refine XL.lo rfl (l_buildSlice (e := 5) (sz := 1) (z := [.int .u8 0, .int .u8 0]) (by kernel_rfl) (eS rfl (eS rfl e0)) (bdS 0 1 rfl (by rfl) (bdS 1 1 rfl (by rfl) bd0)) rfl fun b3 => ?_)
  refine XL.lo rfl (l_mark rfl (by kernel_rfl) UpC.upd rfl ?_)
  refine XL.lo rfl (l_buildSlice (e := 22) (sz := 1) (z := [.slice none 0 0, .slice none 0 0]) (by kernel_rfl) (eS rfl (eS rfl e0)) (bdS 0 1 rfl (by rfl) (bdS 1 1 rfl (by rfl) bd0)) rfl fun b5 => ?_)
  refine XL.lo rfl (l_call (Mc := []) (R := [_, _, _]) (aS rfl a0) (by kernel_rfl) (.refl _) (sum_spec _ [[97], [98, 99]] _ (Parts.of (Rd.whole (n := 2) m0 (by rfl)) rfl (.cons (by decide) (Rd.whole (n := 1) (cs := nums .u8 [97]) At.mem (by rfl)) (.cons (by decide) (Rd.whole (n := 2) (cs := nums .u8 [98, 99]) At.mem (by rfl)) .nil))) (by decide) (by decide) (mA h0) (mA h1)) rfl ?_)
  rintro r6 M6 J6 ⟨rfl, h6⟩
  rw [show [[97], [98, 99]].flatten = [97, 98, 99] from rfl, ex_sum] at h6
  refine XL.q (q_toStr (h6.rd fun _ h => by simp [h]) rfl (by kernel_rfl)) rfl ?_
  refine XL.q (q_strEqT rfl rfl rfl) rfl ?_
  refine XL.q (q_move rfl) rfl ?_
  refine XL.gy rfl rfl (l_buildSlice (e := 5) (sz := 1) (z := [.int .u8 0, .int .u8 0, .int .u8 0, .int .u8 0]) (by kernel_rfl) (eS rfl (eS rfl (eS rfl (eS rfl e0)))) (bdS 0 1 rfl (by rfl) (bdS 1 1 rfl (by rfl) (bdS 2 1 rfl (by rfl) (bdS 3 1 rfl (by rfl) bd0)))) rfl fun b10 => ?_)
  refine XL.gy rfl rfl (l_mark rfl (by kernel_rfl) UpC.upd rfl ?_)
  refine XL.gy rfl rfl (l_buildSlice (e := 5) (sz := 1) (z := [.int .u8 0, .int .u8 0, .int .u8 0, .int .u8 0, .int .u8 0, .int .u8 0, .int .u8 0, .int .u8 0, .int .u8 0, .int .u8 0, .int .u8 0, .int .u8 0, .int .u8 0, .int .u8 0, .int .u8 0, .int .u8 0, .int .u8 0, .int .u8 0, .int .u8 0, .int .u8 0, .int .u8 0, .int .u8 0, .int .u8 0, .int .u8 0, .int .u8 0, .int .u8 0, .int .u8 0, .int .u8 0]) (by kernel_rfl) (eS rfl (eS rfl (eS rfl (eS rfl (eS rfl (eS rfl (eS rfl (eS rfl (eS rfl (eS rfl (eS rfl (eS rfl (eS rfl (eS rfl (eS rfl (eS rfl (eS rfl (eS rfl (eS rfl (eS rfl (eS rfl (eS rfl (eS rfl (eS rfl (eS rfl (eS rfl (eS rfl (eS rfl e0)))))))))))))))))))))))))))) (bdS 0 1 rfl (by rfl) (bdS 1 1 rfl (by rfl) (bdS 2 1 rfl (by rfl) (bdS 3 1 rfl (by rfl) (bdS 4 1 rfl (by rfl) (bdS 5 1 rfl (by rfl) (bdS 6 1 rfl (by rfl) (bdS 7 1 rfl (by rfl) (bdS 8 1 rfl (by rfl) (bdS 9 1 rfl (by rfl) (bdS 10 1 rfl (by rfl) (bdS 11 1 rfl (by rfl) (bdS 12 1 rfl (by rfl) (bdS 13 1 rfl (by rfl) (bdS 14 1 rfl (by rfl) (bdS 15 1 rfl (by rfl) (bdS 16 1 rfl (by rfl) (bdS 17 1 rfl (by rfl) (bdS 18 1 rfl (by rfl) (bdS 19 1 rfl (by rfl) (bdS 20 1 rfl (by rfl) (bdS 21 1 rfl (by rfl) (bdS 22 1 rfl (by rfl) (bdS 23 1 rfl (by rfl) (bdS 24 1 rfl (by rfl) (bdS 25 1 rfl (by rfl) (bdS 26 1 rfl (by rfl) (bdS 27 1 rfl (by rfl) bd0)))))))))))))))))))))))))))) rfl fun b12 => ?_)
  refine XL.gy rfl rfl (l_mark rfl (by kernel_rfl) UpC.upd rfl ?_)
  refine XL.gy rfl rfl (l_buildSlice (e := 22) (sz := 1) (z := [.slice none 0 0]) (by kernel_rfl) (eS rfl e0) (bdS 0 1 rfl (by rfl) bd0) rfl fun b14 => ?_)
  refine XL.gy rfl rfl (l_call (Mc := []) (R := _ :: _ :: _ :: (M6 ++ [_, _, _])) (aS rfl (aS rfl a0)) (by kernel_rfl) (.refl _) (mac_spec _ _ [74, 101, 102, 101] [[119, 104, 97, 116, 32, 100, 111, 32, 121, 97, 32, 119, 97, 110, 116, 32, 102, 111, 114, 32, 110, 111, 116, 104, 105, 110, 103, 63]] _ (Rd.whole (n := 4) (cs := nums .u8 [74, 101, 102, 101]) At.mem (by rfl)) (by decide) (by decide) (Parts.of (Rd.whole (n := 1) m0 (by rfl)) rfl (.cons (by decide) (Rd.whole (n := 28) (cs := nums .u8 [119, 104, 97, 116, 32, 100, 111, 32, 121, 97, 32, 119, 97, 110, 116, 32, 102, 111, 114, 32, 110, 111, 116, 104, 105, 110, 103, 63]) At.mem (by rfl)) .nil)) (by decide) (by decide) (mA h0) (mA h1)) rfl ?_)
  rintro r15 M15 J15 ⟨rfl, h15⟩
  rw [show [[119, 104, 97, 116, 32, 100, 111, 32, 121, 97, 32, 119, 97, 110, 116, 32, 102, 111, 114, 32, 110, 111, 116, 104, 105, 110, 103, 63]].flatten = [119, 104, 97, 116, 32, 100, 111, 32, 121, 97, 32, 119, 97, 110, 116, 32, 102, 111, 114, 32, 110, 111, 116, 104, 105, 110, 103, 63] from rfl, ex_mac] at h15
  refine XL.gy rfl rfl (OpQ.opL (q_toStr (h15.rd fun _ h => by simp [h]) rfl (by kernel_rfl)) rfl ?_)
  refine XL.gy rfl rfl (OpQ.opL (q_strEqT rfl rfl rfl) rfl ?_)
  refine XL.q (q_pickT rfl rfl) rfl ?_
  refine XL.q (q_assign rfl) rfl ?_
  refine XL.fin (kp 0 rfl kn) ?_
  refine XC.ret ?_
  exact ⟨_, [], [], res1 rfl rfl, List.nil_sublist _, by simp, rfl, rfl, rfl⟩
