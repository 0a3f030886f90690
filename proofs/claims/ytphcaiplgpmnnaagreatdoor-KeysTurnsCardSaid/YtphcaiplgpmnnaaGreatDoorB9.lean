/- Part 9 of the texts of this claim, one behind the other. -/
import Derived.Test.YtphcaiplgpmnnaaGreatDoorB8
import Derived.Test.YtphcaiplgpmnnaaGreatDoorRows
set_option linter.unusedVariables false
set_option linter.unusedSimpArgs false
set_option linter.unusedVariables false
set_option linter.unusedSimpArgs false
namespace Go.Proofs.YtphcaiplgpmnnaaGreatDoor
open Go.Px
/-- An element's value, of its five parts. -/
abbrev el (a b c d e : Nat) : Value := .agg #[.int .u64 (a : Int), .int .u64 (b : Int), .int .u64 (c : Int), .int .u64 (d : Int), .int .u64 (e : Int)]
/-- The value of an element that is the number n. -/
def Fe (v : Value) (n : Nat) : Prop := ∃ a b c d e, v = el a b c d e ∧ a < 4503599627370496 ∧ b < 4503599627370496 ∧ c < 4503599627370496 ∧ d < 4503599627370496 ∧ e < 4503599627370496 ∧ fv a b c d e % p25 = n
theorem Fe.lt {v : Value} {n : Nat} (h : Fe v n) : n < p25 := by
  obtain ⟨a, b, c, d, e, _, _, _, _, _, _, rfl⟩ := h
  exact Nat.mod_lt _ (by decide)

set_option maxRecDepth 100000 in
theorem settle_spec (a b c d e : Nat) (ha : a < 9223372036854775808) (hb : b < 9223372036854775808) (hc : c < 9223372036854775808) (hd : d < 9223372036854775808) (he : e < 9223372036854775808) (A : Mem) :
    FnX Tryz.prog 155 [el a b c d e] [] A fun r M J => M = [] ∧ J = [] ∧ ∃ a' b' c' d' e', r = el a' b' c' d' e' ∧ a' < 2251799813685248 ∧ b' < 2251799813685248 ∧ c' < 2251799813685248 ∧ d' < 2251799813685248 ∧ fv a' b' c' d' e' + p25 * (e / 2251799813685248) = fv a b c d e ∧ e' < 2251799813685248 + 8192 := by
  refine FnX.enter (N := 38) Tryz.func155 rfl rfl rfl fun w => ?_
  refine XC.keep (kp 0 rfl kn) ?_
  refine XC.reg ?_
  refine XL.lo rfl (l_box rfl (by first | exact Cel.cel | rfl) rfl fun b1 => ?_)
  refine XL.lo rfl (l_alloc (cs := [.int .u64 0, .int .u64 0, .int .u64 0, .int .u64 0, .int .u64 0]) (by kernel_rfl) rfl fun b2 => ?_)
  refine XL.fin (kp 1 rfl (kp 2 rfl kn)) ?_
  refine XC.reg ?_
  refine XL.q (q_idxAN 4 (e := 28) (n := 5) (sz := 1) (i := 4) rfl rfl (by kernel_rfl) (by kernel_rfl) rfl (by decide) rfl) rfl ?_
  refine XL.q (q_load rfl (by kernel_rfl) (by first | exact At.mem | exact mA (by assumption)) (by rfl)) rfl ?_
  refine XL.q (q_shrD 51 2251799813685248 rfl rfl rfl rfl (by decide)) rfl ?_
  refine XL.q (q_assign rfl) rfl ?_
  refine XL.fin (kp 1 rfl (kp 2 rfl (kp 3 rfl kn))) ?_
  refine XC.reg ?_
  refine XL.q (q_idxAN 4 (e := 28) (n := 5) (sz := 1) (i := 4) rfl rfl (by kernel_rfl) (by kernel_rfl) rfl (by decide) rfl) rfl ?_
  refine XL.q (q_load rfl (by kernel_rfl) (by first | exact At.mem | exact mA (by assumption)) (by rfl)) rfl ?_
  refine XL.q (q_andD 51 2251799813685248 rfl rfl rfl rfl rfl (by show _ < 18446744073709551616; first | assumption | exact Nat.mod_lt _ (by decide) | omega) (by decide)) rfl ?_
  refine XL.q (q_idxAN 4 (e := 28) (n := 5) (sz := 1) (i := 4) rfl rfl (by kernel_rfl) (by kernel_rfl) rfl (by decide) rfl) rfl ?_
  refine XL.lo rfl (l_store rfl rfl rfl (by kernel_rfl) SetC.set UpC.upd ?_)
  refine XL.fin (kp 1 rfl (kp 2 rfl (kp 3 rfl kn))) ?_
  refine XC.reg ?_
  refine XL.q (q_idxAN 0 (e := 28) (n := 5) (sz := 1) (i := 0) rfl rfl (by kernel_rfl) (by kernel_rfl) rfl (by decide) rfl) rfl ?_
  refine XL.q (q_load rfl (by kernel_rfl) (by first | exact At.mem | exact mA (by assumption)) (by rfl)) rfl ?_
  refine XL.q (q_move rfl) rfl ?_
  refine XL.q (q_mulM 18446744073709551616 (a := 19) rfl rfl rfl rfl rfl rfl) rfl ?_
  refine XL.q (q_addM 18446744073709551616 rfl rfl rfl rfl rfl rfl) rfl ?_
  refine XL.q (q_idxAN 0 (e := 28) (n := 5) (sz := 1) (i := 0) rfl rfl (by kernel_rfl) (by kernel_rfl) rfl (by decide) rfl) rfl ?_
  refine XL.lo rfl (l_store rfl rfl rfl (by kernel_rfl) SetC.set UpC.upd ?_)
  refine XL.fin (kp 1 rfl (kp 2 rfl kn)) ?_
  refine XC.seq ?_
  refine XC.reg ?_
  refine XL.q (q_move rfl) rfl ?_
  refine XL.fin (kp 1 rfl (kp 2 rfl (kp 18 rfl kn))) ?_
  refine XC.block ?_
  refine XC.rounds 5 ?_
  refine XR.step ?_
  refine XC.reg ?_
  refine XL.q (q_cmp true rfl rfl (ltT (by decide))) rfl ?_
  refine XL.fin (kp 1 rfl (kp 2 rfl (kp 18 rfl (kp 19 rfl kn)))) ?_
  refine XC.seq ?_
  refine XC.condT rfl ?_
  refine XC.skip ?_
  refine nx (kp 1 rfl (kp 2 rfl (kp 18 rfl kn))) ?_
  refine XC.seq ?_
  refine XC.block ?_
  refine XC.reg ?_
  refine XL.q (q_move rfl) rfl ?_
  refine XL.q (q_assign rfl) rfl ?_
  refine XL.fin (kp 1 rfl (kp 2 rfl (kp 4 rfl (kp 18 rfl kn)))) ?_
  refine XC.drawF [0, 1, 2, 3, 4, 5, 6, 7, 8, 9] [(0, 0), (1, 0), (2, 0), (3, 1), (4, 0), (5, 0), (6, 1), (7, 0), (8, 0), (9, 0), (10, 2)] (by kernel_rfl) (by kernel_rfl) fun hs => ?_
  refine XF.q hs rfl (q_move rfl) rfl ?_
  refine XF.q hs rfl (q_num (1 : Int) rfl rfl (add64 (by decide) (by decide) (by decide))) rfl ?_
  refine XF.q hs rfl (q_idxAN 1 (e := 28) (n := 5) (sz := 1) (i := 1) rfl rfl (by kernel_rfl) (by kernel_rfl) rfl (by decide) rfl) rfl ?_
  refine XF.r hs rfl (q_load rfl (by kernel_rfl) (by first | exact At.mem | exact mA (by assumption)) (by rfl)) rfl ?_
  refine XF.q hs rfl (q_move rfl) rfl ?_
  refine XF.q hs rfl (q_idxAN 0 (e := 28) (n := 5) (sz := 1) (i := 0) rfl rfl (by kernel_rfl) (by kernel_rfl) rfl (by decide) rfl) rfl ?_
  refine XF.r hs rfl (q_load rfl (by kernel_rfl) (by first | exact At.mem | exact mA (by assumption)) (by rfl)) rfl ?_
  refine XF.q hs rfl (q_shrD 51 2251799813685248 rfl rfl rfl rfl (by decide)) rfl ?_
  refine XF.q hs rfl (q_addM 18446744073709551616 rfl rfl rfl rfl rfl rfl) rfl ?_
  refine XF.q hs rfl (q_idxAN 1 (e := 28) (n := 5) (sz := 1) (i := 1) rfl rfl (by kernel_rfl) (by kernel_rfl) rfl (by decide) rfl) rfl ?_
  refine XF.tl rfl rfl rfl (l_store rfl rfl rfl (by kernel_rfl) SetC.set UpC.upd ?_)
  refine XF.fin (kp 1 rfl (kp 2 rfl (kp 4 rfl (kp 18 rfl kn)))) ?_
  refine XC.reg1 ?_
  refine XL.q (q_move rfl) rfl ?_
  refine XL.q (q_idxAN 0 (e := 28) (n := 5) (sz := 1) (i := 0) rfl rfl (by kernel_rfl) (by kernel_rfl) rfl (by decide) rfl) rfl ?_
  refine XL.q (q_load rfl (by kernel_rfl) (by first | exact At.mem | exact mA (by assumption)) (by rfl)) rfl ?_
  refine XL.q (q_andD 51 2251799813685248 rfl rfl rfl rfl rfl (by show _ < 18446744073709551616; first | assumption | exact Nat.mod_lt _ (by decide) | omega) (by decide)) rfl ?_
  refine XL.q (q_idxAN 0 (e := 28) (n := 5) (sz := 1) (i := 0) rfl rfl (by kernel_rfl) (by kernel_rfl) rfl (by decide) rfl) rfl ?_
  refine XL.lo rfl (l_store rfl rfl rfl (by kernel_rfl) SetC.set UpC.upd ?_)
  refine XL.nil ?_
  refine nb ?_
  refine nx (kp 1 rfl (kp 2 rfl (kp 18 rfl kn))) ?_
  refine XC.reg1 ?_
  refine XL.q (q_num (1 : Int) rfl rfl (add64 (by decide) (by decide) (by decide))) rfl ?_
  refine XL.q (q_move rfl) rfl ?_
  refine XL.nil ?_
  refine un (kp 1 rfl (kp 2 rfl (kp 18 rfl kn))) ?_
  refine XR.step ?_
  refine XC.reg ?_
  refine XL.q (q_cmp true rfl rfl (ltT (by decide))) rfl ?_
  refine XL.fin (kp 1 rfl (kp 2 rfl (kp 18 rfl (kp 19 rfl kn)))) ?_
  refine XC.seq ?_
  refine XC.condT rfl ?_
  refine XC.skip ?_
  refine nx (kp 1 rfl (kp 2 rfl (kp 18 rfl kn))) ?_
  refine XC.seq ?_
  refine XC.block ?_
  refine XC.reg ?_
  refine XL.q (q_move rfl) rfl ?_
  refine XL.q (q_assign rfl) rfl ?_
  refine XL.fin (kp 1 rfl (kp 2 rfl (kp 4 rfl (kp 18 rfl kn)))) ?_
  refine XC.drawF [0, 1, 2, 3, 4, 5, 6, 7, 8, 9] [(0, 0), (1, 0), (2, 0), (3, 1), (4, 0), (5, 0), (6, 1), (7, 0), (8, 0), (9, 0), (10, 2)] (by kernel_rfl) (by kernel_rfl) fun hs => ?_
  refine XF.q hs rfl (q_move rfl) rfl ?_
  refine XF.q hs rfl (q_num (2 : Int) rfl rfl (add64 (by decide) (by decide) (by decide))) rfl ?_
  refine XF.q hs rfl (q_idxAN 2 (e := 28) (n := 5) (sz := 1) (i := 2) rfl rfl (by kernel_rfl) (by kernel_rfl) rfl (by decide) rfl) rfl ?_
  refine XF.r hs rfl (q_load rfl (by kernel_rfl) (by first | exact At.mem | exact mA (by assumption)) (by rfl)) rfl ?_
  refine XF.q hs rfl (q_move rfl) rfl ?_
  refine XF.q hs rfl (q_idxAN 1 (e := 28) (n := 5) (sz := 1) (i := 1) rfl rfl (by kernel_rfl) (by kernel_rfl) rfl (by decide) rfl) rfl ?_
  refine XF.r hs rfl (q_load rfl (by kernel_rfl) (by first | exact At.mem | exact mA (by assumption)) (by rfl)) rfl ?_
  refine XF.q hs rfl (q_shrD 51 2251799813685248 rfl rfl rfl rfl (by decide)) rfl ?_
  refine XF.q hs rfl (q_addM 18446744073709551616 rfl rfl rfl rfl rfl rfl) rfl ?_
  refine XF.q hs rfl (q_idxAN 2 (e := 28) (n := 5) (sz := 1) (i := 2) rfl rfl (by kernel_rfl) (by kernel_rfl) rfl (by decide) rfl) rfl ?_
  refine XF.tl rfl rfl rfl (l_store rfl rfl rfl (by kernel_rfl) SetC.set UpC.upd ?_)
  refine XF.fin (kp 1 rfl (kp 2 rfl (kp 4 rfl (kp 18 rfl kn)))) ?_
  refine XC.reg1 ?_
  refine XL.q (q_move rfl) rfl ?_
  refine XL.q (q_idxAN 1 (e := 28) (n := 5) (sz := 1) (i := 1) rfl rfl (by kernel_rfl) (by kernel_rfl) rfl (by decide) rfl) rfl ?_
  refine XL.q (q_load rfl (by kernel_rfl) (by first | exact At.mem | exact mA (by assumption)) (by rfl)) rfl ?_
  refine XL.q (q_andD 51 2251799813685248 rfl rfl rfl rfl rfl (by show _ < 18446744073709551616; first | assumption | exact Nat.mod_lt _ (by decide) | omega) (by decide)) rfl ?_
  refine XL.q (q_idxAN 1 (e := 28) (n := 5) (sz := 1) (i := 1) rfl rfl (by kernel_rfl) (by kernel_rfl) rfl (by decide) rfl) rfl ?_
  refine XL.lo rfl (l_store rfl rfl rfl (by kernel_rfl) SetC.set UpC.upd ?_)
  refine XL.nil ?_
  refine nb ?_
  refine nx (kp 1 rfl (kp 2 rfl (kp 18 rfl kn))) ?_
  refine XC.reg1 ?_
  refine XL.q (q_num (2 : Int) rfl rfl (add64 (by decide) (by decide) (by decide))) rfl ?_
  refine XL.q (q_move rfl) rfl ?_
  refine XL.nil ?_
  refine un (kp 1 rfl (kp 2 rfl (kp 18 rfl kn))) ?_
  refine XR.step ?_
  refine XC.reg ?_
  refine XL.q (q_cmp true rfl rfl (ltT (by decide))) rfl ?_
  refine XL.fin (kp 1 rfl (kp 2 rfl (kp 18 rfl (kp 19 rfl kn)))) ?_
  refine XC.seq ?_
  refine XC.condT rfl ?_
  refine XC.skip ?_
  refine nx (kp 1 rfl (kp 2 rfl (kp 18 rfl kn))) ?_
  refine XC.seq ?_
  refine XC.block ?_
  refine XC.reg ?_
  refine XL.q (q_move rfl) rfl ?_
  refine XL.q (q_assign rfl) rfl ?_
  refine XL.fin (kp 1 rfl (kp 2 rfl (kp 4 rfl (kp 18 rfl kn)))) ?_
  refine XC.drawF [0, 1, 2, 3, 4, 5, 6, 7, 8, 9] [(0, 0), (1, 0), (2, 0), (3, 1), (4, 0), (5, 0), (6, 1), (7, 0), (8, 0), (9, 0), (10, 2)] (by kernel_rfl) (by kernel_rfl) fun hs => ?_
  refine XF.q hs rfl (q_move rfl) rfl ?_
  refine XF.q hs rfl (q_num (3 : Int) rfl rfl (add64 (by decide) (by decide) (by decide))) rfl ?_
  refine XF.q hs rfl (q_idxAN 3 (e := 28) (n := 5) (sz := 1) (i := 3) rfl rfl (by kernel_rfl) (by kernel_rfl) rfl (by decide) rfl) rfl ?_
  refine XF.r hs rfl (q_load rfl (by kernel_rfl) (by first | exact At.mem | exact mA (by assumption)) (by rfl)) rfl ?_
  refine XF.q hs rfl (q_move rfl) rfl ?_
  refine XF.q hs rfl (q_idxAN 2 (e := 28) (n := 5) (sz := 1) (i := 2) rfl rfl (by kernel_rfl) (by kernel_rfl) rfl (by decide) rfl) rfl ?_
  refine XF.r hs rfl (q_load rfl (by kernel_rfl) (by first | exact At.mem | exact mA (by assumption)) (by rfl)) rfl ?_
  refine XF.q hs rfl (q_shrD 51 2251799813685248 rfl rfl rfl rfl (by decide)) rfl ?_
  refine XF.q hs rfl (q_addM 18446744073709551616 rfl rfl rfl rfl rfl rfl) rfl ?_
  refine XF.q hs rfl (q_idxAN 3 (e := 28) (n := 5) (sz := 1) (i := 3) rfl rfl (by kernel_rfl) (by kernel_rfl) rfl (by decide) rfl) rfl ?_
  refine XF.tl rfl rfl rfl (l_store rfl rfl rfl (by kernel_rfl) SetC.set UpC.upd ?_)
  refine XF.fin (kp 1 rfl (kp 2 rfl (kp 4 rfl (kp 18 rfl kn)))) ?_
  refine XC.reg1 ?_
  refine XL.q (q_move rfl) rfl ?_
  refine XL.q (q_idxAN 2 (e := 28) (n := 5) (sz := 1) (i := 2) rfl rfl (by kernel_rfl) (by kernel_rfl) rfl (by decide) rfl) rfl ?_
  refine XL.q (q_load rfl (by kernel_rfl) (by first | exact At.mem | exact mA (by assumption)) (by rfl)) rfl ?_
  refine XL.q (q_andD 51 2251799813685248 rfl rfl rfl rfl rfl (by show _ < 18446744073709551616; first | assumption | exact Nat.mod_lt _ (by decide) | omega) (by decide)) rfl ?_
  refine XL.q (q_idxAN 2 (e := 28) (n := 5) (sz := 1) (i := 2) rfl rfl (by kernel_rfl) (by kernel_rfl) rfl (by decide) rfl) rfl ?_
  refine XL.lo rfl (l_store rfl rfl rfl (by kernel_rfl) SetC.set UpC.upd ?_)
  refine XL.nil ?_
  refine nb ?_
  refine nx (kp 1 rfl (kp 2 rfl (kp 18 rfl kn))) ?_
  refine XC.reg1 ?_
  refine XL.q (q_num (3 : Int) rfl rfl (add64 (by decide) (by decide) (by decide))) rfl ?_
  refine XL.q (q_move rfl) rfl ?_
  refine XL.nil ?_
  refine un (kp 1 rfl (kp 2 rfl (kp 18 rfl kn))) ?_
  refine XR.step ?_
  refine XC.reg ?_
  refine XL.q (q_cmp true rfl rfl (ltT (by decide))) rfl ?_
  refine XL.fin (kp 1 rfl (kp 2 rfl (kp 18 rfl (kp 19 rfl kn)))) ?_
  refine XC.seq ?_
  refine XC.condT rfl ?_
  refine XC.skip ?_
  refine nx (kp 1 rfl (kp 2 rfl (kp 18 rfl kn))) ?_
  refine XC.seq ?_
  refine XC.block ?_
  refine XC.reg ?_
  refine XL.q (q_move rfl) rfl ?_
  refine XL.q (q_assign rfl) rfl ?_
  refine XL.fin (kp 1 rfl (kp 2 rfl (kp 4 rfl (kp 18 rfl kn)))) ?_
  refine XC.drawF [0, 1, 2, 3, 4, 5, 6, 7, 8, 9] [(0, 0), (1, 0), (2, 0), (3, 1), (4, 0), (5, 0), (6, 1), (7, 0), (8, 0), (9, 0), (10, 2)] (by kernel_rfl) (by kernel_rfl) fun hs => ?_
  refine XF.q hs rfl (q_move rfl) rfl ?_
  refine XF.q hs rfl (q_num (4 : Int) rfl rfl (add64 (by decide) (by decide) (by decide))) rfl ?_
  refine XF.q hs rfl (q_idxAN 4 (e := 28) (n := 5) (sz := 1) (i := 4) rfl rfl (by kernel_rfl) (by kernel_rfl) rfl (by decide) rfl) rfl ?_
  refine XF.r hs rfl (q_load rfl (by kernel_rfl) (by first | exact At.mem | exact mA (by assumption)) (by rfl)) rfl ?_
  refine XF.q hs rfl (q_move rfl) rfl ?_
  refine XF.q hs rfl (q_idxAN 3 (e := 28) (n := 5) (sz := 1) (i := 3) rfl rfl (by kernel_rfl) (by kernel_rfl) rfl (by decide) rfl) rfl ?_
  refine XF.r hs rfl (q_load rfl (by kernel_rfl) (by first | exact At.mem | exact mA (by assumption)) (by rfl)) rfl ?_
  refine XF.q hs rfl (q_shrD 51 2251799813685248 rfl rfl rfl rfl (by decide)) rfl ?_
  refine XF.q hs rfl (q_addM 18446744073709551616 rfl rfl rfl rfl rfl rfl) rfl ?_
  refine XF.q hs rfl (q_idxAN 4 (e := 28) (n := 5) (sz := 1) (i := 4) rfl rfl (by kernel_rfl) (by kernel_rfl) rfl (by decide) rfl) rfl ?_
  refine XF.tl rfl rfl rfl (l_store rfl rfl rfl (by kernel_rfl) SetC.set UpC.upd ?_)
  refine XF.fin (kp 1 rfl (kp 2 rfl (kp 4 rfl (kp 18 rfl kn)))) ?_
  refine XC.reg1 ?_
  refine XL.q (q_move rfl) rfl ?_
  refine XL.q (q_idxAN 3 (e := 28) (n := 5) (sz := 1) (i := 3) rfl rfl (by kernel_rfl) (by kernel_rfl) rfl (by decide) rfl) rfl ?_
  refine XL.q (q_load rfl (by kernel_rfl) (by first | exact At.mem | exact mA (by assumption)) (by rfl)) rfl ?_
  refine XL.q (q_andD 51 2251799813685248 rfl rfl rfl rfl rfl (by show _ < 18446744073709551616; first | assumption | exact Nat.mod_lt _ (by decide) | omega) (by decide)) rfl ?_
  refine XL.q (q_idxAN 3 (e := 28) (n := 5) (sz := 1) (i := 3) rfl rfl (by kernel_rfl) (by kernel_rfl) rfl (by decide) rfl) rfl ?_
  refine XL.lo rfl (l_store rfl rfl rfl (by kernel_rfl) SetC.set UpC.upd ?_)
  refine XL.nil ?_
  refine nb ?_
  refine nx (kp 1 rfl (kp 2 rfl (kp 18 rfl kn))) ?_
  refine XC.reg1 ?_
  refine XL.q (q_num (4 : Int) rfl rfl (add64 (by decide) (by decide) (by decide))) rfl ?_
  refine XL.q (q_move rfl) rfl ?_
  refine XL.nil ?_
  refine un (kp 1 rfl (kp 2 rfl (kp 18 rfl kn))) ?_
  refine XR.step ?_
  refine XC.reg ?_
  refine XL.q (q_cmp false rfl rfl (ltF (by decide))) rfl ?_
  refine XL.fin (kp 1 rfl (kp 2 rfl (kp 18 rfl (kp 19 rfl kn)))) ?_
  refine XC.seq ?_
  refine XC.condF rfl ?_
  refine XC.exit ?_
  refine te ?_
  refine ue ?_
  refine be rfl ?_
  refine nx (kp 1 rfl (kp 2 rfl kn)) ?_
  refine XC.reg ?_
  refine XL.q (q_loadW (n := 5) rfl (by kernel_rfl) (by first | exact At.mem | exact mA (by assumption)) (by rfl)) rfl ?_
  refine XL.lo rfl (l_storeW rfl rfl Cel.cel (by kernel_rfl) (lnS (lnS (lnS (lnS (lnS (ln0)))))) (allS rfl (allS rfl (allS rfl (allS rfl (allS rfl (all0)))))) UpC.upd ?_)
  refine XL.fin (kp 2 rfl kn) ?_
  refine XC.ret ?_
  refine ⟨_, [], [], resC rfl rfl (by kernel_rfl) At.mem (by rfl), List.nil_sublist _, by simp, rfl, rfl, _, _, _, _, _, rfl, Nat.mod_lt _ (by decide), Nat.mod_lt _ (by decide), Nat.mod_lt _ (by decide), Nat.mod_lt _ (by decide), settle_law ha hb hc hd he rfl rfl rfl rfl rfl⟩

set_option maxRecDepth 100000 in
theorem fadd_spec (v u : Value) (x y : Nat) (hx : Fe v x) (hy : Fe u y) (A : Mem) : FnX Tryz.prog 152 [v, u] [] A fun r M J => M = [] ∧ J = [] ∧ Fe r ((x + y) % p25) := by
  obtain ⟨a, b, c, d, e, rfl, ha, hb, hc, hd, he, rfl⟩ := hx
  obtain ⟨a2, b2, c2, d2, e2, rfl, ha2, hb2, hc2, hd2, he2, rfl⟩ := hy
  refine FnX.enter (N := 20) Tryz.func152 rfl rfl rfl fun w => ?_
  refine XC.keep (kp 0 rfl (kp 1 rfl kn)) ?_
  refine XC.reg ?_
  refine XL.lo rfl (l_box rfl (by first | exact Cel.cel | rfl) rfl fun b2 => ?_)
  refine XL.lo rfl (l_box rfl (by first | exact Cel.cel | rfl) rfl fun b3 => ?_)
  refine XL.lo rfl (l_alloc (cs := [.int .u64 0, .int .u64 0, .int .u64 0, .int .u64 0, .int .u64 0]) (by kernel_rfl) rfl fun b4 => ?_)
  refine XL.fin (kp 2 rfl (kp 3 rfl (kp 4 rfl kn))) ?_
  refine XC.seq ?_
  refine XC.reg ?_
  refine XL.q (q_move rfl) rfl ?_
  refine XL.fin (kp 2 rfl (kp 3 rfl (kp 4 rfl (kp 6 rfl kn)))) ?_
  refine XC.block ?_
  refine XC.rounds 6 ?_
  refine XR.step ?_
  refine XC.reg ?_
  refine XL.q (q_cmp true rfl rfl (ltT (by decide))) rfl ?_
  refine XL.fin (kp 2 rfl (kp 3 rfl (kp 4 rfl (kp 6 rfl (kp 7 rfl kn))))) ?_
  refine XC.seq ?_
  refine XC.condT rfl ?_
  refine XC.skip ?_
  refine nx (kp 2 rfl (kp 3 rfl (kp 4 rfl (kp 6 rfl kn)))) ?_
  refine XC.seq ?_
  refine XC.block ?_
  refine XC.reg ?_
  refine XL.q (q_move rfl) rfl ?_
  refine XL.q (q_assign rfl) rfl ?_
  refine XL.fin (kp 2 rfl (kp 3 rfl (kp 4 rfl (kp 5 rfl (kp 6 rfl kn))))) ?_
  refine XC.drawF1 [0, 1, 2, 3, 4, 5, 6, 7] [(0, 0), (1, 0), (2, 1), (3, 0), (4, 0), (5, 1), (6, 0), (7, 0), (8, 2)] (by kernel_rfl) (by kernel_rfl) fun hs => ?_
  refine XF.q hs rfl (q_move rfl) rfl ?_
  refine XF.q hs rfl (q_idxAN 0 (e := 28) (n := 5) (sz := 1) (i := 0) rfl rfl (by kernel_rfl) (by kernel_rfl) rfl (by decide) rfl) rfl ?_
  refine XF.r hs rfl (q_load rfl (by kernel_rfl) (by first | exact At.mem | exact mA (by assumption)) (by rfl)) rfl ?_
  refine XF.q hs rfl (q_move rfl) rfl ?_
  refine XF.q hs rfl (q_idxAN 0 (e := 28) (n := 5) (sz := 1) (i := 0) rfl rfl (by kernel_rfl) (by kernel_rfl) rfl (by decide) rfl) rfl ?_
  refine XF.r hs rfl (q_load rfl (by kernel_rfl) (by first | exact At.mem | exact mA (by assumption)) (by rfl)) rfl ?_
  refine XF.q hs rfl (q_addM 18446744073709551616 rfl rfl rfl rfl rfl rfl) rfl ?_
  refine XF.q hs rfl (q_idxAN 0 (e := 28) (n := 5) (sz := 1) (i := 0) rfl rfl (by kernel_rfl) (by kernel_rfl) rfl (by decide) rfl) rfl ?_
  refine XF.tl rfl rfl rfl (l_store rfl rfl rfl (by kernel_rfl) SetC.set UpC.upd ?_)
  refine XF.nil ?_
  refine nb ?_
  refine nx (kp 2 rfl (kp 3 rfl (kp 4 rfl (kp 6 rfl kn)))) ?_
  refine XC.reg1 ?_
  refine XL.q (q_num (1 : Int) rfl rfl (add64 (by decide) (by decide) (by decide))) rfl ?_
  refine XL.q (q_move rfl) rfl ?_
  refine XL.nil ?_
  refine un (kp 2 rfl (kp 3 rfl (kp 4 rfl (kp 6 rfl kn)))) ?_
  refine XR.step ?_
  refine XC.reg ?_
  refine XL.q (q_cmp true rfl rfl (ltT (by decide))) rfl ?_
  refine XL.fin (kp 2 rfl (kp 3 rfl (kp 4 rfl (kp 6 rfl (kp 7 rfl kn))))) ?_
  refine XC.seq ?_
  refine XC.condT rfl ?_
  refine XC.skip ?_
  refine nx (kp 2 rfl (kp 3 rfl (kp 4 rfl (kp 6 rfl kn)))) ?_
  refine XC.seq ?_
  refine XC.block ?_
  refine XC.reg ?_
  refine XL.q (q_move rfl) rfl ?_
  refine XL.q (q_assign rfl) rfl ?_
  refine XL.fin (kp 2 rfl (kp 3 rfl (kp 4 rfl (kp 5 rfl (kp 6 rfl kn))))) ?_
  refine XC.drawF1 [0, 1, 2, 3, 4, 5, 6, 7] [(0, 0), (1, 0), (2, 1), (3, 0), (4, 0), (5, 1), (6, 0), (7, 0), (8, 2)] (by kernel_rfl) (by kernel_rfl) fun hs => ?_
  refine XF.q hs rfl (q_move rfl) rfl ?_
  refine XF.q hs rfl (q_idxAN 1 (e := 28) (n := 5) (sz := 1) (i := 1) rfl rfl (by kernel_rfl) (by kernel_rfl) rfl (by decide) rfl) rfl ?_
  refine XF.r hs rfl (q_load rfl (by kernel_rfl) (by first | exact At.mem | exact mA (by assumption)) (by rfl)) rfl ?_
  refine XF.q hs rfl (q_move rfl) rfl ?_
  refine XF.q hs rfl (q_idxAN 1 (e := 28) (n := 5) (sz := 1) (i := 1) rfl rfl (by kernel_rfl) (by kernel_rfl) rfl (by decide) rfl) rfl ?_
  refine XF.r hs rfl (q_load rfl (by kernel_rfl) (by first | exact At.mem | exact mA (by assumption)) (by rfl)) rfl ?_
  refine XF.q hs rfl (q_addM 18446744073709551616 rfl rfl rfl rfl rfl rfl) rfl ?_
  refine XF.q hs rfl (q_idxAN 1 (e := 28) (n := 5) (sz := 1) (i := 1) rfl rfl (by kernel_rfl) (by kernel_rfl) rfl (by decide) rfl) rfl ?_
  refine XF.tl rfl rfl rfl (l_store rfl rfl rfl (by kernel_rfl) SetC.set UpC.upd ?_)
  refine XF.nil ?_
  refine nb ?_
  refine nx (kp 2 rfl (kp 3 rfl (kp 4 rfl (kp 6 rfl kn)))) ?_
  refine XC.reg1 ?_
  refine XL.q (q_num (2 : Int) rfl rfl (add64 (by decide) (by decide) (by decide))) rfl ?_
  refine XL.q (q_move rfl) rfl ?_
  refine XL.nil ?_
  refine un (kp 2 rfl (kp 3 rfl (kp 4 rfl (kp 6 rfl kn)))) ?_
  refine XR.step ?_
  refine XC.reg ?_
  refine XL.q (q_cmp true rfl rfl (ltT (by decide))) rfl ?_
  refine XL.fin (kp 2 rfl (kp 3 rfl (kp 4 rfl (kp 6 rfl (kp 7 rfl kn))))) ?_
  refine XC.seq ?_
  refine XC.condT rfl ?_
  refine XC.skip ?_
  refine nx (kp 2 rfl (kp 3 rfl (kp 4 rfl (kp 6 rfl kn)))) ?_
  refine XC.seq ?_
  refine XC.block ?_
  refine XC.reg ?_
  refine XL.q (q_move rfl) rfl ?_
  refine XL.q (q_assign rfl) rfl ?_
  refine XL.fin (kp 2 rfl (kp 3 rfl (kp 4 rfl (kp 5 rfl (kp 6 rfl kn))))) ?_
  refine XC.drawF1 [0, 1, 2, 3, 4, 5, 6, 7] [(0, 0), (1, 0), (2, 1), (3, 0), (4, 0), (5, 1), (6, 0), (7, 0), (8, 2)] (by kernel_rfl) (by kernel_rfl) fun hs => ?_
  refine XF.q hs rfl (q_move rfl) rfl ?_
  refine XF.q hs rfl (q_idxAN 2 (e := 28) (n := 5) (sz := 1) (i := 2) rfl rfl (by kernel_rfl) (by kernel_rfl) rfl (by decide) rfl) rfl ?_
  refine XF.r hs rfl (q_load rfl (by kernel_rfl) (by first | exact At.mem | exact mA (by assumption)) (by rfl)) rfl ?_
  refine XF.q hs rfl (q_move rfl) rfl ?_
  refine XF.q hs rfl (q_idxAN 2 (e := 28) (n := 5) (sz := 1) (i := 2) rfl rfl (by kernel_rfl) (by kernel_rfl) rfl (by decide) rfl) rfl ?_
  refine XF.r hs rfl (q_load rfl (by kernel_rfl) (by first | exact At.mem | exact mA (by assumption)) (by rfl)) rfl ?_
  refine XF.q hs rfl (q_addM 18446744073709551616 rfl rfl rfl rfl rfl rfl) rfl ?_
  refine XF.q hs rfl (q_idxAN 2 (e := 28) (n := 5) (sz := 1) (i := 2) rfl rfl (by kernel_rfl) (by kernel_rfl) rfl (by decide) rfl) rfl ?_
  refine XF.tl rfl rfl rfl (l_store rfl rfl rfl (by kernel_rfl) SetC.set UpC.upd ?_)
  refine XF.nil ?_
  refine nb ?_
  refine nx (kp 2 rfl (kp 3 rfl (kp 4 rfl (kp 6 rfl kn)))) ?_
  refine XC.reg1 ?_
  refine XL.q (q_num (3 : Int) rfl rfl (add64 (by decide) (by decide) (by decide))) rfl ?_
  refine XL.q (q_move rfl) rfl ?_
  refine XL.nil ?_
  refine un (kp 2 rfl (kp 3 rfl (kp 4 rfl (kp 6 rfl kn)))) ?_
  refine XR.step ?_
  refine XC.reg ?_
  refine XL.q (q_cmp true rfl rfl (ltT (by decide))) rfl ?_
  refine XL.fin (kp 2 rfl (kp 3 rfl (kp 4 rfl (kp 6 rfl (kp 7 rfl kn))))) ?_
  refine XC.seq ?_
  refine XC.condT rfl ?_
  refine XC.skip ?_
  refine nx (kp 2 rfl (kp 3 rfl (kp 4 rfl (kp 6 rfl kn)))) ?_
  refine XC.seq ?_
  refine XC.block ?_
  refine XC.reg ?_
  refine XL.q (q_move rfl) rfl ?_
  refine XL.q (q_assign rfl) rfl ?_
  refine XL.fin (kp 2 rfl (kp 3 rfl (kp 4 rfl (kp 5 rfl (kp 6 rfl kn))))) ?_
  refine XC.drawF1 [0, 1, 2, 3, 4, 5, 6, 7] [(0, 0), (1, 0), (2, 1), (3, 0), (4, 0), (5, 1), (6, 0), (7, 0), (8, 2)] (by kernel_rfl) (by kernel_rfl) fun hs => ?_
  refine XF.q hs rfl (q_move rfl) rfl ?_
  refine XF.q hs rfl (q_idxAN 3 (e := 28) (n := 5) (sz := 1) (i := 3) rfl rfl (by kernel_rfl) (by kernel_rfl) rfl (by decide) rfl) rfl ?_
  refine XF.r hs rfl (q_load rfl (by kernel_rfl) (by first | exact At.mem | exact mA (by assumption)) (by rfl)) rfl ?_
  refine XF.q hs rfl (q_move rfl) rfl ?_
  refine XF.q hs rfl (q_idxAN 3 (e := 28) (n := 5) (sz := 1) (i := 3) rfl rfl (by kernel_rfl) (by kernel_rfl) rfl (by decide) rfl) rfl ?_
  refine XF.r hs rfl (q_load rfl (by kernel_rfl) (by first | exact At.mem | exact mA (by assumption)) (by rfl)) rfl ?_
  refine XF.q hs rfl (q_addM 18446744073709551616 rfl rfl rfl rfl rfl rfl) rfl ?_
  refine XF.q hs rfl (q_idxAN 3 (e := 28) (n := 5) (sz := 1) (i := 3) rfl rfl (by kernel_rfl) (by kernel_rfl) rfl (by decide) rfl) rfl ?_
  refine XF.tl rfl rfl rfl (l_store rfl rfl rfl (by kernel_rfl) SetC.set UpC.upd ?_)
  refine XF.nil ?_
  refine nb ?_
  refine nx (kp 2 rfl (kp 3 rfl (kp 4 rfl (kp 6 rfl kn)))) ?_
  refine XC.reg1 ?_
  refine XL.q (q_num (4 : Int) rfl rfl (add64 (by decide) (by decide) (by decide))) rfl ?_
  refine XL.q (q_move rfl) rfl ?_
  refine XL.nil ?_
  refine un (kp 2 rfl (kp 3 rfl (kp 4 rfl (kp 6 rfl kn)))) ?_
  refine XR.step ?_
  refine XC.reg ?_
  refine XL.q (q_cmp true rfl rfl (ltT (by decide))) rfl ?_
  refine XL.fin (kp 2 rfl (kp 3 rfl (kp 4 rfl (kp 6 rfl (kp 7 rfl kn))))) ?_
  refine XC.seq ?_
  refine XC.condT rfl ?_
  refine XC.skip ?_
  refine nx (kp 2 rfl (kp 3 rfl (kp 4 rfl (kp 6 rfl kn)))) ?_
  refine XC.seq ?_
  refine XC.block ?_
  refine XC.reg ?_
  refine XL.q (q_move rfl) rfl ?_
  refine XL.q (q_assign rfl) rfl ?_
  refine XL.fin (kp 2 rfl (kp 3 rfl (kp 4 rfl (kp 5 rfl (kp 6 rfl kn))))) ?_
  refine XC.drawF1 [0, 1, 2, 3, 4, 5, 6, 7] [(0, 0), (1, 0), (2, 1), (3, 0), (4, 0), (5, 1), (6, 0), (7, 0), (8, 2)] (by kernel_rfl) (by kernel_rfl) fun hs => ?_
  refine XF.q hs rfl (q_move rfl) rfl ?_
  refine XF.q hs rfl (q_idxAN 4 (e := 28) (n := 5) (sz := 1) (i := 4) rfl rfl (by kernel_rfl) (by kernel_rfl) rfl (by decide) rfl) rfl ?_
  refine XF.r hs rfl (q_load rfl (by kernel_rfl) (by first | exact At.mem | exact mA (by assumption)) (by rfl)) rfl ?_
  refine XF.q hs rfl (q_move rfl) rfl ?_
  refine XF.q hs rfl (q_idxAN 4 (e := 28) (n := 5) (sz := 1) (i := 4) rfl rfl (by kernel_rfl) (by kernel_rfl) rfl (by decide) rfl) rfl ?_
  refine XF.r hs rfl (q_load rfl (by kernel_rfl) (by first | exact At.mem | exact mA (by assumption)) (by rfl)) rfl ?_
  refine XF.q hs rfl (q_addM 18446744073709551616 rfl rfl rfl rfl rfl rfl) rfl ?_
  refine XF.q hs rfl (q_idxAN 4 (e := 28) (n := 5) (sz := 1) (i := 4) rfl rfl (by kernel_rfl) (by kernel_rfl) rfl (by decide) rfl) rfl ?_
  refine XF.tl rfl rfl rfl (l_store rfl rfl rfl (by kernel_rfl) SetC.set UpC.upd ?_)
  refine XF.nil ?_
  refine nb ?_
  refine nx (kp 2 rfl (kp 3 rfl (kp 4 rfl (kp 6 rfl kn)))) ?_
  refine XC.reg1 ?_
  refine XL.q (q_num (5 : Int) rfl rfl (add64 (by decide) (by decide) (by decide))) rfl ?_
  refine XL.q (q_move rfl) rfl ?_
  refine XL.nil ?_
  refine un (kp 2 rfl (kp 3 rfl (kp 4 rfl (kp 6 rfl kn)))) ?_
  refine XR.step ?_
  refine XC.reg ?_
  refine XL.q (q_cmp false rfl rfl (ltF (by decide))) rfl ?_
  refine XL.fin (kp 2 rfl (kp 3 rfl (kp 4 rfl (kp 6 rfl (kp 7 rfl kn))))) ?_
  refine XC.seq ?_
  refine XC.condF rfl ?_
  refine XC.exit ?_
  refine te ?_
  refine ue ?_
  refine be rfl ?_
  refine nx (kp 2 rfl (kp 4 rfl kn)) ?_
  refine XC.reg ?_
  refine XL.q (q_loadW (n := 5) rfl (by kernel_rfl) (by first | exact At.mem | exact mA (by assumption)) (by rfl)) rfl ?_
  refine XL.call (aS rfl a0) (by kernel_rfl) (settle_spec _ _ _ _ _ (by omega) (by omega) (by omega) (by omega) (by omega) _) rfl ?_
  rintro r3 M3 J3 ⟨rfl, rfl, a3, b3, c3, d3, e3, rfl, ha3, hb3, hc3, hd3, hv3, he3⟩
  refine XL.lo rfl (l_storeW rfl rfl Cel.cel (by kernel_rfl) (lnS (lnS (lnS (lnS (lnS (ln0)))))) (allS rfl (allS rfl (allS rfl (allS rfl (allS rfl (all0)))))) UpC.upd ?_)
  refine XL.fin (kp 4 rfl kn) ?_
  refine XC.ret ?_
  refine ⟨_, [], [], resC rfl rfl (by kernel_rfl) At.mem (by rfl), List.nil_sublist _, by simp, rfl, rfl, a3, b3, c3, d3, e3, rfl, by omega, by omega, by omega, by omega, by omega, ?_⟩
  rw [mod_of_settle hv3, fv_add ha hb hc hd he ha2 hb2 hc2 hd2 he2, Nat.add_mod]

set_option maxRecDepth 100000 in
theorem fsub_spec (v u : Value) (x y : Nat) (hx : Fe v x) (hy : Fe u y) (A : Mem) : FnX Tryz.prog 153 [v, u] [] A fun r M J => M = [] ∧ J = [] ∧ Fe r ((x + p25 - y) % p25) := by
  obtain ⟨a, b, c, d, e, rfl, ha, hb, hc, hd, he, rfl⟩ := hx
  obtain ⟨a2, b2, c2, d2, e2, rfl, ha2, hb2, hc2, hd2, he2, rfl⟩ := hy
  refine FnX.enter (N := 30) Tryz.func153 rfl rfl rfl fun w => ?_
  refine XC.keep (kp 0 rfl (kp 1 rfl kn)) ?_
  refine XC.reg ?_
  refine XL.lo rfl (l_box rfl (by first | exact Cel.cel | rfl) rfl fun b2 => ?_)
  refine XL.lo rfl (l_box rfl (by first | exact Cel.cel | rfl) rfl fun b3 => ?_)
  refine XL.lo rfl (l_alloc (cs := [.int .u64 0, .int .u64 0, .int .u64 0, .int .u64 0, .int .u64 0]) (by kernel_rfl) rfl fun b4 => ?_)
  refine XL.fin (kp 2 rfl (kp 3 rfl (kp 4 rfl kn))) ?_
  refine XC.reg ?_
  refine XL.q (q_loadW (n := 5) rfl (by kernel_rfl) (by first | exact At.mem | exact mA (by assumption)) (by rfl)) rfl ?_
  refine XL.call (aS rfl a0) (by kernel_rfl) (settle_spec _ _ _ _ _ (by omega) (by omega) (by omega) (by omega) (by omega) _) rfl ?_
  rintro r3 M3 J3 ⟨rfl, rfl, a3, b3, c3, d3, e3, rfl, ha3, hb3, hc3, hd3, hv3, he3⟩
  refine XL.lo rfl (l_storeW rfl rfl Cel.cel (by kernel_rfl) (lnS (lnS (lnS (lnS (lnS (ln0)))))) (allS rfl (allS rfl (allS rfl (allS rfl (allS rfl (all0)))))) UpC.upd ?_)
  refine XL.fin (kp 2 rfl (kp 3 rfl (kp 4 rfl kn))) ?_
  refine XC.reg ?_
  refine XL.q (q_build (place := fun i => some (i * 1, 1)) (z := [.int .u64 0, .int .u64 0, .int .u64 0, .int .u64 0, .int .u64 0]) (fun _ => by kernel_rfl) (eS rfl (eS rfl (eS rfl (eS rfl (eS rfl e0))))) (bdS 0 1 rfl (by rfl) (bdS 1 1 rfl (by rfl) (bdS 2 1 rfl (by rfl) (bdS 3 1 rfl (by rfl) (bdS 4 1 rfl (by rfl) bd0)))))) rfl ?_
  refine XL.lo rfl (l_alloc (cs := [.int .u64 0, .int .u64 0, .int .u64 0, .int .u64 0, .int .u64 0]) (by kernel_rfl) rfl fun b5 => ?_)
  refine XL.lo rfl (l_storeW rfl rfl Cel.cel (by kernel_rfl) (lnS (lnS (lnS (lnS (lnS (ln0)))))) (allS rfl (allS rfl (allS rfl (allS rfl (allS rfl (all0)))))) UpC.upd ?_)
  refine XL.fin (kp 2 rfl (kp 3 rfl (kp 4 rfl (kp 5 rfl kn)))) ?_
  refine XC.seq ?_
  refine XC.reg ?_
  refine XL.q (q_move rfl) rfl ?_
  refine XL.fin (kp 2 rfl (kp 3 rfl (kp 4 rfl (kp 5 rfl (kp 10 rfl kn))))) ?_
  refine XC.block ?_
  refine XC.rounds 6 ?_
  refine XR.step ?_
  refine XC.reg ?_
  refine XL.q (q_cmp true rfl rfl (ltT (by decide))) rfl ?_
  refine XL.fin (kp 2 rfl (kp 3 rfl (kp 4 rfl (kp 5 rfl (kp 10 rfl (kp 11 rfl kn)))))) ?_
  refine XC.seq ?_
  refine XC.condT rfl ?_
  refine XC.skip ?_
  refine nx (kp 2 rfl (kp 3 rfl (kp 4 rfl (kp 5 rfl (kp 10 rfl kn))))) ?_
  refine XC.seq ?_
  refine XC.block ?_
  refine XC.reg ?_
  refine XL.q (q_move rfl) rfl ?_
  refine XL.q (q_assign rfl) rfl ?_
  refine XL.fin (kp 2 rfl (kp 3 rfl (kp 4 rfl (kp 5 rfl (kp 6 rfl (kp 10 rfl kn)))))) ?_
  refine XC.drawF1 [0, 1, 2, 3, 4, 5, 6, 7, 8, 9, 10, 11, 12] [(0, 0), (1, 0), (2, 1), (3, 0), (4, 0), (5, 1), (6, 0), (7, 0), (8, 0), (9, 1), (10, 0), (11, 0), (12, 0), (13, 2)] (by kernel_rfl) (by kernel_rfl) fun hs => ?_
  refine XF.q hs rfl (q_move rfl) rfl ?_
  refine XF.q hs rfl (q_idxAN 0 (e := 28) (n := 5) (sz := 1) (i := 0) rfl rfl (by kernel_rfl) (by kernel_rfl) rfl (by decide) rfl) rfl ?_
  refine XF.r hs rfl (q_load rfl (by kernel_rfl) (by first | exact At.mem | exact mA (by assumption)) (by rfl)) rfl ?_
  refine XF.q hs rfl (q_move rfl) rfl ?_
  refine XF.q hs rfl (q_idxAN 0 (e := 28) (n := 5) (sz := 1) (i := 0) rfl rfl (by kernel_rfl) (by kernel_rfl) rfl (by decide) rfl) rfl ?_
  refine XF.r hs rfl (q_load rfl (by kernel_rfl) (by first | exact At.mem | exact mA (by assumption)) (by rfl)) rfl ?_
  refine XF.q hs rfl (q_mulM 18446744073709551616 (a := 2) rfl rfl rfl rfl rfl rfl) rfl ?_
  refine XF.q hs rfl (q_move rfl) rfl ?_
  refine XF.q hs rfl (q_idxAN 0 (e := 28) (n := 5) (sz := 1) (i := 0) rfl rfl (by kernel_rfl) (by kernel_rfl) rfl (by decide) rfl) rfl ?_
  refine XF.r hs rfl (q_load rfl (by kernel_rfl) (by first | exact At.mem | exact mA (by assumption)) (by rfl)) rfl ?_
  refine XF.q hs rfl (q_subM 18446744073709551616 rfl rfl rfl rfl rfl rfl (by omega)) rfl ?_
  refine XF.q hs rfl (q_addM 18446744073709551616 rfl rfl rfl rfl rfl rfl) rfl ?_
  refine XF.q hs rfl (q_idxAN 0 (e := 28) (n := 5) (sz := 1) (i := 0) rfl rfl (by kernel_rfl) (by kernel_rfl) rfl (by decide) rfl) rfl ?_
  refine XF.tl rfl rfl rfl (l_store rfl rfl rfl (by kernel_rfl) SetC.set UpC.upd ?_)
  refine XF.nil ?_
  refine nb ?_
  refine nx (kp 2 rfl (kp 3 rfl (kp 4 rfl (kp 5 rfl (kp 10 rfl kn))))) ?_
  refine XC.reg1 ?_
  refine XL.q (q_num (1 : Int) rfl rfl (add64 (by decide) (by decide) (by decide))) rfl ?_
  refine XL.q (q_move rfl) rfl ?_
  refine XL.nil ?_
  refine un (kp 2 rfl (kp 3 rfl (kp 4 rfl (kp 5 rfl (kp 10 rfl kn))))) ?_
  refine XR.step ?_
  refine XC.reg ?_
  refine XL.q (q_cmp true rfl rfl (ltT (by decide))) rfl ?_
  refine XL.fin (kp 2 rfl (kp 3 rfl (kp 4 rfl (kp 5 rfl (kp 10 rfl (kp 11 rfl kn)))))) ?_
  refine XC.seq ?_
  refine XC.condT rfl ?_
  refine XC.skip ?_
  refine nx (kp 2 rfl (kp 3 rfl (kp 4 rfl (kp 5 rfl (kp 10 rfl kn))))) ?_
  refine XC.seq ?_
  refine XC.block ?_
  refine XC.reg ?_
  refine XL.q (q_move rfl) rfl ?_
  refine XL.q (q_assign rfl) rfl ?_
  refine XL.fin (kp 2 rfl (kp 3 rfl (kp 4 rfl (kp 5 rfl (kp 6 rfl (kp 10 rfl kn)))))) ?_
  refine XC.drawF1 [0, 1, 2, 3, 4, 5, 6, 7, 8, 9, 10, 11, 12] [(0, 0), (1, 0), (2, 1), (3, 0), (4, 0), (5, 1), (6, 0), (7, 0), (8, 0), (9, 1), (10, 0), (11, 0), (12, 0), (13, 2)] (by kernel_rfl) (by kernel_rfl) fun hs => ?_
  refine XF.q hs rfl (q_move rfl) rfl ?_
  refine XF.q hs rfl (q_idxAN 1 (e := 28) (n := 5) (sz := 1) (i := 1) rfl rfl (by kernel_rfl) (by kernel_rfl) rfl (by decide) rfl) rfl ?_
  refine XF.r hs rfl (q_load rfl (by kernel_rfl) (by first | exact At.mem | exact mA (by assumption)) (by rfl)) rfl ?_
  refine XF.q hs rfl (q_move rfl) rfl ?_
  refine XF.q hs rfl (q_idxAN 1 (e := 28) (n := 5) (sz := 1) (i := 1) rfl rfl (by kernel_rfl) (by kernel_rfl) rfl (by decide) rfl) rfl ?_
  refine XF.r hs rfl (q_load rfl (by kernel_rfl) (by first | exact At.mem | exact mA (by assumption)) (by rfl)) rfl ?_
  refine XF.q hs rfl (q_mulM 18446744073709551616 (a := 2) rfl rfl rfl rfl rfl rfl) rfl ?_
  refine XF.q hs rfl (q_move rfl) rfl ?_
  refine XF.q hs rfl (q_idxAN 1 (e := 28) (n := 5) (sz := 1) (i := 1) rfl rfl (by kernel_rfl) (by kernel_rfl) rfl (by decide) rfl) rfl ?_
  refine XF.r hs rfl (q_load rfl (by kernel_rfl) (by first | exact At.mem | exact mA (by assumption)) (by rfl)) rfl ?_
  refine XF.q hs rfl (q_subM 18446744073709551616 rfl rfl rfl rfl rfl rfl (by omega)) rfl ?_
  refine XF.q hs rfl (q_addM 18446744073709551616 rfl rfl rfl rfl rfl rfl) rfl ?_
  refine XF.q hs rfl (q_idxAN 1 (e := 28) (n := 5) (sz := 1) (i := 1) rfl rfl (by kernel_rfl) (by kernel_rfl) rfl (by decide) rfl) rfl ?_
  refine XF.tl rfl rfl rfl (l_store rfl rfl rfl (by kernel_rfl) SetC.set UpC.upd ?_)
  refine XF.nil ?_
  refine nb ?_
  refine nx (kp 2 rfl (kp 3 rfl (kp 4 rfl (kp 5 rfl (kp 10 rfl kn))))) ?_
  refine XC.reg1 ?_
  refine XL.q (q_num (2 : Int) rfl rfl (add64 (by decide) (by decide) (by decide))) rfl ?_
  refine XL.q (q_move rfl) rfl ?_
  refine XL.nil ?_
  refine un (kp 2 rfl (kp 3 rfl (kp 4 rfl (kp 5 rfl (kp 10 rfl kn))))) ?_
  refine XR.step ?_
  refine XC.reg ?_
  refine XL.q (q_cmp true rfl rfl (ltT (by decide))) rfl ?_
  refine XL.fin (kp 2 rfl (kp 3 rfl (kp 4 rfl (kp 5 rfl (kp 10 rfl (kp 11 rfl kn)))))) ?_
  refine XC.seq ?_
  refine XC.condT rfl ?_
  refine XC.skip ?_
  refine nx (kp 2 rfl (kp 3 rfl (kp 4 rfl (kp 5 rfl (kp 10 rfl kn))))) ?_
  refine XC.seq ?_
  refine XC.block ?_
  refine XC.reg ?_
  refine XL.q (q_move rfl) rfl ?_
  refine XL.q (q_assign rfl) rfl ?_
  refine XL.fin (kp 2 rfl (kp 3 rfl (kp 4 rfl (kp 5 rfl (kp 6 rfl (kp 10 rfl kn)))))) ?_
  refine XC.drawF1 [0, 1, 2, 3, 4, 5, 6, 7, 8, 9, 10, 11, 12] [(0, 0), (1, 0), (2, 1), (3, 0), (4, 0), (5, 1), (6, 0), (7, 0), (8, 0), (9, 1), (10, 0), (11, 0), (12, 0), (13, 2)] (by kernel_rfl) (by kernel_rfl) fun hs => ?_
  refine XF.q hs rfl (q_move rfl) rfl ?_
  refine XF.q hs rfl (q_idxAN 2 (e := 28) (n := 5) (sz := 1) (i := 2) rfl rfl (by kernel_rfl) (by kernel_rfl) rfl (by decide) rfl) rfl ?_
  refine XF.r hs rfl (q_load rfl (by kernel_rfl) (by first | exact At.mem | exact mA (by assumption)) (by rfl)) rfl ?_
  refine XF.q hs rfl (q_move rfl) rfl ?_
  refine XF.q hs rfl (q_idxAN 2 (e := 28) (n := 5) (sz := 1) (i := 2) rfl rfl (by kernel_rfl) (by kernel_rfl) rfl (by decide) rfl) rfl ?_
  refine XF.r hs rfl (q_load rfl (by kernel_rfl) (by first | exact At.mem | exact mA (by assumption)) (by rfl)) rfl ?_
  refine XF.q hs rfl (q_mulM 18446744073709551616 (a := 2) rfl rfl rfl rfl rfl rfl) rfl ?_
  refine XF.q hs rfl (q_move rfl) rfl ?_
  refine XF.q hs rfl (q_idxAN 2 (e := 28) (n := 5) (sz := 1) (i := 2) rfl rfl (by kernel_rfl) (by kernel_rfl) rfl (by decide) rfl) rfl ?_
  refine XF.r hs rfl (q_load rfl (by kernel_rfl) (by first | exact At.mem | exact mA (by assumption)) (by rfl)) rfl ?_
  refine XF.q hs rfl (q_subM 18446744073709551616 rfl rfl rfl rfl rfl rfl (by omega)) rfl ?_
  refine XF.q hs rfl (q_addM 18446744073709551616 rfl rfl rfl rfl rfl rfl) rfl ?_
  refine XF.q hs rfl (q_idxAN 2 (e := 28) (n := 5) (sz := 1) (i := 2) rfl rfl (by kernel_rfl) (by kernel_rfl) rfl (by decide) rfl) rfl ?_
  refine XF.tl rfl rfl rfl (l_store rfl rfl rfl (by kernel_rfl) SetC.set UpC.upd ?_)
  refine XF.nil ?_
  refine nb ?_
  refine nx (kp 2 rfl (kp 3 rfl (kp 4 rfl (kp 5 rfl (kp 10 rfl kn))))) ?_
  refine XC.reg1 ?_
  refine XL.q (q_num (3 : Int) rfl rfl (add64 (by decide) (by decide) (by decide))) rfl ?_
  refine XL.q (q_move rfl) rfl ?_
  refine XL.nil ?_
  refine un (kp 2 rfl (kp 3 rfl (kp 4 rfl (kp 5 rfl (kp 10 rfl kn))))) ?_
  refine XR.step ?_
  refine XC.reg ?_
  refine XL.q (q_cmp true rfl rfl (ltT (by decide))) rfl ?_
  refine XL.fin (kp 2 rfl (kp 3 rfl (kp 4 rfl (kp 5 rfl (kp 10 rfl (kp 11 rfl kn)))))) ?_
  refine XC.seq ?_
  refine XC.condT rfl ?_
  refine XC.skip ?_
  refine nx (kp 2 rfl (kp 3 rfl (kp 4 rfl (kp 5 rfl (kp 10 rfl kn))))) ?_
  refine XC.seq ?_
  refine XC.block ?_
  refine XC.reg ?_
  refine XL.q (q_move rfl) rfl ?_
  refine XL.q (q_assign rfl) rfl ?_
  refine XL.fin (kp 2 rfl (kp 3 rfl (kp 4 rfl (kp 5 rfl (kp 6 rfl (kp 10 rfl kn)))))) ?_
  refine XC.drawF1 [0, 1, 2, 3, 4, 5, 6, 7, 8, 9, 10, 11, 12] [(0, 0), (1, 0), (2, 1), (3, 0), (4, 0), (5, 1), (6, 0), (7, 0), (8, 0), (9, 1), (10, 0), (11, 0), (12, 0), (13, 2)] (by kernel_rfl) (by kernel_rfl) fun hs => ?_
  refine XF.q hs rfl (q_move rfl) rfl ?_
  refine XF.q hs rfl (q_idxAN 3 (e := 28) (n := 5) (sz := 1) (i := 3) rfl rfl (by kernel_rfl) (by kernel_rfl) rfl (by decide) rfl) rfl ?_
  refine XF.r hs rfl (q_load rfl (by kernel_rfl) (by first | exact At.mem | exact mA (by assumption)) (by rfl)) rfl ?_
  refine XF.q hs rfl (q_move rfl) rfl ?_
  refine XF.q hs rfl (q_idxAN 3 (e := 28) (n := 5) (sz := 1) (i := 3) rfl rfl (by kernel_rfl) (by kernel_rfl) rfl (by decide) rfl) rfl ?_
  refine XF.r hs rfl (q_load rfl (by kernel_rfl) (by first | exact At.mem | exact mA (by assumption)) (by rfl)) rfl ?_
  refine XF.q hs rfl (q_mulM 18446744073709551616 (a := 2) rfl rfl rfl rfl rfl rfl) rfl ?_
  refine XF.q hs rfl (q_move rfl) rfl ?_
  refine XF.q hs rfl (q_idxAN 3 (e := 28) (n := 5) (sz := 1) (i := 3) rfl rfl (by kernel_rfl) (by kernel_rfl) rfl (by decide) rfl) rfl ?_
  refine XF.r hs rfl (q_load rfl (by kernel_rfl) (by first | exact At.mem | exact mA (by assumption)) (by rfl)) rfl ?_
  refine XF.q hs rfl (q_subM 18446744073709551616 rfl rfl rfl rfl rfl rfl (by omega)) rfl ?_
  refine XF.q hs rfl (q_addM 18446744073709551616 rfl rfl rfl rfl rfl rfl) rfl ?_
  refine XF.q hs rfl (q_idxAN 3 (e := 28) (n := 5) (sz := 1) (i := 3) rfl rfl (by kernel_rfl) (by kernel_rfl) rfl (by decide) rfl) rfl ?_
  refine XF.tl rfl rfl rfl (l_store rfl rfl rfl (by kernel_rfl) SetC.set UpC.upd ?_)
  refine XF.nil ?_
  refine nb ?_
  refine nx (kp 2 rfl (kp 3 rfl (kp 4 rfl (kp 5 rfl (kp 10 rfl kn))))) ?_
  refine XC.reg1 ?_
  refine XL.q (q_num (4 : Int) rfl rfl (add64 (by decide) (by decide) (by decide))) rfl ?_
  refine XL.q (q_move rfl) rfl ?_
  refine XL.nil ?_
  refine un (kp 2 rfl (kp 3 rfl (kp 4 rfl (kp 5 rfl (kp 10 rfl kn))))) ?_
  refine XR.step ?_
  refine XC.reg ?_
  refine XL.q (q_cmp true rfl rfl (ltT (by decide))) rfl ?_
  refine XL.fin (kp 2 rfl (kp 3 rfl (kp 4 rfl (kp 5 rfl (kp 10 rfl (kp 11 rfl kn)))))) ?_
  refine XC.seq ?_
  refine XC.condT rfl ?_
  refine XC.skip ?_
  refine nx (kp 2 rfl (kp 3 rfl (kp 4 rfl (kp 5 rfl (kp 10 rfl kn))))) ?_
  refine XC.seq ?_
  refine XC.block ?_
  refine XC.reg ?_
  refine XL.q (q_move rfl) rfl ?_
  refine XL.q (q_assign rfl) rfl ?_
  refine XL.fin (kp 2 rfl (kp 3 rfl (kp 4 rfl (kp 5 rfl (kp 6 rfl (kp 10 rfl kn)))))) ?_
  refine XC.drawF1 [0, 1, 2, 3, 4, 5, 6, 7, 8, 9, 10, 11, 12] [(0, 0), (1, 0), (2, 1), (3, 0), (4, 0), (5, 1), (6, 0), (7, 0), (8, 0), (9, 1), (10, 0), (11, 0), (12, 0), (13, 2)] (by kernel_rfl) (by kernel_rfl) fun hs => ?_
  refine XF.q hs rfl (q_move rfl) rfl ?_
  refine XF.q hs rfl (q_idxAN 4 (e := 28) (n := 5) (sz := 1) (i := 4) rfl rfl (by kernel_rfl) (by kernel_rfl) rfl (by decide) rfl) rfl ?_
  refine XF.r hs rfl (q_load rfl (by kernel_rfl) (by first | exact At.mem | exact mA (by assumption)) (by rfl)) rfl ?_
  refine XF.q hs rfl (q_move rfl) rfl ?_
  refine XF.q hs rfl (q_idxAN 4 (e := 28) (n := 5) (sz := 1) (i := 4) rfl rfl (by kernel_rfl) (by kernel_rfl) rfl (by decide) rfl) rfl ?_
  refine XF.r hs rfl (q_load rfl (by kernel_rfl) (by first | exact At.mem | exact mA (by assumption)) (by rfl)) rfl ?_
  refine XF.q hs rfl (q_mulM 18446744073709551616 (a := 2) rfl rfl rfl rfl rfl rfl) rfl ?_
  refine XF.q hs rfl (q_move rfl) rfl ?_
  refine XF.q hs rfl (q_idxAN 4 (e := 28) (n := 5) (sz := 1) (i := 4) rfl rfl (by kernel_rfl) (by kernel_rfl) rfl (by decide) rfl) rfl ?_
  refine XF.r hs rfl (q_load rfl (by kernel_rfl) (by first | exact At.mem | exact mA (by assumption)) (by rfl)) rfl ?_
  refine XF.q hs rfl (q_subM 18446744073709551616 rfl rfl rfl rfl rfl rfl (by omega)) rfl ?_
  refine XF.q hs rfl (q_addM 18446744073709551616 rfl rfl rfl rfl rfl rfl) rfl ?_
  refine XF.q hs rfl (q_idxAN 4 (e := 28) (n := 5) (sz := 1) (i := 4) rfl rfl (by kernel_rfl) (by kernel_rfl) rfl (by decide) rfl) rfl ?_
  refine XF.tl rfl rfl rfl (l_store rfl rfl rfl (by kernel_rfl) SetC.set UpC.upd ?_)
  refine XF.nil ?_
  refine nb ?_
  refine nx (kp 2 rfl (kp 3 rfl (kp 4 rfl (kp 5 rfl (kp 10 rfl kn))))) ?_
  refine XC.reg1 ?_
  refine XL.q (q_num (5 : Int) rfl rfl (add64 (by decide) (by decide) (by decide))) rfl ?_
  refine XL.q (q_move rfl) rfl ?_
  refine XL.nil ?_
  refine un (kp 2 rfl (kp 3 rfl (kp 4 rfl (kp 5 rfl (kp 10 rfl kn))))) ?_
  refine XR.step ?_
  refine XC.reg ?_
  refine XL.q (q_cmp false rfl rfl (ltF (by decide))) rfl ?_
  refine XL.fin (kp 2 rfl (kp 3 rfl (kp 4 rfl (kp 5 rfl (kp 10 rfl (kp 11 rfl kn)))))) ?_
  refine XC.seq ?_
  refine XC.condF rfl ?_
  refine XC.exit ?_
  refine te ?_
  refine ue ?_
  refine be rfl ?_
  refine nx (kp 2 rfl (kp 4 rfl kn)) ?_
  have q0 := lim_sub (t := 9007199254740916) (b := a3) ha (by decide) (by omega)
  have q1 := lim_sub (t := 9007199254740988) (b := b3) hb (by decide) (by omega)
  have q2 := lim_sub (t := 9007199254740988) (b := c3) hc (by decide) (by omega)
  have q3 := lim_sub (t := 9007199254740988) (b := d3) hd (by decide) (by omega)
  have q4 := lim_sub (t := 9007199254740988) (b := e3) he (by decide) (by omega)
  refine XC.reg ?_
  refine XL.q (q_loadW (n := 5) rfl (by kernel_rfl) (by first | exact At.mem | exact mA (by assumption)) (by rfl)) rfl ?_
  refine XL.call (aS rfl a0) (by kernel_rfl) (settle_spec _ _ _ _ _ (q0 ▸ lim_sub' ha (by decide) (by omega)) (q1 ▸ lim_sub' hb (by decide) (by omega)) (q2 ▸ lim_sub' hc (by decide) (by omega)) (q3 ▸ lim_sub' hd (by decide) (by omega)) (q4 ▸ lim_sub' he (by decide) (by omega)) _) rfl ?_
  rintro r4 M4 J4 ⟨rfl, rfl, a4, b4, c4, d4, e4, rfl, ha4, hb4, hc4, hd4, hv4, he4⟩
  refine XL.call (aS rfl a0) (by kernel_rfl) (settle_spec _ _ _ _ _ (by omega) (by omega) (by omega) (by omega) (by omega) _) rfl ?_
  rintro r5 M5 J5 ⟨rfl, rfl, a5, b5, c5, d5, e5, rfl, ha5, hb5, hc5, hd5, hv5, he5⟩
  refine XL.lo rfl (l_storeW rfl rfl Cel.cel (by kernel_rfl) (lnS (lnS (lnS (lnS (lnS (ln0)))))) (allS rfl (allS rfl (allS rfl (allS rfl (allS rfl (all0)))))) UpC.upd ?_)
  refine XL.fin (kp 4 rfl kn) ?_
  refine XC.ret ?_
  refine ⟨_, [], [], resC rfl rfl (by kernel_rfl) At.mem (by rfl), List.nil_sublist _, by simp, rfl, rfl, a5, b5, c5, d5, e5, rfl, by omega, by omega, by omega, by omega, by omega, ?_⟩
  rw [mod_of_settle hv5, mod_of_settle hv4, ← mod_of_settle hv3]
  refine sub_mod ?_
  rw [← fv_sub (a := a) (b := b) (c := c) (d := d) (e := e) (a2 := a3) (b2 := b3) (c2 := c3) (d2 := d3) (e2 := e3) (by omega) (by omega) (by omega) (by omega) (by omega), ← q0, ← q1, ← q2, ← q3, ← q4]

abbrev wd (hi lo : Nat) : Value := .agg #[.int .u64 (hi : Int), .int .u64 (lo : Int)]

set_option maxRecDepth 100000 in
theorem mul64_spec (x y : Nat) (hx : x < 18446744073709551616) (hy : y < 18446744073709551616) (A : Mem) : FnV Tryz.prog 180 [.int .u64 (x : Int), .int .u64 (y : Int)] A (.tuple #[.int .u64 ((x * y / 18446744073709551616 : Nat) : Int), .int .u64 ((x * y % 18446744073709551616 : Nat) : Int)]) := by
  refine FnX.enter (N := 51) Tryz.func180 rfl rfl rfl fun w => ?_
  refine XC.keep (kp 0 rfl (kp 1 rfl kn)) ?_
  refine XC.reg ?_
  refine XL.q (q_assign rfl) rfl ?_
  refine XL.q (q_assign rfl) rfl ?_
  refine XL.fin (kp 0 rfl (kp 1 rfl kn)) ?_
  refine XC.reg ?_
  refine XL.q (q_move rfl) rfl ?_
  refine XL.q (q_andD 32 4294967296 rfl rfl rfl rfl rfl (by show _ < 18446744073709551616; first | assumption | exact Nat.mod_lt _ (by decide) | omega) (by decide)) rfl ?_
  refine XL.q (q_assign rfl) rfl ?_
  refine XL.fin (kp 0 rfl (kp 1 rfl (kp 6 rfl kn))) ?_
  refine XC.reg ?_
  refine XL.q (q_move rfl) rfl ?_
  refine XL.q (q_shrD 32 4294967296 rfl rfl rfl rfl (by decide)) rfl ?_
  refine XL.q (q_assign rfl) rfl ?_
  refine XL.fin (kp 0 rfl (kp 1 rfl (kp 6 rfl (kp 7 rfl kn)))) ?_
  refine XC.reg ?_
  refine XL.q (q_move rfl) rfl ?_
  refine XL.q (q_andD 32 4294967296 rfl rfl rfl rfl rfl (by show _ < 18446744073709551616; first | assumption | exact Nat.mod_lt _ (by decide) | omega) (by decide)) rfl ?_
  refine XL.q (q_assign rfl) rfl ?_
  refine XL.fin (kp 0 rfl (kp 1 rfl (kp 6 rfl (kp 7 rfl (kp 8 rfl kn))))) ?_
  refine XC.reg ?_
  refine XL.q (q_move rfl) rfl ?_
  refine XL.q (q_shrD 32 4294967296 rfl rfl rfl rfl (by decide)) rfl ?_
  refine XL.q (q_assign rfl) rfl ?_
  refine XL.fin (kp 0 rfl (kp 1 rfl (kp 6 rfl (kp 7 rfl (kp 8 rfl (kp 9 rfl kn)))))) ?_
  refine XC.reg ?_
  refine XL.q (q_move rfl) rfl ?_
  refine XL.q (q_move rfl) rfl ?_
  refine XL.q (q_mulM 18446744073709551616 rfl rfl rfl rfl rfl rfl) rfl ?_
  refine XL.q (q_assign rfl) rfl ?_
  refine XL.fin (kp 0 rfl (kp 1 rfl (kp 6 rfl (kp 7 rfl (kp 8 rfl (kp 9 rfl (kp 10 rfl kn))))))) ?_
  refine XC.reg ?_
  refine XL.q (q_move rfl) rfl ?_
  refine XL.q (q_move rfl) rfl ?_
  refine XL.q (q_mulM 18446744073709551616 rfl rfl rfl rfl rfl rfl) rfl ?_
  refine XL.q (q_move rfl) rfl ?_
  refine XL.q (q_shrD 32 4294967296 rfl rfl rfl rfl (by decide)) rfl ?_
  refine XL.q (q_addM 18446744073709551616 rfl rfl rfl rfl rfl rfl) rfl ?_
  refine XL.q (q_assign rfl) rfl ?_
  refine XL.fin (kp 0 rfl (kp 1 rfl (kp 6 rfl (kp 7 rfl (kp 9 rfl (kp 11 rfl kn)))))) ?_
  refine XC.reg ?_
  refine XL.q (q_move rfl) rfl ?_
  refine XL.q (q_andD 32 4294967296 rfl rfl rfl rfl rfl (by show _ < 18446744073709551616; first | assumption | exact Nat.mod_lt _ (by decide) | omega) (by decide)) rfl ?_
  refine XL.q (q_assign rfl) rfl ?_
  refine XL.fin (kp 0 rfl (kp 1 rfl (kp 6 rfl (kp 7 rfl (kp 9 rfl (kp 11 rfl (kp 12 rfl kn))))))) ?_
  refine XC.reg ?_
  refine XL.q (q_move rfl) rfl ?_
  refine XL.q (q_shrD 32 4294967296 rfl rfl rfl rfl (by decide)) rfl ?_
  refine XL.q (q_assign rfl) rfl ?_
  refine XL.fin (kp 0 rfl (kp 1 rfl (kp 6 rfl (kp 7 rfl (kp 9 rfl (kp 12 rfl (kp 13 rfl kn))))))) ?_
  refine XC.reg ?_
  refine XL.q (q_move rfl) rfl ?_
  refine XL.q (q_move rfl) rfl ?_
  refine XL.q (q_move rfl) rfl ?_
  refine XL.q (q_mulM 18446744073709551616 rfl rfl rfl rfl rfl rfl) rfl ?_
  refine XL.q (q_addM 18446744073709551616 rfl rfl rfl rfl rfl rfl) rfl ?_
  refine XL.q (q_assign rfl) rfl ?_
  refine XL.fin (kp 0 rfl (kp 1 rfl (kp 7 rfl (kp 9 rfl (kp 12 rfl (kp 13 rfl kn)))))) ?_
  refine XC.reg ?_
  refine XL.q (q_move rfl) rfl ?_
  refine XL.q (q_move rfl) rfl ?_
  refine XL.q (q_mulM 18446744073709551616 rfl rfl rfl rfl rfl rfl) rfl ?_
  refine XL.q (q_move rfl) rfl ?_
  refine XL.q (q_addM 18446744073709551616 rfl rfl rfl rfl rfl rfl) rfl ?_
  refine XL.q (q_move rfl) rfl ?_
  refine XL.q (q_shrD 32 4294967296 rfl rfl rfl rfl (by decide)) rfl ?_
  refine XL.q (q_addM 18446744073709551616 rfl rfl rfl rfl rfl rfl) rfl ?_
  refine XL.q (q_assign rfl) rfl ?_
  refine XL.fin (kp 0 rfl (kp 1 rfl (kp 4 rfl kn))) ?_
  refine XC.reg ?_
  refine XL.q (q_move rfl) rfl ?_
  refine XL.q (q_move rfl) rfl ?_
  refine XL.q (q_mulM 18446744073709551616 rfl rfl rfl rfl rfl rfl) rfl ?_
  refine XL.q (q_assign rfl) rfl ?_
  refine XL.fin (kp 4 rfl (kp 5 rfl kn)) ?_
  refine XC.ret ?_
  refine ⟨_, [], [], res2 rfl rfl rfl, List.nil_sublist _, by simp, ?_, rfl, rfl⟩
  rw [mul64_law hx hy rfl rfl rfl rfl rfl rfl rfl]

set_option maxRecDepth 100000 in
theorem wadd_spec (hi lo a b : Nat) (h1 : hi < 18446744073709551616) (h2 : lo < 18446744073709551616) (h3 : a < 18446744073709551616) (h4 : b < 18446744073709551616) (A : Mem) :
    FnX Tryz.prog 156 [wd hi lo, .int .u64 (a : Int), .int .u64 (b : Int)] [] A fun r M J => M = [] ∧ J = [] ∧ ∃ hi' lo', r = wd hi' lo' ∧ hi' < 18446744073709551616 ∧ lo' < 18446744073709551616 ∧ hi' * 18446744073709551616 + lo' = (hi * 18446744073709551616 + lo + a * b) % 340282366920938463463374607431768211456 := by
  refine FnX.enter (N := 34) Tryz.func156 rfl rfl rfl fun w => ?_
  refine XC.keep (kp 0 rfl (kp 1 rfl (kp 2 rfl kn))) ?_
  refine XC.reg ?_
  refine XL.lo rfl (l_box rfl (by first | exact Cel.cel | rfl) rfl fun b3 => ?_)
  refine XL.lo rfl (l_alloc (cs := [.int .u64 0, .int .u64 0]) (by kernel_rfl) rfl fun b6 => ?_)
  refine XL.fin (kp 1 rfl (kp 2 rfl (kp 3 rfl (kp 6 rfl kn)))) ?_
  refine XC.reg ?_
  refine XL.q (q_move rfl) rfl ?_
  refine XL.q (q_move rfl) rfl ?_
  refine XL.callV (aS rfl (aS rfl a0)) (by kernel_rfl) (mul64_spec a b h3 h4 _) rfl ?_
  have hab : a * b ≤ 18446744073709551615 * 18446744073709551615 := Nat.mul_le_mul (by omega) (by omega)
  generalize a * b = z at *
  refine XL.q (q_move rfl) rfl ?_
  refine XL.q (q_x0 rfl) rfl ?_
  refine XL.q (q_x1 rfl) rfl ?_
  refine XL.q (q_assign rfl) rfl ?_
  refine XL.q (q_assign rfl) rfl ?_
  refine XL.fin (kp 3 rfl (kp 6 rfl (kp 7 rfl (kp 8 rfl kn)))) ?_
  refine XC.reg ?_
  refine XL.q (q_fieldAddrN 1 (off := 1) rfl (by kernel_rfl) rfl) rfl ?_
  refine XL.q (q_load rfl (by kernel_rfl) (by first | exact At.mem | exact mA (by assumption)) (by rfl)) rfl ?_
  refine XL.q (q_move rfl) rfl ?_
  refine XL.q (q_bitsAdd Tryz.func181 (by kernel_rfl) (by kernel_rfl) (by kernel_rfl) (by kernel_rfl) rfl rfl rfl (c := 0) (by omega) rfl rfl rfl) rfl ?_
  refine XL.q (q_move rfl) rfl ?_
  refine XL.q (q_x0 rfl) rfl ?_
  refine XL.q (q_x1 rfl) rfl ?_
  refine XL.q (q_assign rfl) rfl ?_
  refine XL.q (q_assign rfl) rfl ?_
  refine XL.fin (kp 3 rfl (kp 6 rfl (kp 7 rfl (kp 8 rfl (kp 9 rfl kn))))) ?_
  refine XC.reg ?_
  refine XL.q (q_fieldAddrN 0 (off := 0) rfl (by kernel_rfl) rfl) rfl ?_
  refine XL.q (q_load rfl (by kernel_rfl) (by first | exact At.mem | exact mA (by assumption)) (by rfl)) rfl ?_
  refine XL.q (q_move rfl) rfl ?_
  refine XL.q (q_move rfl) rfl ?_
  refine XL.q (q_bitsAdd Tryz.func181 (by kernel_rfl) (by kernel_rfl) (by kernel_rfl) (by kernel_rfl) rfl rfl rfl (by omega) rfl rfl rfl) rfl ?_
  refine XL.q (q_move rfl) rfl ?_
  refine XL.q (q_x0 rfl) rfl ?_
  refine XL.q (q_x1 rfl) rfl ?_
  refine XL.q (q_assign rfl) rfl ?_
  refine XL.fin (kp 6 rfl (kp 7 rfl (kp 8 rfl kn))) ?_
  refine XC.reg ?_
  refine XL.q (q_move rfl) rfl ?_
  refine XL.q (q_move rfl) rfl ?_
  refine XL.q (q_build (place := fun x => #[(0, 1), (1, 1)][x]?) (z := [.int .u64 0, .int .u64 0]) (fun _ => by kernel_rfl) (eS rfl (eS rfl e0)) (bdS 0 1 rfl (by rfl) (bdS 1 1 rfl (by rfl) bd0))) rfl ?_
  refine XL.lo rfl (l_storeW rfl rfl Cel.cel (by kernel_rfl) (lnS (lnS (ln0))) (allS rfl (allS rfl (all0))) UpC.upd ?_)
  refine XL.fin (kp 6 rfl kn) ?_
  refine XC.ret ?_
  refine ⟨_, [], [], resC rfl rfl (by kernel_rfl) At.mem (by rfl), List.nil_sublist _, by simp, rfl, rfl, _, _, rfl, Nat.mod_lt _ (by decide), Nat.mod_lt _ (by decide), ?_⟩
  omega

set_option maxRecDepth 100000 in
theorem wplus_spec (hi lo a : Nat) (h1 : hi < 18446744073709551616) (h2 : lo < 18446744073709551616) (h3 : a < 18446744073709551616) (A : Mem) :
    FnX Tryz.prog 157 [wd hi lo, .int .u64 (a : Int)] [] A fun r M J => M = [] ∧ J = [] ∧ ∃ hi' lo', r = wd hi' lo' ∧ hi' < 18446744073709551616 ∧ lo' < 18446744073709551616 ∧ hi' * 18446744073709551616 + lo' = (hi * 18446744073709551616 + lo + a) % 340282366920938463463374607431768211456 := by
  refine FnX.enter (N := 8) Tryz.func157 rfl rfl rfl fun w => ?_
  refine XC.keep (kp 0 rfl (kp 1 rfl kn)) ?_
  refine XC.reg ?_
  refine XL.lo rfl (l_box rfl (by first | exact Cel.cel | rfl) rfl fun b2 => ?_)
  refine XL.lo rfl (l_alloc (cs := [.int .u64 0, .int .u64 0]) (by kernel_rfl) rfl fun b4 => ?_)
  refine XL.fin (kp 1 rfl (kp 2 rfl (kp 4 rfl kn))) ?_
  refine XC.reg ?_
  refine XL.q (q_loadW (n := 2) rfl (by kernel_rfl) (by first | exact At.mem | exact mA (by assumption)) (by rfl)) rfl ?_
  refine XL.q (q_move rfl) rfl ?_
  refine XL.call (aS rfl (aS rfl (aS rfl a0))) (by kernel_rfl) (wadd_spec hi lo a 1 h1 h2 h3 (by decide) _) rfl ?_
  rintro r M1 J1 ⟨rfl, rfl, hi', lo', rfl, g1, g2, g3⟩
  refine XL.lo rfl (l_storeW rfl rfl Cel.cel (by kernel_rfl) (lnS (lnS (ln0))) (allS rfl (allS rfl (all0))) UpC.upd ?_)
  refine XL.fin (kp 4 rfl kn) ?_
  refine XC.ret ?_
  refine ⟨_, [], [], resC rfl rfl (by kernel_rfl) At.mem (by rfl), List.nil_sublist _, by simp, rfl, rfl, hi', lo', rfl, g1, g2, ?_⟩
  rw [g3, Nat.mul_one]

set_option maxRecDepth 100000 in
theorem whigh_spec (hi lo : Nat) (h1 : hi < 18446744073709551616) (h2 : lo < 18446744073709551616) (A : Mem) : FnV Tryz.prog 158 [wd hi lo] A (.int .u64 (((hi * 18446744073709551616 + lo) / 2251799813685248 % 18446744073709551616 : Nat) : Int)) := by
  refine FnX.enter (N := 10) Tryz.func158 rfl rfl rfl fun w => ?_
  refine XC.keep (kp 0 rfl kn) ?_
  refine XC.reg ?_
  refine XL.lo rfl (l_box rfl (by first | exact Cel.cel | rfl) rfl fun b1 => ?_)
  refine XL.q (q_assign rfl) rfl ?_
  refine XL.fin (kp 1 rfl kn) ?_
  refine XC.reg ?_
  refine XL.q (q_fieldAddrN 0 (off := 0) rfl (by kernel_rfl) rfl) rfl ?_
  refine XL.q (q_load rfl (by kernel_rfl) (by first | exact At.mem | exact mA (by assumption)) (by rfl)) rfl ?_
  refine XL.q (q_shlD 13 8192 18446744073709551616 rfl rfl rfl rfl rfl rfl (by decide)) rfl ?_
  refine XL.q (q_fieldAddrN 1 (off := 1) rfl (by kernel_rfl) rfl) rfl ?_
  refine XL.q (q_load rfl (by kernel_rfl) (by first | exact At.mem | exact mA (by assumption)) (by rfl)) rfl ?_
  refine XL.q (q_shrD 51 2251799813685248 rfl rfl rfl rfl (by decide)) rfl ?_
  refine XL.q (q_or rfl rfl rfl (by show _ < 18446744073709551616; omega) (by show _ < 18446744073709551616; omega)) rfl ?_
  refine XL.q (q_assign rfl) rfl ?_
  refine XL.fin (kp 2 rfl kn) ?_
  refine XC.ret ?_
  refine ⟨_, [], [], res1 rfl rfl, List.nil_sublist _, by simp, ?_, rfl, rfl⟩
  rw [or13 h1 h2]

end Go.Proofs.YtphcaiplgpmnnaaGreatDoor
