/- Part 9 of the texts of this claim, one behind the other. -/
import Derived.Test.YtphcaiplgpmnnaaGreatDoorB8
import Derived.Test.YtphcaiplgpmnnaaGreatDoorRows
set_option linter.unusedVariables false
set_option linter.unusedSimpArgs false
set_option maxRecDepth 100000
namespace Go.Proofs.YtphcaiplgpmnnaaGreatDoor
open Go.Px
/-- An element's value, of its five parts. -/
abbrev el (a b c d e : Nat) : Value := .agg #[.int .u64 (a : Int), .int .u64 (b : Int), .int .u64 (c : Int), .int .u64 (d : Int), .int .u64 (e : Int)]
/-- The value of an element that is the number n. -/
def Fe (v : Value) (n : Nat) : Prop := ∃ a b c d e, v = el a b c d e ∧ a < 4503599627370496 ∧ b < 4503599627370496 ∧ c < 4503599627370496 ∧ d < 4503599627370496 ∧ e < 4503599627370496 ∧ fv a b c d e % p25 = n
theorem Fe.lt {v : Value} {n : Nat} (h : Fe v n) : n < p25 := by
  obtain ⟨a, b, c, d, e, _, _, _, _, _, _, rfl⟩ := h
  exact Nat.mod_lt _ (by decide)

theorem settle_spec (a b c d e : Nat) (ha : a < 9223372036854775808) (hb : b < 9223372036854775808) (hc : c < 9223372036854775808) (hd : d < 9223372036854775808) (he : e < 9223372036854775808) (A : Mem) :
  FnX Tryz.prog 155 [el a b c d e] [] A fun r M J => M = [] ∧ J = [] ∧ ∃ a' b' c' d' e', r = el a' b' c' d' e' ∧ a' < 2251799813685248 ∧ b' < 2251799813685248 ∧ c' < 2251799813685248 ∧ d' < 2251799813685248 ∧ fv a' b' c' d' e' + p25 * (e / 2251799813685248) = fv a b c d e ∧ e' < 2251799813685248 + 8192 := by
 refine FnX.enter (N := 38) Tryz.func155 rfl rfl rfl fun w => ?_
 refine XC.keep (kq 0 kn) ?_
 refine XC.reg ?_
 refine XL.lo rfl (bx_ fun b1 => ?_)
 refine XL.lo rfl (l_alloc (cs := [.int .u64 0, .int .u64 0, .int .u64 0, .int .u64 0, .int .u64 0]) (by kernel_rfl) rfl fun b2 => ?_)
 refine XL.fin (kq 1 (kq 2 kn)) ?_
 refine XC.reg ?_
 refine XL.q (qi_ 4 28 5 1 4) rfl ?_
 refine XL.q ql_ rfl ?_
 refine XL.q (q_shrD 51 2251799813685248 rfl rfl rfl rfl (by decide)) rfl ?_
 refine as_ ?_
 refine XL.fin (kq 1 (kq 2 (kq 3 kn))) ?_
 refine XC.reg ?_
 refine XL.q (qi_ 4 28 5 1 4) rfl ?_
 refine XL.q ql_ rfl ?_
 refine XL.q (q_andD 51 2251799813685248 rfl rfl rfl rfl rfl (by show _ < 18446744073709551616; first | assumption | exact Nat.mod_lt _ (by decide) | omega) (by decide)) rfl ?_
 refine XL.q (qi_ 4 28 5 1 4) rfl ?_
 refine XL.lo rfl (l_store rfl rfl rfl (by kernel_rfl) SetC.set UpC.upd ?_)
 refine XL.fin (kq 1 (kq 2 (kq 3 kn))) ?_
 refine XC.reg ?_
 refine XL.q (qi_ 0 28 5 1 0) rfl ?_
 refine XL.q ql_ rfl ?_
 refine mv_ ?_
 refine XL.q (q_mulM 18446744073709551616 (a := 19) rfl rfl rfl rfl rfl rfl) rfl ?_
 refine XL.q (q_addM 18446744073709551616 rfl rfl rfl rfl rfl rfl) rfl ?_
 refine XL.q (qi_ 0 28 5 1 0) rfl ?_
 refine XL.lo rfl (l_store rfl rfl rfl (by kernel_rfl) SetC.set UpC.upd ?_)
 refine XL.fin (kq 1 (kq 2 kn)) ?_
 refine XC.seq ?_
 refine XC.reg ?_
 refine mv_ ?_
 refine XL.fin (kq 1 (kq 2 (kq 18 kn))) ?_
 refine XC.block ?_
 refine XC.rounds 5 ?_
 refine XR.step ?_
 refine XC.reg ?_
 refine XL.q (q_cmp true rfl rfl (ltT (by decide))) rfl ?_
 refine XL.fin (kq 1 (kq 2 (kq 18 (kq 19 kn)))) ?_
 refine XC.seq ?_
 refine XC.condT rfl ?_
 refine XC.skip ?_
 refine nx (kq 1 (kq 2 (kq 18 kn))) ?_
 refine XC.seq ?_
 refine XC.block ?_
 refine XC.reg ?_
 refine mv_ (as_ ?_)
 refine XL.fin (kq 1 (kq 2 (kq 4 (kq 18 kn)))) ?_
 refine XC.drawF [0, 1, 2, 3, 4, 5, 6, 7, 8, 9] [(0, 0), (1, 0), (2, 0), (3, 1), (4, 0), (5, 0), (6, 1), (7, 0), (8, 0), (9, 0), (10, 2)] (by kernel_rfl) (by kernel_rfl) fun hs => ?_
 refine XF.q hs rfl qm_ rfl ?_
 refine XF.q hs rfl (q_num (1 : Int) rfl rfl (add64 (by decide) (by decide) (by decide))) rfl ?_
 refine XF.q hs rfl (qi_ 1 28 5 1 1) rfl ?_
 refine XF.r hs rfl ql_ rfl ?_
 refine XF.q hs rfl qm_ rfl ?_
 refine XF.q hs rfl (qi_ 0 28 5 1 0) rfl ?_
 refine XF.r hs rfl ql_ rfl ?_
 refine XF.q hs rfl (q_shrD 51 2251799813685248 rfl rfl rfl rfl (by decide)) rfl ?_
 refine XF.q hs rfl (q_addM 18446744073709551616 rfl rfl rfl rfl rfl rfl) rfl ?_
 refine XF.q hs rfl (qi_ 1 28 5 1 1) rfl ?_
 refine XF.tl rfl rfl rfl (l_store rfl rfl rfl (by kernel_rfl) SetC.set UpC.upd ?_)
 refine XF.fin (kq 1 (kq 2 (kq 4 (kq 18 kn)))) ?_
 refine XC.reg1 ?_
 refine mv_ ?_
 refine XL.q (qi_ 0 28 5 1 0) rfl ?_
 refine XL.q ql_ rfl ?_
 refine XL.q (q_andD 51 2251799813685248 rfl rfl rfl rfl rfl (by show _ < 18446744073709551616; first | assumption | exact Nat.mod_lt _ (by decide) | omega) (by decide)) rfl ?_
 refine XL.q (qi_ 0 28 5 1 0) rfl ?_
 refine XL.lo rfl (l_store rfl rfl rfl (by kernel_rfl) SetC.set UpC.upd ?_)
 refine XL.nil ?_
 refine nb ?_
 refine nx (kq 1 (kq 2 (kq 18 kn))) ?_
 refine XC.reg1 ?_
 refine XL.q (q_num (1 : Int) rfl rfl (add64 (by decide) (by decide) (by decide))) rfl ?_
 refine mv_ ?_
 refine XL.nil ?_
 refine un (kq 1 (kq 2 (kq 18 kn))) ?_
 refine XR.step ?_
 refine XC.reg ?_
 refine XL.q (q_cmp true rfl rfl (ltT (by decide))) rfl ?_
 refine XL.fin (kq 1 (kq 2 (kq 18 (kq 19 kn)))) ?_
 refine XC.seq ?_
 refine XC.condT rfl ?_
 refine XC.skip ?_
 refine nx (kq 1 (kq 2 (kq 18 kn))) ?_
 refine XC.seq ?_
 refine XC.block ?_
 refine XC.reg ?_
 refine mv_ (as_ ?_)
 refine XL.fin (kq 1 (kq 2 (kq 4 (kq 18 kn)))) ?_
 refine XC.drawF [0, 1, 2, 3, 4, 5, 6, 7, 8, 9] [(0, 0), (1, 0), (2, 0), (3, 1), (4, 0), (5, 0), (6, 1), (7, 0), (8, 0), (9, 0), (10, 2)] (by kernel_rfl) (by kernel_rfl) fun hs => ?_
 refine XF.q hs rfl qm_ rfl ?_
 refine XF.q hs rfl (q_num (2 : Int) rfl rfl (add64 (by decide) (by decide) (by decide))) rfl ?_
 refine XF.q hs rfl (qi_ 2 28 5 1 2) rfl ?_
 refine XF.r hs rfl ql_ rfl ?_
 refine XF.q hs rfl qm_ rfl ?_
 refine XF.q hs rfl (qi_ 1 28 5 1 1) rfl ?_
 refine XF.r hs rfl ql_ rfl ?_
 refine XF.q hs rfl (q_shrD 51 2251799813685248 rfl rfl rfl rfl (by decide)) rfl ?_
 refine XF.q hs rfl (q_addM 18446744073709551616 rfl rfl rfl rfl rfl rfl) rfl ?_
 refine XF.q hs rfl (qi_ 2 28 5 1 2) rfl ?_
 refine XF.tl rfl rfl rfl (l_store rfl rfl rfl (by kernel_rfl) SetC.set UpC.upd ?_)
 refine XF.fin (kq 1 (kq 2 (kq 4 (kq 18 kn)))) ?_
 refine XC.reg1 ?_
 refine mv_ ?_
 refine XL.q (qi_ 1 28 5 1 1) rfl ?_
 refine XL.q ql_ rfl ?_
 refine XL.q (q_andD 51 2251799813685248 rfl rfl rfl rfl rfl (by show _ < 18446744073709551616; first | assumption | exact Nat.mod_lt _ (by decide) | omega) (by decide)) rfl ?_
 refine XL.q (qi_ 1 28 5 1 1) rfl ?_
 refine XL.lo rfl (l_store rfl rfl rfl (by kernel_rfl) SetC.set UpC.upd ?_)
 refine XL.nil ?_
 refine nb ?_
 refine nx (kq 1 (kq 2 (kq 18 kn))) ?_
 refine XC.reg1 ?_
 refine XL.q (q_num (2 : Int) rfl rfl (add64 (by decide) (by decide) (by decide))) rfl ?_
 refine mv_ ?_
 refine XL.nil ?_
 refine un (kq 1 (kq 2 (kq 18 kn))) ?_
 refine XR.step ?_
 refine XC.reg ?_
 refine XL.q (q_cmp true rfl rfl (ltT (by decide))) rfl ?_
 refine XL.fin (kq 1 (kq 2 (kq 18 (kq 19 kn)))) ?_
 refine XC.seq ?_
 refine XC.condT rfl ?_
 refine XC.skip ?_
 refine nx (kq 1 (kq 2 (kq 18 kn))) ?_
 refine XC.seq ?_
 refine XC.block ?_
 refine XC.reg ?_
 refine mv_ (as_ ?_)
 refine XL.fin (kq 1 (kq 2 (kq 4 (kq 18 kn)))) ?_
 refine XC.drawF [0, 1, 2, 3, 4, 5, 6, 7, 8, 9] [(0, 0), (1, 0), (2, 0), (3, 1), (4, 0), (5, 0), (6, 1), (7, 0), (8, 0), (9, 0), (10, 2)] (by kernel_rfl) (by kernel_rfl) fun hs => ?_
 refine XF.q hs rfl qm_ rfl ?_
 refine XF.q hs rfl (q_num (3 : Int) rfl rfl (add64 (by decide) (by decide) (by decide))) rfl ?_
 refine XF.q hs rfl (qi_ 3 28 5 1 3) rfl ?_
 refine XF.r hs rfl ql_ rfl ?_
 refine XF.q hs rfl qm_ rfl ?_
 refine XF.q hs rfl (qi_ 2 28 5 1 2) rfl ?_
 refine XF.r hs rfl ql_ rfl ?_
 refine XF.q hs rfl (q_shrD 51 2251799813685248 rfl rfl rfl rfl (by decide)) rfl ?_
 refine XF.q hs rfl (q_addM 18446744073709551616 rfl rfl rfl rfl rfl rfl) rfl ?_
 refine XF.q hs rfl (qi_ 3 28 5 1 3) rfl ?_
 refine XF.tl rfl rfl rfl (l_store rfl rfl rfl (by kernel_rfl) SetC.set UpC.upd ?_)
 refine XF.fin (kq 1 (kq 2 (kq 4 (kq 18 kn)))) ?_
 refine XC.reg1 ?_
 refine mv_ ?_
 refine XL.q (qi_ 2 28 5 1 2) rfl ?_
 refine XL.q ql_ rfl ?_
 refine XL.q (q_andD 51 2251799813685248 rfl rfl rfl rfl rfl (by show _ < 18446744073709551616; first | assumption | exact Nat.mod_lt _ (by decide) | omega) (by decide)) rfl ?_
 refine XL.q (qi_ 2 28 5 1 2) rfl ?_
 refine XL.lo rfl (l_store rfl rfl rfl (by kernel_rfl) SetC.set UpC.upd ?_)
 refine XL.nil ?_
 refine nb ?_
 refine nx (kq 1 (kq 2 (kq 18 kn))) ?_
 refine XC.reg1 ?_
 refine XL.q (q_num (3 : Int) rfl rfl (add64 (by decide) (by decide) (by decide))) rfl ?_
 refine mv_ ?_
 refine XL.nil ?_
 refine un (kq 1 (kq 2 (kq 18 kn))) ?_
 refine XR.step ?_
 refine XC.reg ?_
 refine XL.q (q_cmp true rfl rfl (ltT (by decide))) rfl ?_
 refine XL.fin (kq 1 (kq 2 (kq 18 (kq 19 kn)))) ?_
 refine XC.seq ?_
 refine XC.condT rfl ?_
 refine XC.skip ?_
 refine nx (kq 1 (kq 2 (kq 18 kn))) ?_
 refine XC.seq ?_
 refine XC.block ?_
 refine XC.reg ?_
 refine mv_ (as_ ?_)
 refine XL.fin (kq 1 (kq 2 (kq 4 (kq 18 kn)))) ?_
 refine XC.drawF [0, 1, 2, 3, 4, 5, 6, 7, 8, 9] [(0, 0), (1, 0), (2, 0), (3, 1), (4, 0), (5, 0), (6, 1), (7, 0), (8, 0), (9, 0), (10, 2)] (by kernel_rfl) (by kernel_rfl) fun hs => ?_
 refine XF.q hs rfl qm_ rfl ?_
 refine XF.q hs rfl (q_num (4 : Int) rfl rfl (add64 (by decide) (by decide) (by decide))) rfl ?_
 refine XF.q hs rfl (qi_ 4 28 5 1 4) rfl ?_
 refine XF.r hs rfl ql_ rfl ?_
 refine XF.q hs rfl qm_ rfl ?_
 refine XF.q hs rfl (qi_ 3 28 5 1 3) rfl ?_
 refine XF.r hs rfl ql_ rfl ?_
 refine XF.q hs rfl (q_shrD 51 2251799813685248 rfl rfl rfl rfl (by decide)) rfl ?_
 refine XF.q hs rfl (q_addM 18446744073709551616 rfl rfl rfl rfl rfl rfl) rfl ?_
 refine XF.q hs rfl (qi_ 4 28 5 1 4) rfl ?_
 refine XF.tl rfl rfl rfl (l_store rfl rfl rfl (by kernel_rfl) SetC.set UpC.upd ?_)
 refine XF.fin (kq 1 (kq 2 (kq 4 (kq 18 kn)))) ?_
 refine XC.reg1 ?_
 refine mv_ ?_
 refine XL.q (qi_ 3 28 5 1 3) rfl ?_
 refine XL.q ql_ rfl ?_
 refine XL.q (q_andD 51 2251799813685248 rfl rfl rfl rfl rfl (by show _ < 18446744073709551616; first | assumption | exact Nat.mod_lt _ (by decide) | omega) (by decide)) rfl ?_
 refine XL.q (qi_ 3 28 5 1 3) rfl ?_
 refine XL.lo rfl (l_store rfl rfl rfl (by kernel_rfl) SetC.set UpC.upd ?_)
 refine XL.nil ?_
 refine nb ?_
 refine nx (kq 1 (kq 2 (kq 18 kn))) ?_
 refine XC.reg1 ?_
 refine XL.q (q_num (4 : Int) rfl rfl (add64 (by decide) (by decide) (by decide))) rfl ?_
 refine mv_ ?_
 refine XL.nil ?_
 refine un (kq 1 (kq 2 (kq 18 kn))) ?_
 refine XR.step ?_
 refine XC.reg ?_
 refine XL.q (q_cmp false rfl rfl (ltF (by decide))) rfl ?_
 refine XL.fin (kq 1 (kq 2 (kq 18 (kq 19 kn)))) ?_
 refine XC.seq ?_
 refine XC.condF rfl ?_
 refine XC.exit ?_
 refine te ?_
 refine ue ?_
 refine be rfl ?_
 refine nx (kq 1 (kq 2 kn)) ?_
 refine XC.reg ?_
 refine XL.q (qw_ 5) rfl ?_
 refine XL.lo rfl (l_storeW rfl rfl Cel.cel (by kernel_rfl) (lnS (lnS (lnS (lnS (lnS (ln0)))))) (allS rfl (allS rfl (allS rfl (allS rfl (allS rfl (all0)))))) UpC.upd ?_)
 refine XL.fin (kq 2 kn) ?_
 refine XC.ret ?_
 refine ⟨_, [], [], resC rfl rfl (by kernel_rfl) At.mem (by rfl), List.nil_sublist _, by simp, rfl, rfl, _, _, _, _, _, rfl, Nat.mod_lt _ (by decide), Nat.mod_lt _ (by decide), Nat.mod_lt _ (by decide), Nat.mod_lt _ (by decide), settle_law ha hb hc hd he rfl rfl rfl rfl rfl⟩

theorem fadd_spec (v u : Value) (x y : Nat) (hx : Fe v x) (hy : Fe u y) (A : Mem) : FnX Tryz.prog 152 [v, u] [] A fun r M J => M = [] ∧ J = [] ∧ Fe r ((x + y) % p25) := by
 obtain ⟨a, b, c, d, e, rfl, ha, hb, hc, hd, he, rfl⟩ := hx
 obtain ⟨a2, b2, c2, d2, e2, rfl, ha2, hb2, hc2, hd2, he2, rfl⟩ := hy
 refine FnX.enter (N := 20) Tryz.func152 rfl rfl rfl fun w => ?_
 refine XC.keep (kq 0 (kq 1 kn)) ?_
 refine XC.reg ?_
 refine XL.lo rfl (bx_ fun b2 => ?_)
 refine XL.lo rfl (bx_ fun b3 => ?_)
 refine XL.lo rfl (l_alloc (cs := [.int .u64 0, .int .u64 0, .int .u64 0, .int .u64 0, .int .u64 0]) (by kernel_rfl) rfl fun b4 => ?_)
 refine XL.fin (kq 2 (kq 3 (kq 4 kn))) ?_
 refine XC.seq ?_
 refine XC.reg ?_
 refine mv_ ?_
 refine XL.fin (kq 2 (kq 3 (kq 4 (kq 6 kn)))) ?_
 refine XC.block ?_
 refine XC.rounds 6 ?_
 refine XR.step ?_
 refine XC.reg ?_
 refine XL.q (q_cmp true rfl rfl (ltT (by decide))) rfl ?_
 refine XL.fin (kq 2 (kq 3 (kq 4 (kq 6 (kq 7 kn))))) ?_
 refine XC.seq ?_
 refine XC.condT rfl ?_
 refine XC.skip ?_
 refine nx (kq 2 (kq 3 (kq 4 (kq 6 kn)))) ?_
 refine XC.seq ?_
 refine XC.block ?_
 refine XC.reg ?_
 refine mv_ (as_ ?_)
 refine XL.fin (kq 2 (kq 3 (kq 4 (kq 5 (kq 6 kn))))) ?_
 refine XC.drawF1 [0, 1, 2, 3, 4, 5, 6, 7] [(0, 0), (1, 0), (2, 1), (3, 0), (4, 0), (5, 1), (6, 0), (7, 0), (8, 2)] (by kernel_rfl) (by kernel_rfl) fun hs => ?_
 refine XF.q hs rfl qm_ rfl ?_
 refine XF.q hs rfl (qi_ 0 28 5 1 0) rfl ?_
 refine XF.r hs rfl ql_ rfl ?_
 refine XF.q hs rfl qm_ rfl ?_
 refine XF.q hs rfl (qi_ 0 28 5 1 0) rfl ?_
 refine XF.r hs rfl ql_ rfl ?_
 refine XF.q hs rfl (q_addM 18446744073709551616 rfl rfl rfl rfl rfl rfl) rfl ?_
 refine XF.q hs rfl (qi_ 0 28 5 1 0) rfl ?_
 refine XF.tl rfl rfl rfl (l_store rfl rfl rfl (by kernel_rfl) SetC.set UpC.upd ?_)
 refine XF.nil ?_
 refine nb ?_
 refine nx (kq 2 (kq 3 (kq 4 (kq 6 kn)))) ?_
 refine XC.reg1 ?_
 refine XL.q (q_num (1 : Int) rfl rfl (add64 (by decide) (by decide) (by decide))) rfl ?_
 refine mv_ ?_
 refine XL.nil ?_
 refine un (kq 2 (kq 3 (kq 4 (kq 6 kn)))) ?_
 refine XR.step ?_
 refine XC.reg ?_
 refine XL.q (q_cmp true rfl rfl (ltT (by decide))) rfl ?_
 refine XL.fin (kq 2 (kq 3 (kq 4 (kq 6 (kq 7 kn))))) ?_
 refine XC.seq ?_
 refine XC.condT rfl ?_
 refine XC.skip ?_
 refine nx (kq 2 (kq 3 (kq 4 (kq 6 kn)))) ?_
 refine XC.seq ?_
 refine XC.block ?_
 refine XC.reg ?_
 refine mv_ (as_ ?_)
 refine XL.fin (kq 2 (kq 3 (kq 4 (kq 5 (kq 6 kn))))) ?_
 refine XC.drawF1 [0, 1, 2, 3, 4, 5, 6, 7] [(0, 0), (1, 0), (2, 1), (3, 0), (4, 0), (5, 1), (6, 0), (7, 0), (8, 2)] (by kernel_rfl) (by kernel_rfl) fun hs => ?_
 refine XF.q hs rfl qm_ rfl ?_
 refine XF.q hs rfl (qi_ 1 28 5 1 1) rfl ?_
 refine XF.r hs rfl ql_ rfl ?_
 refine XF.q hs rfl qm_ rfl ?_
 refine XF.q hs rfl (qi_ 1 28 5 1 1) rfl ?_
 refine XF.r hs rfl ql_ rfl ?_
 refine XF.q hs rfl (q_addM 18446744073709551616 rfl rfl rfl rfl rfl rfl) rfl ?_
 refine XF.q hs rfl (qi_ 1 28 5 1 1) rfl ?_
 refine XF.tl rfl rfl rfl (l_store rfl rfl rfl (by kernel_rfl) SetC.set UpC.upd ?_)
 refine XF.nil ?_
 refine nb ?_
 refine nx (kq 2 (kq 3 (kq 4 (kq 6 kn)))) ?_
 refine XC.reg1 ?_
 refine XL.q (q_num (2 : Int) rfl rfl (add64 (by decide) (by decide) (by decide))) rfl ?_
 refine mv_ ?_
 refine XL.nil ?_
 refine un (kq 2 (kq 3 (kq 4 (kq 6 kn)))) ?_
 refine XR.step ?_
 refine XC.reg ?_
 refine XL.q (q_cmp true rfl rfl (ltT (by decide))) rfl ?_
 refine XL.fin (kq 2 (kq 3 (kq 4 (kq 6 (kq 7 kn))))) ?_
 refine XC.seq ?_
 refine XC.condT rfl ?_
 refine XC.skip ?_
 refine nx (kq 2 (kq 3 (kq 4 (kq 6 kn)))) ?_
 refine XC.seq ?_
 refine XC.block ?_
 refine XC.reg ?_
 refine mv_ (as_ ?_)
 refine XL.fin (kq 2 (kq 3 (kq 4 (kq 5 (kq 6 kn))))) ?_
 refine XC.drawF1 [0, 1, 2, 3, 4, 5, 6, 7] [(0, 0), (1, 0), (2, 1), (3, 0), (4, 0), (5, 1), (6, 0), (7, 0), (8, 2)] (by kernel_rfl) (by kernel_rfl) fun hs => ?_
 refine XF.q hs rfl qm_ rfl ?_
 refine XF.q hs rfl (qi_ 2 28 5 1 2) rfl ?_
 refine XF.r hs rfl ql_ rfl ?_
 refine XF.q hs rfl qm_ rfl ?_
 refine XF.q hs rfl (qi_ 2 28 5 1 2) rfl ?_
 refine XF.r hs rfl ql_ rfl ?_
 refine XF.q hs rfl (q_addM 18446744073709551616 rfl rfl rfl rfl rfl rfl) rfl ?_
 refine XF.q hs rfl (qi_ 2 28 5 1 2) rfl ?_
 refine XF.tl rfl rfl rfl (l_store rfl rfl rfl (by kernel_rfl) SetC.set UpC.upd ?_)
 refine XF.nil ?_
 refine nb ?_
 refine nx (kq 2 (kq 3 (kq 4 (kq 6 kn)))) ?_
 refine XC.reg1 ?_
 refine XL.q (q_num (3 : Int) rfl rfl (add64 (by decide) (by decide) (by decide))) rfl ?_
 refine mv_ ?_
 refine XL.nil ?_
 refine un (kq 2 (kq 3 (kq 4 (kq 6 kn)))) ?_
 refine XR.step ?_
 refine XC.reg ?_
 refine XL.q (q_cmp true rfl rfl (ltT (by decide))) rfl ?_
 refine XL.fin (kq 2 (kq 3 (kq 4 (kq 6 (kq 7 kn))))) ?_
 refine XC.seq ?_
 refine XC.condT rfl ?_
 refine XC.skip ?_
 refine nx (kq 2 (kq 3 (kq 4 (kq 6 kn)))) ?_
 refine XC.seq ?_
 refine XC.block ?_
 refine XC.reg ?_
 refine mv_ (as_ ?_)
 refine XL.fin (kq 2 (kq 3 (kq 4 (kq 5 (kq 6 kn))))) ?_
 refine XC.drawF1 [0, 1, 2, 3, 4, 5, 6, 7] [(0, 0), (1, 0), (2, 1), (3, 0), (4, 0), (5, 1), (6, 0), (7, 0), (8, 2)] (by kernel_rfl) (by kernel_rfl) fun hs => ?_
 refine XF.q hs rfl qm_ rfl ?_
 refine XF.q hs rfl (qi_ 3 28 5 1 3) rfl ?_
 refine XF.r hs rfl ql_ rfl ?_
 refine XF.q hs rfl qm_ rfl ?_
 refine XF.q hs rfl (qi_ 3 28 5 1 3) rfl ?_
 refine XF.r hs rfl ql_ rfl ?_
 refine XF.q hs rfl (q_addM 18446744073709551616 rfl rfl rfl rfl rfl rfl) rfl ?_
 refine XF.q hs rfl (qi_ 3 28 5 1 3) rfl ?_
 refine XF.tl rfl rfl rfl (l_store rfl rfl rfl (by kernel_rfl) SetC.set UpC.upd ?_)
 refine XF.nil ?_
 refine nb ?_
 refine nx (kq 2 (kq 3 (kq 4 (kq 6 kn)))) ?_
 refine XC.reg1 ?_
 refine XL.q (q_num (4 : Int) rfl rfl (add64 (by decide) (by decide) (by decide))) rfl ?_
 refine mv_ ?_
 refine XL.nil ?_
 refine un (kq 2 (kq 3 (kq 4 (kq 6 kn)))) ?_
 refine XR.step ?_
 refine XC.reg ?_
 refine XL.q (q_cmp true rfl rfl (ltT (by decide))) rfl ?_
 refine XL.fin (kq 2 (kq 3 (kq 4 (kq 6 (kq 7 kn))))) ?_
 refine XC.seq ?_
 refine XC.condT rfl ?_
 refine XC.skip ?_
 refine nx (kq 2 (kq 3 (kq 4 (kq 6 kn)))) ?_
 refine XC.seq ?_
 refine XC.block ?_
 refine XC.reg ?_
 refine mv_ (as_ ?_)
 refine XL.fin (kq 2 (kq 3 (kq 4 (kq 5 (kq 6 kn))))) ?_
 refine XC.drawF1 [0, 1, 2, 3, 4, 5, 6, 7] [(0, 0), (1, 0), (2, 1), (3, 0), (4, 0), (5, 1), (6, 0), (7, 0), (8, 2)] (by kernel_rfl) (by kernel_rfl) fun hs => ?_
 refine XF.q hs rfl qm_ rfl ?_
 refine XF.q hs rfl (qi_ 4 28 5 1 4) rfl ?_
 refine XF.r hs rfl ql_ rfl ?_
 refine XF.q hs rfl qm_ rfl ?_
 refine XF.q hs rfl (qi_ 4 28 5 1 4) rfl ?_
 refine XF.r hs rfl ql_ rfl ?_
 refine XF.q hs rfl (q_addM 18446744073709551616 rfl rfl rfl rfl rfl rfl) rfl ?_
 refine XF.q hs rfl (qi_ 4 28 5 1 4) rfl ?_
 refine XF.tl rfl rfl rfl (l_store rfl rfl rfl (by kernel_rfl) SetC.set UpC.upd ?_)
 refine XF.nil ?_
 refine nb ?_
 refine nx (kq 2 (kq 3 (kq 4 (kq 6 kn)))) ?_
 refine XC.reg1 ?_
 refine XL.q (q_num (5 : Int) rfl rfl (add64 (by decide) (by decide) (by decide))) rfl ?_
 refine mv_ ?_
 refine XL.nil ?_
 refine un (kq 2 (kq 3 (kq 4 (kq 6 kn)))) ?_
 refine XR.step ?_
 refine XC.reg ?_
 refine XL.q (q_cmp false rfl rfl (ltF (by decide))) rfl ?_
 refine XL.fin (kq 2 (kq 3 (kq 4 (kq 6 (kq 7 kn))))) ?_
 refine XC.seq ?_
 refine XC.condF rfl ?_
 refine XC.exit ?_
 refine te ?_
 refine ue ?_
 refine be rfl ?_
 refine nx (kq 2 (kq 4 kn)) ?_
 refine XC.reg ?_
 refine XL.q (qw_ 5) rfl ?_
 refine XL.call (aS rfl a0) (by kernel_rfl) (settle_spec _ _ _ _ _ (by omega) (by omega) (by omega) (by omega) (by omega) _) rfl ?_
 rintro r3 M3 J3 ⟨rfl, rfl, a3, b3, c3, d3, e3, rfl, ha3, hb3, hc3, hd3, hv3, he3⟩
 refine XL.lo rfl (l_storeW rfl rfl Cel.cel (by kernel_rfl) (lnS (lnS (lnS (lnS (lnS (ln0)))))) (allS rfl (allS rfl (allS rfl (allS rfl (allS rfl (all0)))))) UpC.upd ?_)
 refine XL.fin (kq 4 kn) ?_
 refine XC.ret ?_
 refine ⟨_, [], [], resC rfl rfl (by kernel_rfl) At.mem (by rfl), List.nil_sublist _, by simp, rfl, rfl, a3, b3, c3, d3, e3, rfl, by omega, by omega, by omega, by omega, by omega, ?_⟩
 rw [mod_of_settle hv3, fv_add ha hb hc hd he ha2 hb2 hc2 hd2 he2, Nat.add_mod]

theorem fsub_spec (v u : Value) (x y : Nat) (hx : Fe v x) (hy : Fe u y) (A : Mem) : FnX Tryz.prog 153 [v, u] [] A fun r M J => M = [] ∧ J = [] ∧ Fe r ((x + p25 - y) % p25) := by
 obtain ⟨a, b, c, d, e, rfl, ha, hb, hc, hd, he, rfl⟩ := hx
 obtain ⟨a2, b2, c2, d2, e2, rfl, ha2, hb2, hc2, hd2, he2, rfl⟩ := hy
 refine FnX.enter (N := 30) Tryz.func153 rfl rfl rfl fun w => ?_
 refine XC.keep (kq 0 (kq 1 kn)) ?_
 refine XC.reg ?_
 refine XL.lo rfl (bx_ fun b2 => ?_)
 refine XL.lo rfl (bx_ fun b3 => ?_)
 refine XL.lo rfl (l_alloc (cs := [.int .u64 0, .int .u64 0, .int .u64 0, .int .u64 0, .int .u64 0]) (by kernel_rfl) rfl fun b4 => ?_)
 refine XL.fin (kq 2 (kq 3 (kq 4 kn))) ?_
 refine XC.reg ?_
 refine XL.q (qw_ 5) rfl ?_
 refine XL.call (aS rfl a0) (by kernel_rfl) (settle_spec _ _ _ _ _ (by omega) (by omega) (by omega) (by omega) (by omega) _) rfl ?_
 rintro r3 M3 J3 ⟨rfl, rfl, a3, b3, c3, d3, e3, rfl, ha3, hb3, hc3, hd3, hv3, he3⟩
 refine XL.lo rfl (l_storeW rfl rfl Cel.cel (by kernel_rfl) (lnS (lnS (lnS (lnS (lnS (ln0)))))) (allS rfl (allS rfl (allS rfl (allS rfl (allS rfl (all0)))))) UpC.upd ?_)
 refine XL.fin (kq 2 (kq 3 (kq 4 kn))) ?_
 refine XC.reg ?_
 refine XL.q (q_build (place := fun i => some (i * 1, 1)) (z := [.int .u64 0, .int .u64 0, .int .u64 0, .int .u64 0, .int .u64 0]) (fun _ => by kernel_rfl) (eS rfl (eS rfl (eS rfl (eS rfl (eS rfl e0))))) (bdS 0 1 rfl (by rfl) (bdS 1 1 rfl (by rfl) (bdS 2 1 rfl (by rfl) (bdS 3 1 rfl (by rfl) (bdS 4 1 rfl (by rfl) bd0)))))) rfl ?_
 refine XL.lo rfl (l_alloc (cs := [.int .u64 0, .int .u64 0, .int .u64 0, .int .u64 0, .int .u64 0]) (by kernel_rfl) rfl fun b5 => ?_)
 refine XL.lo rfl (l_storeW rfl rfl Cel.cel (by kernel_rfl) (lnS (lnS (lnS (lnS (lnS (ln0)))))) (allS rfl (allS rfl (allS rfl (allS rfl (allS rfl (all0)))))) UpC.upd ?_)
 refine XL.fin (kq 2 (kq 3 (kq 4 (kq 5 kn)))) ?_
 refine XC.seq ?_
 refine XC.reg ?_
 refine mv_ ?_
 refine XL.fin (kq 2 (kq 3 (kq 4 (kq 5 (kq 10 kn))))) ?_
 refine XC.block ?_
 refine XC.rounds 6 ?_
 refine XR.step ?_
 refine XC.reg ?_
 refine XL.q (q_cmp true rfl rfl (ltT (by decide))) rfl ?_
 refine XL.fin (kq 2 (kq 3 (kq 4 (kq 5 (kq 10 (kq 11 kn)))))) ?_
 refine XC.seq ?_
 refine XC.condT rfl ?_
 refine XC.skip ?_
 refine nx (kq 2 (kq 3 (kq 4 (kq 5 (kq 10 kn))))) ?_
 refine XC.seq ?_
 refine XC.block ?_
 refine XC.reg ?_
 refine mv_ (as_ ?_)
 refine XL.fin (kq 2 (kq 3 (kq 4 (kq 5 (kq 6 (kq 10 kn)))))) ?_
 refine XC.drawF1 [0, 1, 2, 3, 4, 5, 6, 7, 8, 9, 10, 11, 12] [(0, 0), (1, 0), (2, 1), (3, 0), (4, 0), (5, 1), (6, 0), (7, 0), (8, 0), (9, 1), (10, 0), (11, 0), (12, 0), (13, 2)] (by kernel_rfl) (by kernel_rfl) fun hs => ?_
 refine XF.q hs rfl qm_ rfl ?_
 refine XF.q hs rfl (qi_ 0 28 5 1 0) rfl ?_
 refine XF.r hs rfl ql_ rfl ?_
 refine XF.q hs rfl qm_ rfl ?_
 refine XF.q hs rfl (qi_ 0 28 5 1 0) rfl ?_
 refine XF.r hs rfl ql_ rfl ?_
 refine XF.q hs rfl (q_mulM 18446744073709551616 (a := 2) rfl rfl rfl rfl rfl rfl) rfl ?_
 refine XF.q hs rfl qm_ rfl ?_
 refine XF.q hs rfl (qi_ 0 28 5 1 0) rfl ?_
 refine XF.r hs rfl ql_ rfl ?_
 refine XF.q hs rfl (q_subM 18446744073709551616 rfl rfl rfl rfl rfl rfl (by omega)) rfl ?_
 refine XF.q hs rfl (q_addM 18446744073709551616 rfl rfl rfl rfl rfl rfl) rfl ?_
 refine XF.q hs rfl (qi_ 0 28 5 1 0) rfl ?_
 refine XF.tl rfl rfl rfl (l_store rfl rfl rfl (by kernel_rfl) SetC.set UpC.upd ?_)
 refine XF.nil ?_
 refine nb ?_
 refine nx (kq 2 (kq 3 (kq 4 (kq 5 (kq 10 kn))))) ?_
 refine XC.reg1 ?_
 refine XL.q (q_num (1 : Int) rfl rfl (add64 (by decide) (by decide) (by decide))) rfl ?_
 refine mv_ ?_
 refine XL.nil ?_
 refine un (kq 2 (kq 3 (kq 4 (kq 5 (kq 10 kn))))) ?_
 refine XR.step ?_
 refine XC.reg ?_
 refine XL.q (q_cmp true rfl rfl (ltT (by decide))) rfl ?_
 refine XL.fin (kq 2 (kq 3 (kq 4 (kq 5 (kq 10 (kq 11 kn)))))) ?_
 refine XC.seq ?_
 refine XC.condT rfl ?_
 refine XC.skip ?_
 refine nx (kq 2 (kq 3 (kq 4 (kq 5 (kq 10 kn))))) ?_
 refine XC.seq ?_
 refine XC.block ?_
 refine XC.reg ?_
 refine mv_ (as_ ?_)
 refine XL.fin (kq 2 (kq 3 (kq 4 (kq 5 (kq 6 (kq 10 kn)))))) ?_
 refine XC.drawF1 [0, 1, 2, 3, 4, 5, 6, 7, 8, 9, 10, 11, 12] [(0, 0), (1, 0), (2, 1), (3, 0), (4, 0), (5, 1), (6, 0), (7, 0), (8, 0), (9, 1), (10, 0), (11, 0), (12, 0), (13, 2)] (by kernel_rfl) (by kernel_rfl) fun hs => ?_
 refine XF.q hs rfl qm_ rfl ?_
 refine XF.q hs rfl (qi_ 1 28 5 1 1) rfl ?_
 refine XF.r hs rfl ql_ rfl ?_
 refine XF.q hs rfl qm_ rfl ?_
 refine XF.q hs rfl (qi_ 1 28 5 1 1) rfl ?_
 refine XF.r hs rfl ql_ rfl ?_
 refine XF.q hs rfl (q_mulM 18446744073709551616 (a := 2) rfl rfl rfl rfl rfl rfl) rfl ?_
 refine XF.q hs rfl qm_ rfl ?_
 refine XF.q hs rfl (qi_ 1 28 5 1 1) rfl ?_
 refine XF.r hs rfl ql_ rfl ?_
 refine XF.q hs rfl (q_subM 18446744073709551616 rfl rfl rfl rfl rfl rfl (by omega)) rfl ?_
 refine XF.q hs rfl (q_addM 18446744073709551616 rfl rfl rfl rfl rfl rfl) rfl ?_
 refine XF.q hs rfl (qi_ 1 28 5 1 1) rfl ?_
 refine XF.tl rfl rfl rfl (l_store rfl rfl rfl (by kernel_rfl) SetC.set UpC.upd ?_)
 refine XF.nil ?_
 refine nb ?_
 refine nx (kq 2 (kq 3 (kq 4 (kq 5 (kq 10 kn))))) ?_
 refine XC.reg1 ?_
 refine XL.q (q_num (2 : Int) rfl rfl (add64 (by decide) (by decide) (by decide))) rfl ?_
 refine mv_ ?_
 refine XL.nil ?_
 refine un (kq 2 (kq 3 (kq 4 (kq 5 (kq 10 kn))))) ?_
 refine XR.step ?_
 refine XC.reg ?_
 refine XL.q (q_cmp true rfl rfl (ltT (by decide))) rfl ?_
 refine XL.fin (kq 2 (kq 3 (kq 4 (kq 5 (kq 10 (kq 11 kn)))))) ?_
 refine XC.seq ?_
 refine XC.condT rfl ?_
 refine XC.skip ?_
 refine nx (kq 2 (kq 3 (kq 4 (kq 5 (kq 10 kn))))) ?_
 refine XC.seq ?_
 refine XC.block ?_
 refine XC.reg ?_
 refine mv_ (as_ ?_)
 refine XL.fin (kq 2 (kq 3 (kq 4 (kq 5 (kq 6 (kq 10 kn)))))) ?_
 refine XC.drawF1 [0, 1, 2, 3, 4, 5, 6, 7, 8, 9, 10, 11, 12] [(0, 0), (1, 0), (2, 1), (3, 0), (4, 0), (5, 1), (6, 0), (7, 0), (8, 0), (9, 1), (10, 0), (11, 0), (12, 0), (13, 2)] (by kernel_rfl) (by kernel_rfl) fun hs => ?_
 refine XF.q hs rfl qm_ rfl ?_
 refine XF.q hs rfl (qi_ 2 28 5 1 2) rfl ?_
 refine XF.r hs rfl ql_ rfl ?_
 refine XF.q hs rfl qm_ rfl ?_
 refine XF.q hs rfl (qi_ 2 28 5 1 2) rfl ?_
 refine XF.r hs rfl ql_ rfl ?_
 refine XF.q hs rfl (q_mulM 18446744073709551616 (a := 2) rfl rfl rfl rfl rfl rfl) rfl ?_
 refine XF.q hs rfl qm_ rfl ?_
 refine XF.q hs rfl (qi_ 2 28 5 1 2) rfl ?_
 refine XF.r hs rfl ql_ rfl ?_
 refine XF.q hs rfl (q_subM 18446744073709551616 rfl rfl rfl rfl rfl rfl (by omega)) rfl ?_
 refine XF.q hs rfl (q_addM 18446744073709551616 rfl rfl rfl rfl rfl rfl) rfl ?_
 refine XF.q hs rfl (qi_ 2 28 5 1 2) rfl ?_
 refine XF.tl rfl rfl rfl (l_store rfl rfl rfl (by kernel_rfl) SetC.set UpC.upd ?_)
 refine XF.nil ?_
 refine nb ?_
 refine nx (kq 2 (kq 3 (kq 4 (kq 5 (kq 10 kn))))) ?_
 refine XC.reg1 ?_
 refine XL.q (q_num (3 : Int) rfl rfl (add64 (by decide) (by decide) (by decide))) rfl ?_
 refine mv_ ?_
 refine XL.nil ?_
 refine un (kq 2 (kq 3 (kq 4 (kq 5 (kq 10 kn))))) ?_
 refine XR.step ?_
 refine XC.reg ?_
 refine XL.q (q_cmp true rfl rfl (ltT (by decide))) rfl ?_
 refine XL.fin (kq 2 (kq 3 (kq 4 (kq 5 (kq 10 (kq 11 kn)))))) ?_
 refine XC.seq ?_
 refine XC.condT rfl ?_
 refine XC.skip ?_
 refine nx (kq 2 (kq 3 (kq 4 (kq 5 (kq 10 kn))))) ?_
 refine XC.seq ?_
 refine XC.block ?_
 refine XC.reg ?_
 refine mv_ (as_ ?_)
 refine XL.fin (kq 2 (kq 3 (kq 4 (kq 5 (kq 6 (kq 10 kn)))))) ?_
 refine XC.drawF1 [0, 1, 2, 3, 4, 5, 6, 7, 8, 9, 10, 11, 12] [(0, 0), (1, 0), (2, 1), (3, 0), (4, 0), (5, 1), (6, 0), (7, 0), (8, 0), (9, 1), (10, 0), (11, 0), (12, 0), (13, 2)] (by kernel_rfl) (by kernel_rfl) fun hs => ?_
 refine XF.q hs rfl qm_ rfl ?_
 refine XF.q hs rfl (qi_ 3 28 5 1 3) rfl ?_
 refine XF.r hs rfl ql_ rfl ?_
 refine XF.q hs rfl qm_ rfl ?_
 refine XF.q hs rfl (qi_ 3 28 5 1 3) rfl ?_
 refine XF.r hs rfl ql_ rfl ?_
 refine XF.q hs rfl (q_mulM 18446744073709551616 (a := 2) rfl rfl rfl rfl rfl rfl) rfl ?_
 refine XF.q hs rfl qm_ rfl ?_
 refine XF.q hs rfl (qi_ 3 28 5 1 3) rfl ?_
 refine XF.r hs rfl ql_ rfl ?_
 refine XF.q hs rfl (q_subM 18446744073709551616 rfl rfl rfl rfl rfl rfl (by omega)) rfl ?_
 refine XF.q hs rfl (q_addM 18446744073709551616 rfl rfl rfl rfl rfl rfl) rfl ?_
 refine XF.q hs rfl (qi_ 3 28 5 1 3) rfl ?_
 refine XF.tl rfl rfl rfl (l_store rfl rfl rfl (by kernel_rfl) SetC.set UpC.upd ?_)
 refine XF.nil ?_
 refine nb ?_
 refine nx (kq 2 (kq 3 (kq 4 (kq 5 (kq 10 kn))))) ?_
 refine XC.reg1 ?_
 refine XL.q (q_num (4 : Int) rfl rfl (add64 (by decide) (by decide) (by decide))) rfl ?_
 refine mv_ ?_
 refine XL.nil ?_
 refine un (kq 2 (kq 3 (kq 4 (kq 5 (kq 10 kn))))) ?_
 refine XR.step ?_
 refine XC.reg ?_
 refine XL.q (q_cmp true rfl rfl (ltT (by decide))) rfl ?_
 refine XL.fin (kq 2 (kq 3 (kq 4 (kq 5 (kq 10 (kq 11 kn)))))) ?_
 refine XC.seq ?_
 refine XC.condT rfl ?_
 refine XC.skip ?_
 refine nx (kq 2 (kq 3 (kq 4 (kq 5 (kq 10 kn))))) ?_
 refine XC.seq ?_
 refine XC.block ?_
 refine XC.reg ?_
 refine mv_ (as_ ?_)
 refine XL.fin (kq 2 (kq 3 (kq 4 (kq 5 (kq 6 (kq 10 kn)))))) ?_
 refine XC.drawF1 [0, 1, 2, 3, 4, 5, 6, 7, 8, 9, 10, 11, 12] [(0, 0), (1, 0), (2, 1), (3, 0), (4, 0), (5, 1), (6, 0), (7, 0), (8, 0), (9, 1), (10, 0), (11, 0), (12, 0), (13, 2)] (by kernel_rfl) (by kernel_rfl) fun hs => ?_
 refine XF.q hs rfl qm_ rfl ?_
 refine XF.q hs rfl (qi_ 4 28 5 1 4) rfl ?_
 refine XF.r hs rfl ql_ rfl ?_
 refine XF.q hs rfl qm_ rfl ?_
 refine XF.q hs rfl (qi_ 4 28 5 1 4) rfl ?_
 refine XF.r hs rfl ql_ rfl ?_
 refine XF.q hs rfl (q_mulM 18446744073709551616 (a := 2) rfl rfl rfl rfl rfl rfl) rfl ?_
 refine XF.q hs rfl qm_ rfl ?_
 refine XF.q hs rfl (qi_ 4 28 5 1 4) rfl ?_
 refine XF.r hs rfl ql_ rfl ?_
 refine XF.q hs rfl (q_subM 18446744073709551616 rfl rfl rfl rfl rfl rfl (by omega)) rfl ?_
 refine XF.q hs rfl (q_addM 18446744073709551616 rfl rfl rfl rfl rfl rfl) rfl ?_
 refine XF.q hs rfl (qi_ 4 28 5 1 4) rfl ?_
 refine XF.tl rfl rfl rfl (l_store rfl rfl rfl (by kernel_rfl) SetC.set UpC.upd ?_)
 refine XF.nil ?_
 refine nb ?_
 refine nx (kq 2 (kq 3 (kq 4 (kq 5 (kq 10 kn))))) ?_
 refine XC.reg1 ?_
 refine XL.q (q_num (5 : Int) rfl rfl (add64 (by decide) (by decide) (by decide))) rfl ?_
 refine mv_ ?_
 refine XL.nil ?_
 refine un (kq 2 (kq 3 (kq 4 (kq 5 (kq 10 kn))))) ?_
 refine XR.step ?_
 refine XC.reg ?_
 refine XL.q (q_cmp false rfl rfl (ltF (by decide))) rfl ?_
 refine XL.fin (kq 2 (kq 3 (kq 4 (kq 5 (kq 10 (kq 11 kn)))))) ?_
 refine XC.seq ?_
 refine XC.condF rfl ?_
 refine XC.exit ?_
 refine te ?_
 refine ue ?_
 refine be rfl ?_
 refine nx (kq 2 (kq 4 kn)) ?_
 have q0 := lim_sub (t := 9007199254740916) (b := a3) ha (by decide) (by omega)
 have q1 := lim_sub (t := 9007199254740988) (b := b3) hb (by decide) (by omega)
 have q2 := lim_sub (t := 9007199254740988) (b := c3) hc (by decide) (by omega)
 have q3 := lim_sub (t := 9007199254740988) (b := d3) hd (by decide) (by omega)
 have q4 := lim_sub (t := 9007199254740988) (b := e3) he (by decide) (by omega)
 refine XC.reg ?_
 refine XL.q (qw_ 5) rfl ?_
 refine XL.call (aS rfl a0) (by kernel_rfl) (settle_spec _ _ _ _ _ (q0 ▸ lim_sub' ha (by decide) (by omega)) (q1 ▸ lim_sub' hb (by decide) (by omega)) (q2 ▸ lim_sub' hc (by decide) (by omega)) (q3 ▸ lim_sub' hd (by decide) (by omega)) (q4 ▸ lim_sub' he (by decide) (by omega)) _) rfl ?_
 rintro r4 M4 J4 ⟨rfl, rfl, a4, b4, c4, d4, e4, rfl, ha4, hb4, hc4, hd4, hv4, he4⟩
 refine XL.call (aS rfl a0) (by kernel_rfl) (settle_spec _ _ _ _ _ (by omega) (by omega) (by omega) (by omega) (by omega) _) rfl ?_
 rintro r5 M5 J5 ⟨rfl, rfl, a5, b5, c5, d5, e5, rfl, ha5, hb5, hc5, hd5, hv5, he5⟩
 refine XL.lo rfl (l_storeW rfl rfl Cel.cel (by kernel_rfl) (lnS (lnS (lnS (lnS (lnS (ln0)))))) (allS rfl (allS rfl (allS rfl (allS rfl (allS rfl (all0)))))) UpC.upd ?_)
 refine XL.fin (kq 4 kn) ?_
 refine XC.ret ?_
 refine ⟨_, [], [], resC rfl rfl (by kernel_rfl) At.mem (by rfl), List.nil_sublist _, by simp, rfl, rfl, a5, b5, c5, d5, e5, rfl, by omega, by omega, by omega, by omega, by omega, ?_⟩
 rw [mod_of_settle hv5, mod_of_settle hv4, ← mod_of_settle hv3]
 refine sub_mod ?_
 rw [← fv_sub (a := a) (b := b) (c := c) (d := d) (e := e) (a2 := a3) (b2 := b3) (c2 := c3) (d2 := d3) (e2 := e3) (by omega) (by omega) (by omega) (by omega) (by omega), ← q0, ← q1, ← q2, ← q3, ← q4]

abbrev wd (hi lo : Nat) : Value := .agg #[.int .u64 (hi : Int), .int .u64 (lo : Int)]

theorem mul64_spec (x y : Nat) (hx : x < 18446744073709551616) (hy : y < 18446744073709551616) (A : Mem) : FnV Tryz.prog 180 [.int .u64 (x : Int), .int .u64 (y : Int)] A (.tuple #[.int .u64 ((x * y / 18446744073709551616 : Nat) : Int), .int .u64 ((x * y % 18446744073709551616 : Nat) : Int)]) := by
 refine FnX.enter (N := 51) Tryz.func180 rfl rfl rfl fun w => ?_
 refine XC.keep (kq 0 (kq 1 kn)) ?_
 refine XC.reg ?_
 refine as_ (as_ ?_)
 refine XL.fin (kq 0 (kq 1 kn)) ?_
 refine XC.reg ?_
 refine mv_ ?_
 refine XL.q (q_andD 32 4294967296 rfl rfl rfl rfl rfl (by show _ < 18446744073709551616; first | assumption | exact Nat.mod_lt _ (by decide) | omega) (by decide)) rfl ?_
 refine as_ ?_
 refine XL.fin (kq 0 (kq 1 (kq 6 kn))) ?_
 refine XC.reg ?_
 refine mv_ ?_
 refine XL.q (q_shrD 32 4294967296 rfl rfl rfl rfl (by decide)) rfl ?_
 refine as_ ?_
 refine XL.fin (kq 0 (kq 1 (kq 6 (kq 7 kn)))) ?_
 refine XC.reg ?_
 refine mv_ ?_
 refine XL.q (q_andD 32 4294967296 rfl rfl rfl rfl rfl (by show _ < 18446744073709551616; first | assumption | exact Nat.mod_lt _ (by decide) | omega) (by decide)) rfl ?_
 refine as_ ?_
 refine XL.fin (kq 0 (kq 1 (kq 6 (kq 7 (kq 8 kn))))) ?_
 refine XC.reg ?_
 refine mv_ ?_
 refine XL.q (q_shrD 32 4294967296 rfl rfl rfl rfl (by decide)) rfl ?_
 refine as_ ?_
 refine XL.fin (kq 0 (kq 1 (kq 6 (kq 7 (kq 8 (kq 9 kn)))))) ?_
 refine XC.reg ?_
 refine mv_ (mv_ ?_)
 refine XL.q (q_mulM 18446744073709551616 rfl rfl rfl rfl rfl rfl) rfl ?_
 refine as_ ?_
 refine XL.fin (kq 0 (kq 1 (kq 6 (kq 7 (kq 8 (kq 9 (kq 10 kn))))))) ?_
 refine XC.reg ?_
 refine mv_ (mv_ ?_)
 refine XL.q (q_mulM 18446744073709551616 rfl rfl rfl rfl rfl rfl) rfl ?_
 refine mv_ ?_
 refine XL.q (q_shrD 32 4294967296 rfl rfl rfl rfl (by decide)) rfl ?_
 refine XL.q (q_addM 18446744073709551616 rfl rfl rfl rfl rfl rfl) rfl ?_
 refine as_ ?_
 refine XL.fin (kq 0 (kq 1 (kq 6 (kq 7 (kq 9 (kq 11 kn)))))) ?_
 refine XC.reg ?_
 refine mv_ ?_
 refine XL.q (q_andD 32 4294967296 rfl rfl rfl rfl rfl (by show _ < 18446744073709551616; first | assumption | exact Nat.mod_lt _ (by decide) | omega) (by decide)) rfl ?_
 refine as_ ?_
 refine XL.fin (kq 0 (kq 1 (kq 6 (kq 7 (kq 9 (kq 11 (kq 12 kn))))))) ?_
 refine XC.reg ?_
 refine mv_ ?_
 refine XL.q (q_shrD 32 4294967296 rfl rfl rfl rfl (by decide)) rfl ?_
 refine as_ ?_
 refine XL.fin (kq 0 (kq 1 (kq 6 (kq 7 (kq 9 (kq 12 (kq 13 kn))))))) ?_
 refine XC.reg ?_
 refine mv_ (mv_ (mv_ ?_))
 refine XL.q (q_mulM 18446744073709551616 rfl rfl rfl rfl rfl rfl) rfl ?_
 refine XL.q (q_addM 18446744073709551616 rfl rfl rfl rfl rfl rfl) rfl ?_
 refine as_ ?_
 refine XL.fin (kq 0 (kq 1 (kq 7 (kq 9 (kq 12 (kq 13 kn)))))) ?_
 refine XC.reg ?_
 refine mv_ (mv_ ?_)
 refine XL.q (q_mulM 18446744073709551616 rfl rfl rfl rfl rfl rfl) rfl ?_
 refine mv_ ?_
 refine XL.q (q_addM 18446744073709551616 rfl rfl rfl rfl rfl rfl) rfl ?_
 refine mv_ ?_
 refine XL.q (q_shrD 32 4294967296 rfl rfl rfl rfl (by decide)) rfl ?_
 refine XL.q (q_addM 18446744073709551616 rfl rfl rfl rfl rfl rfl) rfl ?_
 refine as_ ?_
 refine XL.fin (kq 0 (kq 1 (kq 4 kn))) ?_
 refine XC.reg ?_
 refine mv_ (mv_ ?_)
 refine XL.q (q_mulM 18446744073709551616 rfl rfl rfl rfl rfl rfl) rfl ?_
 refine as_ ?_
 refine XL.fin (kq 4 (kq 5 kn)) ?_
 refine XC.ret ?_
 refine ⟨_, [], [], res2 rfl rfl rfl, List.nil_sublist _, by simp, ?_, rfl, rfl⟩
 rw [mul64_law hx hy rfl rfl rfl rfl rfl rfl rfl]

theorem wadd_spec (hi lo a b : Nat) (h1 : hi < 18446744073709551616) (h2 : lo < 18446744073709551616) (h3 : a < 18446744073709551616) (h4 : b < 18446744073709551616) (A : Mem) :
  FnX Tryz.prog 156 [wd hi lo, .int .u64 (a : Int), .int .u64 (b : Int)] [] A fun r M J => M = [] ∧ J = [] ∧ ∃ hi' lo', r = wd hi' lo' ∧ hi' < 18446744073709551616 ∧ lo' < 18446744073709551616 ∧ hi' * 18446744073709551616 + lo' = (hi * 18446744073709551616 + lo + a * b) % 340282366920938463463374607431768211456 := by
 refine FnX.enter (N := 34) Tryz.func156 rfl rfl rfl fun w => ?_
 refine XC.keep (kq 0 (kq 1 (kq 2 kn))) ?_
 refine XC.reg ?_
 refine XL.lo rfl (bx_ fun b3 => ?_)
 refine XL.lo rfl (l_alloc (cs := [.int .u64 0, .int .u64 0]) (by kernel_rfl) rfl fun b6 => ?_)
 refine XL.fin (kq 1 (kq 2 (kq 3 (kq 6 kn)))) ?_
 refine XC.reg ?_
 refine mv_ (mv_ ?_)
 refine XL.callV (aS rfl (aS rfl a0)) (by kernel_rfl) (mul64_spec a b h3 h4 _) rfl ?_
 have hab : a * b ≤ 18446744073709551615 * 18446744073709551615 := Nat.mul_le_mul (by omega) (by omega)
 generalize a * b = z at *
 refine mv_ ?_
 refine XL.q (q_x0 rfl) rfl ?_
 refine XL.q (q_x1 rfl) rfl ?_
 refine as_ (as_ ?_)
 refine XL.fin (kq 3 (kq 6 (kq 7 (kq 8 kn)))) ?_
 refine XC.reg ?_
 refine XL.q (qf_ 1 1) rfl ?_
 refine XL.q ql_ rfl ?_
 refine mv_ ?_
 refine XL.q (q_bitsAdd Tryz.func181 (by kernel_rfl) (by kernel_rfl) (by kernel_rfl) (by kernel_rfl) rfl rfl rfl (c := 0) (by omega) rfl rfl rfl) rfl ?_
 refine mv_ ?_
 refine XL.q (q_x0 rfl) rfl ?_
 refine XL.q (q_x1 rfl) rfl ?_
 refine as_ (as_ ?_)
 refine XL.fin (kq 3 (kq 6 (kq 7 (kq 8 (kq 9 kn))))) ?_
 refine XC.reg ?_
 refine XL.q (qf_ 0 0) rfl ?_
 refine XL.q ql_ rfl ?_
 refine mv_ (mv_ ?_)
 refine XL.q (q_bitsAdd Tryz.func181 (by kernel_rfl) (by kernel_rfl) (by kernel_rfl) (by kernel_rfl) rfl rfl rfl (by omega) rfl rfl rfl) rfl ?_
 refine mv_ ?_
 refine XL.q (q_x0 rfl) rfl ?_
 refine XL.q (q_x1 rfl) rfl ?_
 refine as_ ?_
 refine XL.fin (kq 6 (kq 7 (kq 8 kn))) ?_
 refine XC.reg ?_
 refine mv_ (mv_ ?_)
 refine XL.q (q_build (place := fun x => #[(0, 1), (1, 1)][x]?) (z := [.int .u64 0, .int .u64 0]) (fun _ => by kernel_rfl) (eS rfl (eS rfl e0)) (bdS 0 1 rfl (by rfl) (bdS 1 1 rfl (by rfl) bd0))) rfl ?_
 refine XL.lo rfl (l_storeW rfl rfl Cel.cel (by kernel_rfl) (lnS (lnS (ln0))) (allS rfl (allS rfl (all0))) UpC.upd ?_)
 refine XL.fin (kq 6 kn) ?_
 refine XC.ret ?_
 refine ⟨_, [], [], resC rfl rfl (by kernel_rfl) At.mem (by rfl), List.nil_sublist _, by simp, rfl, rfl, _, _, rfl, Nat.mod_lt _ (by decide), Nat.mod_lt _ (by decide), ?_⟩
 omega

theorem wplus_spec (hi lo a : Nat) (h1 : hi < 18446744073709551616) (h2 : lo < 18446744073709551616) (h3 : a < 18446744073709551616) (A : Mem) :
  FnX Tryz.prog 157 [wd hi lo, .int .u64 (a : Int)] [] A fun r M J => M = [] ∧ J = [] ∧ ∃ hi' lo', r = wd hi' lo' ∧ hi' < 18446744073709551616 ∧ lo' < 18446744073709551616 ∧ hi' * 18446744073709551616 + lo' = (hi * 18446744073709551616 + lo + a) % 340282366920938463463374607431768211456 := by
 refine FnX.enter (N := 8) Tryz.func157 rfl rfl rfl fun w => ?_
 refine XC.keep (kq 0 (kq 1 kn)) ?_
 refine XC.reg ?_
 refine XL.lo rfl (bx_ fun b2 => ?_)
 refine XL.lo rfl (l_alloc (cs := [.int .u64 0, .int .u64 0]) (by kernel_rfl) rfl fun b4 => ?_)
 refine XL.fin (kq 1 (kq 2 (kq 4 kn))) ?_
 refine XC.reg ?_
 refine XL.q (qw_ 2) rfl ?_
 refine mv_ ?_
 refine XL.call (aS rfl (aS rfl (aS rfl a0))) (by kernel_rfl) (wadd_spec hi lo a 1 h1 h2 h3 (by decide) _) rfl ?_
 rintro r M1 J1 ⟨rfl, rfl, hi', lo', rfl, g1, g2, g3⟩
 refine XL.lo rfl (l_storeW rfl rfl Cel.cel (by kernel_rfl) (lnS (lnS (ln0))) (allS rfl (allS rfl (all0))) UpC.upd ?_)
 refine XL.fin (kq 4 kn) ?_
 refine XC.ret ?_
 refine ⟨_, [], [], resC rfl rfl (by kernel_rfl) At.mem (by rfl), List.nil_sublist _, by simp, rfl, rfl, hi', lo', rfl, g1, g2, ?_⟩
 rw [g3, Nat.mul_one]

theorem whigh_spec (hi lo : Nat) (h1 : hi < 18446744073709551616) (h2 : lo < 18446744073709551616) (A : Mem) : FnV Tryz.prog 158 [wd hi lo] A (.int .u64 (((hi * 18446744073709551616 + lo) / 2251799813685248 % 18446744073709551616 : Nat) : Int)) := by
 refine FnX.enter (N := 10) Tryz.func158 rfl rfl rfl fun w => ?_
 refine XC.keep (kq 0 kn) ?_
 refine XC.reg ?_
 refine XL.lo rfl (bx_ fun b1 => ?_)
 refine as_ ?_
 refine XL.fin (kq 1 kn) ?_
 refine XC.reg ?_
 refine XL.q (qf_ 0 0) rfl ?_
 refine XL.q ql_ rfl ?_
 refine XL.q (q_shlD 13 8192 18446744073709551616 rfl rfl rfl rfl rfl rfl (by decide)) rfl ?_
 refine XL.q (qf_ 1 1) rfl ?_
 refine XL.q ql_ rfl ?_
 refine XL.q (q_shrD 51 2251799813685248 rfl rfl rfl rfl (by decide)) rfl ?_
 refine XL.q (q_or rfl rfl rfl (by show _ < 18446744073709551616; omega) (by show _ < 18446744073709551616; omega)) rfl ?_
 refine as_ ?_
 refine XL.fin (kq 2 kn) ?_
 refine XC.ret ?_
 refine ⟨_, [], [], res1 rfl rfl, List.nil_sublist _, by simp, ?_, rfl, rfl⟩
 rw [or13 h1 h2]

end Go.Proofs.YtphcaiplgpmnnaaGreatDoor
/- The walks of package field: Mul, Square, Neg, Num. -/
namespace Go.Proofs.YtphcaiplgpmnnaaGreatDoor
open Go.Px
def pairs : List Nat → List Value
  | [] => []
  | x :: r => .int .u64 ((x / 18446744073709551616 : Nat) : Int) :: .int .u64 ((x % 18446744073709551616 : Nat) : Int) :: pairs r
theorem pairs_len (Xs : List Nat) : (pairs Xs).length = 2 * Xs.length := by
  induction Xs with
  | nil => rfl
  | cons x r ih => simp [pairs, ih]; omega
theorem pairs_get : ∀ (Xs : List Nat) (j : Nat), j < Xs.length → (pairs Xs)[2 * j]? = some (.int .u64 ((Xs.getD j 0 / 18446744073709551616 : Nat) : Int)) ∧ (pairs Xs)[2 * j + 1]? = some (.int .u64 ((Xs.getD j 0 % 18446744073709551616 : Nat) : Int))
  | [], j, h => by simp at h
  | x :: r, 0, h => by simp [pairs]
  | x :: r, j + 1, h => by
    have := pairs_get r j (by simpa using h)
    rw [show 2 * (j + 1) = 2 * j + 1 + 1 by omega]
    simpa [pairs] using this
theorem pairs_set : ∀ (Xs : List Nat) (j x : Nat), j < Xs.length → (pairs Xs).take (2 * j) ++ [.int .u64 ((x / 18446744073709551616 : Nat) : Int), .int .u64 ((x % 18446744073709551616 : Nat) : Int)] ++ (pairs Xs).drop (2 * j + 2) = pairs (Xs.set j x)
  | [], j, x, h => by simp at h
  | y :: r, 0, x, h => by simp [pairs]
  | y :: r, j + 1, x, h => by
    have := pairs_set r j x (by simpa using h)
    rw [show 2 * (j + 1) = 2 * j + 1 + 1 by omega]
    simp only [pairs, List.take_succ_cons, List.cons_append, List.drop_succ_cons, List.set_cons_succ, this]
theorem q_ldP {P : Program} {R : Mem} {l : Env} {d : Option Nat} {ty t : TypeId} {pos : String} {af : Array Edge} {g : Option (Nat × Bool)} {x : Operand} {b o : Nat} {Xs : List Nat} {e : TypeId} {fr : Nat × Nat} (j : Nat) (hx : ev l x = some (.pointer (some ⟨b, o, none⟩))) (ht : rowT P t = some 2)
    (hb : (b, Obj.cells (pairs Xs).toArray e fr) ∈ R) (ho : o = 2 * j) (hj : j < Xs.length) : OpQ P R ⟨d, .load t x, ty, pos, af, g⟩ l (wd (Xs.getD j 0 / 18446744073709551616) (Xs.getD j 0 % 18446744073709551616)) := by
  subst ho
  obtain ⟨h1, h2⟩ := pairs_get Xs j hj
  refine q_loadR (vs := [.int .u64 ((Xs.getD j 0 / 18446744073709551616 : Nat) : Int), .int .u64 ((Xs.getD j 0 % 18446744073709551616 : Nat) : Int)]) hx ht hb rfl ?_
  intro i v hv
  match i, hv with
  | 0, hv => cases hv; exact h1
  | 1, hv => cases hv; exact h2
  | i + 2, hv => simp at hv
theorem l_stP {C : Cx} {l : Env} {M J : Mem} {K : Env → Mem → Mem → Prop} {ty t : TypeId} {pos : String} {af : Array Edge} {g : Option (Nat × Bool)} {x y : Operand} {b o hi lo X : Nat} {Xs : List Nat} {e : TypeId} {M' : Mem} (j : Nat) (hx : ev l x = some (.pointer (some ⟨b, o, none⟩))) (hy : ev l y = some (wd hi lo))
    (ht : sizeT C.P t = some 2) (ho : o = 2 * j) (hj : j < Xs.length) (hh : hi < 18446744073709551616) (hl : lo < 18446744073709551616) (hX : hi * 18446744073709551616 + lo = X) (hu : Upd M b (blk (pairs Xs) e) (blk (pairs (Xs.set j X)) e) M') (k : K l M' J) :
    OpL C ⟨none, .store t x y, ty, pos, af, g⟩ l M J K := by
  subst ho
  refine l_storeR (vs := [.int .u64 (hi : Int), .int .u64 (lo : Int)]) hx hy rfl ht (by rw [pairs_len]; simp; omega) (by simp [Value.oneCell']) ?_ hu k
  rw [← pairs_set Xs j X hj]
  have e1 : X / 18446744073709551616 = hi := by omega
  have e2 : X % 18446744073709551616 = lo := by omega
  rw [e1, e2]; rfl
theorem lt52 {a : Nat} (h : a < 4503599627370496) : a < 18446744073709551616 := by omega
theorem lowD (h l : Nat) : l % 2251799813685248 = (h * 18446744073709551616 + l) % 2251799813685248 := by omega
theorem lowM (x : Nat) : x % 18446744073709551616 % 2251799813685248 = x % 2251799813685248 := by omega
theorem modD (x : Nat) : x % 2251799813685248 < 4503599627370496 := by omega
theorem sum5 {z1 z2 z3 z4 z5 y1 y2 y3 y4 y5 b : Nat} (h1 : z1 ≤ y1) (h2 : z2 ≤ y2) (h3 : z3 ≤ y3) (h4 : z4 ≤ y4) (h5 : z5 ≤ y5) (hb : y1 + y2 + y3 + y4 + y5 < b) : z1 + z2 + z3 + z4 + z5 < b := by omega
theorem back (X : Nat) : X / 18446744073709551616 * 18446744073709551616 + X % 18446744073709551616 = X := by omega
theorem getD5 {xs : List Nat} {b i : Nat} (h : ∀ x ∈ xs, x < b) (hb : 0 < b) : xs.getD i 0 < b := getD_lt h hb

theorem fmul_spec (v u : Value) (x y : Nat) (hx : Fe v x) (hy : Fe u y) (A : Mem) : FnX Tryz.prog 133 [v, u] [] A fun r M J => M = [] ∧ J = [] ∧ Fe r (x * y % p25) := by
 obtain ⟨a, b, c, d, e, rfl, hl0, hl1, hl2, hl3, hl4, rfl⟩ := hx
 obtain ⟨u0, u1, u2, u3, u4, rfl, hu0, hu1, hu2, hu3, hu4, rfl⟩ := hy
 refine FnX.enter (N := 105) Tryz.func133 rfl rfl rfl fun w => ?_
 refine XC.keep (kq 0 (kq 1 kn)) ?_
 refine XC.reg ?_
 refine XL.lo rfl (bx_ fun b2 => ?_)
 refine XL.lo rfl (bx_ fun b3 => ?_)
 refine XL.lo rfl (l_alloc (cs := [.int .u64 0, .int .u64 0, .int .u64 0, .int .u64 0, .int .u64 0]) (by kernel_rfl) rfl fun b4 => ?_)
 refine XL.fin (kq 2 (kq 3 (kq 4 kn))) ?_
 refine XC.reg ?_
 refine XL.lo rfl (l_alloc (cs := [.int .u64 0, .int .u64 0, .int .u64 0, .int .u64 0, .int .u64 0, .int .u64 0, .int .u64 0, .int .u64 0, .int .u64 0, .int .u64 0]) (by kernel_rfl) rfl fun b5 => ?_)
 refine XL.fin (kq 2 (kq 3 (kq 4 (kq 5 kn)))) ?_
 refine XC.seq ?_
 refine XC.reg ?_
 refine mv_ ?_
 refine XL.fin (kq 2 (kq 3 (kq 4 (kq 5 (kq 10 kn))))) ?_
 refine XC.block ?_
 have has : ∀ x ∈ [a, b, c, d, e], x < 4503599627370496 := by intro x hx; simp only [List.mem_cons, List.not_mem_nil, or_false] at hx; rcases hx with rfl | rfl | rfl | rfl | rfl <;> assumption
 have hbs : ∀ x ∈ [u0, u1, u2, u3, u4], x < 4503599627370496 := by intro x hx; simp only [List.mem_cons, List.not_mem_nil, or_false] at hx; rcases hx with rfl | rfl | rfl | rfl | rfl <;> assumption
 have hall := allX_all a b c d e u0 u1 u2 u3 u4 hl0 hl1 hl2 hl3 hl4 hu0 hu1 hu2 hu3 hu4
 have hla : [a, b, c, d, e].length = 5 := rfl
 have hlb : [u0, u1, u2, u3, u4].length = 5 := rfl
 refine XC.fit (M' := [(b5, blk (pairs [0, 0, 0, 0, 0]) 199), (b4, blk [.int .u64 0, .int .u64 0, .int .u64 0, .int .u64 0, .int .u64 0] 152), (b3, blk (nums .u64 [u0, u1, u2, u3, u4]) 152), (b2, blk (nums .u64 [a, b, c, d, e]) 152)]) (Fit.eq rfl) (fun _ h => h) ?_
 generalize [a, b, c, d, e] = xs at *
 generalize [u0, u1, u2, u3, u4] = ys at *
 refine XC.loop (α := Nat) (fun i => [(2, .pointer (some ⟨b2, 0, none⟩)), (3, .pointer (some ⟨b3, 0, none⟩)), (4, .pointer (some ⟨b4, 0, none⟩)), (5, .pointer (some ⟨b5, 0, none⟩)), (10, .int .i64 (i : Int))]) (fun i => [(b5, blk (pairs (allX xs ys i)) 199), (b4, blk [.int .u64 0, .int .u64 0, .int .u64 0, .int .u64 0, .int .u64 0] 152), (b3, blk (nums .u64 ys) 152), (b2, blk (nums .u64 xs) 152)]) (fun _ => []) (fun i => i ≤ 5) (fun i => 5 - i) 0 (by decide) (kq 2 (kq 3 (kq 4 (kq 5 (kq 10 kn))))) .rfl (fun _ h => h) ?_
 rintro i hi
 refine XC.reg ?_
 refine XL.q (q_bin rfl rfl rfl) rfl ?_
 refine XL.fin (kq 2 (kq 3 (kq 4 (kq 5 (kq 10 (kq 11 kn)))))) ?_
 refine XC.seq ?_
 refine XC.cond rfl (fun hc => ?_) (fun hc => ?_)
 ·
  have hi5 : i < 5 := by simp at hc; omega
  have hfa : xs.getD i 0 < 4503599627370496 := getD5 has (by decide)
  refine XC.skip ?_
  refine nx (kq 2 (kq 3 (kq 4 (kq 5 (kq 10 kn))))) ?_
  refine XC.seq ?_
  refine XC.block ?_
  refine XC.reg ?_
  refine mv_ (as_ ?_)
  refine XL.fin (kq 2 (kq 3 (kq 4 (kq 5 (kq 6 (kq 10 kn)))))) ?_
  refine XC.reg ?_
  refine mv_ ?_
  refine XL.fin (kq 2 (kq 3 (kq 4 (kq 5 (kq 6 (kq 10 (kq 13 kn))))))) ?_
  refine XC.block ?_
  refine XC.loop (α := Nat) (fun k => [(2, .pointer (some ⟨b2, 0, none⟩)), (3, .pointer (some ⟨b3, 0, none⟩)), (4, .pointer (some ⟨b4, 0, none⟩)), (5, .pointer (some ⟨b5, 0, none⟩)), (6, .int .i64 (i : Int)), (10, .int .i64 (i : Int)), (13, .int .i64 (k : Int))]) (fun k => [(b5, blk (pairs (rowX xs ys i k (allX xs ys i))) 199), (b4, blk [.int .u64 0, .int .u64 0, .int .u64 0, .int .u64 0, .int .u64 0] 152), (b3, blk (nums .u64 ys) 152), (b2, blk (nums .u64 xs) 152)]) (fun _ => []) (fun k => k ≤ 5) (fun k => 5 - k) 0 (by decide) (kq 2 (kq 3 (kq 4 (kq 5 (kq 6 (kq 10 (kq 13 kn))))))) .rfl (fun _ h => h) ?_
  rintro k hk
  refine XC.reg ?_
  refine XL.q (q_bin rfl rfl rfl) rfl ?_
  refine XL.fin (kq 2 (kq 3 (kq 4 (kq 5 (kq 6 (kq 10 (kq 13 (kq 14 kn)))))))) ?_
  refine XC.seq ?_
  refine XC.cond rfl (fun hc => ?_) (fun hc => ?_)
  ·
   have hk5 : k < 5 := by simp at hc; omega
   have hfb : ys.getD k 0 < 4503599627370496 := getD5 hbs (by decide)
   have hlx : (rowX xs ys i k (allX xs ys i)).length = 5 := by rw [rowX_len, allX_len]
   have hXlt : ∀ j, (rowX xs ys i k (allX xs ys i)).getD j 0 < 340282366920938463463374607431768211456 := fun j => getD_lt (rowX_lt xs ys i k (allX_lt xs ys i)) (by decide)
   refine XC.skip ?_
   refine nx (kq 2 (kq 3 (kq 4 (kq 5 (kq 6 (kq 10 (kq 13 kn))))))) ?_
   refine XC.seq ?_
   refine XC.block ?_
   refine XC.reg ?_
   refine mv_ (as_ ?_)
   refine XL.fin (kq 2 (kq 3 (kq 4 (kq 5 (kq 6 (kq 7 (kq 10 (kq 13 kn)))))))) ?_
   refine XC.reg ?_
   refine mv_ (mv_ ?_)
   refine XL.q (q_num ((i + k : Nat) : Int) rfl rfl (add64 (by omega) (by omega) (by omega))) rfl ?_
   refine XL.q (q_bin rfl rfl rfl) rfl ?_
   refine XL.fin (kq 2 (kq 3 (kq 4 (kq 5 (kq 6 (kq 7 (kq 10 (kq 13 (kq 19 kn))))))))) ?_
   refine XC.cond rfl (fun hc => ?_) (fun hc => ?_)
   ·
    have hs5 : i + k < 5 := by simp at hc; omega
    have hj : posX i k = i + k := by unfold posX; rw [if_pos hs5]
    have hfx : facX xs i k = xs.getD i 0 := by unfold facX; rw [if_pos hs5]
    refine XC.drawF1 [0, 1, 2, 3, 4, 5, 6, 7, 8, 9, 10, 11, 12, 13, 14, 15] [(0, 0), (1, 0), (2, 0), (3, 0), (4, 0), (5, 0), (6, 0), (7, 1), (8, 0), (9, 0), (10, 1), (11, 0), (12, 0), (13, 1), (14, 2), (15, 0), (16, 2)] (by kernel_rfl) (by kernel_rfl) fun hs => ?_
    refine XF.q hs rfl qm_ rfl ?_
    refine XF.q hs rfl qm_ rfl ?_
    refine XF.q hs rfl (q_num ((i + k : Nat) : Int) rfl rfl (add64 (by omega) (by omega) (by omega))) rfl ?_
    refine XF.q hs rfl qm_ rfl ?_
    refine XF.q hs rfl qm_ rfl ?_
    refine XF.q hs rfl (q_num ((i + k : Nat) : Int) rfl rfl (add64 (by omega) (by omega) (by omega))) rfl ?_
    refine XF.q hs rfl (q_idxA (e := 198) (n := 5) (sz := 2) (i := i + k) rfl rfl (by kernel_rfl) (by kernel_rfl) rfl (by omega)) rfl ?_
    refine XF.r hs rfl (q_ldP (i + k) rfl (by kernel_rfl) At.mem (by omega) (by omega)) rfl ?_
    refine XF.q hs rfl qm_ rfl ?_
    refine XF.q hs rfl (q_idxA (e := 28) (n := 5) (sz := 1) (i := i) rfl rfl (by kernel_rfl) (by kernel_rfl) rfl (by omega)) rfl ?_
    refine XF.r hs rfl (q_ldN i rfl (by kernel_rfl) (by first | exact At.mem | exact mA (by assumption)) (by omega) (by omega)) rfl ?_
    refine XF.q hs rfl qm_ rfl ?_
    refine XF.q hs rfl (q_idxA (e := 28) (n := 5) (sz := 1) (i := k) rfl rfl (by kernel_rfl) (by kernel_rfl) rfl (by omega)) rfl ?_
    refine XF.r hs rfl (q_ldN k rfl (by kernel_rfl) (by first | exact At.mem | exact mA (by assumption)) (by omega) (by omega)) rfl ?_
    refine XF.call rfl (aS rfl (aS rfl (aS rfl a0))) (by kernel_rfl) (wadd_spec _ _ _ _ (by have := hXlt (i + k); omega) (Nat.mod_lt _ (by decide)) (lt52 hfa) (lt52 hfb) _) rfl ?_
    rintro r1 M1 J1 ⟨rfl, rfl, h1, l1, rfl, g1, k1, e1⟩
    rw [back] at e1
    refine XF.q hs rfl (q_idxA (e := 198) (n := 5) (sz := 2) (i := i + k) rfl rfl (by kernel_rfl) (by kernel_rfl) rfl (by omega)) rfl ?_
    refine XF.tl rfl rfl rfl (l_stP (Xs := rowX xs ys i k (allX xs ys i)) (i + k) rfl rfl (by kernel_rfl) (by omega) (by omega) g1 k1 e1 UpC.upd ?_)
    rw [show (rowX xs ys i k (allX xs ys i)).set (i + k) (((rowX xs ys i k (allX xs ys i)).getD (i + k) 0 + xs.getD i 0 * ys.getD k 0) % 340282366920938463463374607431768211456) = rowX xs ys i (k + 1) (allX xs ys i) by rw [rowX, stepX, hj, hfx]]
    refine XF.nil ?_
    refine nb ?_
    refine nx (kq 2 (kq 3 (kq 4 (kq 5 (kq 6 (kq 10 (kq 13 kn))))))) ?_
    refine XC.reg1 ?_
    refine XL.q (q_num ((k + 1 : Nat) : Int) rfl rfl (add64 (by omega) (by omega) (by omega))) rfl ?_
    refine mv_ ?_
    refine XL.nil ?_
    exact rn (k + 1) (by omega) (by omega) (kq 2 (kq 3 (kq 4 (kq 5 (kq 6 (kq 10 (kq 13 kn))))))) .rfl (fun _ h => h)
   ·
    have hs5 : ¬ i + k < 5 := by simp at hc; omega
    have hj : posX i k = i + k - 5 := by unfold posX; rw [if_neg hs5]
    have hfx : facX xs i k = 19 * xs.getD i 0 % 18446744073709551616 := by unfold facX; rw [if_neg hs5]
    refine XC.drawF1 [0, 1, 2, 3, 4, 5, 6, 7, 8, 9, 10, 11, 12, 13, 14, 15, 16, 17, 18] [(0, 0), (1, 0), (2, 0), (3, 0), (4, 0), (5, 0), (6, 0), (7, 0), (8, 0), (9, 1), (10, 0), (11, 0), (12, 1), (13, 0), (14, 0), (15, 0), (16, 1), (17, 2), (18, 0), (19, 2)] (by kernel_rfl) (by kernel_rfl) fun hs => ?_
    refine XF.q hs rfl qm_ rfl ?_
    refine XF.q hs rfl qm_ rfl ?_
    refine XF.q hs rfl (q_num ((i + k : Nat) : Int) rfl rfl (add64 (by omega) (by omega) (by omega))) rfl ?_
    refine XF.q hs rfl (q_num ((i + k - 5 : Nat) : Int) rfl rfl (sub64 (by omega) (by omega) (by omega))) rfl ?_
    refine XF.q hs rfl qm_ rfl ?_
    refine XF.q hs rfl qm_ rfl ?_
    refine XF.q hs rfl (q_num ((i + k : Nat) : Int) rfl rfl (add64 (by omega) (by omega) (by omega))) rfl ?_
    refine XF.q hs rfl (q_num ((i + k - 5 : Nat) : Int) rfl rfl (sub64 (by omega) (by omega) (by omega))) rfl ?_
    refine XF.q hs rfl (q_idxA (e := 198) (n := 5) (sz := 2) (i := i + k - 5) rfl rfl (by kernel_rfl) (by kernel_rfl) rfl (by omega)) rfl ?_
    refine XF.r hs rfl (q_ldP (i + k - 5) rfl (by kernel_rfl) At.mem (by omega) (by omega)) rfl ?_
    refine XF.q hs rfl qm_ rfl ?_
    refine XF.q hs rfl (q_idxA (e := 28) (n := 5) (sz := 1) (i := i) rfl rfl (by kernel_rfl) (by kernel_rfl) rfl (by omega)) rfl ?_
    refine XF.r hs rfl (q_ldN i rfl (by kernel_rfl) (by first | exact At.mem | exact mA (by assumption)) (by omega) (by omega)) rfl ?_
    refine XF.q hs rfl (q_mulM 18446744073709551616 (a := 19) rfl rfl rfl rfl rfl rfl) rfl ?_
    refine XF.q hs rfl qm_ rfl ?_
    refine XF.q hs rfl (q_idxA (e := 28) (n := 5) (sz := 1) (i := k) rfl rfl (by kernel_rfl) (by kernel_rfl) rfl (by omega)) rfl ?_
    refine XF.r hs rfl (q_ldN k rfl (by kernel_rfl) (by first | exact At.mem | exact mA (by assumption)) (by omega) (by omega)) rfl ?_
    refine XF.call rfl (aS rfl (aS rfl (aS rfl a0))) (by kernel_rfl) (wadd_spec _ _ _ _ (by have := hXlt (i + k - 5); omega) (Nat.mod_lt _ (by decide)) (Nat.mod_lt _ (by decide)) (lt52 hfb) _) rfl ?_
    rintro r1 M1 J1 ⟨rfl, rfl, h1, l1, rfl, g1, k1, e1⟩
    rw [back] at e1
    refine XF.q hs rfl (q_idxA (e := 198) (n := 5) (sz := 2) (i := i + k - 5) rfl rfl (by kernel_rfl) (by kernel_rfl) rfl (by omega)) rfl ?_
    refine XF.tl rfl rfl rfl (l_stP (Xs := rowX xs ys i k (allX xs ys i)) (i + k - 5) rfl rfl (by kernel_rfl) (by omega) (by omega) g1 k1 e1 UpC.upd ?_)
    rw [show (rowX xs ys i k (allX xs ys i)).set (i + k - 5) (((rowX xs ys i k (allX xs ys i)).getD (i + k - 5) 0 + (19 * xs.getD i 0 % 18446744073709551616) * ys.getD k 0) % 340282366920938463463374607431768211456) = rowX xs ys i (k + 1) (allX xs ys i) by rw [rowX, stepX, hj, hfx]]
    refine XF.nil ?_
    refine nb ?_
    refine nx (kq 2 (kq 3 (kq 4 (kq 5 (kq 6 (kq 10 (kq 13 kn))))))) ?_
    refine XC.reg1 ?_
    refine XL.q (q_num ((k + 1 : Nat) : Int) rfl rfl (add64 (by omega) (by omega) (by omega))) rfl ?_
    refine mv_ ?_
    refine XL.nil ?_
    exact rn (k + 1) (by omega) (by omega) (kq 2 (kq 3 (kq 4 (kq 5 (kq 6 (kq 10 (kq 13 kn))))))) .rfl (fun _ h => h)
  ·
   have hk5 : k = 5 := by simp at hc; omega
   subst hk5
   refine XC.exit ?_
   refine te ?_
   refine re ?_
   refine be rfl ?_
   refine nb ?_
   refine nx (kq 2 (kq 3 (kq 4 (kq 5 (kq 10 kn))))) ?_
   refine XC.reg1 ?_
   refine XL.q (q_num ((i + 1 : Nat) : Int) rfl rfl (add64 (by omega) (by omega) (by omega))) rfl ?_
   refine mv_ ?_
   refine XL.nil ?_
   exact rn (i + 1) (by omega) (by omega) (kq 2 (kq 3 (kq 4 (kq 5 (kq 10 kn))))) .rfl (fun _ h => h)
 ·
  have hi5 : i = 5 := by simp at hc; omega
  subst hi5
  rw [hall]
  clear hall
  have z00 := zb hl0 hu0
  have z01 := zb19 hl1 hu4
  have z02 := zb19 hl2 hu3
  have z03 := zb19 hl3 hu2
  have z04 := zb19 hl4 hu1
  have y0 := sum5 z00 z01 z02 z03 z04 (b := 2596148429267413814265248164610048) (by decide)
  clear z00 z01 z02 z03 z04
  have z10 := zb hl0 hu1
  have z11 := zb hl1 hu0
  have z12 := zb19 hl2 hu4
  have z13 := zb19 hl3 hu3
  have z14 := zb19 hl4 hu2
  have y1 := sum5 z10 z11 z12 z13 z14 (b := 2596148429267413814265248164610048) (by decide)
  clear z10 z11 z12 z13 z14
  have z20 := zb hl0 hu2
  have z21 := zb hl1 hu1
  have z22 := zb hl2 hu0
  have z23 := zb19 hl3 hu4
  have z24 := zb19 hl4 hu3
  have y2 := sum5 z20 z21 z22 z23 z24 (b := 2596148429267413814265248164610048) (by decide)
  clear z20 z21 z22 z23 z24
  have z30 := zb hl0 hu3
  have z31 := zb hl1 hu2
  have z32 := zb hl2 hu1
  have z33 := zb hl3 hu0
  have z34 := zb19 hl4 hu4
  have y3 := sum5 z30 z31 z32 z33 z34 (b := 2596148429267413814265248164610048) (by decide)
  clear z30 z31 z32 z33 z34
  have z40 := zb hl0 hu4
  have z41 := zb hl1 hu3
  have z42 := zb hl2 hu2
  have z43 := zb hl3 hu1
  have z44 := zb hl4 hu0
  have y4 := sum5 z40 z41 z42 z43 z44 (b := 162259276829213363391578010288128) (by decide)
  clear z40 z41 z42 z43 z44
  have hring := mul_ring a b c d e u0 u1 u2 u3 u4
  generalize a * u0 + 19 * b * u4 + 19 * c * u3 + 19 * d * u2 + 19 * e * u1 = R0 at *
  generalize a * u1 + b * u0 + 19 * c * u4 + 19 * d * u3 + 19 * e * u2 = R1 at *
  generalize a * u2 + b * u1 + c * u0 + 19 * d * u4 + 19 * e * u3 = R2 at *
  generalize a * u3 + b * u2 + c * u1 + d * u0 + 19 * e * u4 = R3 at *
  generalize a * u4 + b * u3 + c * u2 + d * u1 + e * u0 = R4 at *
  have x0 : R0 / 18446744073709551616 < 18446744073709551616 := by omega
  have x1 : R1 / 18446744073709551616 < 18446744073709551616 := by omega
  have x2 : R2 / 18446744073709551616 < 18446744073709551616 := by omega
  have x3 : R3 / 18446744073709551616 < 18446744073709551616 := by omega
  have x4 : R4 / 18446744073709551616 < 18446744073709551616 := by omega
  simp only [pairs]
  refine XC.exit ?_
  refine te ?_
  refine re ?_
  refine be rfl ?_
  refine nx (kq 4 (kq 5 kn)) ?_
  refine XC.reg ?_
  refine XL.lo rfl (l_alloc (cs := [.int .u64 0, .int .u64 0, .int .u64 0, .int .u64 0, .int .u64 0]) (by kernel_rfl) rfl fun b8 => ?_)
  refine XL.fin (kq 4 (kq 5 (kq 8 kn))) ?_
  refine XC.seq ?_
  refine XC.reg ?_
  refine mv_ ?_
  refine XL.fin (kq 4 (kq 5 (kq 8 (kq 57 kn)))) ?_
  refine XC.block ?_
  refine XC.rounds 5 ?_
  refine XR.step ?_
  refine XC.reg ?_
  refine XL.q (q_cmp true rfl rfl (ltT (by decide))) rfl ?_
  refine XL.fin (kq 4 (kq 5 (kq 8 (kq 57 (kq 58 kn))))) ?_
  refine XC.seq ?_
  refine XC.condT rfl ?_
  refine XC.skip ?_
  refine nx (kq 4 (kq 5 (kq 8 (kq 57 kn)))) ?_
  refine XC.seq ?_
  refine XC.block ?_
  refine XC.reg ?_
  refine mv_ (as_ ?_)
  refine XL.fin (kq 4 (kq 5 (kq 8 (kq 9 (kq 57 kn))))) ?_
  refine XC.drawF [0, 1, 2, 3, 4, 5, 6, 7, 8, 9, 10, 11] [(0, 0), (1, 0), (2, 0), (3, 0), (4, 0), (5, 1), (6, 0), (7, 0), (8, 1), (9, 2), (10, 2), (11, 0), (12, 2)] (by kernel_rfl) (by kernel_rfl) fun hs => ?_
  refine XF.q hs rfl qm_ rfl ?_
  refine XF.q hs rfl (q_num (1 : Int) rfl rfl (add64 (by decide) (by decide) (by decide))) rfl ?_
  refine XF.q hs rfl qm_ rfl ?_
  refine XF.q hs rfl (q_num (1 : Int) rfl rfl (add64 (by decide) (by decide) (by decide))) rfl ?_
  refine XF.q hs rfl (qi_ 2 198 5 2 1) rfl ?_
  refine XF.r hs rfl (q_loadT (n := 2) rfl (by kernel_rfl) (by first | exact At.mem | exact mA (by assumption)) TakeC.take) rfl ?_
  refine XF.q hs rfl qm_ rfl ?_
  refine XF.q hs rfl (qi_ 0 198 5 2 0) rfl ?_
  refine XF.r hs rfl (q_loadT (n := 2) rfl (by kernel_rfl) (by first | exact At.mem | exact mA (by assumption)) TakeC.take) rfl ?_
  refine XF.callV rfl (aS rfl a0) (by kernel_rfl) (whigh_spec _ _ (by first | assumption | exact lt52 (by assumption) | decide | exact Nat.mod_lt _ (by decide)) (by first | assumption | exact lt52 (by assumption) | decide | exact Nat.mod_lt _ (by decide)) _) rfl ?_
  refine XF.call rfl (aS rfl (aS rfl a0)) (by kernel_rfl) (wplus_spec _ _ _ (by first | assumption | exact lt52 (by assumption) | decide | exact Nat.mod_lt _ (by decide)) (by first | assumption | exact lt52 (by assumption) | decide | exact Nat.mod_lt _ (by decide)) (Nat.mod_lt _ (by decide)) _) rfl ?_
  rintro r1 M1 J1 ⟨rfl, rfl, h1, l1, rfl, g1, k1, qq1⟩
  refine XF.q hs rfl (qi_ 2 198 5 2 1) rfl ?_
  refine XF.tl rfl rfl rfl (l_storeS rfl rfl (by kernel_rfl) (allS rfl (allS rfl (all0))) UpC.upd ?_)
  refine XF.fin (kq 4 (kq 5 (kq 8 (kq 9 (kq 57 kn))))) ?_
  refine XC.reg1 ?_
  refine mv_ (mv_ ?_)
  refine XL.q (qi_ 0 198 5 2 0) rfl ?_
  refine XL.q (qf_ 1 1) rfl ?_
  refine XL.q ql_ rfl ?_
  refine XL.q (q_andD 51 2251799813685248 rfl rfl rfl rfl rfl (by show _ < 18446744073709551616; first | assumption | exact Nat.mod_lt _ (by decide) | omega) (by decide)) rfl ?_
  refine XL.q (qi_ 0 28 5 1 0) rfl ?_
  refine XL.lo rfl (l_store rfl rfl rfl (by kernel_rfl) SetC.set UpC.upd ?_)
  refine XL.nil ?_
  refine nb ?_
  refine nx (kq 4 (kq 5 (kq 8 (kq 57 kn)))) ?_
  refine XC.reg1 ?_
  refine XL.q (q_num (1 : Int) rfl rfl (add64 (by decide) (by decide) (by decide))) rfl ?_
  refine mv_ ?_
  refine XL.nil ?_
  refine un (kq 4 (kq 5 (kq 8 (kq 57 kn)))) ?_
  refine XR.step ?_
  refine XC.reg ?_
  refine XL.q (q_cmp true rfl rfl (ltT (by decide))) rfl ?_
  refine XL.fin (kq 4 (kq 5 (kq 8 (kq 57 (kq 58 kn))))) ?_
  refine XC.seq ?_
  refine XC.condT rfl ?_
  refine XC.skip ?_
  refine nx (kq 4 (kq 5 (kq 8 (kq 57 kn)))) ?_
  refine XC.seq ?_
  refine XC.block ?_
  refine XC.reg ?_
  refine mv_ (as_ ?_)
  refine XL.fin (kq 4 (kq 5 (kq 8 (kq 9 (kq 57 kn))))) ?_
  refine XC.drawF [0, 1, 2, 3, 4, 5, 6, 7, 8, 9, 10, 11] [(0, 0), (1, 0), (2, 0), (3, 0), (4, 0), (5, 1), (6, 0), (7, 0), (8, 1), (9, 2), (10, 2), (11, 0), (12, 2)] (by kernel_rfl) (by kernel_rfl) fun hs => ?_
  refine XF.q hs rfl qm_ rfl ?_
  refine XF.q hs rfl (q_num (2 : Int) rfl rfl (add64 (by decide) (by decide) (by decide))) rfl ?_
  refine XF.q hs rfl qm_ rfl ?_
  refine XF.q hs rfl (q_num (2 : Int) rfl rfl (add64 (by decide) (by decide) (by decide))) rfl ?_
  refine XF.q hs rfl (qi_ 4 198 5 2 2) rfl ?_
  refine XF.r hs rfl (q_loadT (n := 2) rfl (by kernel_rfl) (by first | exact At.mem | exact mA (by assumption)) TakeC.take) rfl ?_
  refine XF.q hs rfl qm_ rfl ?_
  refine XF.q hs rfl (qi_ 2 198 5 2 1) rfl ?_
  refine XF.r hs rfl (q_loadT (n := 2) rfl (by kernel_rfl) (by first | exact At.mem | exact mA (by assumption)) TakeC.take) rfl ?_
  refine XF.callV rfl (aS rfl a0) (by kernel_rfl) (whigh_spec _ _ (by first | assumption | exact lt52 (by assumption) | decide | exact Nat.mod_lt _ (by decide)) (by first | assumption | exact lt52 (by assumption) | decide | exact Nat.mod_lt _ (by decide)) _) rfl ?_
  refine XF.call rfl (aS rfl (aS rfl a0)) (by kernel_rfl) (wplus_spec _ _ _ (by first | assumption | exact lt52 (by assumption) | decide | exact Nat.mod_lt _ (by decide)) (by first | assumption | exact lt52 (by assumption) | decide | exact Nat.mod_lt _ (by decide)) (Nat.mod_lt _ (by decide)) _) rfl ?_
  rintro r2 M2 J2 ⟨rfl, rfl, h2, l2, rfl, g2, k2, qq2⟩
  refine XF.q hs rfl (qi_ 4 198 5 2 2) rfl ?_
  refine XF.tl rfl rfl rfl (l_storeS rfl rfl (by kernel_rfl) (allS rfl (allS rfl (all0))) UpC.upd ?_)
  refine XF.fin (kq 4 (kq 5 (kq 8 (kq 9 (kq 57 kn))))) ?_
  refine XC.reg1 ?_
  refine mv_ (mv_ ?_)
  refine XL.q (qi_ 2 198 5 2 1) rfl ?_
  refine XL.q (qf_ 3 1) rfl ?_
  refine XL.q ql_ rfl ?_
  refine XL.q (q_andD 51 2251799813685248 rfl rfl rfl rfl rfl (by show _ < 18446744073709551616; first | assumption | exact Nat.mod_lt _ (by decide) | omega) (by decide)) rfl ?_
  refine XL.q (qi_ 1 28 5 1 1) rfl ?_
  refine XL.lo rfl (l_store rfl rfl rfl (by kernel_rfl) SetC.set UpC.upd ?_)
  refine XL.nil ?_
  refine nb ?_
  refine nx (kq 4 (kq 5 (kq 8 (kq 57 kn)))) ?_
  refine XC.reg1 ?_
  refine XL.q (q_num (2 : Int) rfl rfl (add64 (by decide) (by decide) (by decide))) rfl ?_
  refine mv_ ?_
  refine XL.nil ?_
  refine un (kq 4 (kq 5 (kq 8 (kq 57 kn)))) ?_
  refine XR.step ?_
  refine XC.reg ?_
  refine XL.q (q_cmp true rfl rfl (ltT (by decide))) rfl ?_
  refine XL.fin (kq 4 (kq 5 (kq 8 (kq 57 (kq 58 kn))))) ?_
  refine XC.seq ?_
  refine XC.condT rfl ?_
  refine XC.skip ?_
  refine nx (kq 4 (kq 5 (kq 8 (kq 57 kn)))) ?_
  refine XC.seq ?_
  refine XC.block ?_
  refine XC.reg ?_
  refine mv_ (as_ ?_)
  refine XL.fin (kq 4 (kq 5 (kq 8 (kq 9 (kq 57 kn))))) ?_
  refine XC.drawF [0, 1, 2, 3, 4, 5, 6, 7, 8, 9, 10, 11] [(0, 0), (1, 0), (2, 0), (3, 0), (4, 0), (5, 1), (6, 0), (7, 0), (8, 1), (9, 2), (10, 2), (11, 0), (12, 2)] (by kernel_rfl) (by kernel_rfl) fun hs => ?_
  refine XF.q hs rfl qm_ rfl ?_
  refine XF.q hs rfl (q_num (3 : Int) rfl rfl (add64 (by decide) (by decide) (by decide))) rfl ?_
  refine XF.q hs rfl qm_ rfl ?_
  refine XF.q hs rfl (q_num (3 : Int) rfl rfl (add64 (by decide) (by decide) (by decide))) rfl ?_
  refine XF.q hs rfl (qi_ 6 198 5 2 3) rfl ?_
  refine XF.r hs rfl (q_loadT (n := 2) rfl (by kernel_rfl) (by first | exact At.mem | exact mA (by assumption)) TakeC.take) rfl ?_
  refine XF.q hs rfl qm_ rfl ?_
  refine XF.q hs rfl (qi_ 4 198 5 2 2) rfl ?_
  refine XF.r hs rfl (q_loadT (n := 2) rfl (by kernel_rfl) (by first | exact At.mem | exact mA (by assumption)) TakeC.take) rfl ?_
  refine XF.callV rfl (aS rfl a0) (by kernel_rfl) (whigh_spec _ _ (by first | assumption | exact lt52 (by assumption) | decide | exact Nat.mod_lt _ (by decide)) (by first | assumption | exact lt52 (by assumption) | decide | exact Nat.mod_lt _ (by decide)) _) rfl ?_
  refine XF.call rfl (aS rfl (aS rfl a0)) (by kernel_rfl) (wplus_spec _ _ _ (by first | assumption | exact lt52 (by assumption) | decide | exact Nat.mod_lt _ (by decide)) (by first | assumption | exact lt52 (by assumption) | decide | exact Nat.mod_lt _ (by decide)) (Nat.mod_lt _ (by decide)) _) rfl ?_
  rintro r3 M3 J3 ⟨rfl, rfl, h3, l3, rfl, g3, k3, qq3⟩
  refine XF.q hs rfl (qi_ 6 198 5 2 3) rfl ?_
  refine XF.tl rfl rfl rfl (l_storeS rfl rfl (by kernel_rfl) (allS rfl (allS rfl (all0))) UpC.upd ?_)
  refine XF.fin (kq 4 (kq 5 (kq 8 (kq 9 (kq 57 kn))))) ?_
  refine XC.reg1 ?_
  refine mv_ (mv_ ?_)
  refine XL.q (qi_ 4 198 5 2 2) rfl ?_
  refine XL.q (qf_ 5 1) rfl ?_
  refine XL.q ql_ rfl ?_
  refine XL.q (q_andD 51 2251799813685248 rfl rfl rfl rfl rfl (by show _ < 18446744073709551616; first | assumption | exact Nat.mod_lt _ (by decide) | omega) (by decide)) rfl ?_
  refine XL.q (qi_ 2 28 5 1 2) rfl ?_
  refine XL.lo rfl (l_store rfl rfl rfl (by kernel_rfl) SetC.set UpC.upd ?_)
  refine XL.nil ?_
  refine nb ?_
  refine nx (kq 4 (kq 5 (kq 8 (kq 57 kn)))) ?_
  refine XC.reg1 ?_
  refine XL.q (q_num (3 : Int) rfl rfl (add64 (by decide) (by decide) (by decide))) rfl ?_
  refine mv_ ?_
  refine XL.nil ?_
  refine un (kq 4 (kq 5 (kq 8 (kq 57 kn)))) ?_
  refine XR.step ?_
  refine XC.reg ?_
  refine XL.q (q_cmp true rfl rfl (ltT (by decide))) rfl ?_
  refine XL.fin (kq 4 (kq 5 (kq 8 (kq 57 (kq 58 kn))))) ?_
  refine XC.seq ?_
  refine XC.condT rfl ?_
  refine XC.skip ?_
  refine nx (kq 4 (kq 5 (kq 8 (kq 57 kn)))) ?_
  refine XC.seq ?_
  refine XC.block ?_
  refine XC.reg ?_
  refine mv_ (as_ ?_)
  refine XL.fin (kq 4 (kq 5 (kq 8 (kq 9 (kq 57 kn))))) ?_
  refine XC.drawF [0, 1, 2, 3, 4, 5, 6, 7, 8, 9, 10, 11] [(0, 0), (1, 0), (2, 0), (3, 0), (4, 0), (5, 1), (6, 0), (7, 0), (8, 1), (9, 2), (10, 2), (11, 0), (12, 2)] (by kernel_rfl) (by kernel_rfl) fun hs => ?_
  refine XF.q hs rfl qm_ rfl ?_
  refine XF.q hs rfl (q_num (4 : Int) rfl rfl (add64 (by decide) (by decide) (by decide))) rfl ?_
  refine XF.q hs rfl qm_ rfl ?_
  refine XF.q hs rfl (q_num (4 : Int) rfl rfl (add64 (by decide) (by decide) (by decide))) rfl ?_
  refine XF.q hs rfl (qi_ 8 198 5 2 4) rfl ?_
  refine XF.r hs rfl (q_loadT (n := 2) rfl (by kernel_rfl) (by first | exact At.mem | exact mA (by assumption)) TakeC.take) rfl ?_
  refine XF.q hs rfl qm_ rfl ?_
  refine XF.q hs rfl (qi_ 6 198 5 2 3) rfl ?_
  refine XF.r hs rfl (q_loadT (n := 2) rfl (by kernel_rfl) (by first | exact At.mem | exact mA (by assumption)) TakeC.take) rfl ?_
  refine XF.callV rfl (aS rfl a0) (by kernel_rfl) (whigh_spec _ _ (by first | assumption | exact lt52 (by assumption) | decide | exact Nat.mod_lt _ (by decide)) (by first | assumption | exact lt52 (by assumption) | decide | exact Nat.mod_lt _ (by decide)) _) rfl ?_
  refine XF.call rfl (aS rfl (aS rfl a0)) (by kernel_rfl) (wplus_spec _ _ _ (by first | assumption | exact lt52 (by assumption) | decide | exact Nat.mod_lt _ (by decide)) (by first | assumption | exact lt52 (by assumption) | decide | exact Nat.mod_lt _ (by decide)) (Nat.mod_lt _ (by decide)) _) rfl ?_
  rintro r4 M4 J4 ⟨rfl, rfl, h4, l4, rfl, g4, k4, qq4⟩
  refine XF.q hs rfl (qi_ 8 198 5 2 4) rfl ?_
  refine XF.tl rfl rfl rfl (l_storeS rfl rfl (by kernel_rfl) (allS rfl (allS rfl (all0))) UpC.upd ?_)
  refine XF.fin (kq 4 (kq 5 (kq 8 (kq 9 (kq 57 kn))))) ?_
  refine XC.reg1 ?_
  refine mv_ (mv_ ?_)
  refine XL.q (qi_ 6 198 5 2 3) rfl ?_
  refine XL.q (qf_ 7 1) rfl ?_
  refine XL.q ql_ rfl ?_
  refine XL.q (q_andD 51 2251799813685248 rfl rfl rfl rfl rfl (by show _ < 18446744073709551616; first | assumption | exact Nat.mod_lt _ (by decide) | omega) (by decide)) rfl ?_
  refine XL.q (qi_ 3 28 5 1 3) rfl ?_
  refine XL.lo rfl (l_store rfl rfl rfl (by kernel_rfl) SetC.set UpC.upd ?_)
  refine XL.nil ?_
  refine nb ?_
  refine nx (kq 4 (kq 5 (kq 8 (kq 57 kn)))) ?_
  refine XC.reg1 ?_
  refine XL.q (q_num (4 : Int) rfl rfl (add64 (by decide) (by decide) (by decide))) rfl ?_
  refine mv_ ?_
  refine XL.nil ?_
  refine un (kq 4 (kq 5 (kq 8 (kq 57 kn)))) ?_
  refine XR.step ?_
  refine XC.reg ?_
  refine XL.q (q_cmp false rfl rfl (ltF (by decide))) rfl ?_
  refine XL.fin (kq 4 (kq 5 (kq 8 (kq 57 (kq 58 kn))))) ?_
  refine XC.seq ?_
  refine XC.condF rfl ?_
  refine XC.exit ?_
  refine te ?_
  refine ue ?_
  refine be rfl ?_
  refine nx (kq 4 (kq 5 (kq 8 kn))) ?_
  refine XC.reg ?_
  refine XL.q (qi_ 8 198 5 2 4) rfl ?_
  refine XL.q (qf_ 9 1) rfl ?_
  refine XL.q ql_ rfl ?_
  refine XL.q (q_andD 51 2251799813685248 rfl rfl rfl rfl rfl (by show _ < 18446744073709551616; first | assumption | exact Nat.mod_lt _ (by decide) | omega) (by decide)) rfl ?_
  refine XL.q (qi_ 4 28 5 1 4) rfl ?_
  refine XL.lo rfl (l_store rfl rfl rfl (by kernel_rfl) SetC.set UpC.upd ?_)
  refine XL.fin (kq 4 (kq 5 (kq 8 kn))) ?_
  refine XC.drawF [0, 1, 2, 3, 4, 5, 6, 7] [(0, 0), (1, 1), (2, 0), (3, 1), (4, 2), (5, 0), (6, 0), (7, 0), (8, 2)] (by kernel_rfl) (by kernel_rfl) fun hs => ?_
  refine XF.q hs rfl (qi_ 0 28 5 1 0) rfl ?_
  refine XF.r hs rfl ql_ rfl ?_
  refine XF.q hs rfl (qi_ 8 198 5 2 4) rfl ?_
  refine XF.r hs rfl (q_loadT (n := 2) rfl (by kernel_rfl) (by first | exact At.mem | exact mA (by assumption)) TakeC.take) rfl ?_
  refine XF.callV rfl (aS rfl a0) (by kernel_rfl) (whigh_spec _ _ (by first | assumption | exact lt52 (by assumption) | decide | exact Nat.mod_lt _ (by decide)) (by first | assumption | exact lt52 (by assumption) | decide | exact Nat.mod_lt _ (by decide)) _) rfl ?_
  refine XF.q hs rfl (q_mulM 18446744073709551616 (a := 19) rfl rfl rfl rfl rfl rfl) rfl ?_
  refine XF.q hs rfl (q_addM 18446744073709551616 rfl rfl rfl rfl rfl rfl) rfl ?_
  refine XF.q hs rfl (qi_ 0 28 5 1 0) rfl ?_
  refine XF.tl rfl rfl rfl (l_store rfl rfl rfl (by kernel_rfl) SetC.set UpC.upd ?_)
  refine XF.fin (kq 4 (kq 8 kn)) ?_
  refine XC.reg ?_
  refine XL.q (qi_ 1 28 5 1 1) rfl ?_
  refine XL.q ql_ rfl ?_
  refine XL.q (qi_ 0 28 5 1 0) rfl ?_
  refine XL.q ql_ rfl ?_
  refine XL.q (q_shrD 51 2251799813685248 rfl rfl rfl rfl (by decide)) rfl ?_
  refine XL.q (q_addM 18446744073709551616 rfl rfl rfl rfl rfl rfl) rfl ?_
  refine XL.q (qi_ 1 28 5 1 1) rfl ?_
  refine XL.lo rfl (l_store rfl rfl rfl (by kernel_rfl) SetC.set UpC.upd ?_)
  refine XL.fin (kq 4 (kq 8 kn)) ?_
  refine XC.reg ?_
  refine XL.q (qi_ 0 28 5 1 0) rfl ?_
  refine XL.q ql_ rfl ?_
  refine XL.q (q_andD 51 2251799813685248 rfl rfl rfl rfl rfl (by show _ < 18446744073709551616; first | assumption | exact Nat.mod_lt _ (by decide) | omega) (by decide)) rfl ?_
  refine XL.q (qi_ 0 28 5 1 0) rfl ?_
  refine XL.lo rfl (l_store rfl rfl rfl (by kernel_rfl) SetC.set UpC.upd ?_)
  refine XL.fin (kq 4 (kq 8 kn)) ?_
  refine XC.reg ?_
  refine XL.q (qw_ 5) rfl ?_
  refine XL.lo rfl (l_storeW rfl rfl Cel.cel (by kernel_rfl) (lnS (lnS (lnS (lnS (lnS (ln0)))))) (allS rfl (allS rfl (allS rfl (allS rfl (allS rfl (all0)))))) UpC.upd ?_)
  refine XL.fin (kq 4 kn) ?_
  refine XC.ret ?_
  rw [back] at qq1
  rw [back] at qq1
  rw [back] at qq2
  rw [back] at qq3
  rw [back] at qq4
  obtain ⟨t1, t2⟩ := mul_tail y0 y1 y2 y3 y4 qq1 qq2 qq3 qq4 (lowM R0) (lowD _ _) (lowD _ _) (lowD _ _) (lowD _ _) rfl rfl
  refine ⟨_, [], [], resC rfl rfl (by kernel_rfl) At.mem (by rfl), List.nil_sublist _, by simp, rfl, rfl, _, _, _, _, _, rfl, modD _, t1, modD _, modD _, modD _, ?_⟩
  rw [mod_of_settle t2, ← Nat.mul_mod, hring, Nat.add_mul_mod_self_left]

theorem fsquare_spec (v : Value) (x : Nat) (hx : Fe v x) (A : Mem) : FnX Tryz.prog 154 [v] [] A fun r M J => M = [] ∧ J = [] ∧ Fe r (x * x % p25) := by
 have hx0 := hx
 obtain ⟨a, b, c, d, e, rfl, -⟩ := hx
 refine FnX.enter (N := 6) Tryz.func154 rfl rfl rfl fun w => ?_
 refine XC.keep (kq 0 kn) ?_
 refine XC.reg ?_
 refine XL.lo rfl (bx_ fun b1 => ?_)
 refine XL.lo rfl (l_alloc (cs := [.int .u64 0, .int .u64 0, .int .u64 0, .int .u64 0, .int .u64 0]) (by kernel_rfl) rfl fun b2 => ?_)
 refine XL.fin (kq 1 (kq 2 kn)) ?_
 refine XC.reg ?_
 refine XL.q (qw_ 5) rfl ?_
 refine XL.q (qw_ 5) rfl ?_
 refine XL.call (aS rfl (aS rfl a0)) (by kernel_rfl) (fmul_spec _ _ _ _ (by exact hx0) (by exact hx0) _) rfl ?_
 rintro r1 M1 J1 ⟨rfl, rfl, a1, b1, c1, d1, e1, rfl, hr⟩
 refine XL.lo rfl (l_storeW rfl rfl Cel.cel (by kernel_rfl) (lnS (lnS (lnS (lnS (lnS (ln0)))))) (allS rfl (allS rfl (allS rfl (allS rfl (allS rfl (all0)))))) UpC.upd ?_)
 refine XL.fin (kq 2 kn) ?_
 refine XC.ret ?_
 exact ⟨_, [], [], resC rfl rfl (by kernel_rfl) At.mem (by rfl), List.nil_sublist _, by simp, rfl, rfl, a1, b1, c1, d1, e1, rfl, hr⟩

theorem fnum_spec (n : Nat) (hn : n < 4294967296) (A : Mem) : FnX Tryz.prog 130 [.int .u32 (n : Int)] [] A fun r M J => M = [] ∧ J = [] ∧ Fe r n := by
 refine FnX.enter (N := 6) Tryz.func130 rfl rfl rfl fun w => ?_
 refine XC.keep (kq 0 kn) ?_
 refine XC.reg ?_
 refine XL.lo rfl (l_alloc (cs := [.int .u64 0, .int .u64 0, .int .u64 0, .int .u64 0, .int .u64 0]) (by kernel_rfl) rfl fun b2 => ?_)
 refine XL.fin (kq 0 (kq 2 kn)) ?_
 refine XC.reg ?_
 refine mv_ ?_
 refine XL.q (q_to64 rfl (by kernel_rfl)) rfl ?_
 refine XL.q (q_build (place := fun i => some (i * 1, 1)) (z := [.int .u64 0, .int .u64 0, .int .u64 0, .int .u64 0, .int .u64 0]) (fun _ => by kernel_rfl) (eS rfl e0) (bdS 0 1 rfl (by rfl) bd0)) rfl ?_
 refine XL.lo rfl (l_storeW rfl rfl Cel.cel (by kernel_rfl) (lnS (lnS (lnS (lnS (lnS (ln0)))))) (allS rfl (allS rfl (allS rfl (allS rfl (allS rfl (all0)))))) UpC.upd ?_)
 refine XL.fin (kq 2 kn) ?_
 refine XC.ret ?_
 refine ⟨_, [], [], resC rfl rfl (by kernel_rfl) At.mem (by rfl), List.nil_sublist _, by simp, rfl, rfl, n % 18446744073709551616, 0, 0, 0, 0, rfl, by omega, by decide, by decide, by decide, by decide, ?_⟩
 unfold fv p25; omega

end Go.Proofs.YtphcaiplgpmnnaaGreatDoor
