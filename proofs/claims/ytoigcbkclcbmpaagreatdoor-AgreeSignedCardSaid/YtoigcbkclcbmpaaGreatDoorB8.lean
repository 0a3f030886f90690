/- Part 8 of the texts of this claim, one behind the other. -/
import Derived.Test.YtoigcbkclcbmpaaGreatDoorB7
import Derived.Test.YtoigcbkclcbmpaaGreatDoorRows
set_option linter.unusedVariables false
set_option linter.unusedSimpArgs false
set_option maxRecDepth 100000
namespace Go.Proofs.YtoigcbkclcbmpaaGreatDoor
open Go.Px
abbrev el (a b c d e : Nat) : Value := .agg #[.int .u64 (a : Int), .int .u64 (b : Int), .int .u64 (c : Int), .int .u64 (d : Int), .int .u64 (e : Int)]
def Fe (v : Value) (n : Nat) : Prop := ∃ a b c d e, v = el a b c d e ∧ a < 4503599627370496 ∧ b < 4503599627370496 ∧ c < 4503599627370496 ∧ d < 4503599627370496 ∧ e < 4503599627370496 ∧ fv a b c d e % p25 = n
theorem Fe.lt {v : Value} {n : Nat} (h : Fe v n) : n < p25 := by
  obtain ⟨a, b, c, d, e, _, _, _, _, _, _, rfl⟩ := h
  exact Nat.mod_lt _ qD
theorem T9 (a b c d e : Nat) (ha : a < 9223372036854775808) (hb : b < 9223372036854775808) (hc : c < 9223372036854775808) (hd : d < 9223372036854775808) (he : e < 9223372036854775808) (A : Mem) :
  FnX Tryz.prog 87 [el a b c d e] [] A fun r M J => M = [] ∧ J = [] ∧ ∃ a' b' c' d' e', r = el a' b' c' d' e' ∧ a' < 2251799813685248 ∧ b' < 2251799813685248 ∧ c' < 2251799813685248 ∧ d' < 2251799813685248 ∧ fv a' b' c' d' e' + p25 * (e / 2251799813685248) = fv a b c d e ∧ e' < 2251799813685248 + 8192 := by
 refine FnX.enter (N := 38) Tryz.func87 rfl rfl rfl fun w => ?_
 refine C4 (D8 0) (A3 ?_)
 refine A6 rfl (bx_ fun b1 => ?_)
 refine A6 rfl (C5 (cs := [A7, A7, A7, A7, A7]) kR rfl fun b2 => ?_)
 refine A0 (D5 1 2) (A3 ?_)
 refine A4 (qi_ 4 99 5 1 4) rfl ?_
 refine A4 ql_ rfl ?_
 refine A4 (P5 51 2251799813685248 rfl rfl rfl rfl qD) rfl ?_
 refine as_ (A0 (E2 1 2 3) (A3 ?_))
 refine A4 (qi_ 4 99 5 1 4) rfl ?_
 refine A4 ql_ rfl ?_
 refine A4 (N4 51 2251799813685248 rfl rfl rfl rfl rfl (by show _ < 18446744073709551616; first | assumption | exact Nat.mod_lt _ qD | omega) qD) rfl ?_
 refine A4 (qi_ 4 99 5 1 4) rfl ?_
 refine A6 rfl (D6 rfl rfl rfl kR SetC.set UpC.upd ?_)
 refine A0 (E2 1 2 3) (A3 ?_)
 refine A4 (qi_ 0 99 5 1 0) rfl ?_
 refine A4 ql_ rfl ?_
 refine mv_ ?_
 refine A4 (S7 18446744073709551616 (a := 19) rfl rfl rfl rfl rfl rfl) rfl ?_
 refine A4 (I6 18446744073709551616 rfl rfl rfl rfl rfl rfl) rfl ?_
 refine A4 (qi_ 0 99 5 1 0) rfl ?_
 refine A6 rfl (D6 rfl rfl rfl kR SetC.set UpC.upd ?_)
 refine A0 (D5 1 2) (A5 (A3 (mv_ (A0 (E2 1 2 18) (C0 ?_)))))
 refine Y7 5 ?_
 refine H3 ?_
 refine A3 ?_
 refine A4 (F4 true rfl rfl (ltT qD)) rfl ?_
 refine A0 (E7 1 2 18 19) (A5 ?_)
 refine E0 rfl ?_
 refine A9 (nx (E2 1 2 18) (A5 (C0 (A3 (mv_ (as_ (A0 (E7 1 2 4 18) ?_)))))))
 refine D2 (.range 10) (zp 0 [0, 0, 0, 1, 0, 0, 1, 0, 0, 0, 2]) kR kR fun hs => ?_
 refine fm_ hs ?_
 refine D1 hs rfl (E3 (1 : Int) rfl rfl (G3 qD qD qD)) rfl ?_
 refine D1 hs rfl (qi_ 1 99 5 1 1) rfl ?_
 refine F7 hs rfl ql_ rfl ?_
 refine fm_ hs ?_
 refine D1 hs rfl (qi_ 0 99 5 1 0) rfl ?_
 refine F7 hs rfl ql_ rfl ?_
 refine D1 hs rfl (P5 51 2251799813685248 rfl rfl rfl rfl qD) rfl ?_
 refine D1 hs rfl (I6 18446744073709551616 rfl rfl rfl rfl rfl rfl) rfl ?_
 refine D1 hs rfl (qi_ 1 99 5 1 1) rfl ?_
 refine G5 rfl rfl rfl (D6 rfl rfl rfl kR SetC.set UpC.upd ?_)
 refine E4 (E7 1 2 4 18) (C2 (mv_ ?_))
 refine A4 (qi_ 0 99 5 1 0) rfl ?_
 refine A4 ql_ rfl ?_
 refine A4 (N4 51 2251799813685248 rfl rfl rfl rfl rfl (by show _ < 18446744073709551616; first | assumption | exact Nat.mod_lt _ qD | omega) qD) rfl ?_
 refine A4 (qi_ 0 99 5 1 0) rfl ?_
 refine A6 rfl (D6 rfl rfl rfl kR SetC.set UpC.upd ?_)
 refine D0 (nb (nx (E2 1 2 18) (C2 ?_)))
 refine A4 (E3 (1 : Int) rfl rfl (G3 qD qD qD)) rfl ?_
 refine mv_ (D0 ?_)
 refine un (E2 1 2 18) ?_
 refine H3 ?_
 refine A3 ?_
 refine A4 (F4 true rfl rfl (ltT qD)) rfl ?_
 refine A0 (E7 1 2 18 19) (A5 ?_)
 refine E0 rfl ?_
 refine A9 (nx (E2 1 2 18) (A5 (C0 (A3 (mv_ (as_ (A0 (E7 1 2 4 18) ?_)))))))
 refine D2 (.range 10) (zp 0 [0, 0, 0, 1, 0, 0, 1, 0, 0, 0, 2]) kR kR fun hs => ?_
 refine fm_ hs ?_
 refine D1 hs rfl (E3 (2 : Int) rfl rfl (G3 qD qD qD)) rfl ?_
 refine D1 hs rfl (qi_ 2 99 5 1 2) rfl ?_
 refine F7 hs rfl ql_ rfl ?_
 refine fm_ hs ?_
 refine D1 hs rfl (qi_ 1 99 5 1 1) rfl ?_
 refine F7 hs rfl ql_ rfl ?_
 refine D1 hs rfl (P5 51 2251799813685248 rfl rfl rfl rfl qD) rfl ?_
 refine D1 hs rfl (I6 18446744073709551616 rfl rfl rfl rfl rfl rfl) rfl ?_
 refine D1 hs rfl (qi_ 2 99 5 1 2) rfl ?_
 refine G5 rfl rfl rfl (D6 rfl rfl rfl kR SetC.set UpC.upd ?_)
 refine E4 (E7 1 2 4 18) (C2 (mv_ ?_))
 refine A4 (qi_ 1 99 5 1 1) rfl ?_
 refine A4 ql_ rfl ?_
 refine A4 (N4 51 2251799813685248 rfl rfl rfl rfl rfl (by show _ < 18446744073709551616; first | assumption | exact Nat.mod_lt _ qD | omega) qD) rfl ?_
 refine A4 (qi_ 1 99 5 1 1) rfl ?_
 refine A6 rfl (D6 rfl rfl rfl kR SetC.set UpC.upd ?_)
 refine D0 (nb (nx (E2 1 2 18) (C2 ?_)))
 refine A4 (E3 (2 : Int) rfl rfl (G3 qD qD qD)) rfl ?_
 refine mv_ (D0 ?_)
 refine un (E2 1 2 18) ?_
 refine H3 ?_
 refine A3 ?_
 refine A4 (F4 true rfl rfl (ltT qD)) rfl ?_
 refine A0 (E7 1 2 18 19) (A5 ?_)
 refine E0 rfl ?_
 refine A9 (nx (E2 1 2 18) (A5 (C0 (A3 (mv_ (as_ (A0 (E7 1 2 4 18) ?_)))))))
 refine D2 (.range 10) (zp 0 [0, 0, 0, 1, 0, 0, 1, 0, 0, 0, 2]) kR kR fun hs => ?_
 refine fm_ hs ?_
 refine D1 hs rfl (E3 (3 : Int) rfl rfl (G3 qD qD qD)) rfl ?_
 refine D1 hs rfl (qi_ 3 99 5 1 3) rfl ?_
 refine F7 hs rfl ql_ rfl ?_
 refine fm_ hs ?_
 refine D1 hs rfl (qi_ 2 99 5 1 2) rfl ?_
 refine F7 hs rfl ql_ rfl ?_
 refine D1 hs rfl (P5 51 2251799813685248 rfl rfl rfl rfl qD) rfl ?_
 refine D1 hs rfl (I6 18446744073709551616 rfl rfl rfl rfl rfl rfl) rfl ?_
 refine D1 hs rfl (qi_ 3 99 5 1 3) rfl ?_
 refine G5 rfl rfl rfl (D6 rfl rfl rfl kR SetC.set UpC.upd ?_)
 refine E4 (E7 1 2 4 18) (C2 (mv_ ?_))
 refine A4 (qi_ 2 99 5 1 2) rfl ?_
 refine A4 ql_ rfl ?_
 refine A4 (N4 51 2251799813685248 rfl rfl rfl rfl rfl (by show _ < 18446744073709551616; first | assumption | exact Nat.mod_lt _ qD | omega) qD) rfl ?_
 refine A4 (qi_ 2 99 5 1 2) rfl ?_
 refine A6 rfl (D6 rfl rfl rfl kR SetC.set UpC.upd ?_)
 refine D0 (nb (nx (E2 1 2 18) (C2 ?_)))
 refine A4 (E3 (3 : Int) rfl rfl (G3 qD qD qD)) rfl ?_
 refine mv_ (D0 ?_)
 refine un (E2 1 2 18) ?_
 refine H3 ?_
 refine A3 ?_
 refine A4 (F4 true rfl rfl (ltT qD)) rfl ?_
 refine A0 (E7 1 2 18 19) (A5 ?_)
 refine E0 rfl ?_
 refine A9 (nx (E2 1 2 18) (A5 (C0 (A3 (mv_ (as_ (A0 (E7 1 2 4 18) ?_)))))))
 refine D2 (.range 10) (zp 0 [0, 0, 0, 1, 0, 0, 1, 0, 0, 0, 2]) kR kR fun hs => ?_
 refine fm_ hs ?_
 refine D1 hs rfl (E3 (4 : Int) rfl rfl (G3 qD qD qD)) rfl ?_
 refine D1 hs rfl (qi_ 4 99 5 1 4) rfl ?_
 refine F7 hs rfl ql_ rfl ?_
 refine fm_ hs ?_
 refine D1 hs rfl (qi_ 3 99 5 1 3) rfl ?_
 refine F7 hs rfl ql_ rfl ?_
 refine D1 hs rfl (P5 51 2251799813685248 rfl rfl rfl rfl qD) rfl ?_
 refine D1 hs rfl (I6 18446744073709551616 rfl rfl rfl rfl rfl rfl) rfl ?_
 refine D1 hs rfl (qi_ 4 99 5 1 4) rfl ?_
 refine G5 rfl rfl rfl (D6 rfl rfl rfl kR SetC.set UpC.upd ?_)
 refine E4 (E7 1 2 4 18) (C2 (mv_ ?_))
 refine A4 (qi_ 3 99 5 1 3) rfl ?_
 refine A4 ql_ rfl ?_
 refine A4 (N4 51 2251799813685248 rfl rfl rfl rfl rfl (by show _ < 18446744073709551616; first | assumption | exact Nat.mod_lt _ qD | omega) qD) rfl ?_
 refine A4 (qi_ 3 99 5 1 3) rfl ?_
 refine A6 rfl (D6 rfl rfl rfl kR SetC.set UpC.upd ?_)
 refine D0 (nb (nx (E2 1 2 18) (C2 ?_)))
 refine A4 (E3 (4 : Int) rfl rfl (G3 qD qD qD)) rfl ?_
 refine mv_ (D0 ?_)
 refine un (E2 1 2 18) ?_
 refine H3 ?_
 refine A3 ?_
 refine A4 (F4 false rfl rfl (ltF qD)) rfl ?_
 refine A0 (E7 1 2 18 19) (A5 ?_)
 refine D3 rfl ?_
 refine E6 (te (ue (be rfl (nx (D5 1 2) (A3 ?_)))))
 refine A4 (qw_ 5) rfl ?_
 refine A6 rfl (A8 rfl rfl Cel.cel kR ln5 al5 UpC.upd ?_)
 refine A0 (D8 2) (C3 ?_)
 refine ⟨_, [], [], A1x rfl rfl kR At.mem qR, List.nil_sublist _, by simp, rfl, rfl, _, _, _, _, _, rfl, Nat.mod_lt _ qD, Nat.mod_lt _ qD, Nat.mod_lt _ qD, Nat.mod_lt _ qD, A9N ha hb hc hd he rfl rfl rfl rfl rfl⟩
theorem B1m (v u : Value) (x y : Nat) (hx : Fe v x) (hy : Fe u y) (A : Mem) : FnX Tryz.prog 84 [v, u] [] A fun r M J => M = [] ∧ J = [] ∧ Fe r ((x + y) % p25) := by
 obtain ⟨a, b, c, d, e, rfl, ha, hb, hc, hd, he, rfl⟩ := hx
 obtain ⟨a2, b2, c2, d2, e2, rfl, ha2, hb2, hc2, hd2, he2, rfl⟩ := hy
 refine FnX.enter (N := 20) Tryz.func84 rfl rfl rfl fun w => ?_
 refine C4 (D5 0 1) (A3 ?_)
 refine A6 rfl (bx_ fun b2 => ?_)
 refine A6 rfl (bx_ fun b3 => ?_)
 refine A6 rfl (C5 (cs := [A7, A7, A7, A7, A7]) kR rfl fun b4 => ?_)
 refine A0 (E2 2 3 4) (A5 (A3 (mv_ (A0 (E7 2 3 4 6) (C0 ?_)))))
 refine Y7 6 ?_
 refine H3 ?_
 refine A3 ?_
 refine A4 (F4 true rfl rfl (ltT qD)) rfl ?_
 refine A0 (F5 2 3 4 6 7) (A5 ?_)
 refine E0 rfl ?_
 refine A9 (nx (E7 2 3 4 6) (A5 (C0 (A3 (mv_ (as_ (A0 (F5 2 3 4 5 6) ?_)))))))
 refine I9 (.range 8) (zp 0 [0, 0, 1, 0, 0, 1, 0, 0, 2]) kR kR fun hs => ?_
 refine fm_ hs ?_
 refine D1 hs rfl (qi_ 0 99 5 1 0) rfl ?_
 refine F7 hs rfl ql_ rfl ?_
 refine fm_ hs ?_
 refine D1 hs rfl (qi_ 0 99 5 1 0) rfl ?_
 refine F7 hs rfl ql_ rfl ?_
 refine D1 hs rfl (I6 18446744073709551616 rfl rfl rfl rfl rfl rfl) rfl ?_
 refine D1 hs rfl (qi_ 0 99 5 1 0) rfl ?_
 refine G5 rfl rfl rfl (D6 rfl rfl rfl kR SetC.set UpC.upd ?_)
 refine V3 (nb (nx (E7 2 3 4 6) (C2 ?_)))
 refine A4 (E3 (1 : Int) rfl rfl (G3 qD qD qD)) rfl ?_
 refine mv_ (D0 ?_)
 refine un (E7 2 3 4 6) ?_
 refine H3 ?_
 refine A3 ?_
 refine A4 (F4 true rfl rfl (ltT qD)) rfl ?_
 refine A0 (F5 2 3 4 6 7) (A5 ?_)
 refine E0 rfl ?_
 refine A9 (nx (E7 2 3 4 6) (A5 (C0 (A3 (mv_ (as_ (A0 (F5 2 3 4 5 6) ?_)))))))
 refine I9 (.range 8) (zp 0 [0, 0, 1, 0, 0, 1, 0, 0, 2]) kR kR fun hs => ?_
 refine fm_ hs ?_
 refine D1 hs rfl (qi_ 1 99 5 1 1) rfl ?_
 refine F7 hs rfl ql_ rfl ?_
 refine fm_ hs ?_
 refine D1 hs rfl (qi_ 1 99 5 1 1) rfl ?_
 refine F7 hs rfl ql_ rfl ?_
 refine D1 hs rfl (I6 18446744073709551616 rfl rfl rfl rfl rfl rfl) rfl ?_
 refine D1 hs rfl (qi_ 1 99 5 1 1) rfl ?_
 refine G5 rfl rfl rfl (D6 rfl rfl rfl kR SetC.set UpC.upd ?_)
 refine V3 (nb (nx (E7 2 3 4 6) (C2 ?_)))
 refine A4 (E3 (2 : Int) rfl rfl (G3 qD qD qD)) rfl ?_
 refine mv_ (D0 ?_)
 refine un (E7 2 3 4 6) ?_
 refine H3 ?_
 refine A3 ?_
 refine A4 (F4 true rfl rfl (ltT qD)) rfl ?_
 refine A0 (F5 2 3 4 6 7) (A5 ?_)
 refine E0 rfl ?_
 refine A9 (nx (E7 2 3 4 6) (A5 (C0 (A3 (mv_ (as_ (A0 (F5 2 3 4 5 6) ?_)))))))
 refine I9 (.range 8) (zp 0 [0, 0, 1, 0, 0, 1, 0, 0, 2]) kR kR fun hs => ?_
 refine fm_ hs ?_
 refine D1 hs rfl (qi_ 2 99 5 1 2) rfl ?_
 refine F7 hs rfl ql_ rfl ?_
 refine fm_ hs ?_
 refine D1 hs rfl (qi_ 2 99 5 1 2) rfl ?_
 refine F7 hs rfl ql_ rfl ?_
 refine D1 hs rfl (I6 18446744073709551616 rfl rfl rfl rfl rfl rfl) rfl ?_
 refine D1 hs rfl (qi_ 2 99 5 1 2) rfl ?_
 refine G5 rfl rfl rfl (D6 rfl rfl rfl kR SetC.set UpC.upd ?_)
 refine V3 (nb (nx (E7 2 3 4 6) (C2 ?_)))
 refine A4 (E3 (3 : Int) rfl rfl (G3 qD qD qD)) rfl ?_
 refine mv_ (D0 ?_)
 refine un (E7 2 3 4 6) ?_
 refine H3 ?_
 refine A3 ?_
 refine A4 (F4 true rfl rfl (ltT qD)) rfl ?_
 refine A0 (F5 2 3 4 6 7) (A5 ?_)
 refine E0 rfl ?_
 refine A9 (nx (E7 2 3 4 6) (A5 (C0 (A3 (mv_ (as_ (A0 (F5 2 3 4 5 6) ?_)))))))
 refine I9 (.range 8) (zp 0 [0, 0, 1, 0, 0, 1, 0, 0, 2]) kR kR fun hs => ?_
 refine fm_ hs ?_
 refine D1 hs rfl (qi_ 3 99 5 1 3) rfl ?_
 refine F7 hs rfl ql_ rfl ?_
 refine fm_ hs ?_
 refine D1 hs rfl (qi_ 3 99 5 1 3) rfl ?_
 refine F7 hs rfl ql_ rfl ?_
 refine D1 hs rfl (I6 18446744073709551616 rfl rfl rfl rfl rfl rfl) rfl ?_
 refine D1 hs rfl (qi_ 3 99 5 1 3) rfl ?_
 refine G5 rfl rfl rfl (D6 rfl rfl rfl kR SetC.set UpC.upd ?_)
 refine V3 (nb (nx (E7 2 3 4 6) (C2 ?_)))
 refine A4 (E3 (4 : Int) rfl rfl (G3 qD qD qD)) rfl ?_
 refine mv_ (D0 ?_)
 refine un (E7 2 3 4 6) ?_
 refine H3 ?_
 refine A3 ?_
 refine A4 (F4 true rfl rfl (ltT qD)) rfl ?_
 refine A0 (F5 2 3 4 6 7) (A5 ?_)
 refine E0 rfl ?_
 refine A9 (nx (E7 2 3 4 6) (A5 (C0 (A3 (mv_ (as_ (A0 (F5 2 3 4 5 6) ?_)))))))
 refine I9 (.range 8) (zp 0 [0, 0, 1, 0, 0, 1, 0, 0, 2]) kR kR fun hs => ?_
 refine fm_ hs ?_
 refine D1 hs rfl (qi_ 4 99 5 1 4) rfl ?_
 refine F7 hs rfl ql_ rfl ?_
 refine fm_ hs ?_
 refine D1 hs rfl (qi_ 4 99 5 1 4) rfl ?_
 refine F7 hs rfl ql_ rfl ?_
 refine D1 hs rfl (I6 18446744073709551616 rfl rfl rfl rfl rfl rfl) rfl ?_
 refine D1 hs rfl (qi_ 4 99 5 1 4) rfl ?_
 refine G5 rfl rfl rfl (D6 rfl rfl rfl kR SetC.set UpC.upd ?_)
 refine V3 (nb (nx (E7 2 3 4 6) (C2 ?_)))
 refine A4 (E3 (5 : Int) rfl rfl (G3 qD qD qD)) rfl ?_
 refine mv_ (D0 ?_)
 refine un (E7 2 3 4 6) ?_
 refine H3 ?_
 refine A3 ?_
 refine A4 (F4 false rfl rfl (ltF qD)) rfl ?_
 refine A0 (F5 2 3 4 6 7) (A5 ?_)
 refine D3 rfl ?_
 refine E6 (te (ue (be rfl (nx (D5 2 4) (A3 ?_)))))
 refine A4 (qw_ 5) rfl ?_
 refine C9 (aS rfl a0) kR (T9 _ _ _ _ _ qO qO qO qO qO _) rfl ?_
 rintro r3 M3 J3 ⟨rfl, rfl, a3, b3, c3, d3, e3, rfl, ha3, hb3, hc3, hd3, hv3, he3⟩
 refine A6 rfl (A8 rfl rfl Cel.cel kR ln5 al5 UpC.upd ?_)
 refine A0 (D8 4) (C3 ?_)
 refine ⟨_, [], [], A1x rfl rfl kR At.mem qR, List.nil_sublist _, by simp, rfl, rfl, a3, b3, c3, d3, e3, rfl, by omega, by omega, by omega, by omega, by omega, ?_⟩
 rw [N6 hv3, B9A ha hb hc hd he ha2 hb2 hc2 hd2 he2, Nat.add_mod]
theorem A6I (v u : Value) (x y : Nat) (hx : Fe v x) (hy : Fe u y) (A : Mem) : FnX Tryz.prog 85 [v, u] [] A fun r M J => M = [] ∧ J = [] ∧ Fe r ((x + p25 - y) % p25) := by
 obtain ⟨a, b, c, d, e, rfl, ha, hb, hc, hd, he, rfl⟩ := hx
 obtain ⟨a2, b2, c2, d2, e2, rfl, ha2, hb2, hc2, hd2, he2, rfl⟩ := hy
 refine FnX.enter (N := 30) Tryz.func85 rfl rfl rfl fun w => ?_
 refine C4 (D5 0 1) (A3 ?_)
 refine A6 rfl (bx_ fun b2 => ?_)
 refine A6 rfl (bx_ fun b3 => ?_)
 refine A6 rfl (C5 (cs := [A7, A7, A7, A7, A7]) kR rfl fun b4 => ?_)
 refine A0 (E2 2 3 4) (A3 ?_)
 refine A4 (qw_ 5) rfl ?_
 refine C9 (aS rfl a0) kR (T9 _ _ _ _ _ qO qO qO qO qO _) rfl ?_
 rintro r3 M3 J3 ⟨rfl, rfl, a3, b3, c3, d3, e3, rfl, ha3, hb3, hc3, hd3, hv3, he3⟩
 refine A6 rfl (A8 rfl rfl Cel.cel kR ln5 al5 UpC.upd ?_)
 refine A0 (E2 2 3 4) (A3 ?_)
 refine A4 (F3 (place := fun i => some (i * 1, 1)) (z := [A7, A7, A7, A7, A7]) (fun _ => by kernel_rfl) (eS rfl (eS rfl (eS rfl (eS rfl (eS rfl e0))))) (bdS 0 1 rfl qR (bdS 1 1 rfl qR (bdS 2 1 rfl qR (bdS 3 1 rfl qR (bdS 4 1 rfl qR bd0)))))) rfl ?_
 refine A6 rfl (C5 (cs := [A7, A7, A7, A7, A7]) kR rfl fun b5 => ?_)
 refine A6 rfl (A8 rfl rfl Cel.cel kR ln5 al5 UpC.upd ?_)
 refine A0 (E7 2 3 4 5) (A5 (A3 (mv_ (A0 (F5 2 3 4 5 10) (C0 ?_)))))
 refine Y7 6 ?_
 refine H3 ?_
 refine A3 ?_
 refine A4 (F4 true rfl rfl (ltT qD)) rfl ?_
 refine A0 (I1 2 3 4 5 10 11) (A5 ?_)
 refine E0 rfl ?_
 refine A9 (nx (F5 2 3 4 5 10) (A5 (C0 (A3 (mv_ (as_ (A0 (I1 2 3 4 5 6 10) ?_)))))))
 refine I9 (.range 13) (zp 0 [0, 0, 1, 0, 0, 1, 0, 0, 0, 1, 0, 0, 0, 2]) kR kR fun hs => ?_
 refine fm_ hs ?_
 refine D1 hs rfl (qi_ 0 99 5 1 0) rfl ?_
 refine F7 hs rfl ql_ rfl ?_
 refine fm_ hs ?_
 refine D1 hs rfl (qi_ 0 99 5 1 0) rfl ?_
 refine F7 hs rfl ql_ rfl ?_
 refine D1 hs rfl (S7 18446744073709551616 (a := 2) rfl rfl rfl rfl rfl rfl) rfl ?_
 refine fm_ hs ?_
 refine D1 hs rfl (qi_ 0 99 5 1 0) rfl ?_
 refine F7 hs rfl ql_ rfl ?_
 refine D1 hs rfl (A2J 18446744073709551616 rfl rfl rfl rfl rfl rfl qO) rfl ?_
 refine D1 hs rfl (I6 18446744073709551616 rfl rfl rfl rfl rfl rfl) rfl ?_
 refine D1 hs rfl (qi_ 0 99 5 1 0) rfl ?_
 refine G5 rfl rfl rfl (D6 rfl rfl rfl kR SetC.set UpC.upd ?_)
 refine V3 (nb (nx (F5 2 3 4 5 10) (C2 ?_)))
 refine A4 (E3 (1 : Int) rfl rfl (G3 qD qD qD)) rfl ?_
 refine mv_ (D0 ?_)
 refine un (F5 2 3 4 5 10) ?_
 refine H3 ?_
 refine A3 ?_
 refine A4 (F4 true rfl rfl (ltT qD)) rfl ?_
 refine A0 (I1 2 3 4 5 10 11) (A5 ?_)
 refine E0 rfl ?_
 refine A9 (nx (F5 2 3 4 5 10) (A5 (C0 (A3 (mv_ (as_ (A0 (I1 2 3 4 5 6 10) ?_)))))))
 refine I9 (.range 13) (zp 0 [0, 0, 1, 0, 0, 1, 0, 0, 0, 1, 0, 0, 0, 2]) kR kR fun hs => ?_
 refine fm_ hs ?_
 refine D1 hs rfl (qi_ 1 99 5 1 1) rfl ?_
 refine F7 hs rfl ql_ rfl ?_
 refine fm_ hs ?_
 refine D1 hs rfl (qi_ 1 99 5 1 1) rfl ?_
 refine F7 hs rfl ql_ rfl ?_
 refine D1 hs rfl (S7 18446744073709551616 (a := 2) rfl rfl rfl rfl rfl rfl) rfl ?_
 refine fm_ hs ?_
 refine D1 hs rfl (qi_ 1 99 5 1 1) rfl ?_
 refine F7 hs rfl ql_ rfl ?_
 refine D1 hs rfl (A2J 18446744073709551616 rfl rfl rfl rfl rfl rfl qO) rfl ?_
 refine D1 hs rfl (I6 18446744073709551616 rfl rfl rfl rfl rfl rfl) rfl ?_
 refine D1 hs rfl (qi_ 1 99 5 1 1) rfl ?_
 refine G5 rfl rfl rfl (D6 rfl rfl rfl kR SetC.set UpC.upd ?_)
 refine V3 (nb (nx (F5 2 3 4 5 10) (C2 ?_)))
 refine A4 (E3 (2 : Int) rfl rfl (G3 qD qD qD)) rfl ?_
 refine mv_ (D0 ?_)
 refine un (F5 2 3 4 5 10) ?_
 refine H3 ?_
 refine A3 ?_
 refine A4 (F4 true rfl rfl (ltT qD)) rfl ?_
 refine A0 (I1 2 3 4 5 10 11) (A5 ?_)
 refine E0 rfl ?_
 refine A9 (nx (F5 2 3 4 5 10) (A5 (C0 (A3 (mv_ (as_ (A0 (I1 2 3 4 5 6 10) ?_)))))))
 refine I9 (.range 13) (zp 0 [0, 0, 1, 0, 0, 1, 0, 0, 0, 1, 0, 0, 0, 2]) kR kR fun hs => ?_
 refine fm_ hs ?_
 refine D1 hs rfl (qi_ 2 99 5 1 2) rfl ?_
 refine F7 hs rfl ql_ rfl ?_
 refine fm_ hs ?_
 refine D1 hs rfl (qi_ 2 99 5 1 2) rfl ?_
 refine F7 hs rfl ql_ rfl ?_
 refine D1 hs rfl (S7 18446744073709551616 (a := 2) rfl rfl rfl rfl rfl rfl) rfl ?_
 refine fm_ hs ?_
 refine D1 hs rfl (qi_ 2 99 5 1 2) rfl ?_
 refine F7 hs rfl ql_ rfl ?_
 refine D1 hs rfl (A2J 18446744073709551616 rfl rfl rfl rfl rfl rfl qO) rfl ?_
 refine D1 hs rfl (I6 18446744073709551616 rfl rfl rfl rfl rfl rfl) rfl ?_
 refine D1 hs rfl (qi_ 2 99 5 1 2) rfl ?_
 refine G5 rfl rfl rfl (D6 rfl rfl rfl kR SetC.set UpC.upd ?_)
 refine V3 (nb (nx (F5 2 3 4 5 10) (C2 ?_)))
 refine A4 (E3 (3 : Int) rfl rfl (G3 qD qD qD)) rfl ?_
 refine mv_ (D0 ?_)
 refine un (F5 2 3 4 5 10) ?_
 refine H3 ?_
 refine A3 ?_
 refine A4 (F4 true rfl rfl (ltT qD)) rfl ?_
 refine A0 (I1 2 3 4 5 10 11) (A5 ?_)
 refine E0 rfl ?_
 refine A9 (nx (F5 2 3 4 5 10) (A5 (C0 (A3 (mv_ (as_ (A0 (I1 2 3 4 5 6 10) ?_)))))))
 refine I9 (.range 13) (zp 0 [0, 0, 1, 0, 0, 1, 0, 0, 0, 1, 0, 0, 0, 2]) kR kR fun hs => ?_
 refine fm_ hs ?_
 refine D1 hs rfl (qi_ 3 99 5 1 3) rfl ?_
 refine F7 hs rfl ql_ rfl ?_
 refine fm_ hs ?_
 refine D1 hs rfl (qi_ 3 99 5 1 3) rfl ?_
 refine F7 hs rfl ql_ rfl ?_
 refine D1 hs rfl (S7 18446744073709551616 (a := 2) rfl rfl rfl rfl rfl rfl) rfl ?_
 refine fm_ hs ?_
 refine D1 hs rfl (qi_ 3 99 5 1 3) rfl ?_
 refine F7 hs rfl ql_ rfl ?_
 refine D1 hs rfl (A2J 18446744073709551616 rfl rfl rfl rfl rfl rfl qO) rfl ?_
 refine D1 hs rfl (I6 18446744073709551616 rfl rfl rfl rfl rfl rfl) rfl ?_
 refine D1 hs rfl (qi_ 3 99 5 1 3) rfl ?_
 refine G5 rfl rfl rfl (D6 rfl rfl rfl kR SetC.set UpC.upd ?_)
 refine V3 (nb (nx (F5 2 3 4 5 10) (C2 ?_)))
 refine A4 (E3 (4 : Int) rfl rfl (G3 qD qD qD)) rfl ?_
 refine mv_ (D0 ?_)
 refine un (F5 2 3 4 5 10) ?_
 refine H3 ?_
 refine A3 ?_
 refine A4 (F4 true rfl rfl (ltT qD)) rfl ?_
 refine A0 (I1 2 3 4 5 10 11) (A5 ?_)
 refine E0 rfl ?_
 refine A9 (nx (F5 2 3 4 5 10) (A5 (C0 (A3 (mv_ (as_ (A0 (I1 2 3 4 5 6 10) ?_)))))))
 refine I9 (.range 13) (zp 0 [0, 0, 1, 0, 0, 1, 0, 0, 0, 1, 0, 0, 0, 2]) kR kR fun hs => ?_
 refine fm_ hs ?_
 refine D1 hs rfl (qi_ 4 99 5 1 4) rfl ?_
 refine F7 hs rfl ql_ rfl ?_
 refine fm_ hs ?_
 refine D1 hs rfl (qi_ 4 99 5 1 4) rfl ?_
 refine F7 hs rfl ql_ rfl ?_
 refine D1 hs rfl (S7 18446744073709551616 (a := 2) rfl rfl rfl rfl rfl rfl) rfl ?_
 refine fm_ hs ?_
 refine D1 hs rfl (qi_ 4 99 5 1 4) rfl ?_
 refine F7 hs rfl ql_ rfl ?_
 refine D1 hs rfl (A2J 18446744073709551616 rfl rfl rfl rfl rfl rfl qO) rfl ?_
 refine D1 hs rfl (I6 18446744073709551616 rfl rfl rfl rfl rfl rfl) rfl ?_
 refine D1 hs rfl (qi_ 4 99 5 1 4) rfl ?_
 refine G5 rfl rfl rfl (D6 rfl rfl rfl kR SetC.set UpC.upd ?_)
 refine V3 (nb (nx (F5 2 3 4 5 10) (C2 ?_)))
 refine A4 (E3 (5 : Int) rfl rfl (G3 qD qD qD)) rfl ?_
 refine mv_ (D0 ?_)
 refine un (F5 2 3 4 5 10) ?_
 refine H3 ?_
 refine A3 ?_
 refine A4 (F4 false rfl rfl (ltF qD)) rfl ?_
 refine A0 (I1 2 3 4 5 10 11) (A5 ?_)
 refine D3 rfl ?_
 refine E6 (te (ue (be rfl (nx (D5 2 4) ?_))))
 have q0 := A3K (t := 9007199254740916) (b := a3) ha qD qO
 have q1 := A3K (t := 9007199254740988) (b := b3) hb qD qO
 have q2 := A3K (t := 9007199254740988) (b := c3) hc qD qO
 have q3 := A3K (t := 9007199254740988) (b := d3) hd qD qO
 have q4 := A3K (t := 9007199254740988) (b := e3) he qD qO
 refine A3 ?_
 refine A4 (qw_ 5) rfl ?_
 refine C9 (aS rfl a0) kR (T9 _ _ _ _ _ (q0 ▸ A16 ha qD qO) (q1 ▸ A16 hb qD qO) (q2 ▸ A16 hc qD qO) (q3 ▸ A16 hd qD qO) (q4 ▸ A16 he qD qO) _) rfl ?_
 rintro r4 M4 J4 ⟨rfl, rfl, a4, b4, c4, d4, e4, rfl, ha4, hb4, hc4, hd4, hv4, he4⟩
 refine C9 (aS rfl a0) kR (T9 _ _ _ _ _ qO qO qO qO qO _) rfl ?_
 rintro r5 M5 J5 ⟨rfl, rfl, a5, b5, c5, d5, e5, rfl, ha5, hb5, hc5, hd5, hv5, he5⟩
 refine A6 rfl (A8 rfl rfl Cel.cel kR ln5 al5 UpC.upd ?_)
 refine A0 (D8 4) (C3 ?_)
 refine ⟨_, [], [], A1x rfl rfl kR At.mem qR, List.nil_sublist _, by simp, rfl, rfl, a5, b5, c5, d5, e5, rfl, by omega, by omega, by omega, by omega, by omega, ?_⟩
 rw [N6 hv5, N6 hv4, ← N6 hv3]
 refine B7n ?_
 rw [← B9B (a := a) (b := b) (c := c) (d := d) (e := e) (a2 := a3) (b2 := b3) (c2 := c3) (d2 := d3) (e2 := e3) qO qO qO qO qO, ← q0, ← q1, ← q2, ← q3, ← q4]
abbrev wd (hi lo : Nat) : Value := .agg #[.int .u64 (hi : Int), .int .u64 (lo : Int)]
theorem A9O (x y : Nat) (hx : x < 18446744073709551616) (hy : y < 18446744073709551616) (A : Mem) : FnV Tryz.prog 106 [.int .u64 (x : Int), .int .u64 (y : Int)] A (.tuple #[.int .u64 ((x * y / 18446744073709551616 : Nat) : Int), .int .u64 ((x * y % 18446744073709551616 : Nat) : Int)]) := by
 refine FnX.enter (N := 51) Tryz.func106 rfl rfl rfl fun w => ?_
 refine C4 (D5 0 1) (A3 (as_ (as_ (A0 (D5 0 1) (A3 (mv_ ?_))))))
 refine A4 (N4 32 4294967296 rfl rfl rfl rfl rfl (by show _ < 18446744073709551616; first | assumption | exact Nat.mod_lt _ qD | omega) qD) rfl ?_
 refine as_ (A0 (E2 0 1 6) (A3 (mv_ ?_)))
 refine A4 (P5 32 4294967296 rfl rfl rfl rfl qD) rfl ?_
 refine as_ (A0 (E7 0 1 6 7) (A3 (mv_ ?_)))
 refine A4 (N4 32 4294967296 rfl rfl rfl rfl rfl (by show _ < 18446744073709551616; first | assumption | exact Nat.mod_lt _ qD | omega) qD) rfl ?_
 refine as_ (A0 (F5 0 1 6 7 8) (A3 (mv_ ?_)))
 refine A4 (P5 32 4294967296 rfl rfl rfl rfl qD) rfl ?_
 refine as_ (A0 (I1 0 1 6 7 8 9) (A3 (mv_ (mv_ ?_))))
 refine A4 (S7 18446744073709551616 rfl rfl rfl rfl rfl rfl) rfl ?_
 refine as_ (A0 (Y0 0 1 6 7 8 9 10) (A3 (mv_ (mv_ ?_))))
 refine A4 (S7 18446744073709551616 rfl rfl rfl rfl rfl rfl) rfl ?_
 refine mv_ ?_
 refine A4 (P5 32 4294967296 rfl rfl rfl rfl qD) rfl ?_
 refine A4 (I6 18446744073709551616 rfl rfl rfl rfl rfl rfl) rfl ?_
 refine as_ (A0 (I1 0 1 6 7 9 11) (A3 (mv_ ?_)))
 refine A4 (N4 32 4294967296 rfl rfl rfl rfl rfl (by show _ < 18446744073709551616; first | assumption | exact Nat.mod_lt _ qD | omega) qD) rfl ?_
 refine as_ (A0 (Y0 0 1 6 7 9 11 12) (A3 (mv_ ?_)))
 refine A4 (P5 32 4294967296 rfl rfl rfl rfl qD) rfl ?_
 refine as_ (A0 (Y0 0 1 6 7 9 12 13) (A3 (mv_ (mv_ (mv_ ?_)))))
 refine A4 (S7 18446744073709551616 rfl rfl rfl rfl rfl rfl) rfl ?_
 refine A4 (I6 18446744073709551616 rfl rfl rfl rfl rfl rfl) rfl ?_
 refine as_ (A0 (I1 0 1 7 9 12 13) (A3 (mv_ (mv_ ?_))))
 refine A4 (S7 18446744073709551616 rfl rfl rfl rfl rfl rfl) rfl ?_
 refine mv_ ?_
 refine A4 (I6 18446744073709551616 rfl rfl rfl rfl rfl rfl) rfl ?_
 refine mv_ ?_
 refine A4 (P5 32 4294967296 rfl rfl rfl rfl qD) rfl ?_
 refine A4 (I6 18446744073709551616 rfl rfl rfl rfl rfl rfl) rfl ?_
 refine as_ (A0 (E2 0 1 4) (A3 (mv_ (mv_ ?_))))
 refine A4 (S7 18446744073709551616 rfl rfl rfl rfl rfl rfl) rfl ?_
 refine as_ (A0 (D5 4 5) (C3 ?_))
 refine ⟨_, [], [], A7m rfl rfl rfl, List.nil_sublist _, by simp, ?_, rfl, rfl⟩
 rw [B1g hx hy rfl rfl rfl rfl rfl rfl rfl]
theorem A3M (hi lo a b : Nat) (h1 : hi < 18446744073709551616) (h2 : lo < 18446744073709551616) (h3 : a < 18446744073709551616) (h4 : b < 18446744073709551616) (A : Mem) :
  FnX Tryz.prog 88 [wd hi lo, .int .u64 (a : Int), .int .u64 (b : Int)] [] A fun r M J => M = [] ∧ J = [] ∧ ∃ hi' lo', r = wd hi' lo' ∧ hi' < 18446744073709551616 ∧ lo' < 18446744073709551616 ∧ hi' * 18446744073709551616 + lo' = (hi * 18446744073709551616 + lo + a * b) % 340282366920938463463374607431768211456 := by
 refine FnX.enter (N := 34) Tryz.func88 rfl rfl rfl fun w => ?_
 refine C4 (E2 0 1 2) (A3 ?_)
 refine A6 rfl (bx_ fun b3 => ?_)
 refine A6 rfl (C5 (cs := [.int .u64 0, .int .u64 0]) kR rfl fun b6 => ?_)
 refine A0 (E7 1 2 3 6) (A3 (mv_ (mv_ ?_)))
 refine F6 (aS rfl (aS rfl a0)) kR (A9O a b h3 h4 _) rfl ?_
 have hab : a * b ≤ 18446744073709551615 * 18446744073709551615 := Nat.mul_le_mul qO qO
 generalize a * b = z at *
 refine mv_ ?_
 refine A4 (A4e rfl) rfl ?_
 refine A4 (A38 rfl) rfl ?_
 refine as_ (as_ (A0 (E7 3 6 7 8) (A3 ?_)))
 refine A4 (qf_ 1 1) rfl ?_
 refine A4 ql_ rfl ?_
 refine mv_ ?_
 refine A4 (A6l Tryz.func107 kR kR kR kR rfl rfl rfl (c := 0) qO rfl rfl rfl) rfl ?_
 refine mv_ ?_
 refine A4 (A4e rfl) rfl ?_
 refine A4 (A38 rfl) rfl ?_
 refine as_ (as_ (A0 (F5 3 6 7 8 9) (A3 ?_)))
 refine A4 (qf_ 0 0) rfl ?_
 refine A4 ql_ rfl ?_
 refine mv_ (mv_ ?_)
 refine A4 (A6l Tryz.func107 kR kR kR kR rfl rfl rfl qO rfl rfl rfl) rfl ?_
 refine mv_ ?_
 refine A4 (A4e rfl) rfl ?_
 refine A4 (A38 rfl) rfl ?_
 refine as_ (A0 (E2 6 7 8) (A3 (mv_ (mv_ ?_))))
 refine A4 (F3 (place := fun x => #[(0, 1), (1, 1)][x]?) (z := [.int .u64 0, .int .u64 0]) (fun _ => by kernel_rfl) (eS rfl (eS rfl e0)) (bdS 0 1 rfl qR (bdS 1 1 rfl qR bd0))) rfl ?_
 refine A6 rfl (A8 rfl rfl Cel.cel kR ln2 al2 UpC.upd ?_)
 refine A0 (D8 6) (C3 ?_)
 refine ⟨_, [], [], A1x rfl rfl kR At.mem qR, List.nil_sublist _, by simp, rfl, rfl, _, _, rfl, Nat.mod_lt _ qD, Nat.mod_lt _ qD, ?_⟩
 omega
theorem A1h (hi lo a : Nat) (h1 : hi < 18446744073709551616) (h2 : lo < 18446744073709551616) (h3 : a < 18446744073709551616) (A : Mem) :
  FnX Tryz.prog 89 [wd hi lo, .int .u64 (a : Int)] [] A fun r M J => M = [] ∧ J = [] ∧ ∃ hi' lo', r = wd hi' lo' ∧ hi' < 18446744073709551616 ∧ lo' < 18446744073709551616 ∧ hi' * 18446744073709551616 + lo' = (hi * 18446744073709551616 + lo + a) % 340282366920938463463374607431768211456 := by
 refine FnX.enter (N := 8) Tryz.func89 rfl rfl rfl fun w => ?_
 refine C4 (D5 0 1) (A3 ?_)
 refine A6 rfl (bx_ fun b2 => ?_)
 refine A6 rfl (C5 (cs := [.int .u64 0, .int .u64 0]) kR rfl fun b4 => ?_)
 refine A0 (E2 1 2 4) (A3 ?_)
 refine A4 (qw_ 2) rfl ?_
 refine mv_ ?_
 refine C9 (aS rfl (aS rfl (aS rfl a0))) kR (A3M hi lo a 1 h1 h2 h3 qD _) rfl ?_
 rintro r M1 J1 ⟨rfl, rfl, hi', lo', rfl, g1, g2, g3⟩
 refine A6 rfl (A8 rfl rfl Cel.cel kR ln2 al2 UpC.upd ?_)
 refine A0 (D8 4) (C3 ?_)
 refine ⟨_, [], [], A1x rfl rfl kR At.mem qR, List.nil_sublist _, by simp, rfl, rfl, hi', lo', rfl, g1, g2, ?_⟩
 rw [g3, Nat.mul_one]
theorem A0u (hi lo : Nat) (h1 : hi < 18446744073709551616) (h2 : lo < 18446744073709551616) (A : Mem) : FnV Tryz.prog 90 [wd hi lo] A (.int .u64 (((hi * 18446744073709551616 + lo) / 2251799813685248 % 18446744073709551616 : Nat) : Int)) := by
 refine FnX.enter (N := 10) Tryz.func90 rfl rfl rfl fun w => ?_
 refine C4 (D8 0) (A3 ?_)
 refine A6 rfl (bx_ fun b1 => ?_)
 refine as_ (A0 (D8 1) (A3 ?_))
 refine A4 (qf_ 0 0) rfl ?_
 refine A4 ql_ rfl ?_
 refine A4 (B9g 13 8192 18446744073709551616 rfl rfl rfl rfl rfl rfl qD) rfl ?_
 refine A4 (qf_ 1 1) rfl ?_
 refine A4 ql_ rfl ?_
 refine A4 (P5 51 2251799813685248 rfl rfl rfl rfl qD) rfl ?_
 refine A4 (B5A rfl rfl rfl (by show _ < 18446744073709551616; omega) (by show _ < 18446744073709551616; omega)) rfl ?_
 refine as_ (A0 (D8 2) (C3 ?_))
 refine ⟨_, [], [], K2 rfl rfl, List.nil_sublist _, by simp, ?_, rfl, rfl⟩
 rw [or13 h1 h2]

def A0E : LN → List Value
  | [] => []
  | x :: r => .int .u64 ((x / 18446744073709551616 : Nat) : Int) :: .int .u64 ((x % 18446744073709551616 : Nat) : Int) :: A0E r
theorem B1n (Xs : LN) : (A0E Xs).length = 2 * Xs.length := by
  induction Xs with
  | nil => rfl
  | cons x r ih => simp [A0E, ih]; omega
theorem A6J : ∀ (Xs : LN) (j : Nat), j < Xs.length → (A0E Xs)[2 * j]? = some (.int .u64 ((Xs.getD j 0 / 18446744073709551616 : Nat) : Int)) ∧ (A0E Xs)[2 * j + 1]? = some (.int .u64 ((Xs.getD j 0 % 18446744073709551616 : Nat) : Int))
  | [], j, h => by simp at h
  | x :: r, 0, h => by simp [A0E]
  | x :: r, j + 1, h => by
    have := A6J r j (by simpa using h)
    rw [show 2 * (j + 1) = 2 * j + 1 + 1 by omega]
    simpa [A0E] using this
theorem A6K : ∀ (Xs : LN) (j x : Nat), j < Xs.length → (A0E Xs).take (2 * j) ++ [.int .u64 ((x / 18446744073709551616 : Nat) : Int), .int .u64 ((x % 18446744073709551616 : Nat) : Int)] ++ (A0E Xs).drop (2 * j + 2) = A0E (Xs.set j x)
  | [], j, x, h => by simp at h
  | y :: r, 0, x, h => by simp [A0E]
  | y :: r, j + 1, x, h => by
    have := A6K r j x (by simpa using h)
    rw [show 2 * (j + 1) = 2 * j + 1 + 1 by omega]
    simp only [A0E, List.take_succ_cons, List.cons_append, List.drop_succ_cons, List.set_cons_succ, this]
theorem B9E {P : Program} {R : Mem} {l : Env} {d : Option Nat} {ty t : TypeId} {pos : String} {af : Array Edge} {g : Option (Nat × Bool)} {x : Operand} {b o : Nat} {Xs : LN} {e : TypeId} {fr : Nat × Nat} (j : Nat) (hx : ev l x = some (.pointer (some ⟨b, o, none⟩))) (ht : A9q P t = some 2)
    (hb : (b, Obj.cells (A0E Xs).toArray e fr) ∈ R) (ho : o = 2 * j) (hj : j < Xs.length) : OpQ P R ⟨d, .load t x, ty, pos, af, g⟩ l (wd (Xs.getD j 0 / 18446744073709551616) (Xs.getD j 0 % 18446744073709551616)) := by
  subst ho
  obtain ⟨h1, h2⟩ := A6J Xs j hj
  refine A4U (vs := [.int .u64 ((Xs.getD j 0 / 18446744073709551616 : Nat) : Int), .int .u64 ((Xs.getD j 0 % 18446744073709551616 : Nat) : Int)]) hx ht hb rfl ?_
  intro i v hv
  match i, hv with
  | 0, hv => cases hv; exact h1
  | 1, hv => cases hv; exact h2
  | i + 2, hv => simp at hv
theorem B9F {C : Cx} {l : Env} {M J : Mem} {K : Env → Mem → Mem → Prop} {ty t : TypeId} {pos : String} {af : Array Edge} {g : Option (Nat × Bool)} {x y : Operand} {b o hi lo X : Nat} {Xs : LN} {e : TypeId} {M' : Mem} (j : Nat) (hx : ev l x = some (.pointer (some ⟨b, o, none⟩))) (hy : ev l y = some (wd hi lo))
    (ht : P7 C.P t = some 2) (ho : o = 2 * j) (hj : j < Xs.length) (hh : hi < 18446744073709551616) (hl : lo < 18446744073709551616) (hX : hi * 18446744073709551616 + lo = X) (hu : Upd M b (blk (A0E Xs) e) (blk (A0E (Xs.set j X)) e) M') (k : K l M' J) :
    OpL C ⟨none, .store t x y, ty, pos, af, g⟩ l M J K := by
  subst ho
  refine A4V (vs := [.int .u64 (hi : Int), .int .u64 (lo : Int)]) hx hy rfl ht (by rw [B1n]; simp; omega) (by simp [Value.oneCell']) ?_ hu k
  rw [← A6K Xs j X hj]
  have e1 : X / 18446744073709551616 = hi := by omega
  have e2 : X % 18446744073709551616 = lo := by omega
  rw [e1, e2]; rfl
theorem A4g {a : Nat} (h : a < 4503599627370496) : a < 18446744073709551616 := by omega
theorem C01 (h l : Nat) : l % 2251799813685248 = (h * 18446744073709551616 + l) % 2251799813685248 := by omega
theorem lowM (x : Nat) : x % 18446744073709551616 % 2251799813685248 = x % 2251799813685248 := by omega
theorem C02 (x : Nat) : x % 2251799813685248 < 4503599627370496 := by omega
theorem B9G {z1 z2 z3 z4 z5 y1 y2 y3 y4 y5 b : Nat} (h1 : z1 ≤ y1) (h2 : z2 ≤ y2) (h3 : z3 ≤ y3) (h4 : z4 ≤ y4) (h5 : z5 ≤ y5) (hb : y1 + y2 + y3 + y4 + y5 < b) : z1 + z2 + z3 + z4 + z5 < b := by omega
theorem back (X : Nat) : X / 18446744073709551616 * 18446744073709551616 + X % 18446744073709551616 = X := by omega
theorem B9H {xs : LN} {b i : Nat} (h : ∀ x ∈ xs, x < b) (hb : 0 < b) : xs.getD i 0 < b := getD_lt h hb
theorem A17 (v u : Value) (x y : Nat) (hx : Fe v x) (hy : Fe u y) (A : Mem) : FnX Tryz.prog 63 [v, u] [] A fun r M J => M = [] ∧ J = [] ∧ Fe r (x * y % p25) := by
 obtain ⟨a, b, c, d, e, rfl, hl0, hl1, hl2, hl3, hl4, rfl⟩ := hx
 obtain ⟨u0, u1, u2, u3, u4, rfl, hu0, hu1, hu2, hu3, hu4, rfl⟩ := hy
 refine FnX.enter (N := 105) Tryz.func63 rfl rfl rfl fun w => ?_
 refine C4 (D5 0 1) (A3 ?_)
 refine A6 rfl (bx_ fun b2 => ?_)
 refine A6 rfl (bx_ fun b3 => ?_)
 refine A6 rfl (C5 (cs := [A7, A7, A7, A7, A7]) kR rfl fun b4 => ?_)
 refine A0 (E2 2 3 4) (A3 ?_)
 refine A6 rfl (C5 (cs := [A7, A7, A7, A7, A7, A7, A7, A7, A7, A7]) kR rfl fun b5 => ?_)
 refine A0 (E7 2 3 4 5) (A5 (A3 (mv_ (A0 (F5 2 3 4 5 10) (C0 ?_)))))
 have has : ∀ x ∈ [a, b, c, d, e], x < 4503599627370496 := by intro x hx; simp only [List.mem_cons, List.not_mem_nil, or_false] at hx; rcases hx with rfl | rfl | rfl | rfl | rfl <;> assumption
 have hbs : ∀ x ∈ [u0, u1, u2, u3, u4], x < 4503599627370496 := by intro x hx; simp only [List.mem_cons, List.not_mem_nil, or_false] at hx; rcases hx with rfl | rfl | rfl | rfl | rfl <;> assumption
 have hall := B3Z a b c d e u0 u1 u2 u3 u4 hl0 hl1 hl2 hl3 hl4 hu0 hu1 hu2 hu3 hu4
 have hla : [a, b, c, d, e].length = 5 := rfl
 have hlb : [u0, u1, u2, u3, u4].length = 5 := rfl
 refine A0p (M' := [(b5, blk (A0E [0, 0, 0, 0, 0]) 146), (b4, blk [.int .u64 0, .int .u64 0, .int .u64 0, .int .u64 0, .int .u64 0] 113), (b3, blk (nums .u64 [u0, u1, u2, u3, u4]) 113), (b2, blk (nums .u64 [a, b, c, d, e]) 113)]) (Fit.eq rfl) qI ?_
 generalize [a, b, c, d, e] = xs at *
 generalize [u0, u1, u2, u3, u4] = ys at *
 refine F2 (α := Nat) (fun i => [(2, (vP b2)), (3, (vP b3)), (4, (vP b4)), (5, (vP b5)), (10, .int .i64 (i : Int))]) (fun i => [(b5, blk (A0E (A5t xs ys i)) 146), (b4, blk [.int .u64 0, .int .u64 0, .int .u64 0, .int .u64 0, .int .u64 0] 113), (b3, blk (nums .u64 ys) 113), (b2, blk (nums .u64 xs) 113)]) (fun _ => []) (fun i => i ≤ 5) (fun i => 5 - i) 0 qD (F5 2 3 4 5 10) .rfl qI ?_
 rintro i hi
 refine A3 ?_
 refine A4 (F1 rfl rfl rfl) rfl ?_
 refine A0 (I1 2 3 4 5 10 11) (A5 ?_)
 refine C7 rfl ?_ ?_ <;> intro hc
 ·
  have hi5 : i < 5 := by simp at hc; omega
  have hfa : xs.getD i 0 < 4503599627370496 := B9H has qD
  refine A9 (nx (F5 2 3 4 5 10) (A5 (C0 (A3 (mv_ (as_ (A0 (I1 2 3 4 5 6 10) (A3 ?_))))))))
  refine mv_ (A0 (Y0 2 3 4 5 6 10 13) (C0 ?_))
  refine F2 (α := Nat) (fun k => [(2, (vP b2)), (3, (vP b3)), (4, (vP b4)), (5, (vP b5)), (6, .int .i64 (i : Int)), (10, .int .i64 (i : Int)), (13, .int .i64 (k : Int))]) (fun k => [(b5, blk (A0E (A5s xs ys i k (A5t xs ys i))) 146), (b4, blk [.int .u64 0, .int .u64 0, .int .u64 0, .int .u64 0, .int .u64 0] 113), (b3, blk (nums .u64 ys) 113), (b2, blk (nums .u64 xs) 113)]) (fun _ => []) (fun k => k ≤ 5) (fun k => 5 - k) 0 qD (Y0 2 3 4 5 6 10 13) .rfl qI ?_
  rintro k hk
  refine A3 ?_
  refine A4 (F1 rfl rfl rfl) rfl ?_
  refine A0 (A2o 2 3 4 5 6 10 13 14) (A5 ?_)
  refine C7 rfl ?_ ?_ <;> intro hc
  ·
   have hk5 : k < 5 := by simp at hc; omega
   have hfb : ys.getD k 0 < 4503599627370496 := B9H hbs qD
   have hlx : (A5s xs ys i k (A5t xs ys i)).length = 5 := by rw [A8J, B3Y]
   have hXlt : ∀ j, (A5s xs ys i k (A5t xs ys i)).getD j 0 < 340282366920938463463374607431768211456 := fun j => getD_lt (B1i xs ys i k (B7q xs ys i)) qD
   refine A9 (nx (Y0 2 3 4 5 6 10 13) (A5 (C0 (A3 (mv_ (as_ (A0 (A2o 2 3 4 5 6 7 10 13) (A3 ?_))))))))
   refine mv_ (mv_ ?_)
   refine A4 (E3 ((i + k : Nat) : Int) rfl rfl (G3 qO qO qO)) rfl ?_
   refine A4 (F1 rfl rfl rfl) rfl ?_
   refine A0 (A7q 2 3 4 5 6 7 10 13 19) ?_
   refine C7 rfl ?_ ?_ <;> intro hc
   ·
    have hs5 : i + k < 5 := by simp at hc; omega
    have hj : B7o i k = i + k := by unfold B7o; rw [if_pos hs5]
    have hfx : B8R xs i k = xs.getD i 0 := by unfold B8R; rw [if_pos hs5]
    refine I9 (.range 16) (zp 0 [0, 0, 0, 0, 0, 0, 0, 1, 0, 0, 1, 0, 0, 1, 2, 0, 2]) kR kR fun hs => ?_
    refine fm_ hs ?_
    refine fm_ hs ?_
    refine D1 hs rfl (E3 ((i + k : Nat) : Int) rfl rfl (G3 qO qO qO)) rfl ?_
    refine fm_ hs ?_
    refine fm_ hs ?_
    refine D1 hs rfl (E3 ((i + k : Nat) : Int) rfl rfl (G3 qO qO qO)) rfl ?_
    refine D1 hs rfl (E5 (e := 145) (n := 5) (sz := 2) (i := i + k) rfl rfl kR kR rfl qO) rfl ?_
    refine F7 hs rfl (B9E (i + k) rfl kR At.mem qO qO) rfl ?_
    refine fm_ hs ?_
    refine D1 hs rfl (E5 (e := 99) (n := 5) (sz := 1) (i := i) rfl rfl kR kR rfl qO) rfl ?_
    refine F7 hs rfl (Q9 i rfl kR (by first | exact At.mem | exact mA (by assumption)) qO qO) rfl ?_
    refine fm_ hs ?_
    refine D1 hs rfl (E5 (e := 99) (n := 5) (sz := 1) (i := k) rfl rfl kR kR rfl qO) rfl ?_
    refine F7 hs rfl (Q9 k rfl kR (by first | exact At.mem | exact mA (by assumption)) qO qO) rfl ?_
    refine G1 rfl (aS rfl (aS rfl (aS rfl a0))) kR (A3M _ _ _ _ (by have := hXlt (i + k); omega) (Nat.mod_lt _ qD) (A4g hfa) (A4g hfb) _) rfl ?_
    rintro r1 M1 J1 ⟨rfl, rfl, h1, l1, rfl, g1, k1, e1⟩
    rw [back] at e1
    refine D1 hs rfl (E5 (e := 145) (n := 5) (sz := 2) (i := i + k) rfl rfl kR kR rfl qO) rfl ?_
    refine G5 rfl rfl rfl (B9F (Xs := A5s xs ys i k (A5t xs ys i)) (i + k) rfl rfl kR qO qO g1 k1 e1 UpC.upd ?_)
    rw [show (A5s xs ys i k (A5t xs ys i)).set (i + k) (((A5s xs ys i k (A5t xs ys i)).getD (i + k) 0 + xs.getD i 0 * ys.getD k 0) % 340282366920938463463374607431768211456) = A5s xs ys i (k + 1) (A5t xs ys i) by rw [A5s, B1h, hj, hfx]]
    refine V3 (nb (nx (Y0 2 3 4 5 6 10 13) (C2 ?_)))
    refine A4 (E3 ((k + 1 : Nat) : Int) rfl rfl (G3 qO qO qO)) rfl ?_
    refine mv_ (D0 ?_)
    exact rn (k + 1) qO qO (Y0 2 3 4 5 6 10 13) .rfl qI
   ·
    have hs5 : ¬ i + k < 5 := by simp at hc; omega
    have hj : B7o i k = i + k - 5 := by unfold B7o; rw [if_neg hs5]
    have hfx : B8R xs i k = 19 * xs.getD i 0 % 18446744073709551616 := by unfold B8R; rw [if_neg hs5]
    refine I9 (.range 19) (zp 0 [0, 0, 0, 0, 0, 0, 0, 0, 0, 1, 0, 0, 1, 0, 0, 0, 1, 2, 0, 2]) kR kR fun hs => ?_
    refine fm_ hs ?_
    refine fm_ hs ?_
    refine D1 hs rfl (E3 ((i + k : Nat) : Int) rfl rfl (G3 qO qO qO)) rfl ?_
    refine D1 hs rfl (E3 ((i + k - 5 : Nat) : Int) rfl rfl (Z9 qO qO qO)) rfl ?_
    refine fm_ hs ?_
    refine fm_ hs ?_
    refine D1 hs rfl (E3 ((i + k : Nat) : Int) rfl rfl (G3 qO qO qO)) rfl ?_
    refine D1 hs rfl (E3 ((i + k - 5 : Nat) : Int) rfl rfl (Z9 qO qO qO)) rfl ?_
    refine D1 hs rfl (E5 (e := 145) (n := 5) (sz := 2) (i := i + k - 5) rfl rfl kR kR rfl qO) rfl ?_
    refine F7 hs rfl (B9E (i + k - 5) rfl kR At.mem qO qO) rfl ?_
    refine fm_ hs ?_
    refine D1 hs rfl (E5 (e := 99) (n := 5) (sz := 1) (i := i) rfl rfl kR kR rfl qO) rfl ?_
    refine F7 hs rfl (Q9 i rfl kR (by first | exact At.mem | exact mA (by assumption)) qO qO) rfl ?_
    refine D1 hs rfl (S7 18446744073709551616 (a := 19) rfl rfl rfl rfl rfl rfl) rfl ?_
    refine fm_ hs ?_
    refine D1 hs rfl (E5 (e := 99) (n := 5) (sz := 1) (i := k) rfl rfl kR kR rfl qO) rfl ?_
    refine F7 hs rfl (Q9 k rfl kR (by first | exact At.mem | exact mA (by assumption)) qO qO) rfl ?_
    refine G1 rfl (aS rfl (aS rfl (aS rfl a0))) kR (A3M _ _ _ _ (by have := hXlt (i + k - 5); omega) (Nat.mod_lt _ qD) (Nat.mod_lt _ qD) (A4g hfb) _) rfl ?_
    rintro r1 M1 J1 ⟨rfl, rfl, h1, l1, rfl, g1, k1, e1⟩
    rw [back] at e1
    refine D1 hs rfl (E5 (e := 145) (n := 5) (sz := 2) (i := i + k - 5) rfl rfl kR kR rfl qO) rfl ?_
    refine G5 rfl rfl rfl (B9F (Xs := A5s xs ys i k (A5t xs ys i)) (i + k - 5) rfl rfl kR qO qO g1 k1 e1 UpC.upd ?_)
    rw [show (A5s xs ys i k (A5t xs ys i)).set (i + k - 5) (((A5s xs ys i k (A5t xs ys i)).getD (i + k - 5) 0 + (19 * xs.getD i 0 % 18446744073709551616) * ys.getD k 0) % 340282366920938463463374607431768211456) = A5s xs ys i (k + 1) (A5t xs ys i) by rw [A5s, B1h, hj, hfx]]
    refine V3 (nb (nx (Y0 2 3 4 5 6 10 13) (C2 ?_)))
    refine A4 (E3 ((k + 1 : Nat) : Int) rfl rfl (G3 qO qO qO)) rfl ?_
    refine mv_ (D0 ?_)
    exact rn (k + 1) qO qO (Y0 2 3 4 5 6 10 13) .rfl qI
  ·
   have hk5 : k = 5 := by simp at hc; omega
   subst hk5
   refine E6 (te (re (be rfl (nb (nx (F5 2 3 4 5 10) (C2 ?_))))))
   refine A4 (E3 ((i + 1 : Nat) : Int) rfl rfl (G3 qO qO qO)) rfl ?_
   refine mv_ (D0 ?_)
   exact rn (i + 1) qO qO (F5 2 3 4 5 10) .rfl qI
 ·
  have hi5 : i = 5 := by simp at hc; omega
  subst hi5
  rw [hall]
  clear hall
  have z00 := zb hl0 hu0
  have z01 := A4F hl1 hu4
  have z02 := A4F hl2 hu3
  have z03 := A4F hl3 hu2
  have z04 := A4F hl4 hu1
  have y0 := B9G z00 z01 z02 z03 z04 (b := 2596148429267413814265248164610048) qD
  clear z00 z01 z02 z03 z04
  have z10 := zb hl0 hu1
  have z11 := zb hl1 hu0
  have z12 := A4F hl2 hu4
  have z13 := A4F hl3 hu3
  have z14 := A4F hl4 hu2
  have y1 := B9G z10 z11 z12 z13 z14 (b := 2596148429267413814265248164610048) qD
  clear z10 z11 z12 z13 z14
  have z20 := zb hl0 hu2
  have z21 := zb hl1 hu1
  have z22 := zb hl2 hu0
  have z23 := A4F hl3 hu4
  have z24 := A4F hl4 hu3
  have y2 := B9G z20 z21 z22 z23 z24 (b := 2596148429267413814265248164610048) qD
  clear z20 z21 z22 z23 z24
  have z30 := zb hl0 hu3
  have z31 := zb hl1 hu2
  have z32 := zb hl2 hu1
  have z33 := zb hl3 hu0
  have z34 := A4F hl4 hu4
  have y3 := B9G z30 z31 z32 z33 z34 (b := 2596148429267413814265248164610048) qD
  clear z30 z31 z32 z33 z34
  have z40 := zb hl0 hu4
  have z41 := zb hl1 hu3
  have z42 := zb hl2 hu2
  have z43 := zb hl3 hu1
  have z44 := zb hl4 hu0
  have y4 := B9G z40 z41 z42 z43 z44 (b := 162259276829213363391578010288128) qD
  clear z40 z41 z42 z43 z44
  have hring := B3X a b c d e u0 u1 u2 u3 u4
  generalize a * u0 + 19 * b * u4 + 19 * c * u3 + 19 * d * u2 + 19 * e * u1 = R0 at *
  generalize a * u1 + b * u0 + 19 * c * u4 + 19 * d * u3 + 19 * e * u2 = R1 at *
  generalize a * u2 + b * u1 + c * u0 + 19 * d * u4 + 19 * e * u3 = R2 at *
  generalize a * u3 + b * u2 + c * u1 + d * u0 + 19 * e * u4 = R3 at *
  generalize a * u4 + b * u3 + c * u2 + d * u1 + e * u0 = R4 at *
  have x0 : R0 / 18446744073709551616 < 18446744073709551616 := by omega
  have x1 : R1 / 18446744073709551616 < 18446744073709551616 := by omega
  have x2 : R2 / 18446744073709551616 < 18446744073709551616 := by omega
  have x3 : R3 / 18446744073709551616 < 18446744073709551616 := by omega
  have x4 : R4 / 18446744073709551616 < 18446744073709551616 := by omega
  simp only [A0E]
  refine E6 (te (re (be rfl (nx (D5 4 5) (A3 ?_)))))
  refine A6 rfl (C5 (cs := [A7, A7, A7, A7, A7]) kR rfl fun b8 => ?_)
  refine A0 (E2 4 5 8) (A5 (A3 (mv_ (A0 (E7 4 5 8 57) (C0 ?_)))))
  refine Y7 5 ?_
  refine H3 ?_
  refine A3 ?_
  refine A4 (F4 true rfl rfl (ltT qD)) rfl ?_
  refine A0 (F5 4 5 8 57 58) (A5 ?_)
  refine E0 rfl ?_
  refine A9 (nx (E7 4 5 8 57) (A5 (C0 (A3 (mv_ (as_ (A0 (F5 4 5 8 9 57) ?_)))))))
  refine D2 (.range 12) (zp 0 [0, 0, 0, 0, 0, 1, 0, 0, 1, 2, 2, 0, 2]) kR kR fun hs => ?_
  refine fm_ hs ?_
  refine D1 hs rfl (E3 (1 : Int) rfl rfl (G3 qD qD qD)) rfl ?_
  refine fm_ hs ?_
  refine D1 hs rfl (E3 (1 : Int) rfl rfl (G3 qD qD qD)) rfl ?_
  refine D1 hs rfl (qi_ 2 145 5 2 1) rfl ?_
  refine F7 hs rfl (H2 (n := 2) rfl kR (by first | exact At.mem | exact mA (by assumption)) TakeC.take) rfl ?_
  refine fm_ hs ?_
  refine D1 hs rfl (qi_ 0 145 5 2 0) rfl ?_
  refine F7 hs rfl (H2 (n := 2) rfl kR (by first | exact At.mem | exact mA (by assumption)) TakeC.take) rfl ?_
  refine T6 rfl (aS rfl a0) kR (A0u _ _ (by first | assumption | exact A4g (by assumption) | decide | exact Nat.mod_lt _ qD) (by first | assumption | exact A4g (by assumption) | decide | exact Nat.mod_lt _ qD) _) rfl ?_
  refine G1 rfl (aS rfl (aS rfl a0)) kR (A1h _ _ _ (by first | assumption | exact A4g (by assumption) | decide | exact Nat.mod_lt _ qD) (by first | assumption | exact A4g (by assumption) | decide | exact Nat.mod_lt _ qD) (Nat.mod_lt _ qD) _) rfl ?_
  rintro r1 M1 J1 ⟨rfl, rfl, h1, l1, rfl, g1, k1, qq1⟩
  refine D1 hs rfl (qi_ 2 145 5 2 1) rfl ?_
  refine G5 rfl rfl rfl (A28 rfl rfl kR al2 UpC.upd ?_)
  refine E4 (F5 4 5 8 9 57) (C2 (mv_ (mv_ ?_)))
  refine A4 (qi_ 0 145 5 2 0) rfl ?_
  refine A4 (qf_ 1 1) rfl ?_
  refine A4 ql_ rfl ?_
  refine A4 (N4 51 2251799813685248 rfl rfl rfl rfl rfl (by show _ < 18446744073709551616; first | assumption | exact Nat.mod_lt _ qD | omega) qD) rfl ?_
  refine A4 (qi_ 0 99 5 1 0) rfl ?_
  refine A6 rfl (D6 rfl rfl rfl kR SetC.set UpC.upd ?_)
  refine D0 (nb (nx (E7 4 5 8 57) (C2 ?_)))
  refine A4 (E3 (1 : Int) rfl rfl (G3 qD qD qD)) rfl ?_
  refine mv_ (D0 ?_)
  refine un (E7 4 5 8 57) ?_
  refine H3 ?_
  refine A3 ?_
  refine A4 (F4 true rfl rfl (ltT qD)) rfl ?_
  refine A0 (F5 4 5 8 57 58) (A5 ?_)
  refine E0 rfl ?_
  refine A9 (nx (E7 4 5 8 57) (A5 (C0 (A3 (mv_ (as_ (A0 (F5 4 5 8 9 57) ?_)))))))
  refine D2 (.range 12) (zp 0 [0, 0, 0, 0, 0, 1, 0, 0, 1, 2, 2, 0, 2]) kR kR fun hs => ?_
  refine fm_ hs ?_
  refine D1 hs rfl (E3 (2 : Int) rfl rfl (G3 qD qD qD)) rfl ?_
  refine fm_ hs ?_
  refine D1 hs rfl (E3 (2 : Int) rfl rfl (G3 qD qD qD)) rfl ?_
  refine D1 hs rfl (qi_ 4 145 5 2 2) rfl ?_
  refine F7 hs rfl (H2 (n := 2) rfl kR (by first | exact At.mem | exact mA (by assumption)) TakeC.take) rfl ?_
  refine fm_ hs ?_
  refine D1 hs rfl (qi_ 2 145 5 2 1) rfl ?_
  refine F7 hs rfl (H2 (n := 2) rfl kR (by first | exact At.mem | exact mA (by assumption)) TakeC.take) rfl ?_
  refine T6 rfl (aS rfl a0) kR (A0u _ _ (by first | assumption | exact A4g (by assumption) | decide | exact Nat.mod_lt _ qD) (by first | assumption | exact A4g (by assumption) | decide | exact Nat.mod_lt _ qD) _) rfl ?_
  refine G1 rfl (aS rfl (aS rfl a0)) kR (A1h _ _ _ (by first | assumption | exact A4g (by assumption) | decide | exact Nat.mod_lt _ qD) (by first | assumption | exact A4g (by assumption) | decide | exact Nat.mod_lt _ qD) (Nat.mod_lt _ qD) _) rfl ?_
  rintro r2 M2 J2 ⟨rfl, rfl, h2, l2, rfl, g2, k2, qq2⟩
  refine D1 hs rfl (qi_ 4 145 5 2 2) rfl ?_
  refine G5 rfl rfl rfl (A28 rfl rfl kR al2 UpC.upd ?_)
  refine E4 (F5 4 5 8 9 57) (C2 (mv_ (mv_ ?_)))
  refine A4 (qi_ 2 145 5 2 1) rfl ?_
  refine A4 (qf_ 3 1) rfl ?_
  refine A4 ql_ rfl ?_
  refine A4 (N4 51 2251799813685248 rfl rfl rfl rfl rfl (by show _ < 18446744073709551616; first | assumption | exact Nat.mod_lt _ qD | omega) qD) rfl ?_
  refine A4 (qi_ 1 99 5 1 1) rfl ?_
  refine A6 rfl (D6 rfl rfl rfl kR SetC.set UpC.upd ?_)
  refine D0 (nb (nx (E7 4 5 8 57) (C2 ?_)))
  refine A4 (E3 (2 : Int) rfl rfl (G3 qD qD qD)) rfl ?_
  refine mv_ (D0 ?_)
  refine un (E7 4 5 8 57) ?_
  refine H3 ?_
  refine A3 ?_
  refine A4 (F4 true rfl rfl (ltT qD)) rfl ?_
  refine A0 (F5 4 5 8 57 58) (A5 ?_)
  refine E0 rfl ?_
  refine A9 (nx (E7 4 5 8 57) (A5 (C0 (A3 (mv_ (as_ (A0 (F5 4 5 8 9 57) ?_)))))))
  refine D2 (.range 12) (zp 0 [0, 0, 0, 0, 0, 1, 0, 0, 1, 2, 2, 0, 2]) kR kR fun hs => ?_
  refine fm_ hs ?_
  refine D1 hs rfl (E3 (3 : Int) rfl rfl (G3 qD qD qD)) rfl ?_
  refine fm_ hs ?_
  refine D1 hs rfl (E3 (3 : Int) rfl rfl (G3 qD qD qD)) rfl ?_
  refine D1 hs rfl (qi_ 6 145 5 2 3) rfl ?_
  refine F7 hs rfl (H2 (n := 2) rfl kR (by first | exact At.mem | exact mA (by assumption)) TakeC.take) rfl ?_
  refine fm_ hs ?_
  refine D1 hs rfl (qi_ 4 145 5 2 2) rfl ?_
  refine F7 hs rfl (H2 (n := 2) rfl kR (by first | exact At.mem | exact mA (by assumption)) TakeC.take) rfl ?_
  refine T6 rfl (aS rfl a0) kR (A0u _ _ (by first | assumption | exact A4g (by assumption) | decide | exact Nat.mod_lt _ qD) (by first | assumption | exact A4g (by assumption) | decide | exact Nat.mod_lt _ qD) _) rfl ?_
  refine G1 rfl (aS rfl (aS rfl a0)) kR (A1h _ _ _ (by first | assumption | exact A4g (by assumption) | decide | exact Nat.mod_lt _ qD) (by first | assumption | exact A4g (by assumption) | decide | exact Nat.mod_lt _ qD) (Nat.mod_lt _ qD) _) rfl ?_
  rintro r3 M3 J3 ⟨rfl, rfl, h3, l3, rfl, g3, k3, qq3⟩
  refine D1 hs rfl (qi_ 6 145 5 2 3) rfl ?_
  refine G5 rfl rfl rfl (A28 rfl rfl kR al2 UpC.upd ?_)
  refine E4 (F5 4 5 8 9 57) (C2 (mv_ (mv_ ?_)))
  refine A4 (qi_ 4 145 5 2 2) rfl ?_
  refine A4 (qf_ 5 1) rfl ?_
  refine A4 ql_ rfl ?_
  refine A4 (N4 51 2251799813685248 rfl rfl rfl rfl rfl (by show _ < 18446744073709551616; first | assumption | exact Nat.mod_lt _ qD | omega) qD) rfl ?_
  refine A4 (qi_ 2 99 5 1 2) rfl ?_
  refine A6 rfl (D6 rfl rfl rfl kR SetC.set UpC.upd ?_)
  refine D0 (nb (nx (E7 4 5 8 57) (C2 ?_)))
  refine A4 (E3 (3 : Int) rfl rfl (G3 qD qD qD)) rfl ?_
  refine mv_ (D0 ?_)
  refine un (E7 4 5 8 57) ?_
  refine H3 ?_
  refine A3 ?_
  refine A4 (F4 true rfl rfl (ltT qD)) rfl ?_
  refine A0 (F5 4 5 8 57 58) (A5 ?_)
  refine E0 rfl ?_
  refine A9 (nx (E7 4 5 8 57) (A5 (C0 (A3 (mv_ (as_ (A0 (F5 4 5 8 9 57) ?_)))))))
  refine D2 (.range 12) (zp 0 [0, 0, 0, 0, 0, 1, 0, 0, 1, 2, 2, 0, 2]) kR kR fun hs => ?_
  refine fm_ hs ?_
  refine D1 hs rfl (E3 (4 : Int) rfl rfl (G3 qD qD qD)) rfl ?_
  refine fm_ hs ?_
  refine D1 hs rfl (E3 (4 : Int) rfl rfl (G3 qD qD qD)) rfl ?_
  refine D1 hs rfl (qi_ 8 145 5 2 4) rfl ?_
  refine F7 hs rfl (H2 (n := 2) rfl kR (by first | exact At.mem | exact mA (by assumption)) TakeC.take) rfl ?_
  refine fm_ hs ?_
  refine D1 hs rfl (qi_ 6 145 5 2 3) rfl ?_
  refine F7 hs rfl (H2 (n := 2) rfl kR (by first | exact At.mem | exact mA (by assumption)) TakeC.take) rfl ?_
  refine T6 rfl (aS rfl a0) kR (A0u _ _ (by first | assumption | exact A4g (by assumption) | decide | exact Nat.mod_lt _ qD) (by first | assumption | exact A4g (by assumption) | decide | exact Nat.mod_lt _ qD) _) rfl ?_
  refine G1 rfl (aS rfl (aS rfl a0)) kR (A1h _ _ _ (by first | assumption | exact A4g (by assumption) | decide | exact Nat.mod_lt _ qD) (by first | assumption | exact A4g (by assumption) | decide | exact Nat.mod_lt _ qD) (Nat.mod_lt _ qD) _) rfl ?_
  rintro r4 M4 J4 ⟨rfl, rfl, h4, l4, rfl, g4, k4, qq4⟩
  refine D1 hs rfl (qi_ 8 145 5 2 4) rfl ?_
  refine G5 rfl rfl rfl (A28 rfl rfl kR al2 UpC.upd ?_)
  refine E4 (F5 4 5 8 9 57) (C2 (mv_ (mv_ ?_)))
  refine A4 (qi_ 6 145 5 2 3) rfl ?_
  refine A4 (qf_ 7 1) rfl ?_
  refine A4 ql_ rfl ?_
  refine A4 (N4 51 2251799813685248 rfl rfl rfl rfl rfl (by show _ < 18446744073709551616; first | assumption | exact Nat.mod_lt _ qD | omega) qD) rfl ?_
  refine A4 (qi_ 3 99 5 1 3) rfl ?_
  refine A6 rfl (D6 rfl rfl rfl kR SetC.set UpC.upd ?_)
  refine D0 (nb (nx (E7 4 5 8 57) (C2 ?_)))
  refine A4 (E3 (4 : Int) rfl rfl (G3 qD qD qD)) rfl ?_
  refine mv_ (D0 ?_)
  refine un (E7 4 5 8 57) ?_
  refine H3 ?_
  refine A3 ?_
  refine A4 (F4 false rfl rfl (ltF qD)) rfl ?_
  refine A0 (F5 4 5 8 57 58) (A5 ?_)
  refine D3 rfl ?_
  refine E6 (te (ue (be rfl (nx (E2 4 5 8) (A3 ?_)))))
  refine A4 (qi_ 8 145 5 2 4) rfl ?_
  refine A4 (qf_ 9 1) rfl ?_
  refine A4 ql_ rfl ?_
  refine A4 (N4 51 2251799813685248 rfl rfl rfl rfl rfl (by show _ < 18446744073709551616; first | assumption | exact Nat.mod_lt _ qD | omega) qD) rfl ?_
  refine A4 (qi_ 4 99 5 1 4) rfl ?_
  refine A6 rfl (D6 rfl rfl rfl kR SetC.set UpC.upd ?_)
  refine A0 (E2 4 5 8) ?_
  refine D2 (.range 8) (zp 0 [0, 1, 0, 1, 2, 0, 0, 0, 2]) kR kR fun hs => ?_
  refine D1 hs rfl (qi_ 0 99 5 1 0) rfl ?_
  refine F7 hs rfl ql_ rfl ?_
  refine D1 hs rfl (qi_ 8 145 5 2 4) rfl ?_
  refine F7 hs rfl (H2 (n := 2) rfl kR (by first | exact At.mem | exact mA (by assumption)) TakeC.take) rfl ?_
  refine T6 rfl (aS rfl a0) kR (A0u _ _ (by first | assumption | exact A4g (by assumption) | decide | exact Nat.mod_lt _ qD) (by first | assumption | exact A4g (by assumption) | decide | exact Nat.mod_lt _ qD) _) rfl ?_
  refine D1 hs rfl (S7 18446744073709551616 (a := 19) rfl rfl rfl rfl rfl rfl) rfl ?_
  refine D1 hs rfl (I6 18446744073709551616 rfl rfl rfl rfl rfl rfl) rfl ?_
  refine D1 hs rfl (qi_ 0 99 5 1 0) rfl ?_
  refine G5 rfl rfl rfl (D6 rfl rfl rfl kR SetC.set UpC.upd ?_)
  refine E4 (D5 4 8) (A3 ?_)
  refine A4 (qi_ 1 99 5 1 1) rfl ?_
  refine A4 ql_ rfl ?_
  refine A4 (qi_ 0 99 5 1 0) rfl ?_
  refine A4 ql_ rfl ?_
  refine A4 (P5 51 2251799813685248 rfl rfl rfl rfl qD) rfl ?_
  refine A4 (I6 18446744073709551616 rfl rfl rfl rfl rfl rfl) rfl ?_
  refine A4 (qi_ 1 99 5 1 1) rfl ?_
  refine A6 rfl (D6 rfl rfl rfl kR SetC.set UpC.upd ?_)
  refine A0 (D5 4 8) (A3 ?_)
  refine A4 (qi_ 0 99 5 1 0) rfl ?_
  refine A4 ql_ rfl ?_
  refine A4 (N4 51 2251799813685248 rfl rfl rfl rfl rfl (by show _ < 18446744073709551616; first | assumption | exact Nat.mod_lt _ qD | omega) qD) rfl ?_
  refine A4 (qi_ 0 99 5 1 0) rfl ?_
  refine A6 rfl (D6 rfl rfl rfl kR SetC.set UpC.upd ?_)
  refine A0 (D5 4 8) (A3 ?_)
  refine A4 (qw_ 5) rfl ?_
  refine A6 rfl (A8 rfl rfl Cel.cel kR ln5 al5 UpC.upd ?_)
  refine A0 (D8 4) (C3 ?_)
  rw [back] at qq1
  rw [back] at qq1
  rw [back] at qq2
  rw [back] at qq3
  rw [back] at qq4
  obtain ⟨t1, t2⟩ := B3V y0 y1 y2 y3 y4 qq1 qq2 qq3 qq4 (lowM R0) (C01 _ _) (C01 _ _) (C01 _ _) (C01 _ _) rfl rfl
  refine ⟨_, [], [], A1x rfl rfl kR At.mem qR, List.nil_sublist _, by simp, rfl, rfl, _, _, _, _, _, rfl, C02 _, t1, C02 _, C02 _, C02 _, ?_⟩
  rw [N6 t2, ← Nat.mul_mod, hring, Nat.add_mul_mod_self_left]
theorem K8 : Fe (el 0 0 0 0 0) 0 := ⟨0, 0, 0, 0, 0, rfl, by decide, by decide, by decide, by decide, by decide, rfl⟩
theorem A0g (v : Value) (x : Nat) (hx : Fe v x) (A : Mem) : FnX Tryz.prog 86 [v] [] A fun r M J => M = [] ∧ J = [] ∧ Fe r (x * x % p25) := by
 have hx0 := hx
 obtain ⟨a, b, c, d, e, rfl, -⟩ := hx
 refine FnX.enter (N := 6) Tryz.func86 rfl rfl rfl fun w => ?_
 refine C4 (D8 0) (A3 ?_)
 refine A6 rfl (bx_ fun b1 => ?_)
 refine A6 rfl (C5 (cs := [A7, A7, A7, A7, A7]) kR rfl fun b2 => ?_)
 refine A0 (D5 1 2) (A3 ?_)
 refine A4 (qw_ 5) rfl ?_
 refine A4 (qw_ 5) rfl ?_
 refine C9 (aS rfl (aS rfl a0)) kR (A17 _ _ _ _ (by exact hx0) (by exact hx0) _) rfl ?_
 rintro r1 M1 J1 ⟨rfl, rfl, a1, b1, c1, d1, e1, rfl, hr⟩
 refine A6 rfl (A8 rfl rfl Cel.cel kR ln5 al5 UpC.upd ?_)
 refine A0 (D8 2) (C3 ?_)
 exact ⟨_, [], [], A1x rfl rfl kR At.mem qR, List.nil_sublist _, by simp, rfl, rfl, a1, b1, c1, d1, e1, rfl, hr⟩
theorem B1o (v : Value) (x : Nat) (hx : Fe v x) (A : Mem) : FnX Tryz.prog 110 [v] [] A fun r M J => M = [] ∧ J = [] ∧ Fe r ((p25 - x) % p25) := by
 have hx0 := hx
 obtain ⟨a, b, c, d, e, rfl, -⟩ := hx
 refine FnX.enter (N := 6) Tryz.func110 rfl rfl rfl fun w => ?_
 refine C4 (D8 0) (A3 ?_)
 refine A6 rfl (bx_ fun b1 => ?_)
 refine A6 rfl (C5 (cs := [A7, A7, A7, A7, A7]) kR rfl fun b2 => ?_)
 refine A0 (D5 1 2) (A3 ?_)
 refine A4 (F3 (place := fun i => some (i * 1, 1)) (z := [A7, A7, A7, A7, A7]) (fun _ => by kernel_rfl) e0 bd0) rfl ?_
 refine A4 (qw_ 5) rfl ?_
 refine C9 (aS rfl (aS rfl a0)) kR (A6I _ _ _ _ (by exact K8) (by exact hx0) _) rfl ?_
 rintro r1 M1 J1 ⟨rfl, rfl, hr⟩
 rw [Nat.zero_add] at hr
 obtain ⟨a1, b1, c1, d1, e1, rfl, hr⟩ := hr
 refine A6 rfl (A8 rfl rfl Cel.cel kR ln5 al5 UpC.upd ?_)
 refine A0 (D8 2) (C3 ?_)
 exact ⟨_, [], [], A1x rfl rfl kR At.mem qR, List.nil_sublist _, by simp, rfl, rfl, a1, b1, c1, d1, e1, rfl, hr⟩
theorem A3N (n : Nat) (hn : n < 4294967296) (A : Mem) : FnX Tryz.prog 60 [.int .u32 (n : Int)] [] A fun r M J => M = [] ∧ J = [] ∧ Fe r n := by
 refine FnX.enter (N := 6) Tryz.func60 rfl rfl rfl fun w => ?_
 refine C4 (D8 0) (A3 ?_)
 refine A6 rfl (C5 (cs := [A7, A7, A7, A7, A7]) kR rfl fun b2 => ?_)
 refine A0 (D5 0 2) (A3 (mv_ ?_))
 refine A4 (B0q rfl kR) rfl ?_
 refine A4 (F3 (place := fun i => some (i * 1, 1)) (z := [A7, A7, A7, A7, A7]) (fun _ => by kernel_rfl) (eS rfl e0) (bdS 0 1 rfl qR bd0)) rfl ?_
 refine A6 rfl (A8 rfl rfl Cel.cel kR ln5 al5 UpC.upd ?_)
 refine A0 (D8 2) (C3 ?_)
 refine ⟨_, [], [], A1x rfl rfl kR At.mem qR, List.nil_sublist _, by simp, rfl, rfl, n % 18446744073709551616, 0, 0, 0, 0, rfl, by omega, by decide, by decide, by decide, by decide, ?_⟩
 unfold fv p25; omega

end Go.Proofs.YtoigcbkclcbmpaaGreatDoor
namespace Go.Px
def bv : List Nat → Nat
  | [] => 0
  | b :: r => b + 256 * bv r
theorem B7s {p : List Nat} (h : ∀ x ∈ p, x < 256) : bv p < 256 ^ p.length := by
  induction p with
  | nil => decide
  | cons b r ih =>
    have h1 := h b (by simp)
    have h2 := ih fun x hx => h x (by simp [hx])
    simp only [bv, List.length_cons, Nat.pow_succ]; omega
theorem A7L {p : List Nat} (h : ∀ x ∈ p, x < 256) (i : Nat) : bv p / 256 ^ i % 256 = p.getD i 0 := by
  induction p generalizing i with
  | nil => simp [bv]
  | cons b r ih =>
    have h1 := h b (by simp)
    cases i with
    | zero => simp only [bv, Nat.pow_zero, Nat.div_one, List.getD_cons_zero]; omega
    | succ i =>
      rw [List.getD_cons_succ, ← ih (fun x hx => h x (by simp [hx])) i, Nat.pow_succ, Nat.mul_comm, ← Nat.div_div_eq_div_mul]
      congr 2
      simp only [bv]; omega
theorem A6L {p : List Nat} (h : ∀ x ∈ p, x < 256) (i : Nat) : p.getD (i / 8) 0 / 2 ^ (i % 8) % 2 = bv p / 2 ^ i % 2 := by
  rw [← A7L h, show (256 : Nat) = 2 ^ 8 from rfl, ← Nat.pow_mul]
  have h1 : i % 8 < 8 := Nat.mod_lt _ (by decide)
  have e : 2 ^ 8 = 2 ^ (i % 8) * (2 * 2 ^ (7 - i % 8)) := by rw [← Nat.pow_succ', ← Nat.pow_add]; congr 1; omega
  rw [e, Nat.mod_mul_right_div_self, Nat.mod_mul_right_mod, Nat.div_div_eq_div_mul, ← Nat.pow_add]
  congr 3; omega
def prt (w N i j : Nat) : Nat := N % 2 ^ i / 2 ^ (w * j) % 2 ^ w
theorem B4a {w N i : Nat} (hw : 0 < w) : prt w N (i + 1) (i / w) = (prt w N i (i / w) ||| (N / 2 ^ i % 2) <<< (i % w)) := by
  have hr : i % w < w := Nat.mod_lt _ hw
  have hi : w * (i / w) + i % w = i := Nat.div_add_mod i w
  have hX : N % 2 ^ i / 2 ^ (w * (i / w)) < 2 ^ (i % w) := by
    rw [Nat.div_lt_iff_lt_mul (Nat.two_pow_pos _), ← Nat.pow_add, Nat.add_comm, hi]
    exact Nat.mod_lt _ (Nat.two_pow_pos _)
  have hle : 2 ^ (i % w) * 2 ≤ 2 ^ w := by rw [← Nat.pow_succ]; exact Nat.pow_le_pow_right (by decide) hr
  have hb : N / 2 ^ i % 2 < 2 := Nat.mod_lt _ (by decide)
  unfold prt
  rw [Nat.mod_eq_of_lt (Nat.lt_of_lt_of_le hX (by omega)), Nat.or_comm, ← Nat.shiftLeft_add_eq_or_of_lt hX, Nat.mod_pow_succ]
  have e : (N % 2 ^ i + 2 ^ i * (N / 2 ^ i % 2)) / 2 ^ (w * (i / w)) = N % 2 ^ i / 2 ^ (w * (i / w)) + 2 ^ (i % w) * (N / 2 ^ i % 2) := by
    conv => lhs; rw [show 2 ^ i * (N / 2 ^ i % 2) = 2 ^ (w * (i / w)) * (2 ^ (i % w) * (N / 2 ^ i % 2)) by rw [← Nat.mul_assoc, ← Nat.pow_add, hi]]
    rw [Nat.add_mul_div_left _ _ (Nat.two_pow_pos _)]
  rw [e, Nat.shiftLeft_eq, Nat.mod_eq_of_lt, Nat.add_comm, Nat.mul_comm]
  generalize N / 2 ^ i % 2 = b at *
  have : 2 ^ (i % w) * b ≤ 2 ^ (i % w) * 1 := Nat.mul_le_mul_left _ (by omega)
  omega
theorem B4b {w N i j : Nat} (hw : 0 < w) (h : j ≠ i / w) : prt w N (i + 1) j = prt w N i j := by
  have hi : w * (i / w) + i % w = i := Nat.div_add_mod i w
  have hr : i % w < w := Nat.mod_lt _ hw
  unfold prt
  rw [Nat.mod_pow_succ]
  rcases Nat.lt_or_gt_of_ne h with hl | hg
  · have hge : w * (j + 1) ≤ i := by
      have := Nat.mul_le_mul_left w (show j + 1 ≤ i / w from hl)
      omega
    have e : 2 ^ i * (N / 2 ^ i % 2) = 2 ^ (w * j) * (2 ^ w * (2 ^ (i - w * (j + 1)) * (N / 2 ^ i % 2))) := by
      rw [← Nat.mul_assoc, ← Nat.mul_assoc, ← Nat.pow_add, ← Nat.pow_add]
      congr 2
      rw [Nat.mul_add] at hge ⊢; omega
    rw [e, Nat.add_mul_div_left _ _ (Nat.two_pow_pos _), Nat.add_mul_mod_self_left]
  · have hge : i + 1 ≤ w * j := by
      have := Nat.mul_le_mul_left w (show i / w + 1 ≤ j from hg)
      rw [Nat.mul_add] at this; omega
    have h1 : N % 2 ^ i < 2 ^ (w * j) := Nat.lt_of_lt_of_le (Nat.mod_lt _ (Nat.two_pow_pos _)) (Nat.pow_le_pow_right (by decide) (by omega))
    have h2 : N % 2 ^ i + 2 ^ i * (N / 2 ^ i % 2) < 2 ^ (w * j) := by
      rw [← Nat.mod_pow_succ]
      exact Nat.lt_of_lt_of_le (Nat.mod_lt _ (Nat.two_pow_pos _)) (Nat.pow_le_pow_right (by decide) hge)
    rw [Nat.div_eq_of_lt h1, Nat.div_eq_of_lt h2]
def X3 (w n N i : Nat) : List Nat := (List.range n).map (prt w N i)
theorem L4 (w n N i : Nat) : (X3 w n N i).length = n := by simp [X3]
theorem A1i {w n N i j : Nat} (h : j < n) : (X3 w n N i).getD j 0 = prt w N i j := by simp [X3, List.getD, h]
theorem A3O (w n N : Nat) : X3 w n N 0 = List.replicate n 0 := by
  apply List.ext_getElem?
  intro j
  simp only [X3, List.getElem?_map, List.getElem?_replicate]
  by_cases h : j < n
  · simp [h, prt, Nat.mod_one]
  · simp [h]
theorem A3P {w n N i : Nat} (hw : 0 < w) (hi : i / w < n) : X3 w n N (i + 1) = (X3 w n N i).set (i / w) (prt w N i (i / w) ||| (N / 2 ^ i % 2) <<< (i % w)) := by
  apply List.ext_getElem?
  intro j
  rw [List.getElem?_set]
  simp only [X3, List.getElem?_map, List.length_map, List.length_range]
  by_cases h : j < n
  · by_cases e : i / w = j
    · subst e; simp [h, B4a hw]
    · simp [h, e, B4b hw (fun h => e h.symm)]
  · have : i / w ≠ j := by omega
    simp [h, this]
theorem A6M (p q : List Nat) : bv (p ++ q) = bv p + 256 ^ p.length * bv q := by
  induction p with
  | nil => simp [bv]
  | cons b r ih => simp only [List.cons_append, bv, ih, List.length_cons, Nat.pow_succ]; grind
theorem A18 (X : Nat) : ∀ n, bv ((List.range n).map fun j => X / 2 ^ (8 * j) % 2 ^ 8) = X % 2 ^ (8 * n)
  | 0 => by simp [bv, Nat.mod_one]
  | n + 1 => by
    rw [List.range_succ, List.map_append, A6M, A18 X n, List.length_map, List.length_range]
    simp only [List.map_cons, List.map_nil, bv, Nat.mul_zero, Nat.add_zero]
    rw [show (256 : Nat) ^ n = 2 ^ (8 * n) by rw [Nat.pow_mul], show 8 * (n + 1) = 8 * n + 8 by omega, Nat.pow_add, Nat.mod_mul]
theorem A5u (x : Nat) : bv (X3 8 32 x 255) = x % 2 ^ 255 := by
  unfold X3 prt
  rw [A18, Nat.mod_eq_of_lt]
  exact Nat.lt_of_lt_of_le (Nat.mod_lt _ (Nat.two_pow_pos _)) (Nat.pow_le_pow_right (by decide) (by decide))
theorem A0F (x i : Nat) : ∀ y ∈ X3 8 32 x i, y < 256 := by
  intro y hy
  obtain ⟨j, _, rfl⟩ := List.mem_map.1 hy
  exact Nat.mod_lt _ (Nat.two_pow_pos _)
theorem B4c {x y : Nat} (hx : x < p25) (hy : y < p25) (h : X3 8 32 x 255 = X3 8 32 y 255) : x = y := by
  have := congrArg bv h
  rw [A5u, A5u, Nat.mod_eq_of_lt (Nat.lt_trans hx (by decide)), Nat.mod_eq_of_lt (Nat.lt_trans hy (by decide))] at this
  exact this
end Go.Px

