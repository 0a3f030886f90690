/- Part 9 of the texts of this claim, one behind the other. -/
import Derived.Test.YthbhpfefdnffaaaGreatDoorB8
import Derived.Test.YthbhpfefdnffaaaGreatDoorRows
set_option linter.unusedVariables false
set_option linter.unusedSimpArgs false
set_option maxRecDepth 100000
namespace Go.Proofs.YthbhpfefdnffaaaGreatDoor
open Go.Px
abbrev el (a b c d e : Nat) : Value := .agg #[.int .u64 (a : Int), .int .u64 (b : Int), .int .u64 (c : Int), .int .u64 (d : Int), .int .u64 (e : Int)]
def Fe (v : Value) (n : Nat) : Prop := ∃ a b c d e, v = el a b c d e ∧ a < 4503599627370496 ∧ b < 4503599627370496 ∧ c < 4503599627370496 ∧ d < 4503599627370496 ∧ e < 4503599627370496 ∧ fv a b c d e % p25 = n
theorem Fe.lt {v : Value} {n : Nat} (h : Fe v n) : n < p25 := by
  obtain ⟨a, b, c, d, e, _, _, _, _, _, _, rfl⟩ := h
  exact Nat.mod_lt _ (by decide)
theorem N6 (a b c d e : Nat) (ha : a < 9223372036854775808) (hb : b < 9223372036854775808) (hc : c < 9223372036854775808) (hd : d < 9223372036854775808) (he : e < 9223372036854775808) (A : Mem) :
  FnX Tryz.prog 163 [el a b c d e] [] A fun r M J => M = [] ∧ J = [] ∧ ∃ a' b' c' d' e', r = el a' b' c' d' e' ∧ a' < 2251799813685248 ∧ b' < 2251799813685248 ∧ c' < 2251799813685248 ∧ d' < 2251799813685248 ∧ fv a' b' c' d' e' + p25 * (e / 2251799813685248) = fv a b c d e ∧ e' < 2251799813685248 + 8192 := by
 refine FnX.enter (N := 38) Tryz.func163 rfl rfl rfl fun w => ?_
 refine B0 (D2 0) (A1 ?_)
 refine A4 rfl (bx_ fun b1 => ?_)
 refine A4 rfl (C4 (cs := [D9, D9, D9, D9, D9]) kR rfl fun b2 => ?_)
 refine A0 (C9 1 2) (A1 ?_)
 refine A2 (qi_ 4 143 5 1 4) rfl ?_
 refine A2 ql_ rfl ?_
 refine A2 (K1 51 2251799813685248 rfl rfl rfl rfl (by decide)) rfl ?_
 refine as_ (A0 (D3 1 2 3) (A1 ?_))
 refine A2 (qi_ 4 143 5 1 4) rfl ?_
 refine A2 ql_ rfl ?_
 refine A2 (K2 51 2251799813685248 rfl rfl rfl rfl rfl (by show _ < 18446744073709551616; first | assumption | exact Nat.mod_lt _ (by decide) | omega) (by decide)) rfl ?_
 refine A2 (qi_ 4 143 5 1 4) rfl ?_
 refine A4 rfl (C8 rfl rfl rfl kR SetC.set UpC.upd ?_)
 refine A0 (D3 1 2 3) (A1 ?_)
 refine A2 (qi_ 0 143 5 1 0) rfl ?_
 refine A2 ql_ rfl ?_
 refine mv_ ?_
 refine A2 (N1 18446744073709551616 (a := 19) rfl rfl rfl rfl rfl rfl) rfl ?_
 refine A2 (F9 18446744073709551616 rfl rfl rfl rfl rfl rfl) rfl ?_
 refine A2 (qi_ 0 143 5 1 0) rfl ?_
 refine A4 rfl (C8 rfl rfl rfl kR SetC.set UpC.upd ?_)
 refine A0 (C9 1 2) (A3 (A1 (mv_ (A0 (D3 1 2 18) (A6 ?_)))))
 refine T6 5 ?_
 refine E8 ?_
 refine A1 ?_
 refine A2 (E1 true rfl rfl (ltT (by decide))) rfl ?_
 refine A0 (D8 1 2 18 19) (A3 ?_)
 refine D0 rfl ?_
 refine A5 (nx (D3 1 2 18) (A3 (A6 (A1 (mv_ (as_ (A0 (D8 1 2 4 18) ?_)))))))
 refine D1 (.range 10) (zp 0 [0, 0, 0, 1, 0, 0, 1, 0, 0, 0, 2]) kR kR fun hs => ?_
 refine fm_ hs ?_
 refine C3 hs rfl (D5 (1 : Int) rfl rfl (F0 (by decide) (by decide) (by decide))) rfl ?_
 refine C3 hs rfl (qi_ 1 143 5 1 1) rfl ?_
 refine G6 hs rfl ql_ rfl ?_
 refine fm_ hs ?_
 refine C3 hs rfl (qi_ 0 143 5 1 0) rfl ?_
 refine G6 hs rfl ql_ rfl ?_
 refine C3 hs rfl (K1 51 2251799813685248 rfl rfl rfl rfl (by decide)) rfl ?_
 refine C3 hs rfl (F9 18446744073709551616 rfl rfl rfl rfl rfl rfl) rfl ?_
 refine C3 hs rfl (qi_ 1 143 5 1 1) rfl ?_
 refine E6 rfl rfl rfl (C8 rfl rfl rfl kR SetC.set UpC.upd ?_)
 refine F5 (D8 1 2 4 18) (A9 (mv_ ?_))
 refine A2 (qi_ 0 143 5 1 0) rfl ?_
 refine A2 ql_ rfl ?_
 refine A2 (K2 51 2251799813685248 rfl rfl rfl rfl rfl (by show _ < 18446744073709551616; first | assumption | exact Nat.mod_lt _ (by decide) | omega) (by decide)) rfl ?_
 refine A2 (qi_ 0 143 5 1 0) rfl ?_
 refine A4 rfl (C8 rfl rfl rfl kR SetC.set UpC.upd ?_)
 refine C2 (nb (nx (D3 1 2 18) (A9 ?_)))
 refine A2 (D5 (1 : Int) rfl rfl (F0 (by decide) (by decide) (by decide))) rfl ?_
 refine mv_ (C2 ?_)
 refine un (D3 1 2 18) ?_
 refine E8 ?_
 refine A1 ?_
 refine A2 (E1 true rfl rfl (ltT (by decide))) rfl ?_
 refine A0 (D8 1 2 18 19) (A3 ?_)
 refine D0 rfl ?_
 refine A5 (nx (D3 1 2 18) (A3 (A6 (A1 (mv_ (as_ (A0 (D8 1 2 4 18) ?_)))))))
 refine D1 (.range 10) (zp 0 [0, 0, 0, 1, 0, 0, 1, 0, 0, 0, 2]) kR kR fun hs => ?_
 refine fm_ hs ?_
 refine C3 hs rfl (D5 (2 : Int) rfl rfl (F0 (by decide) (by decide) (by decide))) rfl ?_
 refine C3 hs rfl (qi_ 2 143 5 1 2) rfl ?_
 refine G6 hs rfl ql_ rfl ?_
 refine fm_ hs ?_
 refine C3 hs rfl (qi_ 1 143 5 1 1) rfl ?_
 refine G6 hs rfl ql_ rfl ?_
 refine C3 hs rfl (K1 51 2251799813685248 rfl rfl rfl rfl (by decide)) rfl ?_
 refine C3 hs rfl (F9 18446744073709551616 rfl rfl rfl rfl rfl rfl) rfl ?_
 refine C3 hs rfl (qi_ 2 143 5 1 2) rfl ?_
 refine E6 rfl rfl rfl (C8 rfl rfl rfl kR SetC.set UpC.upd ?_)
 refine F5 (D8 1 2 4 18) (A9 (mv_ ?_))
 refine A2 (qi_ 1 143 5 1 1) rfl ?_
 refine A2 ql_ rfl ?_
 refine A2 (K2 51 2251799813685248 rfl rfl rfl rfl rfl (by show _ < 18446744073709551616; first | assumption | exact Nat.mod_lt _ (by decide) | omega) (by decide)) rfl ?_
 refine A2 (qi_ 1 143 5 1 1) rfl ?_
 refine A4 rfl (C8 rfl rfl rfl kR SetC.set UpC.upd ?_)
 refine C2 (nb (nx (D3 1 2 18) (A9 ?_)))
 refine A2 (D5 (2 : Int) rfl rfl (F0 (by decide) (by decide) (by decide))) rfl ?_
 refine mv_ (C2 ?_)
 refine un (D3 1 2 18) ?_
 refine E8 ?_
 refine A1 ?_
 refine A2 (E1 true rfl rfl (ltT (by decide))) rfl ?_
 refine A0 (D8 1 2 18 19) (A3 ?_)
 refine D0 rfl ?_
 refine A5 (nx (D3 1 2 18) (A3 (A6 (A1 (mv_ (as_ (A0 (D8 1 2 4 18) ?_)))))))
 refine D1 (.range 10) (zp 0 [0, 0, 0, 1, 0, 0, 1, 0, 0, 0, 2]) kR kR fun hs => ?_
 refine fm_ hs ?_
 refine C3 hs rfl (D5 (3 : Int) rfl rfl (F0 (by decide) (by decide) (by decide))) rfl ?_
 refine C3 hs rfl (qi_ 3 143 5 1 3) rfl ?_
 refine G6 hs rfl ql_ rfl ?_
 refine fm_ hs ?_
 refine C3 hs rfl (qi_ 2 143 5 1 2) rfl ?_
 refine G6 hs rfl ql_ rfl ?_
 refine C3 hs rfl (K1 51 2251799813685248 rfl rfl rfl rfl (by decide)) rfl ?_
 refine C3 hs rfl (F9 18446744073709551616 rfl rfl rfl rfl rfl rfl) rfl ?_
 refine C3 hs rfl (qi_ 3 143 5 1 3) rfl ?_
 refine E6 rfl rfl rfl (C8 rfl rfl rfl kR SetC.set UpC.upd ?_)
 refine F5 (D8 1 2 4 18) (A9 (mv_ ?_))
 refine A2 (qi_ 2 143 5 1 2) rfl ?_
 refine A2 ql_ rfl ?_
 refine A2 (K2 51 2251799813685248 rfl rfl rfl rfl rfl (by show _ < 18446744073709551616; first | assumption | exact Nat.mod_lt _ (by decide) | omega) (by decide)) rfl ?_
 refine A2 (qi_ 2 143 5 1 2) rfl ?_
 refine A4 rfl (C8 rfl rfl rfl kR SetC.set UpC.upd ?_)
 refine C2 (nb (nx (D3 1 2 18) (A9 ?_)))
 refine A2 (D5 (3 : Int) rfl rfl (F0 (by decide) (by decide) (by decide))) rfl ?_
 refine mv_ (C2 ?_)
 refine un (D3 1 2 18) ?_
 refine E8 ?_
 refine A1 ?_
 refine A2 (E1 true rfl rfl (ltT (by decide))) rfl ?_
 refine A0 (D8 1 2 18 19) (A3 ?_)
 refine D0 rfl ?_
 refine A5 (nx (D3 1 2 18) (A3 (A6 (A1 (mv_ (as_ (A0 (D8 1 2 4 18) ?_)))))))
 refine D1 (.range 10) (zp 0 [0, 0, 0, 1, 0, 0, 1, 0, 0, 0, 2]) kR kR fun hs => ?_
 refine fm_ hs ?_
 refine C3 hs rfl (D5 (4 : Int) rfl rfl (F0 (by decide) (by decide) (by decide))) rfl ?_
 refine C3 hs rfl (qi_ 4 143 5 1 4) rfl ?_
 refine G6 hs rfl ql_ rfl ?_
 refine fm_ hs ?_
 refine C3 hs rfl (qi_ 3 143 5 1 3) rfl ?_
 refine G6 hs rfl ql_ rfl ?_
 refine C3 hs rfl (K1 51 2251799813685248 rfl rfl rfl rfl (by decide)) rfl ?_
 refine C3 hs rfl (F9 18446744073709551616 rfl rfl rfl rfl rfl rfl) rfl ?_
 refine C3 hs rfl (qi_ 4 143 5 1 4) rfl ?_
 refine E6 rfl rfl rfl (C8 rfl rfl rfl kR SetC.set UpC.upd ?_)
 refine F5 (D8 1 2 4 18) (A9 (mv_ ?_))
 refine A2 (qi_ 3 143 5 1 3) rfl ?_
 refine A2 ql_ rfl ?_
 refine A2 (K2 51 2251799813685248 rfl rfl rfl rfl rfl (by show _ < 18446744073709551616; first | assumption | exact Nat.mod_lt _ (by decide) | omega) (by decide)) rfl ?_
 refine A2 (qi_ 3 143 5 1 3) rfl ?_
 refine A4 rfl (C8 rfl rfl rfl kR SetC.set UpC.upd ?_)
 refine C2 (nb (nx (D3 1 2 18) (A9 ?_)))
 refine A2 (D5 (4 : Int) rfl rfl (F0 (by decide) (by decide) (by decide))) rfl ?_
 refine mv_ (C2 ?_)
 refine un (D3 1 2 18) ?_
 refine E8 ?_
 refine A1 ?_
 refine A2 (E1 false rfl rfl (ltF (by decide))) rfl ?_
 refine A0 (D8 1 2 18 19) (A3 ?_)
 refine C6 rfl ?_
 refine D6 (te (ue (be rfl (nx (C9 1 2) (A1 ?_)))))
 refine A2 (qw_ 5) rfl ?_
 refine A4 rfl (A8 rfl rfl Cel.cel kR ln5 al5 UpC.upd ?_)
 refine A0 (D2 2) (B4 ?_)
 refine ⟨_, [], [], A3y rfl rfl kR At.mem (by rfl), List.nil_sublist _, by simp, rfl, rfl, _, _, _, _, _, rfl, Nat.mod_lt _ (by decide), Nat.mod_lt _ (by decide), Nat.mod_lt _ (by decide), Nat.mod_lt _ (by decide), A6l ha hb hc hd he rfl rfl rfl rfl rfl⟩
theorem A7L (v u : Value) (x y : Nat) (hx : Fe v x) (hy : Fe u y) (A : Mem) : FnX Tryz.prog 160 [v, u] [] A fun r M J => M = [] ∧ J = [] ∧ Fe r ((x + y) % p25) := by
 obtain ⟨a, b, c, d, e, rfl, ha, hb, hc, hd, he, rfl⟩ := hx
 obtain ⟨a2, b2, c2, d2, e2, rfl, ha2, hb2, hc2, hd2, he2, rfl⟩ := hy
 refine FnX.enter (N := 20) Tryz.func160 rfl rfl rfl fun w => ?_
 refine B0 (C9 0 1) (A1 ?_)
 refine A4 rfl (bx_ fun b2 => ?_)
 refine A4 rfl (bx_ fun b3 => ?_)
 refine A4 rfl (C4 (cs := [D9, D9, D9, D9, D9]) kR rfl fun b4 => ?_)
 refine A0 (D3 2 3 4) (A3 (A1 (mv_ (A0 (D8 2 3 4 6) (A6 ?_)))))
 refine T6 6 ?_
 refine E8 ?_
 refine A1 ?_
 refine A2 (E1 true rfl rfl (ltT (by decide))) rfl ?_
 refine A0 (E4 2 3 4 6 7) (A3 ?_)
 refine D0 rfl ?_
 refine A5 (nx (D8 2 3 4 6) (A3 (A6 (A1 (mv_ (as_ (A0 (E4 2 3 4 5 6) ?_)))))))
 refine F1 (.range 8) (zp 0 [0, 0, 1, 0, 0, 1, 0, 0, 2]) kR kR fun hs => ?_
 refine fm_ hs ?_
 refine C3 hs rfl (qi_ 0 143 5 1 0) rfl ?_
 refine G6 hs rfl ql_ rfl ?_
 refine fm_ hs ?_
 refine C3 hs rfl (qi_ 0 143 5 1 0) rfl ?_
 refine G6 hs rfl ql_ rfl ?_
 refine C3 hs rfl (F9 18446744073709551616 rfl rfl rfl rfl rfl rfl) rfl ?_
 refine C3 hs rfl (qi_ 0 143 5 1 0) rfl ?_
 refine E6 rfl rfl rfl (C8 rfl rfl rfl kR SetC.set UpC.upd ?_)
 refine P0 (nb (nx (D8 2 3 4 6) (A9 ?_)))
 refine A2 (D5 (1 : Int) rfl rfl (F0 (by decide) (by decide) (by decide))) rfl ?_
 refine mv_ (C2 ?_)
 refine un (D8 2 3 4 6) ?_
 refine E8 ?_
 refine A1 ?_
 refine A2 (E1 true rfl rfl (ltT (by decide))) rfl ?_
 refine A0 (E4 2 3 4 6 7) (A3 ?_)
 refine D0 rfl ?_
 refine A5 (nx (D8 2 3 4 6) (A3 (A6 (A1 (mv_ (as_ (A0 (E4 2 3 4 5 6) ?_)))))))
 refine F1 (.range 8) (zp 0 [0, 0, 1, 0, 0, 1, 0, 0, 2]) kR kR fun hs => ?_
 refine fm_ hs ?_
 refine C3 hs rfl (qi_ 1 143 5 1 1) rfl ?_
 refine G6 hs rfl ql_ rfl ?_
 refine fm_ hs ?_
 refine C3 hs rfl (qi_ 1 143 5 1 1) rfl ?_
 refine G6 hs rfl ql_ rfl ?_
 refine C3 hs rfl (F9 18446744073709551616 rfl rfl rfl rfl rfl rfl) rfl ?_
 refine C3 hs rfl (qi_ 1 143 5 1 1) rfl ?_
 refine E6 rfl rfl rfl (C8 rfl rfl rfl kR SetC.set UpC.upd ?_)
 refine P0 (nb (nx (D8 2 3 4 6) (A9 ?_)))
 refine A2 (D5 (2 : Int) rfl rfl (F0 (by decide) (by decide) (by decide))) rfl ?_
 refine mv_ (C2 ?_)
 refine un (D8 2 3 4 6) ?_
 refine E8 ?_
 refine A1 ?_
 refine A2 (E1 true rfl rfl (ltT (by decide))) rfl ?_
 refine A0 (E4 2 3 4 6 7) (A3 ?_)
 refine D0 rfl ?_
 refine A5 (nx (D8 2 3 4 6) (A3 (A6 (A1 (mv_ (as_ (A0 (E4 2 3 4 5 6) ?_)))))))
 refine F1 (.range 8) (zp 0 [0, 0, 1, 0, 0, 1, 0, 0, 2]) kR kR fun hs => ?_
 refine fm_ hs ?_
 refine C3 hs rfl (qi_ 2 143 5 1 2) rfl ?_
 refine G6 hs rfl ql_ rfl ?_
 refine fm_ hs ?_
 refine C3 hs rfl (qi_ 2 143 5 1 2) rfl ?_
 refine G6 hs rfl ql_ rfl ?_
 refine C3 hs rfl (F9 18446744073709551616 rfl rfl rfl rfl rfl rfl) rfl ?_
 refine C3 hs rfl (qi_ 2 143 5 1 2) rfl ?_
 refine E6 rfl rfl rfl (C8 rfl rfl rfl kR SetC.set UpC.upd ?_)
 refine P0 (nb (nx (D8 2 3 4 6) (A9 ?_)))
 refine A2 (D5 (3 : Int) rfl rfl (F0 (by decide) (by decide) (by decide))) rfl ?_
 refine mv_ (C2 ?_)
 refine un (D8 2 3 4 6) ?_
 refine E8 ?_
 refine A1 ?_
 refine A2 (E1 true rfl rfl (ltT (by decide))) rfl ?_
 refine A0 (E4 2 3 4 6 7) (A3 ?_)
 refine D0 rfl ?_
 refine A5 (nx (D8 2 3 4 6) (A3 (A6 (A1 (mv_ (as_ (A0 (E4 2 3 4 5 6) ?_)))))))
 refine F1 (.range 8) (zp 0 [0, 0, 1, 0, 0, 1, 0, 0, 2]) kR kR fun hs => ?_
 refine fm_ hs ?_
 refine C3 hs rfl (qi_ 3 143 5 1 3) rfl ?_
 refine G6 hs rfl ql_ rfl ?_
 refine fm_ hs ?_
 refine C3 hs rfl (qi_ 3 143 5 1 3) rfl ?_
 refine G6 hs rfl ql_ rfl ?_
 refine C3 hs rfl (F9 18446744073709551616 rfl rfl rfl rfl rfl rfl) rfl ?_
 refine C3 hs rfl (qi_ 3 143 5 1 3) rfl ?_
 refine E6 rfl rfl rfl (C8 rfl rfl rfl kR SetC.set UpC.upd ?_)
 refine P0 (nb (nx (D8 2 3 4 6) (A9 ?_)))
 refine A2 (D5 (4 : Int) rfl rfl (F0 (by decide) (by decide) (by decide))) rfl ?_
 refine mv_ (C2 ?_)
 refine un (D8 2 3 4 6) ?_
 refine E8 ?_
 refine A1 ?_
 refine A2 (E1 true rfl rfl (ltT (by decide))) rfl ?_
 refine A0 (E4 2 3 4 6 7) (A3 ?_)
 refine D0 rfl ?_
 refine A5 (nx (D8 2 3 4 6) (A3 (A6 (A1 (mv_ (as_ (A0 (E4 2 3 4 5 6) ?_)))))))
 refine F1 (.range 8) (zp 0 [0, 0, 1, 0, 0, 1, 0, 0, 2]) kR kR fun hs => ?_
 refine fm_ hs ?_
 refine C3 hs rfl (qi_ 4 143 5 1 4) rfl ?_
 refine G6 hs rfl ql_ rfl ?_
 refine fm_ hs ?_
 refine C3 hs rfl (qi_ 4 143 5 1 4) rfl ?_
 refine G6 hs rfl ql_ rfl ?_
 refine C3 hs rfl (F9 18446744073709551616 rfl rfl rfl rfl rfl rfl) rfl ?_
 refine C3 hs rfl (qi_ 4 143 5 1 4) rfl ?_
 refine E6 rfl rfl rfl (C8 rfl rfl rfl kR SetC.set UpC.upd ?_)
 refine P0 (nb (nx (D8 2 3 4 6) (A9 ?_)))
 refine A2 (D5 (5 : Int) rfl rfl (F0 (by decide) (by decide) (by decide))) rfl ?_
 refine mv_ (C2 ?_)
 refine un (D8 2 3 4 6) ?_
 refine E8 ?_
 refine A1 ?_
 refine A2 (E1 false rfl rfl (ltF (by decide))) rfl ?_
 refine A0 (E4 2 3 4 6 7) (A3 ?_)
 refine C6 rfl ?_
 refine D6 (te (ue (be rfl (nx (C9 2 4) (A1 ?_)))))
 refine A2 (qw_ 5) rfl ?_
 refine C7 (aS rfl a0) kR (N6 _ _ _ _ _ (by omega) (by omega) (by omega) (by omega) (by omega) _) rfl ?_
 rintro r3 M3 J3 ⟨rfl, rfl, a3, b3, c3, d3, e3, rfl, ha3, hb3, hc3, hd3, hv3, he3⟩
 refine A4 rfl (A8 rfl rfl Cel.cel kR ln5 al5 UpC.upd ?_)
 refine A0 (D2 4) (B4 ?_)
 refine ⟨_, [], [], A3y rfl rfl kR At.mem (by rfl), List.nil_sublist _, by simp, rfl, rfl, a3, b3, c3, d3, e3, rfl, by omega, by omega, by omega, by omega, by omega, ?_⟩
 rw [I4 hv3, B3f ha hb hc hd he ha2 hb2 hc2 hd2 he2, Nat.add_mod]
theorem A7M (v u : Value) (x y : Nat) (hx : Fe v x) (hy : Fe u y) (A : Mem) : FnX Tryz.prog 161 [v, u] [] A fun r M J => M = [] ∧ J = [] ∧ Fe r ((x + p25 - y) % p25) := by
 obtain ⟨a, b, c, d, e, rfl, ha, hb, hc, hd, he, rfl⟩ := hx
 obtain ⟨a2, b2, c2, d2, e2, rfl, ha2, hb2, hc2, hd2, he2, rfl⟩ := hy
 refine FnX.enter (N := 30) Tryz.func161 rfl rfl rfl fun w => ?_
 refine B0 (C9 0 1) (A1 ?_)
 refine A4 rfl (bx_ fun b2 => ?_)
 refine A4 rfl (bx_ fun b3 => ?_)
 refine A4 rfl (C4 (cs := [D9, D9, D9, D9, D9]) kR rfl fun b4 => ?_)
 refine A0 (D3 2 3 4) (A1 ?_)
 refine A2 (qw_ 5) rfl ?_
 refine C7 (aS rfl a0) kR (N6 _ _ _ _ _ (by omega) (by omega) (by omega) (by omega) (by omega) _) rfl ?_
 rintro r3 M3 J3 ⟨rfl, rfl, a3, b3, c3, d3, e3, rfl, ha3, hb3, hc3, hd3, hv3, he3⟩
 refine A4 rfl (A8 rfl rfl Cel.cel kR ln5 al5 UpC.upd ?_)
 refine A0 (D3 2 3 4) (A1 ?_)
 refine A2 (E7 (place := fun i => some (i * 1, 1)) (z := [D9, D9, D9, D9, D9]) (fun _ => by kernel_rfl) (eS rfl (eS rfl (eS rfl (eS rfl (eS rfl e0))))) (bdS 0 1 rfl (by rfl) (bdS 1 1 rfl (by rfl) (bdS 2 1 rfl (by rfl) (bdS 3 1 rfl (by rfl) (bdS 4 1 rfl (by rfl) bd0)))))) rfl ?_
 refine A4 rfl (C4 (cs := [D9, D9, D9, D9, D9]) kR rfl fun b5 => ?_)
 refine A4 rfl (A8 rfl rfl Cel.cel kR ln5 al5 UpC.upd ?_)
 refine A0 (D8 2 3 4 5) (A3 (A1 (mv_ (A0 (E4 2 3 4 5 10) (A6 ?_)))))
 refine T6 6 ?_
 refine E8 ?_
 refine A1 ?_
 refine A2 (E1 true rfl rfl (ltT (by decide))) rfl ?_
 refine A0 (H9 2 3 4 5 10 11) (A3 ?_)
 refine D0 rfl ?_
 refine A5 (nx (E4 2 3 4 5 10) (A3 (A6 (A1 (mv_ (as_ (A0 (H9 2 3 4 5 6 10) ?_)))))))
 refine F1 (.range 13) (zp 0 [0, 0, 1, 0, 0, 1, 0, 0, 0, 1, 0, 0, 0, 2]) kR kR fun hs => ?_
 refine fm_ hs ?_
 refine C3 hs rfl (qi_ 0 143 5 1 0) rfl ?_
 refine G6 hs rfl ql_ rfl ?_
 refine fm_ hs ?_
 refine C3 hs rfl (qi_ 0 143 5 1 0) rfl ?_
 refine G6 hs rfl ql_ rfl ?_
 refine C3 hs rfl (N1 18446744073709551616 (a := 2) rfl rfl rfl rfl rfl rfl) rfl ?_
 refine fm_ hs ?_
 refine C3 hs rfl (qi_ 0 143 5 1 0) rfl ?_
 refine G6 hs rfl ql_ rfl ?_
 refine C3 hs rfl (A1R 18446744073709551616 rfl rfl rfl rfl rfl rfl (by omega)) rfl ?_
 refine C3 hs rfl (F9 18446744073709551616 rfl rfl rfl rfl rfl rfl) rfl ?_
 refine C3 hs rfl (qi_ 0 143 5 1 0) rfl ?_
 refine E6 rfl rfl rfl (C8 rfl rfl rfl kR SetC.set UpC.upd ?_)
 refine P0 (nb (nx (E4 2 3 4 5 10) (A9 ?_)))
 refine A2 (D5 (1 : Int) rfl rfl (F0 (by decide) (by decide) (by decide))) rfl ?_
 refine mv_ (C2 ?_)
 refine un (E4 2 3 4 5 10) ?_
 refine E8 ?_
 refine A1 ?_
 refine A2 (E1 true rfl rfl (ltT (by decide))) rfl ?_
 refine A0 (H9 2 3 4 5 10 11) (A3 ?_)
 refine D0 rfl ?_
 refine A5 (nx (E4 2 3 4 5 10) (A3 (A6 (A1 (mv_ (as_ (A0 (H9 2 3 4 5 6 10) ?_)))))))
 refine F1 (.range 13) (zp 0 [0, 0, 1, 0, 0, 1, 0, 0, 0, 1, 0, 0, 0, 2]) kR kR fun hs => ?_
 refine fm_ hs ?_
 refine C3 hs rfl (qi_ 1 143 5 1 1) rfl ?_
 refine G6 hs rfl ql_ rfl ?_
 refine fm_ hs ?_
 refine C3 hs rfl (qi_ 1 143 5 1 1) rfl ?_
 refine G6 hs rfl ql_ rfl ?_
 refine C3 hs rfl (N1 18446744073709551616 (a := 2) rfl rfl rfl rfl rfl rfl) rfl ?_
 refine fm_ hs ?_
 refine C3 hs rfl (qi_ 1 143 5 1 1) rfl ?_
 refine G6 hs rfl ql_ rfl ?_
 refine C3 hs rfl (A1R 18446744073709551616 rfl rfl rfl rfl rfl rfl (by omega)) rfl ?_
 refine C3 hs rfl (F9 18446744073709551616 rfl rfl rfl rfl rfl rfl) rfl ?_
 refine C3 hs rfl (qi_ 1 143 5 1 1) rfl ?_
 refine E6 rfl rfl rfl (C8 rfl rfl rfl kR SetC.set UpC.upd ?_)
 refine P0 (nb (nx (E4 2 3 4 5 10) (A9 ?_)))
 refine A2 (D5 (2 : Int) rfl rfl (F0 (by decide) (by decide) (by decide))) rfl ?_
 refine mv_ (C2 ?_)
 refine un (E4 2 3 4 5 10) ?_
 refine E8 ?_
 refine A1 ?_
 refine A2 (E1 true rfl rfl (ltT (by decide))) rfl ?_
 refine A0 (H9 2 3 4 5 10 11) (A3 ?_)
 refine D0 rfl ?_
 refine A5 (nx (E4 2 3 4 5 10) (A3 (A6 (A1 (mv_ (as_ (A0 (H9 2 3 4 5 6 10) ?_)))))))
 refine F1 (.range 13) (zp 0 [0, 0, 1, 0, 0, 1, 0, 0, 0, 1, 0, 0, 0, 2]) kR kR fun hs => ?_
 refine fm_ hs ?_
 refine C3 hs rfl (qi_ 2 143 5 1 2) rfl ?_
 refine G6 hs rfl ql_ rfl ?_
 refine fm_ hs ?_
 refine C3 hs rfl (qi_ 2 143 5 1 2) rfl ?_
 refine G6 hs rfl ql_ rfl ?_
 refine C3 hs rfl (N1 18446744073709551616 (a := 2) rfl rfl rfl rfl rfl rfl) rfl ?_
 refine fm_ hs ?_
 refine C3 hs rfl (qi_ 2 143 5 1 2) rfl ?_
 refine G6 hs rfl ql_ rfl ?_
 refine C3 hs rfl (A1R 18446744073709551616 rfl rfl rfl rfl rfl rfl (by omega)) rfl ?_
 refine C3 hs rfl (F9 18446744073709551616 rfl rfl rfl rfl rfl rfl) rfl ?_
 refine C3 hs rfl (qi_ 2 143 5 1 2) rfl ?_
 refine E6 rfl rfl rfl (C8 rfl rfl rfl kR SetC.set UpC.upd ?_)
 refine P0 (nb (nx (E4 2 3 4 5 10) (A9 ?_)))
 refine A2 (D5 (3 : Int) rfl rfl (F0 (by decide) (by decide) (by decide))) rfl ?_
 refine mv_ (C2 ?_)
 refine un (E4 2 3 4 5 10) ?_
 refine E8 ?_
 refine A1 ?_
 refine A2 (E1 true rfl rfl (ltT (by decide))) rfl ?_
 refine A0 (H9 2 3 4 5 10 11) (A3 ?_)
 refine D0 rfl ?_
 refine A5 (nx (E4 2 3 4 5 10) (A3 (A6 (A1 (mv_ (as_ (A0 (H9 2 3 4 5 6 10) ?_)))))))
 refine F1 (.range 13) (zp 0 [0, 0, 1, 0, 0, 1, 0, 0, 0, 1, 0, 0, 0, 2]) kR kR fun hs => ?_
 refine fm_ hs ?_
 refine C3 hs rfl (qi_ 3 143 5 1 3) rfl ?_
 refine G6 hs rfl ql_ rfl ?_
 refine fm_ hs ?_
 refine C3 hs rfl (qi_ 3 143 5 1 3) rfl ?_
 refine G6 hs rfl ql_ rfl ?_
 refine C3 hs rfl (N1 18446744073709551616 (a := 2) rfl rfl rfl rfl rfl rfl) rfl ?_
 refine fm_ hs ?_
 refine C3 hs rfl (qi_ 3 143 5 1 3) rfl ?_
 refine G6 hs rfl ql_ rfl ?_
 refine C3 hs rfl (A1R 18446744073709551616 rfl rfl rfl rfl rfl rfl (by omega)) rfl ?_
 refine C3 hs rfl (F9 18446744073709551616 rfl rfl rfl rfl rfl rfl) rfl ?_
 refine C3 hs rfl (qi_ 3 143 5 1 3) rfl ?_
 refine E6 rfl rfl rfl (C8 rfl rfl rfl kR SetC.set UpC.upd ?_)
 refine P0 (nb (nx (E4 2 3 4 5 10) (A9 ?_)))
 refine A2 (D5 (4 : Int) rfl rfl (F0 (by decide) (by decide) (by decide))) rfl ?_
 refine mv_ (C2 ?_)
 refine un (E4 2 3 4 5 10) ?_
 refine E8 ?_
 refine A1 ?_
 refine A2 (E1 true rfl rfl (ltT (by decide))) rfl ?_
 refine A0 (H9 2 3 4 5 10 11) (A3 ?_)
 refine D0 rfl ?_
 refine A5 (nx (E4 2 3 4 5 10) (A3 (A6 (A1 (mv_ (as_ (A0 (H9 2 3 4 5 6 10) ?_)))))))
 refine F1 (.range 13) (zp 0 [0, 0, 1, 0, 0, 1, 0, 0, 0, 1, 0, 0, 0, 2]) kR kR fun hs => ?_
 refine fm_ hs ?_
 refine C3 hs rfl (qi_ 4 143 5 1 4) rfl ?_
 refine G6 hs rfl ql_ rfl ?_
 refine fm_ hs ?_
 refine C3 hs rfl (qi_ 4 143 5 1 4) rfl ?_
 refine G6 hs rfl ql_ rfl ?_
 refine C3 hs rfl (N1 18446744073709551616 (a := 2) rfl rfl rfl rfl rfl rfl) rfl ?_
 refine fm_ hs ?_
 refine C3 hs rfl (qi_ 4 143 5 1 4) rfl ?_
 refine G6 hs rfl ql_ rfl ?_
 refine C3 hs rfl (A1R 18446744073709551616 rfl rfl rfl rfl rfl rfl (by omega)) rfl ?_
 refine C3 hs rfl (F9 18446744073709551616 rfl rfl rfl rfl rfl rfl) rfl ?_
 refine C3 hs rfl (qi_ 4 143 5 1 4) rfl ?_
 refine E6 rfl rfl rfl (C8 rfl rfl rfl kR SetC.set UpC.upd ?_)
 refine P0 (nb (nx (E4 2 3 4 5 10) (A9 ?_)))
 refine A2 (D5 (5 : Int) rfl rfl (F0 (by decide) (by decide) (by decide))) rfl ?_
 refine mv_ (C2 ?_)
 refine un (E4 2 3 4 5 10) ?_
 refine E8 ?_
 refine A1 ?_
 refine A2 (E1 false rfl rfl (ltF (by decide))) rfl ?_
 refine A0 (H9 2 3 4 5 10 11) (A3 ?_)
 refine C6 rfl ?_
 refine D6 (te (ue (be rfl (nx (C9 2 4) ?_))))
 have q0 := A13 (t := 9007199254740916) (b := a3) ha (by decide) (by omega)
 have q1 := A13 (t := 9007199254740988) (b := b3) hb (by decide) (by omega)
 have q2 := A13 (t := 9007199254740988) (b := c3) hc (by decide) (by omega)
 have q3 := A13 (t := 9007199254740988) (b := d3) hd (by decide) (by omega)
 have q4 := A13 (t := 9007199254740988) (b := e3) he (by decide) (by omega)
 refine A1 ?_
 refine A2 (qw_ 5) rfl ?_
 refine C7 (aS rfl a0) kR (N6 _ _ _ _ _ (q0 ▸ A01 ha (by decide) (by omega)) (q1 ▸ A01 hb (by decide) (by omega)) (q2 ▸ A01 hc (by decide) (by omega)) (q3 ▸ A01 hd (by decide) (by omega)) (q4 ▸ A01 he (by decide) (by omega)) _) rfl ?_
 rintro r4 M4 J4 ⟨rfl, rfl, a4, b4, c4, d4, e4, rfl, ha4, hb4, hc4, hd4, hv4, he4⟩
 refine C7 (aS rfl a0) kR (N6 _ _ _ _ _ (by omega) (by omega) (by omega) (by omega) (by omega) _) rfl ?_
 rintro r5 M5 J5 ⟨rfl, rfl, a5, b5, c5, d5, e5, rfl, ha5, hb5, hc5, hd5, hv5, he5⟩
 refine A4 rfl (A8 rfl rfl Cel.cel kR ln5 al5 UpC.upd ?_)
 refine A0 (D2 4) (B4 ?_)
 refine ⟨_, [], [], A3y rfl rfl kR At.mem (by rfl), List.nil_sublist _, by simp, rfl, rfl, a5, b5, c5, d5, e5, rfl, by omega, by omega, by omega, by omega, by omega, ?_⟩
 rw [I4 hv5, I4 hv4, ← I4 hv3]
 refine B1p ?_
 rw [← B3g (a := a) (b := b) (c := c) (d := d) (e := e) (a2 := a3) (b2 := b3) (c2 := c3) (d2 := d3) (e2 := e3) (by omega) (by omega) (by omega) (by omega) (by omega), ← q0, ← q1, ← q2, ← q3, ← q4]
abbrev wd (hi lo : Nat) : Value := .agg #[.int .u64 (hi : Int), .int .u64 (lo : Int)]
theorem A6m (x y : Nat) (hx : x < 18446744073709551616) (hy : y < 18446744073709551616) (A : Mem) : FnV Tryz.prog 186 [.int .u64 (x : Int), .int .u64 (y : Int)] A (.tuple #[.int .u64 ((x * y / 18446744073709551616 : Nat) : Int), .int .u64 ((x * y % 18446744073709551616 : Nat) : Int)]) := by
 refine FnX.enter (N := 51) Tryz.func186 rfl rfl rfl fun w => ?_
 refine B0 (C9 0 1) (A1 (as_ (as_ (A0 (C9 0 1) (A1 (mv_ ?_))))))
 refine A2 (K2 32 4294967296 rfl rfl rfl rfl rfl (by show _ < 18446744073709551616; first | assumption | exact Nat.mod_lt _ (by decide) | omega) (by decide)) rfl ?_
 refine as_ (A0 (D3 0 1 6) (A1 (mv_ ?_)))
 refine A2 (K1 32 4294967296 rfl rfl rfl rfl (by decide)) rfl ?_
 refine as_ (A0 (D8 0 1 6 7) (A1 (mv_ ?_)))
 refine A2 (K2 32 4294967296 rfl rfl rfl rfl rfl (by show _ < 18446744073709551616; first | assumption | exact Nat.mod_lt _ (by decide) | omega) (by decide)) rfl ?_
 refine as_ (A0 (E4 0 1 6 7 8) (A1 (mv_ ?_)))
 refine A2 (K1 32 4294967296 rfl rfl rfl rfl (by decide)) rfl ?_
 refine as_ (A0 (H9 0 1 6 7 8 9) (A1 (mv_ (mv_ ?_))))
 refine A2 (N1 18446744073709551616 rfl rfl rfl rfl rfl rfl) rfl ?_
 refine as_ (A0 (V6 0 1 6 7 8 9 10) (A1 (mv_ (mv_ ?_))))
 refine A2 (N1 18446744073709551616 rfl rfl rfl rfl rfl rfl) rfl ?_
 refine mv_ ?_
 refine A2 (K1 32 4294967296 rfl rfl rfl rfl (by decide)) rfl ?_
 refine A2 (F9 18446744073709551616 rfl rfl rfl rfl rfl rfl) rfl ?_
 refine as_ (A0 (H9 0 1 6 7 9 11) (A1 (mv_ ?_)))
 refine A2 (K2 32 4294967296 rfl rfl rfl rfl rfl (by show _ < 18446744073709551616; first | assumption | exact Nat.mod_lt _ (by decide) | omega) (by decide)) rfl ?_
 refine as_ (A0 (V6 0 1 6 7 9 11 12) (A1 (mv_ ?_)))
 refine A2 (K1 32 4294967296 rfl rfl rfl rfl (by decide)) rfl ?_
 refine as_ (A0 (V6 0 1 6 7 9 12 13) (A1 (mv_ (mv_ (mv_ ?_)))))
 refine A2 (N1 18446744073709551616 rfl rfl rfl rfl rfl rfl) rfl ?_
 refine A2 (F9 18446744073709551616 rfl rfl rfl rfl rfl rfl) rfl ?_
 refine as_ (A0 (H9 0 1 7 9 12 13) (A1 (mv_ (mv_ ?_))))
 refine A2 (N1 18446744073709551616 rfl rfl rfl rfl rfl rfl) rfl ?_
 refine mv_ ?_
 refine A2 (F9 18446744073709551616 rfl rfl rfl rfl rfl rfl) rfl ?_
 refine mv_ ?_
 refine A2 (K1 32 4294967296 rfl rfl rfl rfl (by decide)) rfl ?_
 refine A2 (F9 18446744073709551616 rfl rfl rfl rfl rfl rfl) rfl ?_
 refine as_ (A0 (D3 0 1 4) (A1 (mv_ (mv_ ?_))))
 refine A2 (N1 18446744073709551616 rfl rfl rfl rfl rfl rfl) rfl ?_
 refine as_ (A0 (C9 4 5) (B4 ?_))
 refine ⟨_, [], [], A4s rfl rfl rfl, List.nil_sublist _, by simp, ?_, rfl, rfl⟩
 rw [A7F hx hy rfl rfl rfl rfl rfl rfl rfl]
theorem A15 (hi lo a b : Nat) (h1 : hi < 18446744073709551616) (h2 : lo < 18446744073709551616) (h3 : a < 18446744073709551616) (h4 : b < 18446744073709551616) (A : Mem) :
  FnX Tryz.prog 164 [wd hi lo, .int .u64 (a : Int), .int .u64 (b : Int)] [] A fun r M J => M = [] ∧ J = [] ∧ ∃ hi' lo', r = wd hi' lo' ∧ hi' < 18446744073709551616 ∧ lo' < 18446744073709551616 ∧ hi' * 18446744073709551616 + lo' = (hi * 18446744073709551616 + lo + a * b) % 340282366920938463463374607431768211456 := by
 refine FnX.enter (N := 34) Tryz.func164 rfl rfl rfl fun w => ?_
 refine B0 (D3 0 1 2) (A1 ?_)
 refine A4 rfl (bx_ fun b3 => ?_)
 refine A4 rfl (C4 (cs := [.int .u64 0, .int .u64 0]) kR rfl fun b6 => ?_)
 refine A0 (D8 1 2 3 6) (A1 (mv_ (mv_ ?_)))
 refine F7 (aS rfl (aS rfl a0)) kR (A6m a b h3 h4 _) rfl ?_
 have hab : a * b ≤ 18446744073709551615 * 18446744073709551615 := Nat.mul_le_mul (by omega) (by omega)
 generalize a * b = z at *
 refine mv_ ?_
 refine A2 (A04 rfl) rfl ?_
 refine A2 (A0U rfl) rfl ?_
 refine as_ (as_ (A0 (D8 3 6 7 8) (A1 ?_)))
 refine A2 (qf_ 1 1) rfl ?_
 refine A2 ql_ rfl ?_
 refine mv_ ?_
 refine A2 (A3M Tryz.func187 kR kR kR kR rfl rfl rfl (c := 0) (by omega) rfl rfl rfl) rfl ?_
 refine mv_ ?_
 refine A2 (A04 rfl) rfl ?_
 refine A2 (A0U rfl) rfl ?_
 refine as_ (as_ (A0 (E4 3 6 7 8 9) (A1 ?_)))
 refine A2 (qf_ 0 0) rfl ?_
 refine A2 ql_ rfl ?_
 refine mv_ (mv_ ?_)
 refine A2 (A3M Tryz.func187 kR kR kR kR rfl rfl rfl (by omega) rfl rfl rfl) rfl ?_
 refine mv_ ?_
 refine A2 (A04 rfl) rfl ?_
 refine A2 (A0U rfl) rfl ?_
 refine as_ (A0 (D3 6 7 8) (A1 (mv_ (mv_ ?_))))
 refine A2 (E7 (place := fun x => #[(0, 1), (1, 1)][x]?) (z := [.int .u64 0, .int .u64 0]) (fun _ => by kernel_rfl) (eS rfl (eS rfl e0)) (bdS 0 1 rfl (by rfl) (bdS 1 1 rfl (by rfl) bd0))) rfl ?_
 refine A4 rfl (A8 rfl rfl Cel.cel kR ln2 al2 UpC.upd ?_)
 refine A0 (D2 6) (B4 ?_)
 refine ⟨_, [], [], A3y rfl rfl kR At.mem (by rfl), List.nil_sublist _, by simp, rfl, rfl, _, _, rfl, Nat.mod_lt _ (by decide), Nat.mod_lt _ (by decide), ?_⟩
 omega
theorem A0h (hi lo a : Nat) (h1 : hi < 18446744073709551616) (h2 : lo < 18446744073709551616) (h3 : a < 18446744073709551616) (A : Mem) :
  FnX Tryz.prog 165 [wd hi lo, .int .u64 (a : Int)] [] A fun r M J => M = [] ∧ J = [] ∧ ∃ hi' lo', r = wd hi' lo' ∧ hi' < 18446744073709551616 ∧ lo' < 18446744073709551616 ∧ hi' * 18446744073709551616 + lo' = (hi * 18446744073709551616 + lo + a) % 340282366920938463463374607431768211456 := by
 refine FnX.enter (N := 8) Tryz.func165 rfl rfl rfl fun w => ?_
 refine B0 (C9 0 1) (A1 ?_)
 refine A4 rfl (bx_ fun b2 => ?_)
 refine A4 rfl (C4 (cs := [.int .u64 0, .int .u64 0]) kR rfl fun b4 => ?_)
 refine A0 (D3 1 2 4) (A1 ?_)
 refine A2 (qw_ 2) rfl ?_
 refine mv_ ?_
 refine C7 (aS rfl (aS rfl (aS rfl a0))) kR (A15 hi lo a 1 h1 h2 h3 (by decide) _) rfl ?_
 rintro r M1 J1 ⟨rfl, rfl, hi', lo', rfl, g1, g2, g3⟩
 refine A4 rfl (A8 rfl rfl Cel.cel kR ln2 al2 UpC.upd ?_)
 refine A0 (D2 4) (B4 ?_)
 refine ⟨_, [], [], A3y rfl rfl kR At.mem (by rfl), List.nil_sublist _, by simp, rfl, rfl, hi', lo', rfl, g1, g2, ?_⟩
 rw [g3, Nat.mul_one]
theorem W2 (hi lo : Nat) (h1 : hi < 18446744073709551616) (h2 : lo < 18446744073709551616) (A : Mem) : FnV Tryz.prog 166 [wd hi lo] A (.int .u64 (((hi * 18446744073709551616 + lo) / 2251799813685248 % 18446744073709551616 : Nat) : Int)) := by
 refine FnX.enter (N := 10) Tryz.func166 rfl rfl rfl fun w => ?_
 refine B0 (D2 0) (A1 ?_)
 refine A4 rfl (bx_ fun b1 => ?_)
 refine as_ (A0 (D2 1) (A1 ?_))
 refine A2 (qf_ 0 0) rfl ?_
 refine A2 ql_ rfl ?_
 refine A2 (B2y 13 8192 18446744073709551616 rfl rfl rfl rfl rfl rfl (by decide)) rfl ?_
 refine A2 (qf_ 1 1) rfl ?_
 refine A2 ql_ rfl ?_
 refine A2 (K1 51 2251799813685248 rfl rfl rfl rfl (by decide)) rfl ?_
 refine A2 (B0G rfl rfl rfl (by show _ < 18446744073709551616; omega) (by show _ < 18446744073709551616; omega)) rfl ?_
 refine as_ (A0 (D2 2) (B4 ?_))
 refine ⟨_, [], [], I9 rfl rfl, List.nil_sublist _, by simp, ?_, rfl, rfl⟩
 rw [or13 h1 h2]

def X0 : List Nat → List Value
  | [] => []
  | x :: r => .int .u64 ((x / 18446744073709551616 : Nat) : Int) :: .int .u64 ((x % 18446744073709551616 : Nat) : Int) :: X0 r
theorem A7N (Xs : List Nat) : (X0 Xs).length = 2 * Xs.length := by
  induction Xs with
  | nil => rfl
  | cons x r ih => simp [X0, ih]; omega
theorem A37 : ∀ (Xs : List Nat) (j : Nat), j < Xs.length → (X0 Xs)[2 * j]? = some (.int .u64 ((Xs.getD j 0 / 18446744073709551616 : Nat) : Int)) ∧ (X0 Xs)[2 * j + 1]? = some (.int .u64 ((Xs.getD j 0 % 18446744073709551616 : Nat) : Int))
  | [], j, h => by simp at h
  | x :: r, 0, h => by simp [X0]
  | x :: r, j + 1, h => by
    have := A37 r j (by simpa using h)
    rw [show 2 * (j + 1) = 2 * j + 1 + 1 by omega]
    simpa [X0] using this
theorem A38 : ∀ (Xs : List Nat) (j x : Nat), j < Xs.length → (X0 Xs).take (2 * j) ++ [.int .u64 ((x / 18446744073709551616 : Nat) : Int), .int .u64 ((x % 18446744073709551616 : Nat) : Int)] ++ (X0 Xs).drop (2 * j + 2) = X0 (Xs.set j x)
  | [], j, x, h => by simp at h
  | y :: r, 0, x, h => by simp [X0]
  | y :: r, j + 1, x, h => by
    have := A38 r j x (by simpa using h)
    rw [show 2 * (j + 1) = 2 * j + 1 + 1 by omega]
    simp only [X0, List.take_succ_cons, List.cons_append, List.drop_succ_cons, List.set_cons_succ, this]
theorem B3j {P : Program} {R : Mem} {l : Env} {d : Option Nat} {ty t : TypeId} {pos : String} {af : Array Edge} {g : Option (Nat × Bool)} {x : Operand} {b o : Nat} {Xs : List Nat} {e : TypeId} {fr : Nat × Nat} (j : Nat) (hx : ev l x = some (.pointer (some ⟨b, o, none⟩))) (ht : A4r P t = some 2)
    (hb : (b, Obj.cells (X0 Xs).toArray e fr) ∈ R) (ho : o = 2 * j) (hj : j < Xs.length) : OpQ P R ⟨d, .load t x, ty, pos, af, g⟩ l (wd (Xs.getD j 0 / 18446744073709551616) (Xs.getD j 0 % 18446744073709551616)) := by
  subst ho
  obtain ⟨h1, h2⟩ := A37 Xs j hj
  refine V3 (vs := [.int .u64 ((Xs.getD j 0 / 18446744073709551616 : Nat) : Int), .int .u64 ((Xs.getD j 0 % 18446744073709551616 : Nat) : Int)]) hx ht hb rfl ?_
  intro i v hv
  match i, hv with
  | 0, hv => cases hv; exact h1
  | 1, hv => cases hv; exact h2
  | i + 2, hv => simp at hv
theorem B3k {C : Cx} {l : Env} {M J : Mem} {K : Env → Mem → Mem → Prop} {ty t : TypeId} {pos : String} {af : Array Edge} {g : Option (Nat × Bool)} {x y : Operand} {b o hi lo X : Nat} {Xs : List Nat} {e : TypeId} {M' : Mem} (j : Nat) (hx : ev l x = some (.pointer (some ⟨b, o, none⟩))) (hy : ev l y = some (wd hi lo))
    (ht : K7 C.P t = some 2) (ho : o = 2 * j) (hj : j < Xs.length) (hh : hi < 18446744073709551616) (hl : lo < 18446744073709551616) (hX : hi * 18446744073709551616 + lo = X) (hu : Upd M b (blk (X0 Xs) e) (blk (X0 (Xs.set j X)) e) M') (k : K l M' J) :
    OpL C ⟨none, .store t x y, ty, pos, af, g⟩ l M J K := by
  subst ho
  refine L3 (vs := [.int .u64 (hi : Int), .int .u64 (lo : Int)]) hx hy rfl ht (by rw [A7N]; simp; omega) (by simp [Value.oneCell']) ?_ hu k
  rw [← A38 Xs j X hj]
  have e1 : X / 18446744073709551616 = hi := by omega
  have e2 : X % 18446744073709551616 = lo := by omega
  rw [e1, e2]; rfl
theorem A2p {a : Nat} (h : a < 4503599627370496) : a < 18446744073709551616 := by omega
theorem B4b (h l : Nat) : l % 2251799813685248 = (h * 18446744073709551616 + l) % 2251799813685248 := by omega
theorem lowM (x : Nat) : x % 18446744073709551616 % 2251799813685248 = x % 2251799813685248 := by omega
theorem B4c (x : Nat) : x % 2251799813685248 < 4503599627370496 := by omega
theorem B3l {z1 z2 z3 z4 z5 y1 y2 y3 y4 y5 b : Nat} (h1 : z1 ≤ y1) (h2 : z2 ≤ y2) (h3 : z3 ≤ y3) (h4 : z4 ≤ y4) (h5 : z5 ≤ y5) (hb : y1 + y2 + y3 + y4 + y5 < b) : z1 + z2 + z3 + z4 + z5 < b := by omega
theorem back (X : Nat) : X / 18446744073709551616 * 18446744073709551616 + X % 18446744073709551616 = X := by omega
theorem B3m {xs : List Nat} {b i : Nat} (h : ∀ x ∈ xs, x < b) (hb : 0 < b) : xs.getD i 0 < b := getD_lt h hb
theorem A16 (v u : Value) (x y : Nat) (hx : Fe v x) (hy : Fe u y) (A : Mem) : FnX Tryz.prog 135 [v, u] [] A fun r M J => M = [] ∧ J = [] ∧ Fe r (x * y % p25) := by
 obtain ⟨a, b, c, d, e, rfl, hl0, hl1, hl2, hl3, hl4, rfl⟩ := hx
 obtain ⟨u0, u1, u2, u3, u4, rfl, hu0, hu1, hu2, hu3, hu4, rfl⟩ := hy
 refine FnX.enter (N := 105) Tryz.func135 rfl rfl rfl fun w => ?_
 refine B0 (C9 0 1) (A1 ?_)
 refine A4 rfl (bx_ fun b2 => ?_)
 refine A4 rfl (bx_ fun b3 => ?_)
 refine A4 rfl (C4 (cs := [D9, D9, D9, D9, D9]) kR rfl fun b4 => ?_)
 refine A0 (D3 2 3 4) (A1 ?_)
 refine A4 rfl (C4 (cs := [D9, D9, D9, D9, D9, D9, D9, D9, D9, D9]) kR rfl fun b5 => ?_)
 refine A0 (D8 2 3 4 5) (A3 (A1 (mv_ (A0 (E4 2 3 4 5 10) (A6 ?_)))))
 have has : ∀ x ∈ [a, b, c, d, e], x < 4503599627370496 := by intro x hx; simp only [List.mem_cons, List.not_mem_nil, or_false] at hx; rcases hx with rfl | rfl | rfl | rfl | rfl <;> assumption
 have hbs : ∀ x ∈ [u0, u1, u2, u3, u4], x < 4503599627370496 := by intro x hx; simp only [List.mem_cons, List.not_mem_nil, or_false] at hx; rcases hx with rfl | rfl | rfl | rfl | rfl <;> assumption
 have hall := A9t a b c d e u0 u1 u2 u3 u4 hl0 hl1 hl2 hl3 hl4 hu0 hu1 hu2 hu3 hu4
 have hla : [a, b, c, d, e].length = 5 := rfl
 have hlb : [u0, u1, u2, u3, u4].length = 5 := rfl
 refine A1f (M' := [(b5, blk (X0 [0, 0, 0, 0, 0]) 239), (b4, blk [.int .u64 0, .int .u64 0, .int .u64 0, .int .u64 0, .int .u64 0] 205), (b3, blk (nums .u64 [u0, u1, u2, u3, u4]) 205), (b2, blk (nums .u64 [a, b, c, d, e]) 205)]) (Fit.eq rfl) (fun _ h => h) ?_
 generalize [a, b, c, d, e] = xs at *
 generalize [u0, u1, u2, u3, u4] = ys at *
 refine E2 (α := Nat) (fun i => [(2, .pointer (some ⟨b2, 0, none⟩)), (3, .pointer (some ⟨b3, 0, none⟩)), (4, .pointer (some ⟨b4, 0, none⟩)), (5, .pointer (some ⟨b5, 0, none⟩)), (10, .int .i64 (i : Int))]) (fun i => [(b5, blk (X0 (A3l xs ys i)) 239), (b4, blk [.int .u64 0, .int .u64 0, .int .u64 0, .int .u64 0, .int .u64 0] 205), (b3, blk (nums .u64 ys) 205), (b2, blk (nums .u64 xs) 205)]) (fun _ => []) (fun i => i ≤ 5) (fun i => 5 - i) 0 (by decide) (E4 2 3 4 5 10) .rfl (fun _ h => h) ?_
 rintro i hi
 refine A1 ?_
 refine A2 (E0 rfl rfl rfl) rfl ?_
 refine A0 (H9 2 3 4 5 10 11) (A3 ?_)
 refine C5 rfl (fun hc => ?_) (fun hc => ?_)
 ·
  have hi5 : i < 5 := by simp at hc; omega
  have hfa : xs.getD i 0 < 4503599627370496 := B3m has (by decide)
  refine A5 (nx (E4 2 3 4 5 10) (A3 (A6 (A1 (mv_ (as_ (A0 (H9 2 3 4 5 6 10) (A1 ?_))))))))
  refine mv_ (A0 (V6 2 3 4 5 6 10 13) (A6 ?_))
  refine E2 (α := Nat) (fun k => [(2, .pointer (some ⟨b2, 0, none⟩)), (3, .pointer (some ⟨b3, 0, none⟩)), (4, .pointer (some ⟨b4, 0, none⟩)), (5, .pointer (some ⟨b5, 0, none⟩)), (6, .int .i64 (i : Int)), (10, .int .i64 (i : Int)), (13, .int .i64 (k : Int))]) (fun k => [(b5, blk (X0 (A3k xs ys i k (A3l xs ys i))) 239), (b4, blk [.int .u64 0, .int .u64 0, .int .u64 0, .int .u64 0, .int .u64 0] 205), (b3, blk (nums .u64 ys) 205), (b2, blk (nums .u64 xs) 205)]) (fun _ => []) (fun k => k ≤ 5) (fun k => 5 - k) 0 (by decide) (V6 2 3 4 5 6 10 13) .rfl (fun _ h => h) ?_
  rintro k hk
  refine A1 ?_
  refine A2 (E0 rfl rfl rfl) rfl ?_
  refine A0 (W4 2 3 4 5 6 10 13 14) (A3 ?_)
  refine C5 rfl (fun hc => ?_) (fun hc => ?_)
  ·
   have hk5 : k < 5 := by simp at hc; omega
   have hfb : ys.getD k 0 < 4503599627370496 := B3m hbs (by decide)
   have hlx : (A3k xs ys i k (A3l xs ys i)).length = 5 := by rw [A5D, A9s]
   have hXlt : ∀ j, (A3k xs ys i k (A3l xs ys i)).getD j 0 < 340282366920938463463374607431768211456 := fun j => getD_lt (A7H xs ys i k (B1s xs ys i)) (by decide)
   refine A5 (nx (V6 2 3 4 5 6 10 13) (A3 (A6 (A1 (mv_ (as_ (A0 (W4 2 3 4 5 6 7 10 13) (A1 ?_))))))))
   refine mv_ (mv_ ?_)
   refine A2 (D5 ((i + k : Nat) : Int) rfl rfl (F0 (by omega) (by omega) (by omega))) rfl ?_
   refine A2 (E0 rfl rfl rfl) rfl ?_
   refine A0 (A2j 2 3 4 5 6 7 10 13 19) ?_
   refine C5 rfl (fun hc => ?_) (fun hc => ?_)
   ·
    have hs5 : i + k < 5 := by simp at hc; omega
    have hj : B1q i k = i + k := by unfold B1q; rw [if_pos hs5]
    have hfx : B2h xs i k = xs.getD i 0 := by unfold B2h; rw [if_pos hs5]
    refine F1 (.range 16) (zp 0 [0, 0, 0, 0, 0, 0, 0, 1, 0, 0, 1, 0, 0, 1, 2, 0, 2]) kR kR fun hs => ?_
    refine fm_ hs ?_
    refine fm_ hs ?_
    refine C3 hs rfl (D5 ((i + k : Nat) : Int) rfl rfl (F0 (by omega) (by omega) (by omega))) rfl ?_
    refine fm_ hs ?_
    refine fm_ hs ?_
    refine C3 hs rfl (D5 ((i + k : Nat) : Int) rfl rfl (F0 (by omega) (by omega) (by omega))) rfl ?_
    refine C3 hs rfl (D7 (e := 238) (n := 5) (sz := 2) (i := i + k) rfl rfl kR kR rfl (by omega)) rfl ?_
    refine G6 hs rfl (B3j (i + k) rfl kR At.mem (by omega) (by omega)) rfl ?_
    refine fm_ hs ?_
    refine C3 hs rfl (D7 (e := 143) (n := 5) (sz := 1) (i := i) rfl rfl kR kR rfl (by omega)) rfl ?_
    refine G6 hs rfl (R9 i rfl kR (by first | exact At.mem | exact mA (by assumption)) (by omega) (by omega)) rfl ?_
    refine fm_ hs ?_
    refine C3 hs rfl (D7 (e := 143) (n := 5) (sz := 1) (i := k) rfl rfl kR kR rfl (by omega)) rfl ?_
    refine G6 hs rfl (R9 k rfl kR (by first | exact At.mem | exact mA (by assumption)) (by omega) (by omega)) rfl ?_
    refine N4 rfl (aS rfl (aS rfl (aS rfl a0))) kR (A15 _ _ _ _ (by have := hXlt (i + k); omega) (Nat.mod_lt _ (by decide)) (A2p hfa) (A2p hfb) _) rfl ?_
    rintro r1 M1 J1 ⟨rfl, rfl, h1, l1, rfl, g1, k1, e1⟩
    rw [back] at e1
    refine C3 hs rfl (D7 (e := 238) (n := 5) (sz := 2) (i := i + k) rfl rfl kR kR rfl (by omega)) rfl ?_
    refine E6 rfl rfl rfl (B3k (Xs := A3k xs ys i k (A3l xs ys i)) (i + k) rfl rfl kR (by omega) (by omega) g1 k1 e1 UpC.upd ?_)
    rw [show (A3k xs ys i k (A3l xs ys i)).set (i + k) (((A3k xs ys i k (A3l xs ys i)).getD (i + k) 0 + xs.getD i 0 * ys.getD k 0) % 340282366920938463463374607431768211456) = A3k xs ys i (k + 1) (A3l xs ys i) by rw [A3k, A7G, hj, hfx]]
    refine P0 (nb (nx (V6 2 3 4 5 6 10 13) (A9 ?_)))
    refine A2 (D5 ((k + 1 : Nat) : Int) rfl rfl (F0 (by omega) (by omega) (by omega))) rfl ?_
    refine mv_ (C2 ?_)
    exact rn (k + 1) (by omega) (by omega) (V6 2 3 4 5 6 10 13) .rfl (fun _ h => h)
   ·
    have hs5 : ¬ i + k < 5 := by simp at hc; omega
    have hj : B1q i k = i + k - 5 := by unfold B1q; rw [if_neg hs5]
    have hfx : B2h xs i k = 19 * xs.getD i 0 % 18446744073709551616 := by unfold B2h; rw [if_neg hs5]
    refine F1 (.range 19) (zp 0 [0, 0, 0, 0, 0, 0, 0, 0, 0, 1, 0, 0, 1, 0, 0, 0, 1, 2, 0, 2]) kR kR fun hs => ?_
    refine fm_ hs ?_
    refine fm_ hs ?_
    refine C3 hs rfl (D5 ((i + k : Nat) : Int) rfl rfl (F0 (by omega) (by omega) (by omega))) rfl ?_
    refine C3 hs rfl (D5 ((i + k - 5 : Nat) : Int) rfl rfl (Y6 (by omega) (by omega) (by omega))) rfl ?_
    refine fm_ hs ?_
    refine fm_ hs ?_
    refine C3 hs rfl (D5 ((i + k : Nat) : Int) rfl rfl (F0 (by omega) (by omega) (by omega))) rfl ?_
    refine C3 hs rfl (D5 ((i + k - 5 : Nat) : Int) rfl rfl (Y6 (by omega) (by omega) (by omega))) rfl ?_
    refine C3 hs rfl (D7 (e := 238) (n := 5) (sz := 2) (i := i + k - 5) rfl rfl kR kR rfl (by omega)) rfl ?_
    refine G6 hs rfl (B3j (i + k - 5) rfl kR At.mem (by omega) (by omega)) rfl ?_
    refine fm_ hs ?_
    refine C3 hs rfl (D7 (e := 143) (n := 5) (sz := 1) (i := i) rfl rfl kR kR rfl (by omega)) rfl ?_
    refine G6 hs rfl (R9 i rfl kR (by first | exact At.mem | exact mA (by assumption)) (by omega) (by omega)) rfl ?_
    refine C3 hs rfl (N1 18446744073709551616 (a := 19) rfl rfl rfl rfl rfl rfl) rfl ?_
    refine fm_ hs ?_
    refine C3 hs rfl (D7 (e := 143) (n := 5) (sz := 1) (i := k) rfl rfl kR kR rfl (by omega)) rfl ?_
    refine G6 hs rfl (R9 k rfl kR (by first | exact At.mem | exact mA (by assumption)) (by omega) (by omega)) rfl ?_
    refine N4 rfl (aS rfl (aS rfl (aS rfl a0))) kR (A15 _ _ _ _ (by have := hXlt (i + k - 5); omega) (Nat.mod_lt _ (by decide)) (Nat.mod_lt _ (by decide)) (A2p hfb) _) rfl ?_
    rintro r1 M1 J1 ⟨rfl, rfl, h1, l1, rfl, g1, k1, e1⟩
    rw [back] at e1
    refine C3 hs rfl (D7 (e := 238) (n := 5) (sz := 2) (i := i + k - 5) rfl rfl kR kR rfl (by omega)) rfl ?_
    refine E6 rfl rfl rfl (B3k (Xs := A3k xs ys i k (A3l xs ys i)) (i + k - 5) rfl rfl kR (by omega) (by omega) g1 k1 e1 UpC.upd ?_)
    rw [show (A3k xs ys i k (A3l xs ys i)).set (i + k - 5) (((A3k xs ys i k (A3l xs ys i)).getD (i + k - 5) 0 + (19 * xs.getD i 0 % 18446744073709551616) * ys.getD k 0) % 340282366920938463463374607431768211456) = A3k xs ys i (k + 1) (A3l xs ys i) by rw [A3k, A7G, hj, hfx]]
    refine P0 (nb (nx (V6 2 3 4 5 6 10 13) (A9 ?_)))
    refine A2 (D5 ((k + 1 : Nat) : Int) rfl rfl (F0 (by omega) (by omega) (by omega))) rfl ?_
    refine mv_ (C2 ?_)
    exact rn (k + 1) (by omega) (by omega) (V6 2 3 4 5 6 10 13) .rfl (fun _ h => h)
  ·
   have hk5 : k = 5 := by simp at hc; omega
   subst hk5
   refine D6 (te (re (be rfl (nb (nx (E4 2 3 4 5 10) (A9 ?_))))))
   refine A2 (D5 ((i + 1 : Nat) : Int) rfl rfl (F0 (by omega) (by omega) (by omega))) rfl ?_
   refine mv_ (C2 ?_)
   exact rn (i + 1) (by omega) (by omega) (E4 2 3 4 5 10) .rfl (fun _ h => h)
 ·
  have hi5 : i = 5 := by simp at hc; omega
  subst hi5
  rw [hall]
  clear hall
  have z00 := zb hl0 hu0
  have z01 := A2M hl1 hu4
  have z02 := A2M hl2 hu3
  have z03 := A2M hl3 hu2
  have z04 := A2M hl4 hu1
  have y0 := B3l z00 z01 z02 z03 z04 (b := 2596148429267413814265248164610048) (by decide)
  clear z00 z01 z02 z03 z04
  have z10 := zb hl0 hu1
  have z11 := zb hl1 hu0
  have z12 := A2M hl2 hu4
  have z13 := A2M hl3 hu3
  have z14 := A2M hl4 hu2
  have y1 := B3l z10 z11 z12 z13 z14 (b := 2596148429267413814265248164610048) (by decide)
  clear z10 z11 z12 z13 z14
  have z20 := zb hl0 hu2
  have z21 := zb hl1 hu1
  have z22 := zb hl2 hu0
  have z23 := A2M hl3 hu4
  have z24 := A2M hl4 hu3
  have y2 := B3l z20 z21 z22 z23 z24 (b := 2596148429267413814265248164610048) (by decide)
  clear z20 z21 z22 z23 z24
  have z30 := zb hl0 hu3
  have z31 := zb hl1 hu2
  have z32 := zb hl2 hu1
  have z33 := zb hl3 hu0
  have z34 := A2M hl4 hu4
  have y3 := B3l z30 z31 z32 z33 z34 (b := 2596148429267413814265248164610048) (by decide)
  clear z30 z31 z32 z33 z34
  have z40 := zb hl0 hu4
  have z41 := zb hl1 hu3
  have z42 := zb hl2 hu2
  have z43 := zb hl3 hu1
  have z44 := zb hl4 hu0
  have y4 := B3l z40 z41 z42 z43 z44 (b := 162259276829213363391578010288128) (by decide)
  clear z40 z41 z42 z43 z44
  have hring := A9r a b c d e u0 u1 u2 u3 u4
  generalize a * u0 + 19 * b * u4 + 19 * c * u3 + 19 * d * u2 + 19 * e * u1 = R0 at *
  generalize a * u1 + b * u0 + 19 * c * u4 + 19 * d * u3 + 19 * e * u2 = R1 at *
  generalize a * u2 + b * u1 + c * u0 + 19 * d * u4 + 19 * e * u3 = R2 at *
  generalize a * u3 + b * u2 + c * u1 + d * u0 + 19 * e * u4 = R3 at *
  generalize a * u4 + b * u3 + c * u2 + d * u1 + e * u0 = R4 at *
  have x0 : R0 / 18446744073709551616 < 18446744073709551616 := by omega
  have x1 : R1 / 18446744073709551616 < 18446744073709551616 := by omega
  have x2 : R2 / 18446744073709551616 < 18446744073709551616 := by omega
  have x3 : R3 / 18446744073709551616 < 18446744073709551616 := by omega
  have x4 : R4 / 18446744073709551616 < 18446744073709551616 := by omega
  simp only [X0]
  refine D6 (te (re (be rfl (nx (C9 4 5) (A1 ?_)))))
  refine A4 rfl (C4 (cs := [D9, D9, D9, D9, D9]) kR rfl fun b8 => ?_)
  refine A0 (D3 4 5 8) (A3 (A1 (mv_ (A0 (D8 4 5 8 57) (A6 ?_)))))
  refine T6 5 ?_
  refine E8 ?_
  refine A1 ?_
  refine A2 (E1 true rfl rfl (ltT (by decide))) rfl ?_
  refine A0 (E4 4 5 8 57 58) (A3 ?_)
  refine D0 rfl ?_
  refine A5 (nx (D8 4 5 8 57) (A3 (A6 (A1 (mv_ (as_ (A0 (E4 4 5 8 9 57) ?_)))))))
  refine D1 (.range 12) (zp 0 [0, 0, 0, 0, 0, 1, 0, 0, 1, 2, 2, 0, 2]) kR kR fun hs => ?_
  refine fm_ hs ?_
  refine C3 hs rfl (D5 (1 : Int) rfl rfl (F0 (by decide) (by decide) (by decide))) rfl ?_
  refine fm_ hs ?_
  refine C3 hs rfl (D5 (1 : Int) rfl rfl (F0 (by decide) (by decide) (by decide))) rfl ?_
  refine C3 hs rfl (qi_ 2 238 5 2 1) rfl ?_
  refine G6 hs rfl (T8 (n := 2) rfl kR (by first | exact At.mem | exact mA (by assumption)) TakeC.take) rfl ?_
  refine fm_ hs ?_
  refine C3 hs rfl (qi_ 0 238 5 2 0) rfl ?_
  refine G6 hs rfl (T8 (n := 2) rfl kR (by first | exact At.mem | exact mA (by assumption)) TakeC.take) rfl ?_
  refine S0 rfl (aS rfl a0) kR (W2 _ _ (by first | assumption | exact A2p (by assumption) | decide | exact Nat.mod_lt _ (by decide)) (by first | assumption | exact A2p (by assumption) | decide | exact Nat.mod_lt _ (by decide)) _) rfl ?_
  refine N4 rfl (aS rfl (aS rfl a0)) kR (A0h _ _ _ (by first | assumption | exact A2p (by assumption) | decide | exact Nat.mod_lt _ (by decide)) (by first | assumption | exact A2p (by assumption) | decide | exact Nat.mod_lt _ (by decide)) (Nat.mod_lt _ (by decide)) _) rfl ?_
  rintro r1 M1 J1 ⟨rfl, rfl, h1, l1, rfl, g1, k1, qq1⟩
  refine C3 hs rfl (qi_ 2 238 5 2 1) rfl ?_
  refine E6 rfl rfl rfl (A1w rfl rfl kR al2 UpC.upd ?_)
  refine F5 (E4 4 5 8 9 57) (A9 (mv_ (mv_ ?_)))
  refine A2 (qi_ 0 238 5 2 0) rfl ?_
  refine A2 (qf_ 1 1) rfl ?_
  refine A2 ql_ rfl ?_
  refine A2 (K2 51 2251799813685248 rfl rfl rfl rfl rfl (by show _ < 18446744073709551616; first | assumption | exact Nat.mod_lt _ (by decide) | omega) (by decide)) rfl ?_
  refine A2 (qi_ 0 143 5 1 0) rfl ?_
  refine A4 rfl (C8 rfl rfl rfl kR SetC.set UpC.upd ?_)
  refine C2 (nb (nx (D8 4 5 8 57) (A9 ?_)))
  refine A2 (D5 (1 : Int) rfl rfl (F0 (by decide) (by decide) (by decide))) rfl ?_
  refine mv_ (C2 ?_)
  refine un (D8 4 5 8 57) ?_
  refine E8 ?_
  refine A1 ?_
  refine A2 (E1 true rfl rfl (ltT (by decide))) rfl ?_
  refine A0 (E4 4 5 8 57 58) (A3 ?_)
  refine D0 rfl ?_
  refine A5 (nx (D8 4 5 8 57) (A3 (A6 (A1 (mv_ (as_ (A0 (E4 4 5 8 9 57) ?_)))))))
  refine D1 (.range 12) (zp 0 [0, 0, 0, 0, 0, 1, 0, 0, 1, 2, 2, 0, 2]) kR kR fun hs => ?_
  refine fm_ hs ?_
  refine C3 hs rfl (D5 (2 : Int) rfl rfl (F0 (by decide) (by decide) (by decide))) rfl ?_
  refine fm_ hs ?_
  refine C3 hs rfl (D5 (2 : Int) rfl rfl (F0 (by decide) (by decide) (by decide))) rfl ?_
  refine C3 hs rfl (qi_ 4 238 5 2 2) rfl ?_
  refine G6 hs rfl (T8 (n := 2) rfl kR (by first | exact At.mem | exact mA (by assumption)) TakeC.take) rfl ?_
  refine fm_ hs ?_
  refine C3 hs rfl (qi_ 2 238 5 2 1) rfl ?_
  refine G6 hs rfl (T8 (n := 2) rfl kR (by first | exact At.mem | exact mA (by assumption)) TakeC.take) rfl ?_
  refine S0 rfl (aS rfl a0) kR (W2 _ _ (by first | assumption | exact A2p (by assumption) | decide | exact Nat.mod_lt _ (by decide)) (by first | assumption | exact A2p (by assumption) | decide | exact Nat.mod_lt _ (by decide)) _) rfl ?_
  refine N4 rfl (aS rfl (aS rfl a0)) kR (A0h _ _ _ (by first | assumption | exact A2p (by assumption) | decide | exact Nat.mod_lt _ (by decide)) (by first | assumption | exact A2p (by assumption) | decide | exact Nat.mod_lt _ (by decide)) (Nat.mod_lt _ (by decide)) _) rfl ?_
  rintro r2 M2 J2 ⟨rfl, rfl, h2, l2, rfl, g2, k2, qq2⟩
  refine C3 hs rfl (qi_ 4 238 5 2 2) rfl ?_
  refine E6 rfl rfl rfl (A1w rfl rfl kR al2 UpC.upd ?_)
  refine F5 (E4 4 5 8 9 57) (A9 (mv_ (mv_ ?_)))
  refine A2 (qi_ 2 238 5 2 1) rfl ?_
  refine A2 (qf_ 3 1) rfl ?_
  refine A2 ql_ rfl ?_
  refine A2 (K2 51 2251799813685248 rfl rfl rfl rfl rfl (by show _ < 18446744073709551616; first | assumption | exact Nat.mod_lt _ (by decide) | omega) (by decide)) rfl ?_
  refine A2 (qi_ 1 143 5 1 1) rfl ?_
  refine A4 rfl (C8 rfl rfl rfl kR SetC.set UpC.upd ?_)
  refine C2 (nb (nx (D8 4 5 8 57) (A9 ?_)))
  refine A2 (D5 (2 : Int) rfl rfl (F0 (by decide) (by decide) (by decide))) rfl ?_
  refine mv_ (C2 ?_)
  refine un (D8 4 5 8 57) ?_
  refine E8 ?_
  refine A1 ?_
  refine A2 (E1 true rfl rfl (ltT (by decide))) rfl ?_
  refine A0 (E4 4 5 8 57 58) (A3 ?_)
  refine D0 rfl ?_
  refine A5 (nx (D8 4 5 8 57) (A3 (A6 (A1 (mv_ (as_ (A0 (E4 4 5 8 9 57) ?_)))))))
  refine D1 (.range 12) (zp 0 [0, 0, 0, 0, 0, 1, 0, 0, 1, 2, 2, 0, 2]) kR kR fun hs => ?_
  refine fm_ hs ?_
  refine C3 hs rfl (D5 (3 : Int) rfl rfl (F0 (by decide) (by decide) (by decide))) rfl ?_
  refine fm_ hs ?_
  refine C3 hs rfl (D5 (3 : Int) rfl rfl (F0 (by decide) (by decide) (by decide))) rfl ?_
  refine C3 hs rfl (qi_ 6 238 5 2 3) rfl ?_
  refine G6 hs rfl (T8 (n := 2) rfl kR (by first | exact At.mem | exact mA (by assumption)) TakeC.take) rfl ?_
  refine fm_ hs ?_
  refine C3 hs rfl (qi_ 4 238 5 2 2) rfl ?_
  refine G6 hs rfl (T8 (n := 2) rfl kR (by first | exact At.mem | exact mA (by assumption)) TakeC.take) rfl ?_
  refine S0 rfl (aS rfl a0) kR (W2 _ _ (by first | assumption | exact A2p (by assumption) | decide | exact Nat.mod_lt _ (by decide)) (by first | assumption | exact A2p (by assumption) | decide | exact Nat.mod_lt _ (by decide)) _) rfl ?_
  refine N4 rfl (aS rfl (aS rfl a0)) kR (A0h _ _ _ (by first | assumption | exact A2p (by assumption) | decide | exact Nat.mod_lt _ (by decide)) (by first | assumption | exact A2p (by assumption) | decide | exact Nat.mod_lt _ (by decide)) (Nat.mod_lt _ (by decide)) _) rfl ?_
  rintro r3 M3 J3 ⟨rfl, rfl, h3, l3, rfl, g3, k3, qq3⟩
  refine C3 hs rfl (qi_ 6 238 5 2 3) rfl ?_
  refine E6 rfl rfl rfl (A1w rfl rfl kR al2 UpC.upd ?_)
  refine F5 (E4 4 5 8 9 57) (A9 (mv_ (mv_ ?_)))
  refine A2 (qi_ 4 238 5 2 2) rfl ?_
  refine A2 (qf_ 5 1) rfl ?_
  refine A2 ql_ rfl ?_
  refine A2 (K2 51 2251799813685248 rfl rfl rfl rfl rfl (by show _ < 18446744073709551616; first | assumption | exact Nat.mod_lt _ (by decide) | omega) (by decide)) rfl ?_
  refine A2 (qi_ 2 143 5 1 2) rfl ?_
  refine A4 rfl (C8 rfl rfl rfl kR SetC.set UpC.upd ?_)
  refine C2 (nb (nx (D8 4 5 8 57) (A9 ?_)))
  refine A2 (D5 (3 : Int) rfl rfl (F0 (by decide) (by decide) (by decide))) rfl ?_
  refine mv_ (C2 ?_)
  refine un (D8 4 5 8 57) ?_
  refine E8 ?_
  refine A1 ?_
  refine A2 (E1 true rfl rfl (ltT (by decide))) rfl ?_
  refine A0 (E4 4 5 8 57 58) (A3 ?_)
  refine D0 rfl ?_
  refine A5 (nx (D8 4 5 8 57) (A3 (A6 (A1 (mv_ (as_ (A0 (E4 4 5 8 9 57) ?_)))))))
  refine D1 (.range 12) (zp 0 [0, 0, 0, 0, 0, 1, 0, 0, 1, 2, 2, 0, 2]) kR kR fun hs => ?_
  refine fm_ hs ?_
  refine C3 hs rfl (D5 (4 : Int) rfl rfl (F0 (by decide) (by decide) (by decide))) rfl ?_
  refine fm_ hs ?_
  refine C3 hs rfl (D5 (4 : Int) rfl rfl (F0 (by decide) (by decide) (by decide))) rfl ?_
  refine C3 hs rfl (qi_ 8 238 5 2 4) rfl ?_
  refine G6 hs rfl (T8 (n := 2) rfl kR (by first | exact At.mem | exact mA (by assumption)) TakeC.take) rfl ?_
  refine fm_ hs ?_
  refine C3 hs rfl (qi_ 6 238 5 2 3) rfl ?_
  refine G6 hs rfl (T8 (n := 2) rfl kR (by first | exact At.mem | exact mA (by assumption)) TakeC.take) rfl ?_
  refine S0 rfl (aS rfl a0) kR (W2 _ _ (by first | assumption | exact A2p (by assumption) | decide | exact Nat.mod_lt _ (by decide)) (by first | assumption | exact A2p (by assumption) | decide | exact Nat.mod_lt _ (by decide)) _) rfl ?_
  refine N4 rfl (aS rfl (aS rfl a0)) kR (A0h _ _ _ (by first | assumption | exact A2p (by assumption) | decide | exact Nat.mod_lt _ (by decide)) (by first | assumption | exact A2p (by assumption) | decide | exact Nat.mod_lt _ (by decide)) (Nat.mod_lt _ (by decide)) _) rfl ?_
  rintro r4 M4 J4 ⟨rfl, rfl, h4, l4, rfl, g4, k4, qq4⟩
  refine C3 hs rfl (qi_ 8 238 5 2 4) rfl ?_
  refine E6 rfl rfl rfl (A1w rfl rfl kR al2 UpC.upd ?_)
  refine F5 (E4 4 5 8 9 57) (A9 (mv_ (mv_ ?_)))
  refine A2 (qi_ 6 238 5 2 3) rfl ?_
  refine A2 (qf_ 7 1) rfl ?_
  refine A2 ql_ rfl ?_
  refine A2 (K2 51 2251799813685248 rfl rfl rfl rfl rfl (by show _ < 18446744073709551616; first | assumption | exact Nat.mod_lt _ (by decide) | omega) (by decide)) rfl ?_
  refine A2 (qi_ 3 143 5 1 3) rfl ?_
  refine A4 rfl (C8 rfl rfl rfl kR SetC.set UpC.upd ?_)
  refine C2 (nb (nx (D8 4 5 8 57) (A9 ?_)))
  refine A2 (D5 (4 : Int) rfl rfl (F0 (by decide) (by decide) (by decide))) rfl ?_
  refine mv_ (C2 ?_)
  refine un (D8 4 5 8 57) ?_
  refine E8 ?_
  refine A1 ?_
  refine A2 (E1 false rfl rfl (ltF (by decide))) rfl ?_
  refine A0 (E4 4 5 8 57 58) (A3 ?_)
  refine C6 rfl ?_
  refine D6 (te (ue (be rfl (nx (D3 4 5 8) (A1 ?_)))))
  refine A2 (qi_ 8 238 5 2 4) rfl ?_
  refine A2 (qf_ 9 1) rfl ?_
  refine A2 ql_ rfl ?_
  refine A2 (K2 51 2251799813685248 rfl rfl rfl rfl rfl (by show _ < 18446744073709551616; first | assumption | exact Nat.mod_lt _ (by decide) | omega) (by decide)) rfl ?_
  refine A2 (qi_ 4 143 5 1 4) rfl ?_
  refine A4 rfl (C8 rfl rfl rfl kR SetC.set UpC.upd ?_)
  refine A0 (D3 4 5 8) ?_
  refine D1 (.range 8) (zp 0 [0, 1, 0, 1, 2, 0, 0, 0, 2]) kR kR fun hs => ?_
  refine C3 hs rfl (qi_ 0 143 5 1 0) rfl ?_
  refine G6 hs rfl ql_ rfl ?_
  refine C3 hs rfl (qi_ 8 238 5 2 4) rfl ?_
  refine G6 hs rfl (T8 (n := 2) rfl kR (by first | exact At.mem | exact mA (by assumption)) TakeC.take) rfl ?_
  refine S0 rfl (aS rfl a0) kR (W2 _ _ (by first | assumption | exact A2p (by assumption) | decide | exact Nat.mod_lt _ (by decide)) (by first | assumption | exact A2p (by assumption) | decide | exact Nat.mod_lt _ (by decide)) _) rfl ?_
  refine C3 hs rfl (N1 18446744073709551616 (a := 19) rfl rfl rfl rfl rfl rfl) rfl ?_
  refine C3 hs rfl (F9 18446744073709551616 rfl rfl rfl rfl rfl rfl) rfl ?_
  refine C3 hs rfl (qi_ 0 143 5 1 0) rfl ?_
  refine E6 rfl rfl rfl (C8 rfl rfl rfl kR SetC.set UpC.upd ?_)
  refine F5 (C9 4 8) (A1 ?_)
  refine A2 (qi_ 1 143 5 1 1) rfl ?_
  refine A2 ql_ rfl ?_
  refine A2 (qi_ 0 143 5 1 0) rfl ?_
  refine A2 ql_ rfl ?_
  refine A2 (K1 51 2251799813685248 rfl rfl rfl rfl (by decide)) rfl ?_
  refine A2 (F9 18446744073709551616 rfl rfl rfl rfl rfl rfl) rfl ?_
  refine A2 (qi_ 1 143 5 1 1) rfl ?_
  refine A4 rfl (C8 rfl rfl rfl kR SetC.set UpC.upd ?_)
  refine A0 (C9 4 8) (A1 ?_)
  refine A2 (qi_ 0 143 5 1 0) rfl ?_
  refine A2 ql_ rfl ?_
  refine A2 (K2 51 2251799813685248 rfl rfl rfl rfl rfl (by show _ < 18446744073709551616; first | assumption | exact Nat.mod_lt _ (by decide) | omega) (by decide)) rfl ?_
  refine A2 (qi_ 0 143 5 1 0) rfl ?_
  refine A4 rfl (C8 rfl rfl rfl kR SetC.set UpC.upd ?_)
  refine A0 (C9 4 8) (A1 ?_)
  refine A2 (qw_ 5) rfl ?_
  refine A4 rfl (A8 rfl rfl Cel.cel kR ln5 al5 UpC.upd ?_)
  refine A0 (D2 4) (B4 ?_)
  rw [back] at qq1
  rw [back] at qq1
  rw [back] at qq2
  rw [back] at qq3
  rw [back] at qq4
  obtain ⟨t1, t2⟩ := A9p y0 y1 y2 y3 y4 qq1 qq2 qq3 qq4 (lowM R0) (B4b _ _) (B4b _ _) (B4b _ _) (B4b _ _) rfl rfl
  refine ⟨_, [], [], A3y rfl rfl kR At.mem (by rfl), List.nil_sublist _, by simp, rfl, rfl, _, _, _, _, _, rfl, B4c _, t1, B4c _, B4c _, B4c _, ?_⟩
  rw [I4 t2, ← Nat.mul_mod, hring, Nat.add_mul_mod_self_left]
theorem A1n (v : Value) (x : Nat) (hx : Fe v x) (A : Mem) : FnX Tryz.prog 162 [v] [] A fun r M J => M = [] ∧ J = [] ∧ Fe r (x * x % p25) := by
 have hx0 := hx
 obtain ⟨a, b, c, d, e, rfl, -⟩ := hx
 refine FnX.enter (N := 6) Tryz.func162 rfl rfl rfl fun w => ?_
 refine B0 (D2 0) (A1 ?_)
 refine A4 rfl (bx_ fun b1 => ?_)
 refine A4 rfl (C4 (cs := [D9, D9, D9, D9, D9]) kR rfl fun b2 => ?_)
 refine A0 (C9 1 2) (A1 ?_)
 refine A2 (qw_ 5) rfl ?_
 refine A2 (qw_ 5) rfl ?_
 refine C7 (aS rfl (aS rfl a0)) kR (A16 _ _ _ _ (by exact hx0) (by exact hx0) _) rfl ?_
 rintro r1 M1 J1 ⟨rfl, rfl, a1, b1, c1, d1, e1, rfl, hr⟩
 refine A4 rfl (A8 rfl rfl Cel.cel kR ln5 al5 UpC.upd ?_)
 refine A0 (D2 2) (B4 ?_)
 exact ⟨_, [], [], A3y rfl rfl kR At.mem (by rfl), List.nil_sublist _, by simp, rfl, rfl, a1, b1, c1, d1, e1, rfl, hr⟩
theorem A39 (n : Nat) (hn : n < 4294967296) (A : Mem) : FnX Tryz.prog 132 [.int .u32 (n : Int)] [] A fun r M J => M = [] ∧ J = [] ∧ Fe r n := by
 refine FnX.enter (N := 6) Tryz.func132 rfl rfl rfl fun w => ?_
 refine B0 (D2 0) (A1 ?_)
 refine A4 rfl (C4 (cs := [D9, D9, D9, D9, D9]) kR rfl fun b2 => ?_)
 refine A0 (C9 0 2) (A1 (mv_ ?_))
 refine A2 (A5i rfl kR) rfl ?_
 refine A2 (E7 (place := fun i => some (i * 1, 1)) (z := [D9, D9, D9, D9, D9]) (fun _ => by kernel_rfl) (eS rfl e0) (bdS 0 1 rfl (by rfl) bd0)) rfl ?_
 refine A4 rfl (A8 rfl rfl Cel.cel kR ln5 al5 UpC.upd ?_)
 refine A0 (D2 2) (B4 ?_)
 refine ⟨_, [], [], A3y rfl rfl kR At.mem (by rfl), List.nil_sublist _, by simp, rfl, rfl, n % 18446744073709551616, 0, 0, 0, 0, rfl, by omega, by decide, by decide, by decide, by decide, ?_⟩
 unfold fv p25; omega

end Go.Proofs.YthbhpfefdnffaaaGreatDoor
namespace Go.Px
def bv : List Nat → Nat
  | [] => 0
  | b :: r => b + 256 * bv r
theorem B4R {p : List Nat} (h : ∀ x ∈ p, x < 256) : bv p < 256 ^ p.length := by
  induction p with
  | nil => decide
  | cons b r ih =>
    have h1 := h b (by simp)
    have h2 := ih fun x hx => h x (by simp [hx])
    simp only [bv, List.length_cons, Nat.pow_succ]; omega
theorem B1u {p : List Nat} (h : ∀ x ∈ p, x < 256) (i : Nat) : bv p / 256 ^ i % 256 = p.getD i 0 := by
  induction p generalizing i with
  | nil => simp [bv]
  | cons b r ih =>
    have h1 := h b (by simp)
    cases i with
    | zero => simp only [bv, Nat.pow_zero, Nat.div_one, List.getD_cons_zero]; omega
    | succ i =>
      rw [List.getD_cons_succ, ← ih (fun x hx => h x (by simp [hx])) i, Nat.pow_succ, Nat.mul_comm, ← Nat.div_div_eq_div_mul]
      congr 2
      simp only [bv]; omega
theorem A7O {p : List Nat} (h : ∀ x ∈ p, x < 256) (i : Nat) : p.getD (i / 8) 0 / 2 ^ (i % 8) % 2 = bv p / 2 ^ i % 2 := by
  rw [← B1u h, show (256 : Nat) = 2 ^ 8 from rfl, ← Nat.pow_mul]
  have h1 : i % 8 < 8 := Nat.mod_lt _ (by decide)
  have e : 2 ^ 8 = 2 ^ (i % 8) * (2 * 2 ^ (7 - i % 8)) := by rw [← Nat.pow_succ', ← Nat.pow_add]; congr 1; omega
  rw [e, Nat.mod_mul_right_div_self, Nat.mod_mul_right_mod, Nat.div_div_eq_div_mul, ← Nat.pow_add]
  congr 3; omega
def prt (w N i j : Nat) : Nat := N % 2 ^ i / 2 ^ (w * j) % 2 ^ w
theorem A9w {w N i : Nat} (hw : 0 < w) : prt w N (i + 1) (i / w) = (prt w N i (i / w) ||| (N / 2 ^ i % 2) <<< (i % w)) := by
  have hr : i % w < w := Nat.mod_lt _ hw
  have hi : w * (i / w) + i % w = i := Nat.div_add_mod i w
  have hX : N % 2 ^ i / 2 ^ (w * (i / w)) < 2 ^ (i % w) := by
    rw [Nat.div_lt_iff_lt_mul (Nat.two_pow_pos _), ← Nat.pow_add, Nat.add_comm, hi]
    exact Nat.mod_lt _ (Nat.two_pow_pos _)
  have hle : 2 ^ (i % w) * 2 ≤ 2 ^ w := by rw [← Nat.pow_succ]; exact Nat.pow_le_pow_right (by decide) hr
  have hb : N / 2 ^ i % 2 < 2 := Nat.mod_lt _ (by decide)
  unfold prt
  rw [Nat.mod_eq_of_lt (Nat.lt_of_lt_of_le hX (by omega)), Nat.or_comm, ← Nat.shiftLeft_add_eq_or_of_lt hX, Nat.mod_pow_succ]
  have e : (N % 2 ^ i + 2 ^ i * (N / 2 ^ i % 2)) / 2 ^ (w * (i / w)) = N % 2 ^ i / 2 ^ (w * (i / w)) + 2 ^ (i % w) * (N / 2 ^ i % 2) := by
    conv => lhs; rw [show 2 ^ i * (N / 2 ^ i % 2) = 2 ^ (w * (i / w)) * (2 ^ (i % w) * (N / 2 ^ i % 2)) by rw [← Nat.mul_assoc, ← Nat.pow_add, hi]]
    rw [Nat.add_mul_div_left _ _ (Nat.two_pow_pos _)]
  rw [e, Nat.shiftLeft_eq, Nat.mod_eq_of_lt, Nat.add_comm, Nat.mul_comm]
  generalize N / 2 ^ i % 2 = b at *
  have : 2 ^ (i % w) * b ≤ 2 ^ (i % w) * 1 := Nat.mul_le_mul_left _ (by omega)
  omega
theorem A9x {w N i j : Nat} (hw : 0 < w) (h : j ≠ i / w) : prt w N (i + 1) j = prt w N i j := by
  have hi : w * (i / w) + i % w = i := Nat.div_add_mod i w
  have hr : i % w < w := Nat.mod_lt _ hw
  unfold prt
  rw [Nat.mod_pow_succ]
  rcases Nat.lt_or_gt_of_ne h with hl | hg
  · have hge : w * (j + 1) ≤ i := by
      have := Nat.mul_le_mul_left w (show j + 1 ≤ i / w from hl)
      omega
    have e : 2 ^ i * (N / 2 ^ i % 2) = 2 ^ (w * j) * (2 ^ w * (2 ^ (i - w * (j + 1)) * (N / 2 ^ i % 2))) := by
      rw [← Nat.mul_assoc, ← Nat.mul_assoc, ← Nat.pow_add, ← Nat.pow_add]
      congr 2
      rw [Nat.mul_add] at hge ⊢; omega
    rw [e, Nat.add_mul_div_left _ _ (Nat.two_pow_pos _), Nat.add_mul_mod_self_left]
  · have hge : i + 1 ≤ w * j := by
      have := Nat.mul_le_mul_left w (show i / w + 1 ≤ j from hg)
      rw [Nat.mul_add] at this; omega
    have h1 : N % 2 ^ i < 2 ^ (w * j) := Nat.lt_of_lt_of_le (Nat.mod_lt _ (Nat.two_pow_pos _)) (Nat.pow_le_pow_right (by decide) (by omega))
    have h2 : N % 2 ^ i + 2 ^ i * (N / 2 ^ i % 2) < 2 ^ (w * j) := by
      rw [← Nat.mod_pow_succ]
      exact Nat.lt_of_lt_of_le (Nat.mod_lt _ (Nat.two_pow_pos _)) (Nat.pow_le_pow_right (by decide) hge)
    rw [Nat.div_eq_of_lt h1, Nat.div_eq_of_lt h2]
def A0n (w n N i : Nat) : List Nat := (List.range n).map (prt w N i)
theorem L6 (w n N i : Nat) : (A0n w n N i).length = n := by simp [A0n]
theorem A1B {w n N i j : Nat} (h : j < n) : (A0n w n N i).getD j 0 = prt w N i j := by simp [A0n, List.getD, h]
theorem A17 (w n N : Nat) : A0n w n N 0 = List.replicate n 0 := by
  apply List.ext_getElem?
  intro j
  simp only [A0n, List.getElem?_map, List.getElem?_replicate]
  by_cases h : j < n
  · simp [h, prt, Nat.mod_one]
  · simp [h]
theorem A18 {w n N i : Nat} (hw : 0 < w) (hi : i / w < n) : A0n w n N (i + 1) = (A0n w n N i).set (i / w) (prt w N i (i / w) ||| (N / 2 ^ i % 2) <<< (i % w)) := by
  apply List.ext_getElem?
  intro j
  rw [List.getElem?_set]
  simp only [A0n, List.getElem?_map, List.length_map, List.length_range]
  by_cases h : j < n
  · by_cases e : i / w = j
    · subst e; simp [h, A9w hw]
    · simp [h, e, A9x hw (fun h => e h.symm)]
  · have : i / w ≠ j := by omega
    simp [h, this]
theorem A7P (p q : List Nat) : bv (p ++ q) = bv p + 256 ^ p.length * bv q := by
  induction p with
  | nil => simp [bv]
  | cons b r ih => simp only [List.cons_append, bv, ih, List.length_cons, Nat.pow_succ]; grind
theorem A4a (X : Nat) : ∀ n, bv ((List.range n).map fun j => X / 2 ^ (8 * j) % 2 ^ 8) = X % 2 ^ (8 * n)
  | 0 => by simp [bv, Nat.mod_one]
  | n + 1 => by
    rw [List.range_succ, List.map_append, A7P, A4a X n, List.length_map, List.length_range]
    simp only [List.map_cons, List.map_nil, bv, Nat.mul_zero, Nat.add_zero]
    rw [show (256 : Nat) ^ n = 2 ^ (8 * n) by rw [Nat.pow_mul], show 8 * (n + 1) = 8 * n + 8 by omega, Nat.pow_add, Nat.mod_mul]
theorem A7Q (x i : Nat) : ∀ y ∈ A0n 8 32 x i, y < 256 := by
  intro y hy
  obtain ⟨j, _, rfl⟩ := List.mem_map.1 hy
  exact Nat.mod_lt _ (Nat.two_pow_pos _)
end Go.Px

