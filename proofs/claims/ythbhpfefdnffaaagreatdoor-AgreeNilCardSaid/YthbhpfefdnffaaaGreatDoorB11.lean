/- Part 11 of the texts of this claim, one behind the other. -/
import Derived.Test.YthbhpfefdnffaaaGreatDoorB10
set_option linter.unusedVariables false
set_option linter.unusedSimpArgs false
set_option maxRecDepth 100000
namespace Go.Proofs.YthbhpfefdnffaaaGreatDoor
open Go.Px
theorem B3m (A : Mem) : FnX Tryz.prog 172 [] [] A fun r M J => M = [] ∧ J = [] ∧ FeP r pO := by
 refine FnX.enter (N := 4) Tryz.func172 rfl rfl rfl fun w => ?_
 refine C4 kn (A3 ?_)
 refine A6 rfl (C5 (cs := [A7, A7, A7, A7, A7, A7, A7, A7, A7, A7, A7, A7, A7, A7, A7, A7, A7, A7, A7, A7]) kR rfl fun b0 => ?_)
 refine A0 (D8 0) (A3 ?_)
 refine D0 (aS rfl a0) kR (A0w 1 (by decide) _) rfl ?_
 rintro r1 M1 J1 ⟨rfl, rfl, k1⟩
 have h1 := k1
 obtain ⟨a1, b1, c1, d1, e1, rfl, -⟩ := k1
 refine D0 (aS rfl a0) kR (A0w 1 (by decide) _) rfl ?_
 rintro r2 M2 J2 ⟨rfl, rfl, k2⟩
 have h2 := k2
 obtain ⟨a2, b2, c2, d2, e2, rfl, -⟩ := k2
 refine A4 (F6 (place := fun x => #[(0, 5), (5, 5), (10, 5), (15, 5)][x]?) (z := [A7, A7, A7, A7, A7, A7, A7, A7, A7, A7, A7, A7, A7, A7, A7, A7, A7, A7, A7, A7]) (fun _ => by kernel_rfl) (eS rfl (eS rfl e0)) (bdS 5 5 rfl (by rfl) (bdS 10 5 rfl (by rfl) bd0))) rfl ?_
 refine A6 rfl (A8 rfl rfl Cel.cel kR A2F A2G UpC.upd ?_)
 refine A0 (D8 0) (C1 ?_)
 exact ⟨_, [], [], A1g rfl rfl kR At.mem (by rfl), List.nil_sublist _, by simp, rfl, rfl, ⟨_, rfl, _, _, _, _, _, _, _, _, _, _, _, _, _, _, _, _, _, _, _, _, rfl, K4, h1, h2, K4⟩⟩
theorem A65 (A : Mem) : FnX Tryz.prog 173 [] [] A fun r M J => M = [] ∧ J = [] ∧ Fe r dN := by
 refine FnX.enter (N := 6) Tryz.func173 rfl rfl rfl fun w => ?_
 refine C4 kn (A3 ?_)
 refine A6 rfl (C5 (cs := [A7, A7, A7, A7, A7]) kR rfl fun b0 => ?_)
 refine A0 (D8 0) (A3 ?_)
 refine D0 (aS rfl a0) kR (A0w 121665 (by decide) _) rfl ?_
 rintro r1 M1 J1 ⟨rfl, rfl, k1⟩
 have h1 := k1
 obtain ⟨a1, b1, c1, d1, e1, rfl, -⟩ := k1
 refine D0 (aS rfl a0) kR (A0w 121666 (by decide) _) rfl ?_
 rintro r2 M2 J2 ⟨rfl, rfl, k2⟩
 have h2 := k2
 obtain ⟨a2, b2, c2, d2, e2, rfl, -⟩ := k2
 refine D0 (aS rfl a0) kR (B0M h2 _) rfl ?_
 rintro r3 M3 J3 ⟨rfl, rfl, k3⟩
 have h3 := k3
 obtain ⟨a3, b3, c3, d3, e3, rfl, -⟩ := k3
 refine D0 (aS rfl (aS rfl a0)) kR (R7 h1 h3 _) rfl ?_
 rintro r4 M4 J4 ⟨rfl, rfl, k4⟩
 have h4 := k4
 obtain ⟨a4, b4, c4, d4, e4, rfl, -⟩ := k4
 refine D0 (aS rfl a0) kR (B6t h4 _) rfl ?_
 rintro r5 M5 J5 ⟨rfl, rfl, k5⟩
 rw [C0c] at k5
 have h5 := k5
 obtain ⟨a5, b5, c5, d5, e5, rfl, -⟩ := k5
 refine A6 rfl (A8 rfl rfl Cel.cel kR ln5 al5 UpC.upd ?_)
 refine A0 (D8 0) (C1 ?_)
 exact ⟨_, [], [], A1g rfl rfl kR At.mem (by rfl), List.nil_sublist _, by simp, rfl, rfl, h5⟩
theorem B0N (V W u : Value) (P Q : Pt) (dd : Nat) (hV : FeP V P) (hW : FeP W Q) (hu : Fe u dd) (A : Mem) : FnX Tryz.prog 174 [V, W, u] [] A fun r M J => M = [] ∧ J = [] ∧ FeP r (A6f dd P Q) := by
 obtain ⟨xsp, rfl, p0, p1, p2, p3, p4, p5, p6, p7, p8, p9, p10, p11, p12, p13, p14, p15, p16, p17, p18, p19, rfl, hPX, hPY, hPZ, hPT⟩ := hV
 dsimp only [nums, List.map]
 obtain ⟨xsq, rfl, q0, q1, q2, q3, q4, q5, q6, q7, q8, q9, q10, q11, q12, q13, q14, q15, q16, q17, q18, q19, rfl, hQX, hQY, hQZ, hQT⟩ := hW
 dsimp only [nums, List.map]
 have hd := hu
 obtain ⟨ud0, ud1, ud2, ud3, ud4, rfl, -⟩ := hu
 refine FnX.enter (N := 77) Tryz.func174 rfl rfl rfl fun w => ?_
 refine C4 (E1 0 1 2) (A3 ?_)
 refine A6 rfl (bx_ fun b3 => ?_)
 refine A6 rfl (bx_ fun b4 => ?_)
 refine A6 rfl (bx_ fun b5 => ?_)
 refine A6 rfl (C5 (cs := [A7, A7, A7, A7, A7, A7, A7, A7, A7, A7, A7, A7, A7, A7, A7, A7, A7, A7, A7, A7]) kR rfl fun b6 => ?_)
 refine A0 (E9 3 4 5 6) ?_
 refine D3 (.range 12) [(0, 0), (1, 1), (2, 0), (3, 1), (5, 0), (6, 1), (7, 0), (8, 1), (4, 3), (9, 3), (10, 3), (11, 4), (12, 2)] kR kR fun hs => ?_
 refine D2 hs rfl (qf_ 5 5) rfl ?_
 refine F8 hs rfl (H2 (n := 5) rfl kR (by first | exact At.mem | exact mA (by assumption)) TakeC.take) rfl ?_
 refine D2 hs rfl (qf_ 0 0) rfl ?_
 refine F8 hs rfl (H2 (n := 5) rfl kR (by first | exact At.mem | exact mA (by assumption)) TakeC.take) rfl ?_
 refine D2 hs rfl (qf_ 5 5) rfl ?_
 refine F8 hs rfl (H2 (n := 5) rfl kR (by first | exact At.mem | exact mA (by assumption)) TakeC.take) rfl ?_
 refine D2 hs rfl (qf_ 0 0) rfl ?_
 refine F8 hs rfl (H2 (n := 5) rfl kR (by first | exact At.mem | exact mA (by assumption)) TakeC.take) rfl ?_
 refine N2 [⟨4, 19, fun v B _ => B = [] ∧ Fe v (fS P.Y P.X)⟩, ⟨9, 24, fun v B _ => B = [] ∧ Fe v (fS Q.Y Q.X)⟩, ⟨10, 25, fun v B _ => B = [] ∧ Fe v (fM (fS P.Y P.X) (fS Q.Y Q.X))⟩, ⟨11, 7, fun v B _ => ∃ b, v = .pointer (some ⟨b, 0, none⟩) ∧ B = [(b, blk [.int .u64 0, .int .u64 0, .int .u64 0, .int .u64 0, .int .u64 0] 205)]⟩]
  (C3 (fun _ _ _ _ _ h => h) (C3 (fun _ _ _ _ _ h => h) (C3 (fun _ _ _ _ _ h => h) (C3 (fun _ _ _ _ _ h => h) (L1))))) (show List.Nodup [19, 24, 25, 7] by decide) (show List.Nodup [4, 9, 10, 11] by decide) (C3 (C9 rfl) (C3 (C9 rfl) (C3 (C9 rfl) (C3 (C9 rfl) (L1)))))
  (C3 ⟨_, rfl, fun vs bs R w hb ha => ⟨.inl rfl, ?_⟩⟩ (C3 ⟨_, rfl, fun vs bs R w hb ha => ⟨.inl rfl, ?_⟩⟩ (C3 ⟨_, rfl, fun vs bs R w hb ha => ⟨.inl rfl, ?_⟩⟩ (C3 ⟨_, rfl, fun vs bs R w hb ha => ⟨.inl rfl, ?_⟩⟩ (L1))))) ?_
 ·
  refine D5 (aS rfl (aS rfl (a0))) kR (A44 hPY hPX _) rfl ?_
  rintro r M1 J1 ⟨rfl, rfl, hh⟩
  exact ⟨_, rfl, rfl, hh⟩
 ·
  refine D5 (aS rfl (aS rfl (a0))) kR (A44 hQY hQX _) rfl ?_
  rintro r M1 J1 ⟨rfl, rfl, hh⟩
  exact ⟨_, rfl, rfl, hh⟩
 ·
  have g4 := ha _ (List.mem_of_getElem? (i := 0) rfl) kR
  replace g4 : (fun v B _ => B = [] ∧ Fe v (fS P.Y P.X)) (vs 4) (bs 4) R := g4
  dsimp only at g4
  have g9 := ha _ (List.mem_of_getElem? (i := 1) rfl) kR
  replace g9 : (fun v B _ => B = [] ∧ Fe v (fS Q.Y Q.X)) (vs 9) (bs 9) R := g9
  dsimp only at g9
  obtain ⟨-, k4⟩ := g4
  obtain ⟨-, k9⟩ := g9
  refine D5 (aS rfl (aS rfl (a0))) kR (R7 k4 k9 _) rfl ?_
  rintro r M1 J1 ⟨rfl, rfl, hh⟩
  exact ⟨_, rfl, rfl, hh⟩
 ·
  exact C5 (cs := [A7, A7, A7, A7, A7]) kR rfl fun b => ⟨_, rfl, b, rfl, rfl⟩
 intro vs bs Jn0 hφ
 have g4 := ofH hφ
 dsimp only at g4
 replace hφ := ofT hφ
 have g9 := ofH hφ
 dsimp only at g9
 replace hφ := ofT hφ
 have g10 := ofH hφ
 dsimp only at g10
 replace hφ := ofT hφ
 have g11 := ofH hφ
 dsimp only at g11
 clear hφ
 dsimp only [P3, H9, List.map, List.flatten, List.cons_append, List.nil_append]
 generalize bs 4 = B19 at *
 generalize bs 9 = B24 at *
 generalize bs 10 = B25 at *
 generalize bs 11 = B7 at *
 generalize vs 4 = u19 at *
 generalize vs 9 = u24 at *
 generalize vs 10 = u25 at *
 generalize vs 11 = u7 at *
 obtain ⟨rfl, k4⟩ := g4
 have h4 := k4
 obtain ⟨a4, b4, c4, d4, e4, rfl, -⟩ := k4
 obtain ⟨rfl, k9⟩ := g9
 have h9 := k9
 obtain ⟨a9, b9, c9, d9, e9, rfl, -⟩ := k9
 obtain ⟨rfl, k10⟩ := g10
 have h10 := k10
 obtain ⟨a10, b10, c10, d10, e10, rfl, -⟩ := k10
 obtain ⟨b11, rfl, rfl⟩ := g11
 dsimp only [List.append_eq, List.nil_append, List.cons_append]
 have hfa := h10
 clear h4 h9 h10
 refine G5 rfl rfl rfl (A8 rfl rfl Cel.cel kR ln5 al5 UpC.upd ?_)
 refine E4 (F9 3 4 5 6 7) ?_
 refine D3 (.range 12) [(0, 0), (1, 1), (2, 0), (3, 1), (5, 0), (6, 1), (7, 0), (8, 1), (4, 3), (9, 3), (10, 3), (11, 4), (12, 2)] kR kR fun hs => ?_
 refine D2 hs rfl (qf_ 5 5) rfl ?_
 refine F8 hs rfl (H2 (n := 5) rfl kR (by first | exact At.mem | exact mA (by assumption)) TakeC.take) rfl ?_
 refine D2 hs rfl (qf_ 0 0) rfl ?_
 refine F8 hs rfl (H2 (n := 5) rfl kR (by first | exact At.mem | exact mA (by assumption)) TakeC.take) rfl ?_
 refine D2 hs rfl (qf_ 5 5) rfl ?_
 refine F8 hs rfl (H2 (n := 5) rfl kR (by first | exact At.mem | exact mA (by assumption)) TakeC.take) rfl ?_
 refine D2 hs rfl (qf_ 0 0) rfl ?_
 refine F8 hs rfl (H2 (n := 5) rfl kR (by first | exact At.mem | exact mA (by assumption)) TakeC.take) rfl ?_
 refine N2 [⟨4, 30, fun v B _ => B = [] ∧ Fe v (fA P.Y P.X)⟩, ⟨9, 35, fun v B _ => B = [] ∧ Fe v (fA Q.Y Q.X)⟩, ⟨10, 36, fun v B _ => B = [] ∧ Fe v (fM (fA P.Y P.X) (fA Q.Y Q.X))⟩, ⟨11, 8, fun v B _ => ∃ b, v = .pointer (some ⟨b, 0, none⟩) ∧ B = [(b, blk [.int .u64 0, .int .u64 0, .int .u64 0, .int .u64 0, .int .u64 0] 205)]⟩]
  (C3 (fun _ _ _ _ _ h => h) (C3 (fun _ _ _ _ _ h => h) (C3 (fun _ _ _ _ _ h => h) (C3 (fun _ _ _ _ _ h => h) (L1))))) (show List.Nodup [30, 35, 36, 8] by decide) (show List.Nodup [4, 9, 10, 11] by decide) (C3 (C9 rfl) (C3 (C9 rfl) (C3 (C9 rfl) (C3 (C9 rfl) (L1)))))
  (C3 ⟨_, rfl, fun vs bs R w hb ha => ⟨.inl rfl, ?_⟩⟩ (C3 ⟨_, rfl, fun vs bs R w hb ha => ⟨.inl rfl, ?_⟩⟩ (C3 ⟨_, rfl, fun vs bs R w hb ha => ⟨.inl rfl, ?_⟩⟩ (C3 ⟨_, rfl, fun vs bs R w hb ha => ⟨.inl rfl, ?_⟩⟩ (L1))))) ?_
 ·
  refine D5 (aS rfl (aS rfl (a0))) kR (A3Q hPY hPX _) rfl ?_
  rintro r M1 J1 ⟨rfl, rfl, hh⟩
  exact ⟨_, rfl, rfl, hh⟩
 ·
  refine D5 (aS rfl (aS rfl (a0))) kR (A3Q hQY hQX _) rfl ?_
  rintro r M1 J1 ⟨rfl, rfl, hh⟩
  exact ⟨_, rfl, rfl, hh⟩
 ·
  have g4 := ha _ (List.mem_of_getElem? (i := 0) rfl) kR
  replace g4 : (fun v B _ => B = [] ∧ Fe v (fA P.Y P.X)) (vs 4) (bs 4) R := g4
  dsimp only at g4
  have g9 := ha _ (List.mem_of_getElem? (i := 1) rfl) kR
  replace g9 : (fun v B _ => B = [] ∧ Fe v (fA Q.Y Q.X)) (vs 9) (bs 9) R := g9
  dsimp only at g9
  obtain ⟨-, k4⟩ := g4
  obtain ⟨-, k9⟩ := g9
  refine D5 (aS rfl (aS rfl (a0))) kR (R7 k4 k9 _) rfl ?_
  rintro r M1 J1 ⟨rfl, rfl, hh⟩
  exact ⟨_, rfl, rfl, hh⟩
 ·
  exact C5 (cs := [A7, A7, A7, A7, A7]) kR rfl fun b => ⟨_, rfl, b, rfl, rfl⟩
 intro vs bs Jn0 hφ
 have g4 := ofH hφ
 dsimp only at g4
 replace hφ := ofT hφ
 have g9 := ofH hφ
 dsimp only at g9
 replace hφ := ofT hφ
 have g10 := ofH hφ
 dsimp only at g10
 replace hφ := ofT hφ
 have g11 := ofH hφ
 dsimp only at g11
 clear hφ
 dsimp only [P3, H9, List.map, List.flatten, List.cons_append, List.nil_append]
 generalize bs 4 = B30 at *
 generalize bs 9 = B35 at *
 generalize bs 10 = B36 at *
 generalize bs 11 = B8 at *
 generalize vs 4 = u30 at *
 generalize vs 9 = u35 at *
 generalize vs 10 = u36 at *
 generalize vs 11 = u8 at *
 obtain ⟨rfl, k4⟩ := g4
 have h4 := k4
 obtain ⟨a4, b4, c4, d4, e4, rfl, -⟩ := k4
 obtain ⟨rfl, k9⟩ := g9
 have h9 := k9
 obtain ⟨a9, b9, c9, d9, e9, rfl, -⟩ := k9
 obtain ⟨rfl, k10⟩ := g10
 have h10 := k10
 obtain ⟨a10, b10, c10, d10, e10, rfl, -⟩ := k10
 obtain ⟨b11, rfl, rfl⟩ := g11
 dsimp only [List.append_eq, List.nil_append, List.cons_append]
 have hfb := h10
 clear h4 h9 h10
 refine G5 rfl rfl rfl (A8 rfl rfl Cel.cel kR ln5 al5 UpC.upd ?_)
 refine E4 (I4 3 4 5 6 7 8) ?_
 refine D3 (.range 8) [(0, 0), (1, 1), (2, 1), (4, 0), (5, 1), (3, 3), (6, 3), (7, 4), (8, 2)] kR kR fun hs => ?_
 refine D2 hs rfl (qf_ 15 15) rfl ?_
 refine F8 hs rfl (H2 (n := 5) rfl kR (by first | exact At.mem | exact mA (by assumption)) TakeC.take) rfl ?_
 refine F8 hs rfl (qw_ 5) rfl ?_
 refine D2 hs rfl (qf_ 15 15) rfl ?_
 refine F8 hs rfl (H2 (n := 5) rfl kR (by first | exact At.mem | exact mA (by assumption)) TakeC.take) rfl ?_
 refine N2 [⟨3, 40, fun v B _ => B = [] ∧ Fe v (fM P.T dd)⟩, ⟨6, 43, fun v B _ => B = [] ∧ Fe v (fM (fM P.T dd) Q.T)⟩, ⟨7, 9, fun v B _ => ∃ b, v = .pointer (some ⟨b, 0, none⟩) ∧ B = [(b, blk [.int .u64 0, .int .u64 0, .int .u64 0, .int .u64 0, .int .u64 0] 205)]⟩]
  (C3 (fun _ _ _ _ _ h => h) (C3 (fun _ _ _ _ _ h => h) (C3 (fun _ _ _ _ _ h => h) (L1)))) (show List.Nodup [40, 43, 9] by decide) (show List.Nodup [3, 6, 7] by decide) (C3 (C9 rfl) (C3 (C9 rfl) (C3 (C9 rfl) (L1))))
  (C3 ⟨_, rfl, fun vs bs R w hb ha => ⟨.inl rfl, ?_⟩⟩ (C3 ⟨_, rfl, fun vs bs R w hb ha => ⟨.inl rfl, ?_⟩⟩ (C3 ⟨_, rfl, fun vs bs R w hb ha => ⟨.inl rfl, ?_⟩⟩ (L1)))) ?_
 ·
  refine D5 (aS rfl (aS rfl (a0))) kR (R7 hPT hd _) rfl ?_
  rintro r M1 J1 ⟨rfl, rfl, hh⟩
  exact ⟨_, rfl, rfl, hh⟩
 ·
  have g3 := ha _ (List.mem_of_getElem? (i := 0) rfl) kR
  replace g3 : (fun v B _ => B = [] ∧ Fe v (fM P.T dd)) (vs 3) (bs 3) R := g3
  dsimp only at g3
  obtain ⟨-, k3⟩ := g3
  refine D5 (aS rfl (aS rfl (a0))) kR (R7 k3 hQT _) rfl ?_
  rintro r M1 J1 ⟨rfl, rfl, hh⟩
  exact ⟨_, rfl, rfl, hh⟩
 ·
  exact C5 (cs := [A7, A7, A7, A7, A7]) kR rfl fun b => ⟨_, rfl, b, rfl, rfl⟩
 intro vs bs Jn0 hφ
 have g3 := ofH hφ
 dsimp only at g3
 replace hφ := ofT hφ
 have g6 := ofH hφ
 dsimp only at g6
 replace hφ := ofT hφ
 have g7 := ofH hφ
 dsimp only at g7
 clear hφ
 dsimp only [P3, H9, List.map, List.flatten, List.cons_append, List.nil_append]
 generalize bs 3 = B40 at *
 generalize bs 6 = B43 at *
 generalize bs 7 = B9 at *
 generalize vs 3 = u40 at *
 generalize vs 6 = u43 at *
 generalize vs 7 = u9 at *
 obtain ⟨rfl, k3⟩ := g3
 have h3 := k3
 obtain ⟨a3, b3, c3, d3, e3, rfl, -⟩ := k3
 obtain ⟨rfl, k6⟩ := g6
 have h6 := k6
 obtain ⟨a6, b6, c6, d6, e6, rfl, -⟩ := k6
 obtain ⟨b7, rfl, rfl⟩ := g7
 dsimp only [List.append_eq, List.nil_append, List.cons_append]
 have hc := h6
 clear h3 h6
 refine G5 rfl rfl rfl (A8 rfl rfl Cel.cel kR ln5 al5 UpC.upd ?_)
 refine E4 (I4 3 4 6 7 8 9) (A3 ?_)
 refine A4 (qf_ 10 10) rfl ?_
 refine A4 (H2 (n := 5) rfl kR (by first | exact At.mem | exact mA (by assumption)) TakeC.take) rfl ?_
 refine A4 (qf_ 10 10) rfl ?_
 refine A4 (H2 (n := 5) rfl kR (by first | exact At.mem | exact mA (by assumption)) TakeC.take) rfl ?_
 refine D0 (aS rfl (aS rfl a0)) kR (R7 hPZ hQZ _) rfl ?_
 rintro r48 M48 J48 ⟨rfl, rfl, k48⟩
 have h48 := k48
 obtain ⟨a48, b48, c48, d48, e48, rfl, -⟩ := k48
 refine A6 rfl (C5 (cs := [A7, A7, A7, A7, A7]) kR rfl fun b10 => ?_)
 refine A6 rfl (A8 rfl rfl Cel.cel kR ln5 al5 UpC.upd ?_)
 refine A0 (F9 6 7 8 9 10) (A3 ?_)
 refine A4 (qw_ 5) rfl ?_
 refine A4 (qw_ 5) rfl ?_
 refine D0 (aS rfl (aS rfl a0)) kR (A3Q h48 h48 _) rfl ?_
 rintro r51 M51 J51 ⟨rfl, rfl, k51⟩
 have h51 := k51
 obtain ⟨a51, b51, c51, d51, e51, rfl, -⟩ := k51
 refine A6 rfl (A8 rfl rfl Cel.cel kR ln5 al5 UpC.upd ?_)
 refine A0 (F9 6 7 8 9 10) ?_
 refine D3 (.range 16) [(0, 1), (1, 1), (3, 1), (4, 1), (6, 1), (7, 1), (9, 1), (10, 1), (2, 3), (5, 3), (8, 3), (11, 3), (12, 3), (13, 3), (14, 3), (15, 4), (16, 2), (17, 2), (18, 2), (19, 2)] kR kR fun hs => ?_
 refine F8 hs rfl (qw_ 5) rfl ?_
 refine F8 hs rfl (qw_ 5) rfl ?_
 refine F8 hs rfl (qw_ 5) rfl ?_
 refine F8 hs rfl (qw_ 5) rfl ?_
 refine F8 hs rfl (qw_ 5) rfl ?_
 refine F8 hs rfl (qw_ 5) rfl ?_
 refine F8 hs rfl (qw_ 5) rfl ?_
 refine F8 hs rfl (qw_ 5) rfl ?_
 refine N2 [⟨2, 54, fun v B _ => B = [] ∧ Fe v (fS (fM (fA P.Y P.X) (fA Q.Y Q.X)) (fM (fS P.Y P.X) (fS Q.Y Q.X)))⟩, ⟨5, 57, fun v B _ => B = [] ∧ Fe v (fS (fA (fM P.Z Q.Z) (fM P.Z Q.Z)) (fM (fM P.T dd) Q.T))⟩, ⟨8, 60, fun v B _ => B = [] ∧ Fe v (fA (fA (fM P.Z Q.Z) (fM P.Z Q.Z)) (fM (fM P.T dd) Q.T))⟩, ⟨11, 63, fun v B _ => B = [] ∧ Fe v (fA (fM (fA P.Y P.X) (fA Q.Y Q.X)) (fM (fS P.Y P.X) (fS Q.Y Q.X)))⟩, ⟨12, 11, fun v B _ => ∃ b, v = .pointer (some ⟨b, 0, none⟩) ∧ B = [(b, blk [.int .u64 0, .int .u64 0, .int .u64 0, .int .u64 0, .int .u64 0] 205)]⟩, ⟨13, 12, fun v B _ => ∃ b, v = .pointer (some ⟨b, 0, none⟩) ∧ B = [(b, blk [.int .u64 0, .int .u64 0, .int .u64 0, .int .u64 0, .int .u64 0] 205)]⟩, ⟨14, 13, fun v B _ => ∃ b, v = .pointer (some ⟨b, 0, none⟩) ∧ B = [(b, blk [.int .u64 0, .int .u64 0, .int .u64 0, .int .u64 0, .int .u64 0] 205)]⟩, ⟨15, 14, fun v B _ => ∃ b, v = .pointer (some ⟨b, 0, none⟩) ∧ B = [(b, blk [.int .u64 0, .int .u64 0, .int .u64 0, .int .u64 0, .int .u64 0] 205)]⟩]
  (C3 (fun _ _ _ _ _ h => h) (C3 (fun _ _ _ _ _ h => h) (C3 (fun _ _ _ _ _ h => h) (C3 (fun _ _ _ _ _ h => h) (C3 (fun _ _ _ _ _ h => h) (C3 (fun _ _ _ _ _ h => h) (C3 (fun _ _ _ _ _ h => h) (C3 (fun _ _ _ _ _ h => h) (L1))))))))) (show List.Nodup [54, 57, 60, 63, 11, 12, 13, 14] by decide) (show List.Nodup [2, 5, 8, 11, 12, 13, 14, 15] by decide) (C3 (C9 rfl) (C3 (C9 rfl) (C3 (C9 rfl) (C3 (C9 rfl) (C3 (C9 rfl) (C3 (C9 rfl) (C3 (C9 rfl) (C3 (C9 rfl) (L1)))))))))
  (C3 ⟨_, rfl, fun vs bs R w hb ha => ⟨.inl rfl, ?_⟩⟩ (C3 ⟨_, rfl, fun vs bs R w hb ha => ⟨.inl rfl, ?_⟩⟩ (C3 ⟨_, rfl, fun vs bs R w hb ha => ⟨.inl rfl, ?_⟩⟩ (C3 ⟨_, rfl, fun vs bs R w hb ha => ⟨.inl rfl, ?_⟩⟩ (C3 ⟨_, rfl, fun vs bs R w hb ha => ⟨.inl rfl, ?_⟩⟩ (C3 ⟨_, rfl, fun vs bs R w hb ha => ⟨.inl rfl, ?_⟩⟩ (C3 ⟨_, rfl, fun vs bs R w hb ha => ⟨.inl rfl, ?_⟩⟩ (C3 ⟨_, rfl, fun vs bs R w hb ha => ⟨.inl rfl, ?_⟩⟩ (L1))))))))) ?_
 ·
  refine D5 (aS rfl (aS rfl (a0))) kR (A44 hfb hfa _) rfl ?_
  rintro r M1 J1 ⟨rfl, rfl, hh⟩
  exact ⟨_, rfl, rfl, hh⟩
 ·
  refine D5 (aS rfl (aS rfl (a0))) kR (A44 h51 hc _) rfl ?_
  rintro r M1 J1 ⟨rfl, rfl, hh⟩
  exact ⟨_, rfl, rfl, hh⟩
 ·
  refine D5 (aS rfl (aS rfl (a0))) kR (A3Q h51 hc _) rfl ?_
  rintro r M1 J1 ⟨rfl, rfl, hh⟩
  exact ⟨_, rfl, rfl, hh⟩
 ·
  refine D5 (aS rfl (aS rfl (a0))) kR (A3Q hfb hfa _) rfl ?_
  rintro r M1 J1 ⟨rfl, rfl, hh⟩
  exact ⟨_, rfl, rfl, hh⟩
 ·
  exact C5 (cs := [A7, A7, A7, A7, A7]) kR rfl fun b => ⟨_, rfl, b, rfl, rfl⟩
 ·
  exact C5 (cs := [A7, A7, A7, A7, A7]) kR rfl fun b => ⟨_, rfl, b, rfl, rfl⟩
 ·
  exact C5 (cs := [A7, A7, A7, A7, A7]) kR rfl fun b => ⟨_, rfl, b, rfl, rfl⟩
 ·
  exact C5 (cs := [A7, A7, A7, A7, A7]) kR rfl fun b => ⟨_, rfl, b, rfl, rfl⟩
 intro vs bs Jn0 hφ
 have g2 := ofH hφ
 dsimp only at g2
 replace hφ := ofT hφ
 have g5 := ofH hφ
 dsimp only at g5
 replace hφ := ofT hφ
 have g8 := ofH hφ
 dsimp only at g8
 replace hφ := ofT hφ
 have g11 := ofH hφ
 dsimp only at g11
 replace hφ := ofT hφ
 have g12 := ofH hφ
 dsimp only at g12
 replace hφ := ofT hφ
 have g13 := ofH hφ
 dsimp only at g13
 replace hφ := ofT hφ
 have g14 := ofH hφ
 dsimp only at g14
 replace hφ := ofT hφ
 have g15 := ofH hφ
 dsimp only at g15
 clear hφ
 dsimp only [P3, H9, List.map, List.flatten, List.cons_append, List.nil_append]
 generalize bs 2 = B54 at *
 generalize bs 5 = B57 at *
 generalize bs 8 = B60 at *
 generalize bs 11 = B63 at *
 generalize bs 12 = B11 at *
 generalize bs 13 = B12 at *
 generalize bs 14 = B13 at *
 generalize bs 15 = B14 at *
 generalize vs 2 = u54 at *
 generalize vs 5 = u57 at *
 generalize vs 8 = u60 at *
 generalize vs 11 = u63 at *
 generalize vs 12 = u11 at *
 generalize vs 13 = u12 at *
 generalize vs 14 = u13 at *
 generalize vs 15 = u14 at *
 obtain ⟨rfl, k2⟩ := g2
 have h2 := k2
 obtain ⟨a2, b2, c2, d2, e2, rfl, -⟩ := k2
 obtain ⟨rfl, k5⟩ := g5
 have h5 := k5
 obtain ⟨a5, b5, c5, d5, e5, rfl, -⟩ := k5
 obtain ⟨rfl, k8⟩ := g8
 have h8 := k8
 obtain ⟨a8, b8, c8, d8, e8, rfl, -⟩ := k8
 obtain ⟨rfl, k11⟩ := g11
 have h11 := k11
 obtain ⟨a11, b11, c11, d11, e11, rfl, -⟩ := k11
 obtain ⟨b12, rfl, rfl⟩ := g12
 obtain ⟨b13, rfl, rfl⟩ := g13
 obtain ⟨b14, rfl, rfl⟩ := g14
 obtain ⟨b15, rfl, rfl⟩ := g15
 dsimp only [List.append_eq, List.nil_append, List.cons_append]
 refine G5 rfl rfl rfl (A8 rfl rfl Cel.cel kR ln5 al5 UpC.upd ?_)
 refine G5 rfl rfl rfl (A8 rfl rfl Cel.cel kR ln5 al5 UpC.upd ?_)
 refine G5 rfl rfl rfl (A8 rfl rfl Cel.cel kR ln5 al5 UpC.upd ?_)
 refine G5 rfl rfl rfl (A8 rfl rfl Cel.cel kR ln5 al5 UpC.upd ?_)
 refine E4 (F9 6 11 12 13 14) ?_
 refine D3 (.range 13) [(0, 1), (1, 1), (3, 1), (4, 1), (6, 1), (7, 1), (9, 1), (10, 1), (2, 2), (5, 2), (8, 2), (11, 2), (12, 0), (13, 2)] kR kR fun hs => ?_
 refine F8 hs rfl (qw_ 5) rfl ?_
 refine F8 hs rfl (qw_ 5) rfl ?_
 refine F8 hs rfl (qw_ 5) rfl ?_
 refine F8 hs rfl (qw_ 5) rfl ?_
 refine F8 hs rfl (qw_ 5) rfl ?_
 refine F8 hs rfl (qw_ 5) rfl ?_
 refine F8 hs rfl (qw_ 5) rfl ?_
 refine F8 hs rfl (qw_ 5) rfl ?_
 refine G4 rfl (aS rfl (aS rfl a0)) kR (R7 h2 h5 _) rfl ?_
 rintro r66 M66 J66 ⟨rfl, rfl, k66⟩
 have h66 := k66
 obtain ⟨a66, b66, c66, d66, e66, rfl, -⟩ := k66
 refine G4 rfl (aS rfl (aS rfl a0)) kR (R7 h8 h11 _) rfl ?_
 rintro r69 M69 J69 ⟨rfl, rfl, k69⟩
 have h69 := k69
 obtain ⟨a69, b69, c69, d69, e69, rfl, -⟩ := k69
 refine G4 rfl (aS rfl (aS rfl a0)) kR (R7 h5 h8 _) rfl ?_
 rintro r72 M72 J72 ⟨rfl, rfl, k72⟩
 have h72 := k72
 obtain ⟨a72, b72, c72, d72, e72, rfl, -⟩ := k72
 refine G4 rfl (aS rfl (aS rfl a0)) kR (R7 h2 h11 _) rfl ?_
 rintro r75 M75 J75 ⟨rfl, rfl, k75⟩
 have h75 := k75
 obtain ⟨a75, b75, c75, d75, e75, rfl, -⟩ := k75
 refine D2 hs rfl (F6 (place := fun x => #[(0, 5), (5, 5), (10, 5), (15, 5)][x]?) (z := [A7, A7, A7, A7, A7, A7, A7, A7, A7, A7, A7, A7, A7, A7, A7, A7, A7, A7, A7, A7]) (fun _ => by kernel_rfl) (eS rfl (eS rfl (eS rfl (eS rfl e0)))) (bdS 0 5 rfl (by rfl) (bdS 5 5 rfl (by rfl) (bdS 10 5 rfl (by rfl) (bdS 15 5 rfl (by rfl) bd0))))) rfl ?_
 refine G5 rfl rfl rfl (A8 rfl rfl Cel.cel kR A2F A2G UpC.upd ?_)
 refine E4 (D8 6) (C1 ?_)
 exact ⟨_, [], [], A1g rfl rfl kR At.mem (by rfl), List.nil_sublist _, by simp, rfl, rfl, ⟨_, rfl, _, _, _, _, _, _, _, _, _, _, _, _, _, _, _, _, _, _, _, _, rfl, h66, h69, h72, h75⟩⟩

end Go.Proofs.YthbhpfefdnffaaaGreatDoor
namespace Go.Px
def A86 (q : Nat) : List Nat → List (Nat × Nat)
  | [] => [(q, 7)]
  | i :: r => (i, 6) :: A86 q r
theorem B0O (q : Nat) (plan : List (Nat × Nat)) : ∀ r : List Nat, grq (A86 q r ++ plan) = r ++ [q]
  | [] => rfl
  | i :: r => by simp only [A86, List.cons_append, grq]; rw [B0O q plan r]
theorem B0P (q : Nat) (plan : List (Nat × Nat)) : ∀ r : List Nat, lsq (A86 q r ++ plan) = q
  | [] => rfl
  | i :: r => by simp only [A86, List.cons_append, lsq]; exact B0P q plan r
inductive GOq (ops : Array Oper) (q : Nat) : Array Bool → List Nat → Array Bool → Prop
  | nil {A : Array Bool} : GOq ops q A [] A
  | cons {A B : Array Bool} {i : Nat} {r : List Nat} (hr : i ∈ Region.ready .any ops A) (ho : i ≠ q → ∀ j, j < ops.size → A.getD j true = false → j ∉ i :: r → anc ops ops.size j i = true) (h : GOq ops q (A.setIfInBounds i true) r B) : GOq ops q A (i :: r) B
theorem B0Q {ops : Array Oper} {nd : List Nat} {q : Nat} {plan : List (Nat × Nat)} : ∀ {is : List Nat} {A : Array Bool}, I3 ops nd (A86 q is ++ plan) A = true → ∃ B, GOq ops q A (is ++ [q]) B ∧ A2t ops A q = true ∧ I3 ops nd plan B = true
  | [], A, h => by
    simp only [A86, List.cons_append, List.nil_append, I3, Bool.and_eq_true] at h
    exact ⟨_, .cons (by simpa using h.1.1) (fun hq => absurd rfl hq) .nil, h.1.2, h.2⟩
  | i :: r, A, h => by
    simp only [A86, List.cons_append, I3, A5u, Bool.and_eq_true, List.all_eq_true, List.mem_range, Bool.or_eq_true, B0O, B0P] at h
    obtain ⟨B, hB, -, hp⟩ := B0Q (is := r) h.2
    refine ⟨B, .cons (by simpa using h.1.1.1) (fun _ j hj hu hn => ?_) hB, h.1.2, hp⟩
    rcases h.1.1.2 j hj with (h1 | h1) | h1
    · rw [hu] at h1; cases h1
    · exact absurd (by simpa using h1) hn
    · exact h1
theorem GOq.mark {ops : Array Oper} {q : Nat} {A B : Array Bool} {is : List Nat} (h : GOq ops q A is B) : B = mark A is := by
  induction h with
  | nil => rfl
  | cons _ _ _ ih => rw [ih]; rfl
theorem GOq.un {ops : Array Oper} {q : Nat} {A B : Array Bool} {is : List Nat} (h : GOq ops q A is B) : ∀ i ∈ is, A.getD i true = false := by
  induction h with
  | nil => intro i hi; cases hi
  | @cons A B i r hr ho h ih =>
    intro k hk
    rcases List.mem_cons.1 hk with rfl | hk
    · exact G7 hr
    · have h2 := ih k hk
      by_cases e : i = k
      · subst e; exact G7 hr
      · rwa [getD_set_ne true e] at h2
theorem GOq.outer {ops : Array Oper} {q : Nat} {A B : Array Bool} {is : List Nat} (h : GOq ops q A is B) : ∀ i ∈ is, i ≠ q → ∀ j, j < ops.size → A.getD j true = false → j ∉ is → anc ops ops.size j i = true := by
  induction h with
  | nil => intro i hi; cases hi
  | @cons A B i r hr ho h ih =>
    intro k hk hq j hj hu hn
    rcases List.mem_cons.1 hk with rfl | hk
    · exact ho hq j hj hu hn
    · have hne : i ≠ j := fun e => hn (e ▸ List.mem_cons_self)
      exact ih k hk hq j hj (by rw [getD_set_ne true hne]; exact hu) (fun hm => hn (List.mem_cons_of_mem _ hm))
theorem GOq.first {ops : Array Oper} {q : Nat} {A B : Array Bool} {is : List Nat} (h : GOq ops q A is B) {A' : Array Bool} (hsz : A'.size = A.size) (hm : ∀ j, A.getD j false = true → A'.getD j false = true) {k : Nat} (hk : k ∈ is) (hk' : A'.getD k true = false) : ∃ i, i ∈ is ∧ i ∈ Region.ready .any ops A' := by
  induction h generalizing k with
  | nil => cases hk
  | @cons A B i r hr ho h ih =>
    by_cases hi : A'.getD i true = false
    · exact ⟨i, List.mem_cons_self, A15 hr hi hm⟩
    · rcases List.mem_cons.1 hk with rfl | hk
      · exact absurd hk' hi
      · obtain ⟨x, hx1, hx2⟩ := ih (by simpa using hsz) (fun j hj => by
          by_cases e : i = j
          · subst e
            have hlt := N7 (G7 hr)
            have hlt' : i < A'.size := by omega
            simp [hlt'] at hi ⊢; exact hi
          · rw [getD_set_ne false e] at hj
            exact hm j hj) hk hk'
        exact ⟨x, List.mem_cons_of_mem _ hx1, hx2⟩
section group
variable {C : Cx} {Q : XQ} {l : Env} {M J : Mem} {os : List Oper} {K : Nat → Prop} {n0 : Nat} {nd : List Nat} {plan : List (Nat × Nat)}
def B6v (C : Cx) (os : List Oper) (l : Env) (M J : Mem) (G : List Gw) (g : Gw) : Prop :=
  ∃ op ty pos af, nth os g.i = some ⟨some g.d, op, ty, pos, af, none⟩ ∧ ∀ (vs : Nat → Value) (bs : Nat → Mem) (R : Mem), (∀ x ∈ M ++ (J ++ C.A), x ∈ R) → (∀ g' ∈ G, anc os.toArray os.toArray.size g.i g'.i = true → g'.φ (vs g'.i) (bs g'.i) R) →
    ∃ v, OpQ C.P [] ⟨some g.d, op, ty, pos, af, none⟩ (P3 G vs ++ l) v ∧ g.φ v [] R
theorem B0R {G : List Gw} (hmono : ∀ g ∈ G, Z9 g.φ) (hd : (G.map (·.d)).Nodup) (hi : (G.map (·.i)).Nodup) (hs : Region.noSelect os.toArray = true) {gq : Gw} (hgq : gq ∈ G) (hdN : ∀ g ∈ G, g.d < C.N) (hob : ∀ g ∈ G, g.i ≠ gq.i → A5M C os l M J G g) (hoq : B6v C os l M J G gq) {A B : Array Bool} (hok : GOq os.toArray gq.i A (G.map (·.i)) B) (hfr : A2t os.toArray A gq.i = true)
    (hfin : ∀ (vs : Nat → Value) (bs : Nat → Mem) Jn a w, (∀ g ∈ G, g.φ (vs g.i) (bs g.i) ((H9 (G.map (·.i)) bs ++ M) ++ ((Jn ++ J) ++ C.A))) → Ag C.N (P3 G vs ++ l) a → St C (H9 (G.map (·.i)) bs ++ M) (Jn ++ J) w → n0 ≤ w.heap.size → U2 C.P os.toArray (L9 (A3T C Q)) (Sk K) nd.contains plan.length B a w) :
    ∀ (n : Nat) (X : List Nat) (vs : Nat → Value) (bs : Nat → Mem) (Jn : Mem) (a : Act) (w : World), X.Nodup → (∀ i ∈ X, i ∈ G.map (·.i)) → n + X.length = G.length → L3 os.toArray (mark A X) →
      (∀ g ∈ G, g.i ∈ X → g.φ (vs g.i) (bs g.i) ((H9 X bs ++ M) ++ ((Jn ++ J) ++ C.A))) → Ag C.N (P3 G vs ++ l) a → St C (H9 X bs ++ M) (Jn ++ J) w → n0 ≤ w.heap.size →
      U2 C.P os.toArray (L9 (A3T C Q)) (Sk K) nd.contains (n + plan.length) (mark A X) a w := by
  intro n
  induction n with
  | zero =>
    intro X vs bs Jn a w hnd hX hlen hcl hφ ha hw hn
    have hall : ∀ i, i ∈ X ↔ i ∈ G.map (·.i) := fun i => ⟨hX i, Z8 hnd hX (by simp; omega) i⟩
    have hperm : (H9 X bs ++ M).Perm (H9 (G.map (·.i)) bs ++ M) := List.Perm.append_right _ (List.Perm.flatten ((A1H hnd hi hall).map bs))
    rw [Nat.zero_add, A14 hall, ← hok.mark]
    refine hfin vs bs Jn a w (fun g hg => hmono g hg _ _ _ _ (fun x hx => ?_) (hφ g hg ((hall _).2 (List.mem_map_of_mem (f := Gw.i) hg)))) ha (hw.perm hperm) hn
    rcases List.mem_append.1 hx with h | h
    · exact List.mem_append_left _ (hperm.mem_iff.1 h)
    · exact List.mem_append_right _ h
  | succ n ih =>
    intro X vs bs Jn a w hnd hX hlen hcl hφ ha hw hn
    have hun : ∀ i ∈ G.map (·.i), A.getD i true = false := hok.un
    by_cases hqr : gq.i ∈ Region.ready .any os.toArray (mark A X)
    · obtain ⟨op, ty, pos, af, hget, howe⟩ := hoq
      have hi' : os.toArray[gq.i]? = some ⟨some gq.d, op, ty, pos, af, none⟩ := by rw [R5] at hget; simpa using hget
      have hqX : gq.i ∉ X := fun h => (F3.1 (G7 hqr)).2 ⟨h, N7 (hun _ (List.mem_map_of_mem (f := Gw.i) hgq))⟩
      obtain ⟨v, hq, hφv⟩ := howe vs bs ((H9 X bs ++ M) ++ ((Jn ++ J) ++ C.A)) (fun x hx => by simp only [List.mem_append] at hx ⊢; rcases hx with h | h | h <;> simp [h]) (fun g' hg' hanc => hφ g' hg' (by
        have h3 := K2 hcl hanc hqr
        rcases Q4 h3 with h4 | h4
        · exact (L4 (hun _ (List.mem_map_of_mem (f := Gw.i) hg')) h4).elim
        · exact h4))
      have hpa := hq C.N a
      rw [show n + 1 + plan.length = (n + plan.length) + 1 by omega]
      refine S7 (S := Sk K) (T := fun _ => True) (N := 0) (v := v) hi' (Region.noSelect_spec hs) (fun _ _ _ h => h) (fun _ _ _ _ => rfl) _ (mark A X) a w hcl (fun j oj hj hne hun' hno => A3W hi' hfr j oj hj hne (F3.1 hun').1 (by
        cases ha0 : anc os.toArray os.toArray.size gq.i j with
        | false => rfl
        | true => exact (L4 hun' (K2 hcl ha0 hqr)).elim) hno) (fun _ _ _ _ => .inr fun _ _ _ _ => trivial) hqr (.inl ⟨rfl, fun w hw => hq C.N a w ha (fun _ _ hb => by cases hb)⟩) trivial ?_
      rw [← K7]
      let bs' : Nat → Mem := fun k => if k = gq.i then [] else bs k
      have hown : H9 (X ++ [gq.i]) bs' = H9 X bs := by
        have e1 : X.map bs' = X.map bs := List.map_congr_left fun x hx => by
          have : x ≠ gq.i := fun e => hqX (e ▸ hx)
          simp [bs', this]
        simp [H9, List.map_append, e1, bs']
      have ha' : Ag C.N ((gq.d, v) :: (P3 G vs ++ l)) (a.put (some gq.d) v) := ha.put (hdN gq hgq) v
      have henv := Y3 (N := C.N) (G := toG G) (l := l) (vs := vs) (g := ⟨gq.i, gq.d, fun _ _ => True⟩) (a := a.put (some gq.d) v) (v := v) (List.mem_map_of_mem (f := fun g : Gw => (⟨g.i, g.d, fun _ _ => True⟩ : Gm)) hgq) (by rw [B5W]; exact hd) (by rw [B5V]; exact hi) (by rw [A18]; exact ha')
      rw [A18] at henv
      refine ih (X ++ [gq.i]) (fun k => if k = gq.i then v else vs k) bs' Jn (a.put (some gq.d) v) w ?_ ?_ (by simp; omega) ?_ ?_ henv (by rw [hown]; exact hw) hn
      · rw [List.nodup_append]; exact ⟨hnd, by simp, fun x hx y hy e => hqX (by simp at hy; subst hy; exact e ▸ hx)⟩
      · intro j hj
        rcases List.mem_append.1 hj with hj | hj
        · exact hX j hj
        · simp at hj; subst hj; exact List.mem_map_of_mem (f := Gw.i) hgq
      · rw [K7]; exact G2 hcl hqr
      · intro g' hg' hm
        rw [hown]
        by_cases e : g'.i = gq.i
        · have : g' = gq := A5L hi hg' hgq e
          subst this
          simp only [if_true, bs']
          exact hφv
        · simp only [e, if_false, bs']
          have hm' : g'.i ∈ X := by simpa [e] using hm
          exact hφ g' hg' hm'
    have hmiss : ∃ k ∈ G.map (·.i), k ∉ X ∧ k ≠ gq.i := by
      apply Classical.byContradiction
      intro hno
      have hs' : ∀ k ∈ G.map (·.i), k ≠ gq.i → k ∈ X := fun k hk hne => Classical.byContradiction fun h => hno ⟨k, hk, h, hne⟩
      by_cases hqX : gq.i ∈ X
      · have hs : ∀ k ∈ G.map (·.i), k ∈ X := fun k hk => by
          by_cases e : k = gq.i
          · rw [e]; exact hqX
          · exact hs' k hk e
        have := A0h hi hs
        simp at this; omega
      · have hqG := List.mem_map_of_mem (f := Gw.i) hgq
        obtain ⟨i, hiG, hir⟩ := hok.first (U9 A X) (fun j hj => V0 hj) hqG (F3.2 ⟨hun _ hqG, fun h => hqX h.1⟩)
        have hiX : i ∉ X := fun h => (F3.1 (G7 hir)).2 ⟨h, N7 (hun _ hiG)⟩
        by_cases e : i = gq.i
        · rw [e] at hir; exact hqr hir
        · exact hiX (hs' i hiG e)
    obtain ⟨k, hkG, hkX, hkq⟩ := hmiss
    have hkun : (mark A X).getD k true = false := F3.2 ⟨hun k hkG, fun h => hkX h.1⟩
    rw [show n + 1 + plan.length = (n + plan.length) + 1 by omega]
    refine ⟨fun h0 => ?_, fun i hir => ?_⟩
    · obtain ⟨i, -, hir⟩ := hok.first (U9 A X) (fun j hj => V0 hj) hkG hkun
      rw [h0] at hir; cases hir
    · have hiG : i ∈ G.map (·.i) := by
        apply Classical.byContradiction
        intro hno
        have h1 := F3.1 (G7 hir)
        have h2 := hok.outer k hkG hkq i (A0V hir) h1.1 hno
        exact L4 hkun (K2 hcl h2 hir)
      obtain ⟨g, hg, rfl⟩ := List.mem_map.1 hiG
      have hiX : g.i ∉ X := fun h => (F3.1 (G7 hir)).2 ⟨h, N7 (hun _ hiG)⟩
      obtain ⟨o, hget, howe⟩ := hob g hg (fun e => hqr (e ▸ hir))
      have hi' : os.toArray[g.i]? = some o := by rw [R5] at hget; simpa using hget
      obtain ⟨hask, hop⟩ := howe vs bs ((H9 X bs ++ M) ++ ((Jn ++ J) ++ C.A)) w (fun x hx => by simp only [List.mem_append] at hx ⊢; rcases hx with h | h | h <;> simp [h]) (fun g' hg' hanc => hφ g' hg' (by
        have h3 := K2 hcl hanc hir
        rcases Q4 h3 with h4 | h4
        · exact (L4 (hun _ (List.mem_map_of_mem (f := Gw.i) hg')) h4).elim
        · exact h4))
      unfold wpOp
      simp only [hi']
      rw [if_pos (hask.wanted ha)]
      have hcal := hw.callee (Mc := []) (R := H9 X bs ++ M) (.refl _)
      refine .inl (Oper.wp_mono ?_ (hop _ a w ha hcal.cx))
      rintro a' w' ⟨l', M', J', ha', hs', v, rfl, hφv⟩
      have hsz : w.heap.size ≤ w'.heap.size := hs'.size
      have hb := hw.back (Mc := []) (R := H9 X bs ++ M) (.refl _) hs'.cx
      let bs' : Nat → Mem := fun k => if k = g.i then M' else bs k
      have hown : H9 (X ++ [g.i]) bs' = H9 X bs ++ M' := by
        have e1 : X.map bs' = X.map bs := List.map_congr_left fun x hx => by
          have : x ≠ g.i := fun e => hiX (e ▸ hx)
          simp [bs', this]
        simp [H9, List.map_append, e1, bs']
      have hperm : (M' ++ (H9 X bs ++ M)).Perm (H9 (X ++ [g.i]) bs' ++ M) := by
        rw [hown, ← List.append_assoc]
        exact List.Perm.append_right _ List.perm_append_comm
      have hfr2 : St C (H9 (X ++ [g.i]) bs' ++ M) ((J' ++ Jn) ++ J) w' := (hb.perm hperm).drop (List.Sublist.refl _) fun x hx => by
        simp only [List.mem_append] at hx ⊢
        rcases hx with (h | h) | h <;> simp [h]
      refine ⟨fun _ b hb' hnk => hs'.frame b hb' (by simp), ?_⟩
      rw [← K7]
      have henv := Y3 (N := C.N) (G := toG G) (l := l) (vs := vs) (g := ⟨g.i, g.d, fun _ _ => True⟩) (a := a') (v := v) (List.mem_map_of_mem (f := fun g : Gw => (⟨g.i, g.d, fun _ _ => True⟩ : Gm)) hg) (by rw [B5W]; exact hd) (by rw [B5V]; exact hi) (by rw [A18]; exact ha')
      rw [A18] at henv
      refine ih (X ++ [g.i]) (fun k => if k = g.i then v else vs k) bs' (J' ++ Jn) a' w' ?_ ?_ (by simp; omega) ?_ ?_ henv hfr2 (Nat.le_trans hn hsz)
      · rw [List.nodup_append]; exact ⟨hnd, by simp, fun x hx y hy e => hiX (by simp at hy; subst hy; exact e ▸ hx)⟩
      · intro j hj
        rcases List.mem_append.1 hj with hj | hj
        · exact hX j hj
        · simp at hj; subst hj; exact hiG
      · rw [K7]; exact G2 hcl hir
      · intro g' hg' hm
        rw [hown]
        by_cases e : g'.i = g.i
        · have : g' = g := A5L hi hg' hg e
          subst this
          simp only [if_true, bs']
          exact hmono g' hg' _ _ _ _ (fun x hx => by simp only [List.mem_append] at hx ⊢; rcases hx with h | h | (h | h) | (h | h) | h <;> simp [h]) hφv
        · simp only [e, if_false, bs']
          have hm' : g'.i ∈ X := by simpa [e] using hm
          exact hmono g' hg' _ _ _ _ (fun x hx => by simp only [List.mem_append] at hx ⊢; rcases hx with (h | h) | (h | h) | h <;> simp [h]) (hφ g' hg' hm')
theorem B0S (G0 : List Gw) (gq : Gw) (hs : Region.noSelect os.toArray = true) (hmono : ∀ g ∈ G0 ++ [gq], Z9 g.φ) (hd : ((G0 ++ [gq]).map (·.d)).Nodup) (hi : ((G0 ++ [gq]).map (·.i)).Nodup) (hdN : ∀ g ∈ G0 ++ [gq], g.d < C.N) (hob0 : ∀ g ∈ G0, A5M C os l M J (G0 ++ [gq]) g) (hoq : B6v C os l M J (G0 ++ [gq]) gq)
    (h : ∀ (vs : Nat → Value) (bs : Nat → Mem) Jn, (∀ g ∈ G0 ++ [gq], g.φ (vs g.i) (bs g.i) ((H9 ((G0 ++ [gq]).map (·.i)) bs ++ M) ++ ((Jn ++ J) ++ C.A))) → XK C os Q K n0 nd plan (P3 (G0 ++ [gq]) vs ++ l) (H9 ((G0 ++ [gq]).map (·.i)) bs ++ M) (Jn ++ J)) : XK C os Q K n0 nd (A86 gq.i (G0.map (·.i)) ++ plan) l M J := by
  intro listed hcl hp a w ha hw hn
  obtain ⟨B, hok, hfr, hp2⟩ := B0Q hp
  have hBcl : L3 os.toArray B := by
    have : ∀ {A is B}, GOq os.toArray gq.i A is B → L3 os.toArray A → L3 os.toArray B := by
      intro A is B h
      induction h with
      | nil => exact id
      | cons hr _ _ ih => exact fun hc => ih (G2 hc hr)
    exact this hok hcl
  rw [show G0.map (·.i) ++ [gq.i] = (G0 ++ [gq]).map (·.i) by simp] at hok
  have hlen : (A86 gq.i (G0.map (·.i)) ++ plan).length = (G0 ++ [gq]).length + plan.length := by
    have : ∀ is : List Nat, (A86 gq.i is).length = is.length + 1 := by
      intro is
      induction is with
      | nil => rfl
      | cons i r ih => simp only [A86, List.length_cons, ih]
    simp [this]
  have hob : ∀ g ∈ G0 ++ [gq], g.i ≠ gq.i → A5M C os l M J (G0 ++ [gq]) g := fun g hg hne => by
    rcases List.mem_append.1 hg with h1 | h1
    · exact hob0 g h1
    · rw [List.mem_singleton.1 h1] at hne; exact absurd rfl hne
  have hgq : gq ∈ G0 ++ [gq] := by simp
  rw [hlen]
  generalize G0 ++ [gq] = G at *
  let vs : Nat → Value := fun k => match G.find? (fun g => g.i == k) with
    | some g => (a.tmps[g.d]?).getD undef
    | none => undef
  have hag : Ag C.N (P3 G vs ++ l) a := by
    refine ⟨ha.defers, ha.size, ?_⟩
    intro k u hk
    have key : ∀ G' : List Gw, (∀ g ∈ G', g ∈ G) → lk (P3 G' vs ++ l) k = some u → a.tmps[k]? = some u := by
      intro G'
      induction G' with
      | nil => intro _ h; exact ha.slot k u h
      | cons g G' ih =>
        intro hs h
        simp only [P3, List.map_cons, List.cons_append, lk] at h
        by_cases e : g.d = k
        · subst e
          simp at h
          have hf : G.find? (fun x => x.i == g.i) = some g := by
            have hgG := hs g List.mem_cons_self
            cases hq : G.find? (fun x => x.i == g.i) with
            | none => have := List.find?_eq_none.1 hq g hgG; simp at this
            | some x =>
              have h1 := List.find?_some hq
              have h2 := List.mem_of_find?_eq_some hq
              rw [A5L hi h2 hgG (by simpa using h1)]
          have hlt : g.d < a.tmps.size := by rw [ha.size]; exact hdN g (hs g List.mem_cons_self)
          rw [← h]
          show a.tmps[g.d]? = some (vs g.i)
          simp only [vs, hf, Array.getElem?_eq_getElem hlt, Option.getD_some]
        · simp only [U7 e, cond_false] at h
          exact ih (fun x hx => hs x (List.mem_cons_of_mem _ hx)) h
    exact key G (fun _ h => h) hk
  exact B0R (n0 := n0) (K := K) hmono hd hi hs hgq hdN hob hoq hok hfr (fun vs bs Jn a w hφ ha hw hn => h vs bs Jn hφ B hBcl hp2 a w ha hw hn) G.length [] vs (fun _ => []) [] a w .nil (fun _ h => by cases h) (by simp) hcl (fun _ _ h => by cases h) hag hw hn
theorem A6g (G0 : List Gw) (gq : Gw) (hs : Region.noSelect os.toArray = true) (hmono : ∀ g ∈ G0 ++ [gq], Z9 g.φ) (hd : ((G0 ++ [gq]).map (·.d)).Nodup) (hi : ((G0 ++ [gq]).map (·.i)).Nodup) (hdN : ∀ g ∈ G0 ++ [gq], g.d < C.N) (hob0 : ∀ g ∈ G0, A5M C os l M J (G0 ++ [gq]) g) (hoq : B6v C os l M J (G0 ++ [gq]) gq)
    (h : ∀ (vs : Nat → Value) (bs : Nat → Mem) Jn, (∀ g ∈ G0 ++ [gq], g.φ (vs g.i) (bs g.i) ((H9 ((G0 ++ [gq]).map (·.i)) bs ++ M) ++ ((Jn ++ J) ++ C.A))) → XF C os Q nd plan (P3 (G0 ++ [gq]) vs ++ l) (H9 ((G0 ++ [gq]).map (·.i)) bs ++ M) (Jn ++ J)) : XF C os Q nd (A86 gq.i (G0.map (·.i)) ++ plan) l M J := B0S G0 gq hs hmono hd hi hdN hob0 hoq h
end group
end Go.Px

namespace Go.Proofs.YthbhpfefdnffaaaGreatDoor
open Go.Px
def B7J (x : Nat) : Option Nat := if rt1 x * rt1 x % p25 = x then some (rt1 x) else if rt2 x * rt2 x % p25 = x then some (rt2 x) else none
theorem B4S (x : Nat) : ∃ y, y = B7J x := ⟨_, rfl⟩
noncomputable def rtN (x : Nat) : Option Nat := Classical.choose (B4S x)
theorem A77 (x : Nat) : rtN x = B7J x := Classical.choose_spec (B4S x)
theorem A78 {r : Value} {x : Nat} (h : Rt r x) : ∃ u b n, r = .tuple #[u, .bool b] ∧ Fe u n ∧ ((rtN x = some n ∧ b = true) ∨ (rtN x = none ∧ b = false)) := by
  obtain ⟨u, b, rfl, h⟩ := h
  rw [A77]
  unfold B7J
  rcases h with ⟨h1, rfl, h2⟩ | ⟨h1, h2, rfl, h3⟩ | ⟨h1, h2, rfl, h3⟩
  · exact ⟨_, _, _, rfl, h2, .inl ⟨by rw [if_pos h1], rfl⟩⟩
  · exact ⟨_, _, _, rfl, h3, .inl ⟨by rw [if_neg h1, if_pos h2], rfl⟩⟩
  · exact ⟨_, _, _, rfl, h3, .inr ⟨by rw [if_neg h1, if_neg h2], rfl⟩⟩
noncomputable def xxN (y : Nat) : Nat := fM (fS (fM y y) 1) (fI (fA (fM dN (fM y y)) 1))
def atO (o : Option Nat) (odd : Bool) : Option Nat := match o with
  | none => none
  | some x => if odd && decide (x = 0) then none else some (if !(decide (x % 2 = 1) == odd) then fN x else x)
noncomputable def atN (y : Nat) (odd : Bool) : Option Nat := atO (rtN (xxN y)) odd
theorem B3n {y : Nat} {odd : Bool} {o : Option Nat} (h : rtN (xxN y) = o) : atN y odd = atO o odd := congrArg (fun o => atO o odd) h
theorem B6w {y : Nat} {odd : Bool} (h : rtN (xxN y) = none) : atN y odd = none := B3n h
theorem B6x {x : Nat} (hx : x = 0) : atO (some x) true = none := by subst hx; rfl
theorem B6y {y x : Nat} (h : rtN (xxN y) = some x) (hx : x = 0) : atN y true = none := (B3n h).trans (B6x hx)
theorem B6z {x : Nat} {odd : Bool} (hx : (odd && decide (x = 0)) = false) {b : Bool} (hb : (!(decide (x % 2 = 1) == odd)) = b) : atO (some x) odd = some (if b then fN x else x) := by unfold atO; simp only [hx, hb]; rfl
theorem A45 {y x : Nat} {odd : Bool} (h : rtN (xxN y) = some x) (hx : (odd && decide (x = 0)) = false) {b : Bool} (hb : (!(decide (x % 2 = 1) == odd)) = b) : atN y odd = some (if b then fN x else x) := (B3n h).trans (B6z hx hb)
def pZ : Pt := ⟨0, 0, 0, 0⟩
def pAt (x y : Nat) : Pt := ⟨x, y, 1, fM x y⟩
def AtR (r : Value) (y : Nat) (odd : Bool) : Prop := ∃ V b, r = .tuple #[V, .bool b] ∧ ((∃ x, atN y odd = some x ∧ b = true ∧ FeP V (pAt x y)) ∨ (atN y odd = none ∧ b = false ∧ FeP V pZ))
def s45 : Nat := 46316835694926478169428394003475163141307993866256225615783033603165251855960
theorem B8C : fM 4 (fI 5) = s45 := by
  rw [A85, A4h (by decide)]
  decide +kernel
def bxN : Nat := 15112221349535400772501151409588531511454012693041857206046113283949847762202
def pS : Pt := pAt bxN s45
theorem C0d {y : Nat} : xxN y = fM (fS (fM y y) 1) (pm p25 256 (fA (fM dN (fM y y)) 1) (p25 - 2) 1) := by
  unfold xxN
  rw [A85, A4h (by decide)]
theorem B4T {x : Nat} : rt1 x = pm p25 256 x (2 ^ 252 - 2) 1 := by
  unfold rt1
  rw [A4h (by decide)]
theorem i_pm : rtp 2 (2 ^ 253 - 5) = pm p25 256 2 (2 ^ 253 - 5) 1 := A4h (by decide)
theorem B8D {x : Nat} : rt2 x = pm p25 256 x (2 ^ 252 - 2) 1 * pm p25 256 2 (2 ^ 253 - 5) 1 % p25 := by
  unfold rt2
  rw [B4T, i_pm]
def rtK (x : Nat) : Option Nat := if pm p25 256 x (2 ^ 252 - 2) 1 * pm p25 256 x (2 ^ 252 - 2) 1 % p25 = x then some (pm p25 256 x (2 ^ 252 - 2) 1) else if (pm p25 256 x (2 ^ 252 - 2) 1 * pm p25 256 2 (2 ^ 253 - 5) 1 % p25) * (pm p25 256 x (2 ^ 252 - 2) 1 * pm p25 256 2 (2 ^ 253 - 5) 1 % p25) % p25 = x then some (pm p25 256 x (2 ^ 252 - 2) 1 * pm p25 256 2 (2 ^ 253 - 5) 1 % p25) else none
theorem rt_K {x : Nat} : rtN x = rtK x := by
  rw [A77]
  unfold B7J rtK
  rw [B8D, B4T]
theorem xx45 : xxN s45 = 26187595835145689230469591415084376402084551887632582719101735842039498021991 := by
  rw [C0d]
  decide +kernel
theorem at45 : atN s45 false = some bxN := by
  refine (B3n ((congrArg rtN xx45).trans (rt_K.trans (Eq.refl (rtK 26187595835145689230469591415084376402084551887632582719101735842039498021991))))).trans ?_
  decide +kernel
theorem at_f (v : Value) (y : Nat) (odd : Bool) (hv : Fe v y) (A : Mem) : FnX Tryz.prog 175 [v, .bool odd] [] A fun r M J => M = [] ∧ J = [] ∧ AtR r y odd := by
 have hy := hv
 obtain ⟨y0, y1, y2, y3, y4, rfl, -⟩ := hv
 refine FnX.enter (N := 48) Tryz.func175 rfl rfl rfl fun w => ?_
 refine C4 (D4 0 1) (A3 ?_)
 refine A6 rfl (bx_ fun b2 => ?_)
 refine A6 rfl (C5 (cs := [A7, A7, A7, A7, A7, A7, A7, A7, A7, A7, A7, A7, A7, A7, A7, A7, A7, A7, A7, A7]) kR rfl fun b4 => ?_)
 refine as_ (A0 (E1 1 2 4) (A3 ?_))
 refine A4 (qw_ 5) rfl ?_
 refine D0 (aS rfl a0) kR (B8B hy _) rfl ?_
 rintro r10 M10 J10 ⟨rfl, rfl, k10⟩
 have h10 := k10
 obtain ⟨a10, b10, c10, d10, e10, rfl, -⟩ := k10
 refine A6 rfl (C5 (cs := [A7, A7, A7, A7, A7]) kR rfl fun b6 => ?_)
 refine A6 rfl (A8 rfl rfl Cel.cel kR ln5 al5 UpC.upd ?_)
 refine A0 (E9 1 2 4 6) ?_
 refine D3 [0, 1, 2, 3, 4, 5, 6, 7, 8, 9, 10, 11, 12, 13, 14, 16] [(0, 1), (4, 1), (1, 6), (2, 6), (3, 6), (5, 6), (6, 6), (7, 6), (8, 6), (9, 6), (10, 6), (11, 6), (12, 6), (14, 6), (13, 7), (15, 2), (16, 0)] kR kR fun hs => ?_
 refine F8 hs rfl (qw_ 5) rfl ?_
 refine F8 hs rfl (qw_ 5) rfl ?_
 refine A6g [⟨1, 13, fun v B _ => B = [] ∧ Fe v (1)⟩, ⟨2, 14, fun v B _ => B = [] ∧ Fe v (fS (fM y y) 1)⟩, ⟨3, 15, fun v B _ => B = [] ∧ Fe v (dN)⟩, ⟨5, 17, fun v B _ => B = [] ∧ Fe v (fM dN (fM y y))⟩, ⟨6, 18, fun v B _ => B = [] ∧ Fe v (1)⟩, ⟨7, 19, fun v B _ => B = [] ∧ Fe v (fA (fM dN (fM y y)) 1)⟩, ⟨8, 20, fun v B _ => B = [] ∧ Fe v (fI (fA (fM dN (fM y y)) 1))⟩, ⟨9, 21, fun v B _ => B = [] ∧ Fe v (xxN y)⟩, ⟨10, 22, fun v B _ => B = [] ∧ Rt v (xxN y)⟩, ⟨11, 11, fun v B _ => B = [] ∧ Rt v (xxN y)⟩, ⟨12, 23, fun v B _ => B = [] ∧ ∃ n, Fe v n ∧ ∀ m, rtN (xxN y) = some m → n = m⟩, ⟨14, 7, fun v B _ => ∃ b, v = .pointer (some ⟨b, 0, none⟩) ∧ B = [(b, blk [.int .u64 0, .int .u64 0, .int .u64 0, .int .u64 0, .int .u64 0] 205)]⟩] ⟨13, 24, fun v B _ => B = [] ∧ v = .bool (rtN (xxN y)).isSome⟩ hs
  (C3 (fun _ _ _ _ _ h => h) (C3 (fun _ _ _ _ _ h => h) (C3 (fun _ _ _ _ _ h => h) (C3 (fun _ _ _ _ _ h => h) (C3 (fun _ _ _ _ _ h => h) (C3 (fun _ _ _ _ _ h => h) (C3 (fun _ _ _ _ _ h => h) (C3 (fun _ _ _ _ _ h => h) (C3 (fun _ _ _ _ _ h => h) (C3 (fun _ _ _ _ _ h => h) (C3 (fun _ _ _ _ _ h => h) (C3 (fun _ _ _ _ _ h => h) (C3 (fun _ _ _ _ _ h => h) (L1)))))))))))))) (show List.Nodup [13, 14, 15, 17, 18, 19, 20, 21, 22, 11, 23, 7, 24] by decide) (show List.Nodup [1, 2, 3, 5, 6, 7, 8, 9, 10, 11, 12, 14, 13] by decide) (C3 (C9 rfl) (C3 (C9 rfl) (C3 (C9 rfl) (C3 (C9 rfl) (C3 (C9 rfl) (C3 (C9 rfl) (C3 (C9 rfl) (C3 (C9 rfl) (C3 (C9 rfl) (C3 (C9 rfl) (C3 (C9 rfl) (C3 (C9 rfl) (C3 (C9 rfl) (L1))))))))))))))
  (C3 ⟨_, rfl, fun vs bs R w hb ha => ⟨.inl rfl, ?_⟩⟩ (C3 ⟨_, rfl, fun vs bs R w hb ha => ⟨.inl rfl, ?_⟩⟩ (C3 ⟨_, rfl, fun vs bs R w hb ha => ⟨.inl rfl, ?_⟩⟩ (C3 ⟨_, rfl, fun vs bs R w hb ha => ⟨.inl rfl, ?_⟩⟩ (C3 ⟨_, rfl, fun vs bs R w hb ha => ⟨.inl rfl, ?_⟩⟩ (C3 ⟨_, rfl, fun vs bs R w hb ha => ⟨.inl rfl, ?_⟩⟩ (C3 ⟨_, rfl, fun vs bs R w hb ha => ⟨.inl rfl, ?_⟩⟩ (C3 ⟨_, rfl, fun vs bs R w hb ha => ⟨.inl rfl, ?_⟩⟩ (C3 ⟨_, rfl, fun vs bs R w hb ha => ⟨.inl rfl, ?_⟩⟩ (C3 ⟨_, rfl, fun vs bs R w hb ha => ⟨.inl rfl, ?_⟩⟩ (C3 ⟨_, rfl, fun vs bs R w hb ha => ⟨.inl rfl, ?_⟩⟩ (C3 ⟨_, rfl, fun vs bs R w hb ha => ⟨.inl rfl, ?_⟩⟩ (L1))))))))))))) ⟨_, _, _, _, rfl, fun vs bs R hb ha => ?_⟩ ?_
 ·
  refine D5 (aS rfl (a0)) kR (A0w 1 (by decide) _) rfl ?_
  rintro r M1 J1 ⟨rfl, rfl, hh⟩
  exact ⟨_, rfl, rfl, hh⟩
 ·
  have g1 := ha _ (List.mem_of_getElem? (i := 0) rfl) kR
  replace g1 : (fun v B _ => B = [] ∧ Fe v (1)) (vs 1) (bs 1) R := g1
  dsimp only at g1
  obtain ⟨-, k1⟩ := g1
  refine D5 (aS rfl (aS rfl (a0))) kR (A44 h10 k1 _) rfl ?_
  rintro r M1 J1 ⟨rfl, rfl, hh⟩
  exact ⟨_, rfl, rfl, hh⟩
 ·
  refine D5 (a0) kR (A65 _) rfl ?_
  rintro r M1 J1 ⟨rfl, rfl, hh⟩
  exact ⟨_, rfl, rfl, hh⟩
 ·
  have g3 := ha _ (List.mem_of_getElem? (i := 2) rfl) kR
  replace g3 : (fun v B _ => B = [] ∧ Fe v (dN)) (vs 3) (bs 3) R := g3
  dsimp only at g3
  obtain ⟨-, k3⟩ := g3
  refine D5 (aS rfl (aS rfl (a0))) kR (R7 k3 h10 _) rfl ?_
  rintro r M1 J1 ⟨rfl, rfl, hh⟩
  exact ⟨_, rfl, rfl, hh⟩
 ·
  refine D5 (aS rfl (a0)) kR (A0w 1 (by decide) _) rfl ?_
  rintro r M1 J1 ⟨rfl, rfl, hh⟩
  exact ⟨_, rfl, rfl, hh⟩
 ·
  have g5 := ha _ (List.mem_of_getElem? (i := 3) rfl) kR
  replace g5 : (fun v B _ => B = [] ∧ Fe v (fM dN (fM y y))) (vs 5) (bs 5) R := g5
  dsimp only at g5
  have g6 := ha _ (List.mem_of_getElem? (i := 4) rfl) kR
  replace g6 : (fun v B _ => B = [] ∧ Fe v (1)) (vs 6) (bs 6) R := g6
  dsimp only at g6
  obtain ⟨-, k5⟩ := g5
  obtain ⟨-, k6⟩ := g6
  refine D5 (aS rfl (aS rfl (a0))) kR (A3Q k5 k6 _) rfl ?_
  rintro r M1 J1 ⟨rfl, rfl, hh⟩
  exact ⟨_, rfl, rfl, hh⟩
 ·
  have g7 := ha _ (List.mem_of_getElem? (i := 5) rfl) kR
  replace g7 : (fun v B _ => B = [] ∧ Fe v (fA (fM dN (fM y y)) 1)) (vs 7) (bs 7) R := g7
  dsimp only at g7
  obtain ⟨-, k7⟩ := g7
  refine D5 (aS rfl (a0)) kR (B0M k7 _) rfl ?_
  rintro r M1 J1 ⟨rfl, rfl, hh⟩
  exact ⟨_, rfl, rfl, hh⟩
 ·
  have g2 := ha _ (List.mem_of_getElem? (i := 1) rfl) kR
  replace g2 : (fun v B _ => B = [] ∧ Fe v (fS (fM y y) 1)) (vs 2) (bs 2) R := g2
  dsimp only at g2
  have g8 := ha _ (List.mem_of_getElem? (i := 6) rfl) kR
  replace g8 : (fun v B _ => B = [] ∧ Fe v (fI (fA (fM dN (fM y y)) 1))) (vs 8) (bs 8) R := g8
  dsimp only at g8
  obtain ⟨-, k2⟩ := g2
  obtain ⟨-, k8⟩ := g8
  refine D5 (aS rfl (aS rfl (a0))) kR (R7 k2 k8 _) rfl ?_
  rintro r M1 J1 ⟨rfl, rfl, hh⟩
  exact ⟨_, rfl, rfl, hh⟩
 ·
  have g9 := ha _ (List.mem_of_getElem? (i := 7) rfl) kR
  replace g9 : (fun v B _ => B = [] ∧ Fe v (xxN y)) (vs 9) (bs 9) R := g9
  dsimp only at g9
  obtain ⟨-, k9⟩ := g9
  refine D5 (aS rfl a0) kR (A83 _ _ k9 _) rfl ?_
  rintro r M1 J1 ⟨rfl, rfl, hh⟩
  exact ⟨_, rfl, rfl, hh⟩
 ·
  have g10 := ha _ (List.mem_of_getElem? (i := 8) rfl) kR
  replace g10 : (fun v B _ => B = [] ∧ Rt v (xxN y)) (vs 10) (bs 10) R := g10
  dsimp only at g10
  obtain ⟨-, k10⟩ := g10
  exact OpQ.opL qm_ rfl ⟨_, rfl, rfl, k10⟩
 ·
  have g11 := ha _ (List.mem_of_getElem? (i := 9) rfl) kR
  replace g11 : (fun v B _ => B = [] ∧ Rt v (xxN y)) (vs 11) (bs 11) R := g11
  dsimp only at g11
  obtain ⟨-, k11⟩ := g11
  obtain ⟨w, ok, n, hw, hn, hrt⟩ := A78 k11
  exact OpQ.opL (K1 (vs := #[w, .bool ok]) (by rw [← hw]; rfl) rfl) rfl ⟨_, rfl, rfl, n, hn, fun m hm => by rcases hrt with ⟨h1, -⟩ | ⟨h1, -⟩ <;> rw [hm] at h1 <;> cases h1; rfl⟩
 ·
  exact C5 (cs := [A7, A7, A7, A7, A7]) kR rfl fun b => ⟨_, rfl, b, rfl, rfl⟩
 ·
  have g11 := ha _ (List.mem_of_getElem? (i := 9) rfl) kR
  replace g11 : (fun v B _ => B = [] ∧ Rt v (xxN y)) (vs 11) (bs 11) R := g11
  dsimp only at g11
  obtain ⟨-, k11⟩ := g11
  obtain ⟨w, ok, n, hw, hn, hrt⟩ := A78 k11
  exact ⟨.bool ok, K1 (vs := #[w, .bool ok]) (by rw [← hw]; rfl) rfl, rfl, by rcases hrt with ⟨h1, rfl⟩ | ⟨h1, rfl⟩ <;> rw [h1] <;> rfl⟩
 intro vs bs Jn0 hφ
 have g1 := ofH hφ
 dsimp only at g1
 replace hφ := ofT hφ
 have g2 := ofH hφ
 dsimp only at g2
 replace hφ := ofT hφ
 have g3 := ofH hφ
 dsimp only at g3
 replace hφ := ofT hφ
 have g5 := ofH hφ
 dsimp only at g5
 replace hφ := ofT hφ
 have g6 := ofH hφ
 dsimp only at g6
 replace hφ := ofT hφ
 have g7 := ofH hφ
 dsimp only at g7
 replace hφ := ofT hφ
 have g8 := ofH hφ
 dsimp only at g8
 replace hφ := ofT hφ
 have g9 := ofH hφ
 dsimp only at g9
 replace hφ := ofT hφ
 have g10 := ofH hφ
 dsimp only at g10
 replace hφ := ofT hφ
 have g11 := ofH hφ
 dsimp only at g11
 replace hφ := ofT hφ
 have g12 := ofH hφ
 dsimp only at g12
 replace hφ := ofT hφ
 have g14 := ofH hφ
 dsimp only at g14
 replace hφ := ofT hφ
 have g13 := ofH hφ
 dsimp only at g13
 clear hφ
 dsimp only [P3, H9, List.map, List.flatten, List.cons_append, List.nil_append]
 generalize bs 1 = B13 at *
 generalize bs 2 = B14 at *
 generalize bs 3 = B15 at *
 generalize bs 5 = B17 at *
 generalize bs 6 = B18 at *
 generalize bs 7 = B19 at *
 generalize bs 8 = B20 at *
 generalize bs 9 = B21 at *
 generalize bs 10 = B22 at *
 generalize bs 11 = B11 at *
 generalize bs 12 = B23 at *
 generalize bs 14 = B7 at *
 generalize bs 13 = B24 at *
 generalize vs 1 = u13 at *
 generalize vs 2 = u14 at *
 generalize vs 3 = u15 at *
 generalize vs 5 = u17 at *
 generalize vs 6 = u18 at *
 generalize vs 7 = u19 at *
 generalize vs 8 = u20 at *
 generalize vs 9 = u21 at *
 generalize vs 10 = u22 at *
 generalize vs 11 = u11 at *
 generalize vs 12 = u23 at *
 generalize vs 14 = u7 at *
 generalize vs 13 = u24 at *
 obtain ⟨rfl, -⟩ := g10
 obtain ⟨rfl, -⟩ := g11
 obtain ⟨rfl, n, hn, hnm⟩ := g12
 have hn0 := hn
 obtain ⟨n0, n1, n2, n3, n4, rfl, -⟩ := hn
 obtain ⟨ok, hrt, hok⟩ : ∃ ok, ((rtN (xxN y) = some n ∧ ok = true) ∨ (rtN (xxN y) = none ∧ ok = false)) ∧ (rtN (xxN y)).isSome = ok := by
  cases hq : rtN (xxN y) with
  | none => exact ⟨false, .inr ⟨rfl, rfl⟩, rfl⟩
  | some m => exact ⟨true, .inl ⟨by rw [hnm m hq], rfl⟩, rfl⟩
 obtain ⟨rfl, h13⟩ := g13
 rw [hok] at h13
 subst h13
 obtain ⟨b14, rfl, rfl⟩ := g14
 obtain ⟨rfl, -⟩ := g1
 obtain ⟨rfl, -⟩ := g2
 obtain ⟨rfl, -⟩ := g3
 obtain ⟨rfl, -⟩ := g5
 obtain ⟨rfl, -⟩ := g6
 obtain ⟨rfl, -⟩ := g7
 obtain ⟨rfl, -⟩ := g8
 obtain ⟨rfl, -⟩ := g9
 dsimp only [List.append_eq, List.nil_append, List.cons_append]
 refine G5 rfl rfl rfl (A8 rfl rfl Cel.cel kR ln5 al5 UpC.upd ?_)
 refine fa_ hs ?_
 refine E4 (F9 1 2 4 7 8) (A5 ?_)
 rcases hrt with ⟨hrt, rfl⟩ | ⟨hrt, rfl⟩
 ·
  refine A3 (mv_ ?_)
  refine A4 (V3 rfl) rfl ?_
  refine mv_ ?_
  refine C6 rfl rfl (OpQ.opL qm_ rfl ?_)
  refine C6 rfl rfl (OpQ.opL qm_ rfl ?_)
  refine X8 (t := 29) rfl (fun hb => ?_) (fun hb => ?_)
  ·
   have ho : odd = true := hb
   refine C6 rfl rfl (OpQ.opL (qw_ 5) rfl ?_)
   refine A9W rfl rfl (aS rfl a0) kR (A82 _ n hn0 _) rfl ?_
   refine C6 rfl rfl (OpQ.opL (D7 rfl rfl) rfl ?_)
   refine A4 (E2 rfl rfl) rfl ?_
   refine A0 (F9 1 2 4 7 33) ?_
   refine C7 rfl (fun hc => ?_) (fun hc => ?_)
   ·
    have hz : n = 0 := by simpa using hc
    refine A3 ?_
    refine A4 (F6 (place := fun x => #[(0, 5), (5, 5), (10, 5), (15, 5)][x]?) (z := [A7, A7, A7, A7, A7, A7, A7, A7, A7, A7, A7, A7, A7, A7, A7, A7, A7, A7, A7, A7]) (fun _ => by kernel_rfl) e0 bd0) rfl ?_
    refine A6 rfl (A8 rfl rfl Cel.cel kR A2F A2G UpC.upd ?_)
    refine as_ (A0 (D4 4 5) (C1 (tr ?_)))
    refine ⟨_, [], [], A04 rfl rfl rfl kR At.mem (by rfl), List.nil_sublist _, by simp, rfl, rfl, _, _, rfl, .inr ⟨?_, rfl, ⟨_, rfl, _, _, _, _, _, _, _, _, _, _, _, _, _, _, _, _, _, _, _, _, rfl, K4, K4, K4, K4⟩⟩⟩
    rw [ho]; exact B6y hrt hz
   ·
    have hz : ¬ n = 0 := by simpa using hc
    refine A9 (nx (E9 1 2 4 7) (A5 (A3 ?_)))
    refine A4 (qw_ 5) rfl ?_
    refine G1 (aS rfl a0) kR (A3t _ n hn0 _) rfl ?_
    refine mv_ ?_
    refine A4 (A7A rfl rfl kR) rfl ?_
    refine A0 (E9 2 4 7 38) ?_
    refine C7 rfl (fun hc => ?_) (fun hc => ?_)
    ·
     have hodd := hc
     refine C2 ?_
     refine A4 (qw_ 5) rfl ?_
     refine D0 (aS rfl a0) kR (B6t hn0 _) rfl ?_
     rintro r40 M40 J40 ⟨rfl, rfl, k40⟩
     have h40 := k40
     obtain ⟨a40, b40, c40, d40, e40, rfl, -⟩ := k40
     refine A6 rfl (A8 rfl rfl Cel.cel kR ln5 al5 UpC.upd ?_)
     refine A0 (E1 2 4 7) ?_
     refine D3 [0, 1, 2, 3, 4, 5, 6, 8] [(0, 1), (1, 1), (3, 1), (4, 1), (2, 2), (5, 2), (6, 0), (7, 2), (8, 0)] kR kR fun hs => ?_
     refine F8 hs rfl (qw_ 5) rfl ?_
     refine F8 hs rfl (qw_ 5) rfl ?_
     refine F8 hs rfl (qw_ 5) rfl ?_
     refine F8 hs rfl (qw_ 5) rfl ?_
     refine G4 rfl (aS rfl a0) kR (A0w 1 (by decide) _) rfl ?_
     rintro r43 M43 J43 ⟨rfl, rfl, k43⟩
     have h43 := k43
     obtain ⟨a43, b43, c43, d43, e43, rfl, -⟩ := k43
     refine G4 rfl (aS rfl (aS rfl a0)) kR (R7 h40 hy _) rfl ?_
     rintro r46 M46 J46 ⟨rfl, rfl, k46⟩
     have h46 := k46
     obtain ⟨a46, b46, c46, d46, e46, rfl, -⟩ := k46
     refine D2 hs rfl (F6 (place := fun x => #[(0, 5), (5, 5), (10, 5), (15, 5)][x]?) (z := [A7, A7, A7, A7, A7, A7, A7, A7, A7, A7, A7, A7, A7, A7, A7, A7, A7, A7, A7, A7]) (fun _ => by kernel_rfl) (eS rfl (eS rfl (eS rfl (eS rfl e0)))) (bdS 0 5 rfl (by rfl) (bdS 5 5 rfl (by rfl) (bdS 10 5 rfl (by rfl) (bdS 15 5 rfl (by rfl) bd0))))) rfl ?_
     refine G5 rfl rfl rfl (A8 rfl rfl Cel.cel kR A2F A2G UpC.upd ?_)
     refine fa_ hs ?_
     refine E4 (D4 4 5) (C1 ?_)
     refine ⟨_, [], [], A04 rfl rfl rfl kR At.mem (by rfl), List.nil_sublist _, by simp, rfl, rfl, _, _, rfl, .inl ⟨fN n, ?_, rfl, ⟨_, rfl, _, _, _, _, _, _, _, _, _, _, _, _, _, _, _, _, _, _, _, _, rfl, h40, hy, h43, h46⟩⟩⟩
     exact A45 hrt (by rw [ho, decide_eq_false hz]; rfl) hodd
    ·
     have hodd := hc
     refine A9 (nx (E1 2 4 7) ?_)
     refine D3 [0, 1, 2, 3, 4, 5, 6, 8] [(0, 1), (1, 1), (3, 1), (4, 1), (2, 2), (5, 2), (6, 0), (7, 2), (8, 0)] kR kR fun hs => ?_
     refine F8 hs rfl (qw_ 5) rfl ?_
     refine F8 hs rfl (qw_ 5) rfl ?_
     refine F8 hs rfl (qw_ 5) rfl ?_
     refine F8 hs rfl (qw_ 5) rfl ?_
     refine G4 rfl (aS rfl a0) kR (A0w 1 (by decide) _) rfl ?_
     rintro r43 M43 J43 ⟨rfl, rfl, k43⟩
     have h43 := k43
     obtain ⟨a43, b43, c43, d43, e43, rfl, -⟩ := k43
     refine G4 rfl (aS rfl (aS rfl a0)) kR (R7 hn0 hy _) rfl ?_
     rintro r46 M46 J46 ⟨rfl, rfl, k46⟩
     have h46 := k46
     obtain ⟨a46, b46, c46, d46, e46, rfl, -⟩ := k46
     refine D2 hs rfl (F6 (place := fun x => #[(0, 5), (5, 5), (10, 5), (15, 5)][x]?) (z := [A7, A7, A7, A7, A7, A7, A7, A7, A7, A7, A7, A7, A7, A7, A7, A7, A7, A7, A7, A7]) (fun _ => by kernel_rfl) (eS rfl (eS rfl (eS rfl (eS rfl e0)))) (bdS 0 5 rfl (by rfl) (bdS 5 5 rfl (by rfl) (bdS 10 5 rfl (by rfl) (bdS 15 5 rfl (by rfl) bd0))))) rfl ?_
     refine G5 rfl rfl rfl (A8 rfl rfl Cel.cel kR A2F A2G UpC.upd ?_)
     refine fa_ hs ?_
     refine E4 (D4 4 5) (C1 ?_)
     refine ⟨_, [], [], A04 rfl rfl rfl kR At.mem (by rfl), List.nil_sublist _, by simp, rfl, rfl, _, _, rfl, .inl ⟨n, ?_, rfl, ⟨_, rfl, _, _, _, _, _, _, _, _, _, _, _, _, _, _, _, _, _, _, _, _, rfl, hn0, hy, h43, h46⟩⟩⟩
     exact A45 hrt (by rw [ho, decide_eq_false hz]; rfl) hodd
  ·
   have ho : odd = false := hb
   refine H4 rfl rfl rfl rfl ?_
   refine H4 rfl rfl rfl rfl ?_
   refine C6 rfl rfl (OpQ.opL (E2 rfl rfl) rfl ?_)
   refine A4 (E2 rfl rfl) rfl ?_
   refine A0 (F9 1 2 4 7 33) ?_
   refine D6 rfl ?_
   refine A9 (nx (E9 1 2 4 7) (A5 (A3 ?_)))
   refine A4 (qw_ 5) rfl ?_
   refine G1 (aS rfl a0) kR (A3t _ n hn0 _) rfl ?_
   refine mv_ ?_
   refine A4 (A7A rfl rfl kR) rfl ?_
   refine A0 (E9 2 4 7 38) ?_
   refine C7 rfl (fun hc => ?_) (fun hc => ?_)
   ·
    have hodd := hc
    refine C2 ?_
    refine A4 (qw_ 5) rfl ?_
    refine D0 (aS rfl a0) kR (B6t hn0 _) rfl ?_
    rintro r40 M40 J40 ⟨rfl, rfl, k40⟩
    have h40 := k40
    obtain ⟨a40, b40, c40, d40, e40, rfl, -⟩ := k40
    refine A6 rfl (A8 rfl rfl Cel.cel kR ln5 al5 UpC.upd ?_)
    refine A0 (E1 2 4 7) ?_
    refine D3 [0, 1, 2, 3, 4, 5, 6, 8] [(0, 1), (1, 1), (3, 1), (4, 1), (2, 2), (5, 2), (6, 0), (7, 2), (8, 0)] kR kR fun hs => ?_
    refine F8 hs rfl (qw_ 5) rfl ?_
    refine F8 hs rfl (qw_ 5) rfl ?_
    refine F8 hs rfl (qw_ 5) rfl ?_
    refine F8 hs rfl (qw_ 5) rfl ?_
    refine G4 rfl (aS rfl a0) kR (A0w 1 (by decide) _) rfl ?_
    rintro r43 M43 J43 ⟨rfl, rfl, k43⟩
    have h43 := k43
    obtain ⟨a43, b43, c43, d43, e43, rfl, -⟩ := k43
    refine G4 rfl (aS rfl (aS rfl a0)) kR (R7 h40 hy _) rfl ?_
    rintro r46 M46 J46 ⟨rfl, rfl, k46⟩
    have h46 := k46
    obtain ⟨a46, b46, c46, d46, e46, rfl, -⟩ := k46
    refine D2 hs rfl (F6 (place := fun x => #[(0, 5), (5, 5), (10, 5), (15, 5)][x]?) (z := [A7, A7, A7, A7, A7, A7, A7, A7, A7, A7, A7, A7, A7, A7, A7, A7, A7, A7, A7, A7]) (fun _ => by kernel_rfl) (eS rfl (eS rfl (eS rfl (eS rfl e0)))) (bdS 0 5 rfl (by rfl) (bdS 5 5 rfl (by rfl) (bdS 10 5 rfl (by rfl) (bdS 15 5 rfl (by rfl) bd0))))) rfl ?_
    refine G5 rfl rfl rfl (A8 rfl rfl Cel.cel kR A2F A2G UpC.upd ?_)
    refine fa_ hs ?_
    refine E4 (D4 4 5) (C1 ?_)
    refine ⟨_, [], [], A04 rfl rfl rfl kR At.mem (by rfl), List.nil_sublist _, by simp, rfl, rfl, _, _, rfl, .inl ⟨fN n, ?_, rfl, ⟨_, rfl, _, _, _, _, _, _, _, _, _, _, _, _, _, _, _, _, _, _, _, _, rfl, h40, hy, h43, h46⟩⟩⟩
    exact A45 hrt (by rw [ho]; rfl) hodd
   ·
    have hodd := hc
    refine A9 (nx (E1 2 4 7) ?_)
    refine D3 [0, 1, 2, 3, 4, 5, 6, 8] [(0, 1), (1, 1), (3, 1), (4, 1), (2, 2), (5, 2), (6, 0), (7, 2), (8, 0)] kR kR fun hs => ?_
    refine F8 hs rfl (qw_ 5) rfl ?_
    refine F8 hs rfl (qw_ 5) rfl ?_
    refine F8 hs rfl (qw_ 5) rfl ?_
    refine F8 hs rfl (qw_ 5) rfl ?_
    refine G4 rfl (aS rfl a0) kR (A0w 1 (by decide) _) rfl ?_
    rintro r43 M43 J43 ⟨rfl, rfl, k43⟩
    have h43 := k43
    obtain ⟨a43, b43, c43, d43, e43, rfl, -⟩ := k43
    refine G4 rfl (aS rfl (aS rfl a0)) kR (R7 hn0 hy _) rfl ?_
    rintro r46 M46 J46 ⟨rfl, rfl, k46⟩
    have h46 := k46
    obtain ⟨a46, b46, c46, d46, e46, rfl, -⟩ := k46
    refine D2 hs rfl (F6 (place := fun x => #[(0, 5), (5, 5), (10, 5), (15, 5)][x]?) (z := [A7, A7, A7, A7, A7, A7, A7, A7, A7, A7, A7, A7, A7, A7, A7, A7, A7, A7, A7, A7]) (fun _ => by kernel_rfl) (eS rfl (eS rfl (eS rfl (eS rfl e0)))) (bdS 0 5 rfl (by rfl) (bdS 5 5 rfl (by rfl) (bdS 10 5 rfl (by rfl) (bdS 15 5 rfl (by rfl) bd0))))) rfl ?_
    refine G5 rfl rfl rfl (A8 rfl rfl Cel.cel kR A2F A2G UpC.upd ?_)
    refine fa_ hs ?_
    refine E4 (D4 4 5) (C1 ?_)
    refine ⟨_, [], [], A04 rfl rfl rfl kR At.mem (by rfl), List.nil_sublist _, by simp, rfl, rfl, _, _, rfl, .inl ⟨n, ?_, rfl, ⟨_, rfl, _, _, _, _, _, _, _, _, _, _, _, _, _, _, _, _, _, _, _, _, rfl, hn0, hy, h43, h46⟩⟩⟩
    exact A45 hrt (by rw [ho]; rfl) hodd
 ·
  refine A3 (mv_ ?_)
  refine A4 (V3 rfl) rfl ?_
  refine mv_ ?_
  refine H4 rfl rfl rfl rfl ?_
  refine H4 rfl rfl rfl rfl ?_
  refine A1Z rfl rfl rfl ?_
  refine A1Z rfl rfl rfl ?_
  refine H4 rfl rfl rfl rfl ?_
  refine A4 (D7 rfl rfl) rfl ?_
  refine A0 (F9 1 2 4 7 33) ?_
  refine E0 rfl ?_
  refine A3 ?_
  refine A4 (F6 (place := fun x => #[(0, 5), (5, 5), (10, 5), (15, 5)][x]?) (z := [A7, A7, A7, A7, A7, A7, A7, A7, A7, A7, A7, A7, A7, A7, A7, A7, A7, A7, A7, A7]) (fun _ => by kernel_rfl) e0 bd0) rfl ?_
  refine A6 rfl (A8 rfl rfl Cel.cel kR A2F A2G UpC.upd ?_)
  refine as_ (A0 (D4 4 5) (C1 (tr ?_)))
  exact ⟨_, [], [], A04 rfl rfl rfl kR At.mem (by rfl), List.nil_sublist _, by simp, rfl, rfl, _, _, rfl, .inr ⟨B6w hrt, rfl, ⟨_, rfl, _, _, _, _, _, _, _, _, _, _, _, _, _, _, _, _, _, _, _, _, rfl, K4, K4, K4, K4⟩⟩⟩
theorem A66 (A : Mem) : FnX Tryz.prog 141 [] [] A fun r M J => M = [] ∧ J = [] ∧ FeP r pS := by
 refine FnX.enter (N := 12) Tryz.func141 rfl rfl rfl fun w => ?_
 refine C4 kn (A3 ?_)
 refine A6 rfl (C5 (cs := [A7, A7, A7, A7, A7, A7, A7, A7, A7, A7, A7, A7, A7, A7, A7, A7, A7, A7, A7, A7]) kR rfl fun b0 => ?_)
 refine A0 (D8 0) (A3 ?_)
 refine D0 (aS rfl a0) kR (A0w 4 (by decide) _) rfl ?_
 rintro r4 M4 J4 ⟨rfl, rfl, k4⟩
 have h4 := k4
 obtain ⟨a4, b4, c4, d4, e4, rfl, -⟩ := k4
 refine D0 (aS rfl a0) kR (A0w 5 (by decide) _) rfl ?_
 rintro r5 M5 J5 ⟨rfl, rfl, k5⟩
 have h5 := k5
 obtain ⟨a5, b5, c5, d5, e5, rfl, -⟩ := k5
 refine D0 (aS rfl a0) kR (B0M h5 _) rfl ?_
 rintro r6 M6 J6 ⟨rfl, rfl, k6⟩
 have h6 := k6
 obtain ⟨a6, b6, c6, d6, e6, rfl, -⟩ := k6
 refine D0 (aS rfl (aS rfl a0)) kR (R7 h4 h6 _) rfl ?_
 rintro r7 M7 J7 ⟨rfl, rfl, k7⟩
 rw [B8C] at k7
 have h7 := k7
 obtain ⟨a7, b7, c7, d7, e7, rfl, -⟩ := k7
 refine D0 (aS rfl (aS rfl a0)) kR (at_f _ s45 false h7 _) rfl ?_
 rintro r8 M8 J8 ⟨rfl, rfl, V, ok, rfl, hat⟩
 have hP : FeP V pS := by
  rw [at45] at hat
  rcases hat with ⟨x, h1, _, h2⟩ | ⟨h1, _, h2⟩
  · obtain rfl := Option.some.inj h1; exact h2
  · cases h1
 have hP0 := hP
 obtain ⟨xsp, rfl, p0, p1, p2, p3, p4, p5, p6, p7, p8, p9, p10, p11, p12, p13, p14, p15, p16, p17, p18, p19, rfl, hpX, hpY, hpZ, hpT⟩ := hP
 dsimp only [nums, List.map]
 refine mv_ ?_
 refine A4 (A2I rfl) rfl ?_
 refine A4 (A2v rfl) rfl ?_
 refine A6 rfl (C5 (cs := [A7, A7, A7, A7, A7, A7, A7, A7, A7, A7, A7, A7, A7, A7, A7, A7, A7, A7, A7, A7]) kR rfl fun b1 => ?_)
 refine A6 rfl (A8 rfl rfl Cel.cel kR A2F A2G UpC.upd ?_)
 refine as_ (A0 (D4 0 1) (A3 ?_))
 refine A4 (qw_ 20) rfl ?_
 refine A6 rfl (A8 rfl rfl Cel.cel kR A2F A2G UpC.upd ?_)
 refine A0 (D8 0) (C1 ?_)
 exact ⟨_, [], [], A1g rfl rfl kR At.mem (by rfl), List.nil_sublist _, by simp, rfl, rfl, hP0⟩

end Go.Proofs.YthbhpfefdnffaaaGreatDoor
namespace Go.Px
theorem A46 {P : Program} {R : Mem} {l : Env} {d : Option Nat} {ty : TypeId} {pos : String} {af : Array Edge} {g : Option (Nat × Bool)} {fn : Fn} {xs : List Operand} {vs : List Value} (hx : Evs l xs vs) :
    OpQ P R ⟨d, .makeFunc fn #[] xs.toArray, ty, pos, af, g⟩ l (.func fn #[] vs.toArray) := fun N a w ha hw => by
  have e : xs.toArray.map a.eval = vs.toArray := by simp [hx.map ha]
  simp only [execOp, e]
  simp [Instr.makeFunc]
section call
variable {C : Cx} {l : Env} {M J : Mem} {K : Env → Mem → Mem → Prop} {d : Nat} {ty : TypeId} {pos : String} {af : Array Edge} {g : Option (Nat × Bool)} {x : Operand} {f : FuncId} {xs : List Operand} {vs cs : List Value} {ts : Array TypeId}
theorem B6A {Mc R : Mem} {post : Value → Mem → Mem → Prop} (h0 : ev l x = some (.func (.func f) #[] cs.toArray)) (hx : Evs l xs vs) (hc : I9 C.P f = true)
    (hM : M.Perm (Mc ++ R)) (hf : FnX C.P f (vs ++ cs) Mc (R ++ (J ++ C.A)) post) (hd : Nat.blt d C.N = true) (k : ∀ v M' J', post v M' J' → K ((d, v) :: l) (M' ++ R) (J' ++ J)) :
    OpL C ⟨some d, .call { callee := .value x, args := xs.toArray, argTypes := ts }, ty, pos, af, g⟩ l M J K := by
  intro Qp a w ha hw
  have hrun : (execOp a.eval ⟨some d, .call { callee := .value x, args := xs.toArray, argTypes := ts }, ty, pos, af, g⟩).run C.P w = .ok (.enter f (vs ++ cs).toArray) w := by
    have e : xs.toArray.map a.eval = vs.toArray := by simp [hx.map ha]
    simp only [execOp, resolve, e, Sem.run_bind, ha.ev h0]
    simp [Deferred.ofValue, invoke, A7B hc]
  unfold Oper.wp
  rw [hrun]
  refine Calls.mono (hf w (hw.callee hM)) ?_
  rintro e w' ⟨v, M', J', rfl, hp, hs⟩
  exact ⟨_, _, _, ha.put (C9 hd) v, hw.back hM hs, k v M' J' hp⟩
theorem A1O {v : Value} (h0 : ev l x = some (.func (.func f) #[] cs.toArray)) (hx : Evs l xs vs) (hc : I9 C.P f = true) (hf : FnV C.P f (vs ++ cs) (M ++ (J ++ C.A)) v) (hd : Nat.blt d C.N = true) (k : K ((d, v) :: l) M J) :
    OpL C ⟨some d, .call { callee := .value x, args := xs.toArray, argTypes := ts }, ty, pos, af, g⟩ l M J K :=
  B6A (Mc := []) (R := M) h0 hx hc (.refl _) hf hd fun r M' J' ⟨e, h1, h2⟩ => by subst e; subst h1; subst h2; exact k
end call
def A6C (p : Nat → Bool) (n : Nat) : Int := match (List.range n).find? p with
  | some i => (i : Int)
  | none => -1
theorem A1P {p : Nat → Bool} {n i : Nat} (hi : i < n) (h0 : ∀ j, j < i → p j = false) (h : p i = true) : A6C p n = (i : Int) := by
  unfold A6C
  have : (List.range n).find? p = some i := by
    rw [List.find?_range_eq_some]
    exact ⟨h, List.mem_range.2 hi, fun j hj => by rw [h0 j hj]; rfl⟩
  rw [this]
theorem A1Q {p : Nat → Bool} {n : Nat} (h0 : ∀ j, j < n → p j = false) : A6C p n = -1 := by
  unfold A6C
  have : (List.range n).find? p = none := by
    rw [List.find?_eq_none]
    intro j hj
    rw [h0 j (List.mem_range.1 hj)]; decide
  rw [this]
theorem A2d (p : Nat → Bool) (n : Nat) : (A6C p n = -1 ∧ ∀ j, j < n → p j = false) ∨ ∃ i, i < n ∧ A6C p n = (i : Int) ∧ p i = true ∧ ∀ j, j < i → p j = false := by
  cases h : (List.range n).find? p with
  | none =>
    have h1 : ∀ j, j < n → p j = false := fun j hj => by
      have := List.find?_eq_none.1 h j (List.mem_range.2 hj)
      simpa using this
    exact .inl ⟨A1Q h1, h1⟩
  | some i =>
    obtain ⟨h1, h2, h3⟩ := List.find?_range_eq_some.1 h
    have h4 : ∀ j, j < i → p j = false := fun j hj => by simpa using h3 j hj
    exact .inr ⟨i, List.mem_range.1 h2, A1P (List.mem_range.1 h2) h4 h1, h1, h4⟩
structure RowT {α : Type} (sz : Nat) (φ : Mem → α → List Value → Prop) : Prop where
  mono : ∀ R R' x r, (∀ q, q ∈ R → q ∈ R') → φ R x r → φ R' x r
  len : ∀ R x r, φ R x r → r.length = sz
  one : ∀ R x r, φ R x r → ∀ c ∈ r, c.oneCell' = true
structure RwL {α : Type} (φ : Mem → α → List Value → Prop) (R : Mem) (rows : List (List Value)) (xs : List α) : Prop where
  len : rows.length = xs.length
  get : ∀ (j : Nat) (x : α), xs[j]? = some x → ∃ r, rows[j]? = some r ∧ φ R x r
section rows
variable {α : Type} {sz : Nat} {φ : Mem → α → List Value → Prop} {R R' : Mem} {rows : List (List Value)} {xs : List α} {x : α} {r : List Value}
theorem RwL.mono (hφ : RowT sz φ) (h : RwL φ R rows xs) (hR : ∀ q, q ∈ R → q ∈ R') : RwL φ R' rows xs := ⟨h.len, fun j x hj => by
  obtain ⟨r, h1, h2⟩ := h.get j x hj
  exact ⟨r, h1, hφ.mono _ _ _ _ hR h2⟩⟩
theorem RwL.nil : RwL φ R [] [] := ⟨rfl, fun j x h => by simp at h⟩
theorem RwL.of (h : RwL φ R rows xs) {j : Nat} (hr : rows[j]? = some r) : ∃ x, xs[j]? = some x ∧ φ R x r := by
  have hj : j < xs.length := by rw [← h.len]; exact (List.getElem?_eq_some_iff.1 hr).1
  obtain ⟨r', h1, h2⟩ := h.get j xs[j] (List.getElem?_eq_getElem hj)
  rw [hr] at h1
  cases h1
  exact ⟨_, List.getElem?_eq_getElem hj, h2⟩
theorem RwL.lens (hφ : RowT sz φ) (h : RwL φ R rows xs) : ∀ r ∈ rows, r.length = sz := by
  intro r hr
  obtain ⟨j, hj⟩ := List.getElem?_of_mem hr
  obtain ⟨x, _, h2⟩ := h.of hj
  exact hφ.len _ _ _ h2
theorem RwL.ones (hφ : RowT sz φ) (h : RwL φ R rows xs) : ∀ c ∈ rows.flatten, c.oneCell' = true := by
  intro c hc
  obtain ⟨r, hr, hc⟩ := List.mem_flatten.1 hc
  obtain ⟨j, hj⟩ := List.getElem?_of_mem hr
  obtain ⟨x, _, h2⟩ := h.of hj
  exact hφ.one _ _ _ h2 c hc
theorem RwL.snoc (h : RwL φ R rows xs) (hx : φ R x r) : RwL φ R (rows ++ [r]) (xs ++ [x]) := ⟨by simp [h.len], fun j y hj => by
  by_cases hlt : j < xs.length
  · rw [List.getElem?_append_left hlt] at hj
    obtain ⟨r', h1, h2⟩ := h.get j y hj
    exact ⟨r', by rw [List.getElem?_append_left (List.getElem?_eq_some_iff.1 h1).1]; exact h1, h2⟩
  · rw [List.getElem?_append_right (by omega)] at hj
    have hj0 : j = xs.length := by
      have := (List.getElem?_eq_some_iff.1 hj).1
      simp at this; omega
    subst hj0
    simp at hj
    subst hj
    exact ⟨r, by rw [List.getElem?_append_right (by rw [h.len]; omega), h.len]; simp, hx⟩⟩
theorem RwL.app {rows' : List (List Value)} {xs' : List α} (h : RwL φ R rows xs) (h' : RwL φ R rows' xs') : RwL φ R (rows ++ rows') (xs ++ xs') := ⟨by simp [h.len, h'.len], fun j y hj => by
  by_cases hlt : j < xs.length
  · rw [List.getElem?_append_left hlt] at hj
    obtain ⟨r', h1, h2⟩ := h.get j y hj
    exact ⟨r', by rw [List.getElem?_append_left (List.getElem?_eq_some_iff.1 h1).1]; exact h1, h2⟩
  · rw [List.getElem?_append_right (by omega)] at hj
    obtain ⟨r', h1, h2⟩ := h'.get _ y hj
    exact ⟨r', by rw [List.getElem?_append_right (by rw [h.len]; omega), h.len]; exact h1, h2⟩⟩
theorem RwL.cons (hx : φ R x r) (h : RwL φ R rows xs) : RwL φ R (r :: rows) (x :: xs) := ⟨by simp [h.len], fun j y hj => by
  cases j with
  | zero => simp at hj; subst hj; exact ⟨r, rfl, hx⟩
  | succ j => exact h.get j y hj⟩
theorem RwL.take (h : RwL φ R rows xs) (k : Nat) : RwL φ R (rows.take k) (xs.take k) := ⟨by simp [h.len], fun j y hj => by
  have hk : j < k := by
    rcases Nat.lt_or_ge j k with h | h
    · exact h
    · rw [List.getElem?_eq_none (by simp; omega)] at hj; cases hj
  rw [List.getElem?_take_of_lt hk] at hj ⊢
  exact h.get j y hj⟩
theorem RwL.drop (h : RwL φ R rows xs) (k : Nat) : RwL φ R (rows.drop k) (xs.drop k) := ⟨by simp [h.len], fun j y hj => by
  rw [List.getElem?_drop] at hj ⊢
  exact h.get _ y hj⟩
end rows
def A1p {α : Type} (q : α → Bool) (xs : List α) : Int := A6C (fun j => (xs[j]?.map q).getD false) xs.length
theorem X4 {α : Type} (q : α → Bool) (xs : List α) : (A1p q xs = -1 ∧ ∀ x ∈ xs, q x = false) ∨ ∃ (i : Nat) (x : α), A1p q xs = (i : Int) ∧ xs[i]? = some x ∧ q x = true ∧ ∀ (j : Nat) (y : α), j < i → xs[j]? = some y → q y = false := by
  rcases A2d (fun j => (xs[j]?.map q).getD false) xs.length with ⟨h1, h2⟩ | ⟨i, h1, h2, h3, h4⟩
  · refine .inl ⟨h1, fun x hx => ?_⟩
    obtain ⟨j, hj⟩ := List.getElem?_of_mem hx
    have := h2 j (List.getElem?_eq_some_iff.1 hj).1
    rw [hj] at this
    exact this
  · refine .inr ⟨i, xs[i], h2, List.getElem?_eq_getElem h1, ?_, fun j y hj hy => ?_⟩
    · rw [List.getElem?_eq_getElem h1] at h3
      exact h3
    · have := h4 j hj
      rw [hy] at this
      exact this
end Go.Px

namespace Go.Px
def mkB (P : Program) (t : TypeId) : Option (TypeId × Nat) :=
  match P.underlying t with
  | some (.slice e) => match P.info? e with
    | some i => match i.zero with
      | some (.bool false) => if i.size = 1 then some (e, i.bytes) else none
      | _ => none
    | none => none
  | _ => none
def B8E (h : List Bool) : List Value := h.map .bool
@[simp] theorem bools_len (h : List Bool) : (B8E h).length = h.length := by simp [B8E]
def appB (P : Program) (t tn : TypeId) : Option (TypeId × Nat) :=
  match P.underlying tn with
  | some (.int _) => mkB P t
  | _ => none
section zb
variable {C : Cx} {l : Env} {M J : Mem} {K : Env → Mem → Mem → Prop} {d : Nat} {ty t tn e : TypeId} {pos : String} {af : Array Edge} {g : Option (Nat × Bool)} {x y : Operand}
end zb
theorem C0e {C : Cx} {l : Env} {M J : Mem} {K : Env → Mem → Mem → Prop} {ty t : TypeId} {pos : String} {af : Array Edge} {g : Option (Nat × Bool)} {x y : Operand} {v u : Value} {xs : List Value} {n j : Nat} {B M0 : Mem} (h : Sl 1 v n xs B) (hx : ev l x = some (vAt 1 j v)) (hy : ev l y = some u) (h1 : u.oneCell' = true)
    (ht : N9 C.P t = some 1) (hj : j < n) (hM : M.Perm (B ++ M0)) (h2 : ∀ B', Sl 1 v n (xs.set j u) B' → K l (B' ++ M0) J) :
    OpL C ⟨none, .store t x y, ty, pos, af, g⟩ l M J K := by
  suffices hh : OpL C ⟨none, .store t x y, ty, pos, af, g⟩ l (B ++ M0) J K from fun Qp a w ha hw => hh Qp a w ha (hw.fit (Fit.perm hM) fun _ h => h)
  clear hM
  rcases h with ⟨p, rfl, rfl, hx2, rfl⟩ | ⟨b, o, cap, cs, e, rfl, rfl, h3, h4, h5, h6, h7⟩
  · omega
  · simp only [vAt, Addr.add_mid, Nat.mul_one] at hx
    refine E3 hx hy h1 ht (A2A (by omega)) .hd (h2 [_] (.inr ⟨b, o, cap, _, e, rfl, rfl, h3, h4, by simpa using h5, by simpa using h6, ?_⟩))
    intro i w hi
    rw [List.getElem?_set] at hi ⊢
    by_cases hij : j = i
    · subst hij
      simp only [if_true] at hi ⊢
      simp at hi h6
      rw [if_pos (by omega)]
      rw [← hi.2]
    · rw [if_neg hij] at hi
      rw [if_neg (by omega)]
      exact h7 i w hi
section call
variable {C : Cx} {l : Env} {M J : Mem} {K : Env → Mem → Mem → Prop} {d : Nat} {ty : TypeId} {pos : String} {af : Array Edge} {g : Option (Nat × Bool)} {x : Operand} {f : FuncId} {xs : List Operand} {us vs cs : List Value} {ts : Array TypeId}
end call
end Go.Px

