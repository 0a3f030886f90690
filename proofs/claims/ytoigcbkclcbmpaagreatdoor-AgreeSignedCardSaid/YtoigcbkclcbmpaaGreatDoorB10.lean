/- Part 10 of the texts of this claim, one behind the other. -/
import Derived.Test.YtoigcbkclcbmpaaGreatDoorB9
set_option linter.unusedVariables false
set_option linter.unusedSimpArgs false
set_option maxRecDepth 100000
namespace Go.Proofs.YtoigcbkclcbmpaaGreatDoor
open Go.Px
theorem B4i (A : Mem) : FnX Tryz.prog 96 [] [] A fun r M J => M = [] ∧ J = [] ∧ FeP r pO := by
 refine FnX.enter (N := 4) Tryz.func96 rfl rfl rfl fun w => ?_
 refine C4 kn (A3 ?_)
 refine A6 rfl (C5 (cs := [A7, A7, A7, A7, A7, A7, A7, A7, A7, A7, A7, A7, A7, A7, A7, A7, A7, A7, A7, A7]) kR rfl fun b0 => ?_)
 refine A0 (D8 0) (A3 ?_)
 refine C9 (aS rfl a0) kR (A0T 1 qD _) rfl ?_
 rintro r1 M1 J1 ⟨rfl, rfl, k1⟩
 have h1 := k1
 obtain ⟨a1, b1, c1, d1, e1, rfl, -⟩ := k1
 refine C9 (aS rfl a0) kR (A0T 1 qD _) rfl ?_
 rintro r2 M2 J2 ⟨rfl, rfl, k2⟩
 have h2 := k2
 obtain ⟨a2, b2, c2, d2, e2, rfl, -⟩ := k2
 refine A4 (F3 (place := fun x => #[(0, 5), (5, 5), (10, 5), (15, 5)][x]?) (z := [A7, A7, A7, A7, A7, A7, A7, A7, A7, A7, A7, A7, A7, A7, A7, A7, A7, A7, A7, A7]) (fun _ => by kernel_rfl) (eS rfl (eS rfl e0)) (bdS 5 5 rfl qR (bdS 10 5 rfl qR bd0))) rfl ?_
 refine A6 rfl (A8 rfl rfl Cel.cel kR A26 A27 UpC.upd ?_)
 refine A0 (D8 0) (C3 ?_)
 exact ⟨_, [], [], A1x rfl rfl kR At.mem qR, List.nil_sublist _, by simp, rfl, rfl, ⟨_, rfl, _, _, _, _, _, _, _, _, _, _, _, _, _, _, _, _, _, _, _, _, rfl, K8, h1, h2, K8⟩⟩
theorem A7N (A : Mem) : FnX Tryz.prog 97 [] [] A fun r M J => M = [] ∧ J = [] ∧ Fe r dN := by
 refine FnX.enter (N := 6) Tryz.func97 rfl rfl rfl fun w => ?_
 refine C4 kn (A3 ?_)
 refine A6 rfl (C5 (cs := [A7, A7, A7, A7, A7]) kR rfl fun b0 => ?_)
 refine A0 (D8 0) (A3 ?_)
 refine C9 (aS rfl a0) kR (A0T 121665 qD _) rfl ?_
 rintro r1 M1 J1 ⟨rfl, rfl, k1⟩
 have h1 := k1
 obtain ⟨a1, b1, c1, d1, e1, rfl, -⟩ := k1
 refine C9 (aS rfl a0) kR (A0T 121666 qD _) rfl ?_
 rintro r2 M2 J2 ⟨rfl, rfl, k2⟩
 have h2 := k2
 obtain ⟨a2, b2, c2, d2, e2, rfl, -⟩ := k2
 refine C9 (aS rfl a0) kR (B1v h2 _) rfl ?_
 rintro r3 M3 J3 ⟨rfl, rfl, k3⟩
 have h3 := k3
 obtain ⟨a3, b3, c3, d3, e3, rfl, -⟩ := k3
 refine C9 (aS rfl (aS rfl a0)) kR (T4 h1 h3 _) rfl ?_
 rintro r4 M4 J4 ⟨rfl, rfl, k4⟩
 have h4 := k4
 obtain ⟨a4, b4, c4, d4, e4, rfl, -⟩ := k4
 refine C9 (aS rfl a0) kR (B7w h4 _) rfl ?_
 rintro r5 M5 J5 ⟨rfl, rfl, k5⟩
 rw [C1K] at k5
 have h5 := k5
 obtain ⟨a5, b5, c5, d5, e5, rfl, -⟩ := k5
 refine A6 rfl (A8 rfl rfl Cel.cel kR ln5 al5 UpC.upd ?_)
 refine A0 (D8 0) (C3 ?_)
 exact ⟨_, [], [], A1x rfl rfl kR At.mem qR, List.nil_sublist _, by simp, rfl, rfl, h5⟩
theorem B1w (V W u : Value) (P Q : Pt) (dd : Nat) (hV : FeP V P) (hW : FeP W Q) (hu : Fe u dd) (A : Mem) : FnX Tryz.prog 98 [V, W, u] [] A fun r M J => M = [] ∧ J = [] ∧ FeP r (A56 dd P Q) := by
 obtain ⟨xsp, rfl, p0, p1, p2, p3, p4, p5, p6, p7, p8, p9, p10, p11, p12, p13, p14, p15, p16, p17, p18, p19, rfl, hPX, hPY, hPZ, hPT⟩ := hV
 dsimp only [nums, List.map]
 obtain ⟨xsq, rfl, q0, q1, q2, q3, q4, q5, q6, q7, q8, q9, q10, q11, q12, q13, q14, q15, q16, q17, q18, q19, rfl, hQX, hQY, hQZ, hQT⟩ := hW
 dsimp only [nums, List.map]
 have hd := hu
 obtain ⟨ud0, ud1, ud2, ud3, ud4, rfl, -⟩ := hu
 refine FnX.enter (N := 77) Tryz.func98 rfl rfl rfl fun w => ?_
 refine C4 (E2 0 1 2) (A3 ?_)
 refine A6 rfl (bx_ fun b3 => ?_)
 refine A6 rfl (bx_ fun b4 => ?_)
 refine A6 rfl (bx_ fun b5 => ?_)
 refine A6 rfl (C5 (cs := [A7, A7, A7, A7, A7, A7, A7, A7, A7, A7, A7, A7, A7, A7, A7, A7, A7, A7, A7, A7]) kR rfl fun b6 => ?_)
 refine A0 (E7 3 4 5 6) ?_
 refine D2 (.range 12) [(0, 0), (1, 1), (2, 0), (3, 1), (5, 0), (6, 1), (7, 0), (8, 1), (4, 3), (9, 3), (10, 3), (11, 4), (12, 2)] kR kR fun hs => ?_
 refine D1 hs rfl (qf_ 5 5) rfl ?_
 refine F7 hs rfl (H2 (n := 5) rfl kR (by first | exact At.mem | exact mA (by assumption)) TakeC.take) rfl ?_
 refine D1 hs rfl (qf_ 0 0) rfl ?_
 refine F7 hs rfl (H2 (n := 5) rfl kR (by first | exact At.mem | exact mA (by assumption)) TakeC.take) rfl ?_
 refine D1 hs rfl (qf_ 5 5) rfl ?_
 refine F7 hs rfl (H2 (n := 5) rfl kR (by first | exact At.mem | exact mA (by assumption)) TakeC.take) rfl ?_
 refine D1 hs rfl (qf_ 0 0) rfl ?_
 refine F7 hs rfl (H2 (n := 5) rfl kR (by first | exact At.mem | exact mA (by assumption)) TakeC.take) rfl ?_
 refine N5 [⟨4, 19, fun v B _ => B = [] ∧ Fe v (fS P.Y P.X)⟩, ⟨9, 24, fun v B _ => B = [] ∧ Fe v (fS Q.Y Q.X)⟩, ⟨10, 25, fun v B _ => B = [] ∧ Fe v (fM (fS P.Y P.X) (fS Q.Y Q.X))⟩, ⟨11, 7, fun v B _ => ∃ b, v = (vP b) ∧ B = [(b, blk [.int .u64 0, .int .u64 0, .int .u64 0, .int .u64 0, .int .u64 0] 113)]⟩]
  (C1 (fun _ _ _ _ _ h => h) (C1 (fun _ _ _ _ _ h => h) (C1 (fun _ _ _ _ _ h => h) (C1 (fun _ _ _ _ _ h => h) (K7))))) (show List.Nodup [19, 24, 25, 7] by decide) (show List.Nodup [4, 9, 10, 11] by decide) (C1 (C8 rfl) (C1 (C8 rfl) (C1 (C8 rfl) (C1 (C8 rfl) (K7)))))
  (C1 ⟨_, rfl, fun vs bs R w hb ha => ⟨.inl rfl, ?_⟩⟩ (C1 ⟨_, rfl, fun vs bs R w hb ha => ⟨.inl rfl, ?_⟩⟩ (C1 ⟨_, rfl, fun vs bs R w hb ha => ⟨.inl rfl, ?_⟩⟩ (C1 ⟨_, rfl, fun vs bs R w hb ha => ⟨.inl rfl, ?_⟩⟩ (K7))))) ?_
 ·
  refine D7 (aS rfl (aS rfl (a0))) kR (A5x hPY hPX _) rfl ?_
  rintro r M1 J1 ⟨rfl, rfl, hh⟩
  exact ⟨_, rfl, rfl, hh⟩
 ·
  refine D7 (aS rfl (aS rfl (a0))) kR (A5x hQY hQX _) rfl ?_
  rintro r M1 J1 ⟨rfl, rfl, hh⟩
  exact ⟨_, rfl, rfl, hh⟩
 ·
  have g4 := ha _ (List.mem_of_getElem? (i := 0) rfl) kR
  replace g4 : (fun v B _ => B = [] ∧ Fe v (fS P.Y P.X)) (vs 4) (bs 4) R := g4
  dsimp only at g4
  have g9 := ha _ (List.mem_of_getElem? (i := 1) rfl) kR
  replace g9 : (fun v B _ => B = [] ∧ Fe v (fS Q.Y Q.X)) (vs 9) (bs 9) R := g9
  dsimp only at g9
  obtain ⟨-, k4⟩ := g4
  obtain ⟨-, k9⟩ := g9
  refine D7 (aS rfl (aS rfl (a0))) kR (T4 k4 k9 _) rfl ?_
  rintro r M1 J1 ⟨rfl, rfl, hh⟩
  exact ⟨_, rfl, rfl, hh⟩
 ·
  exact C5 (cs := [A7, A7, A7, A7, A7]) kR rfl fun b => ⟨_, rfl, b, rfl, rfl⟩
 intro vs bs Jn0 hφ
 have g4 := ofH hφ
 dsimp only at g4
 replace hφ := ofT hφ
 have g9 := ofH hφ
 dsimp only at g9
 replace hφ := ofT hφ
 have g10 := ofH hφ
 dsimp only at g10
 replace hφ := ofT hφ
 have g11 := ofH hφ
 dsimp only at g11
 clear hφ
 dsimp only [U9, Q4, List.map, List.flatten, List.cons_append, List.nil_append]
 generalize bs 4 = B19 at *
 generalize bs 9 = B24 at *
 generalize bs 10 = B25 at *
 generalize bs 11 = B7 at *
 generalize vs 4 = u19 at *
 generalize vs 9 = u24 at *
 generalize vs 10 = u25 at *
 generalize vs 11 = u7 at *
 obtain ⟨rfl, k4⟩ := g4
 have h4 := k4
 obtain ⟨a4, b4, c4, d4, e4, rfl, -⟩ := k4
 obtain ⟨rfl, k9⟩ := g9
 have h9 := k9
 obtain ⟨a9, b9, c9, d9, e9, rfl, -⟩ := k9
 obtain ⟨rfl, k10⟩ := g10
 have h10 := k10
 obtain ⟨a10, b10, c10, d10, e10, rfl, -⟩ := k10
 obtain ⟨b11, rfl, rfl⟩ := g11
 dsimp only [List.append_eq, List.nil_append, List.cons_append]
 have hfa := h10
 clear h4 h9 h10
 refine G5 rfl rfl rfl (A8 rfl rfl Cel.cel kR ln5 al5 UpC.upd ?_)
 refine E4 (F5 3 4 5 6 7) ?_
 refine D2 (.range 12) [(0, 0), (1, 1), (2, 0), (3, 1), (5, 0), (6, 1), (7, 0), (8, 1), (4, 3), (9, 3), (10, 3), (11, 4), (12, 2)] kR kR fun hs => ?_
 refine D1 hs rfl (qf_ 5 5) rfl ?_
 refine F7 hs rfl (H2 (n := 5) rfl kR (by first | exact At.mem | exact mA (by assumption)) TakeC.take) rfl ?_
 refine D1 hs rfl (qf_ 0 0) rfl ?_
 refine F7 hs rfl (H2 (n := 5) rfl kR (by first | exact At.mem | exact mA (by assumption)) TakeC.take) rfl ?_
 refine D1 hs rfl (qf_ 5 5) rfl ?_
 refine F7 hs rfl (H2 (n := 5) rfl kR (by first | exact At.mem | exact mA (by assumption)) TakeC.take) rfl ?_
 refine D1 hs rfl (qf_ 0 0) rfl ?_
 refine F7 hs rfl (H2 (n := 5) rfl kR (by first | exact At.mem | exact mA (by assumption)) TakeC.take) rfl ?_
 refine N5 [⟨4, 30, fun v B _ => B = [] ∧ Fe v (fA P.Y P.X)⟩, ⟨9, 35, fun v B _ => B = [] ∧ Fe v (fA Q.Y Q.X)⟩, ⟨10, 36, fun v B _ => B = [] ∧ Fe v (fM (fA P.Y P.X) (fA Q.Y Q.X))⟩, ⟨11, 8, fun v B _ => ∃ b, v = (vP b) ∧ B = [(b, blk [.int .u64 0, .int .u64 0, .int .u64 0, .int .u64 0, .int .u64 0] 113)]⟩]
  (C1 (fun _ _ _ _ _ h => h) (C1 (fun _ _ _ _ _ h => h) (C1 (fun _ _ _ _ _ h => h) (C1 (fun _ _ _ _ _ h => h) (K7))))) (show List.Nodup [30, 35, 36, 8] by decide) (show List.Nodup [4, 9, 10, 11] by decide) (C1 (C8 rfl) (C1 (C8 rfl) (C1 (C8 rfl) (C1 (C8 rfl) (K7)))))
  (C1 ⟨_, rfl, fun vs bs R w hb ha => ⟨.inl rfl, ?_⟩⟩ (C1 ⟨_, rfl, fun vs bs R w hb ha => ⟨.inl rfl, ?_⟩⟩ (C1 ⟨_, rfl, fun vs bs R w hb ha => ⟨.inl rfl, ?_⟩⟩ (C1 ⟨_, rfl, fun vs bs R w hb ha => ⟨.inl rfl, ?_⟩⟩ (K7))))) ?_
 ·
  refine D7 (aS rfl (aS rfl (a0))) kR (A4h hPY hPX _) rfl ?_
  rintro r M1 J1 ⟨rfl, rfl, hh⟩
  exact ⟨_, rfl, rfl, hh⟩
 ·
  refine D7 (aS rfl (aS rfl (a0))) kR (A4h hQY hQX _) rfl ?_
  rintro r M1 J1 ⟨rfl, rfl, hh⟩
  exact ⟨_, rfl, rfl, hh⟩
 ·
  have g4 := ha _ (List.mem_of_getElem? (i := 0) rfl) kR
  replace g4 : (fun v B _ => B = [] ∧ Fe v (fA P.Y P.X)) (vs 4) (bs 4) R := g4
  dsimp only at g4
  have g9 := ha _ (List.mem_of_getElem? (i := 1) rfl) kR
  replace g9 : (fun v B _ => B = [] ∧ Fe v (fA Q.Y Q.X)) (vs 9) (bs 9) R := g9
  dsimp only at g9
  obtain ⟨-, k4⟩ := g4
  obtain ⟨-, k9⟩ := g9
  refine D7 (aS rfl (aS rfl (a0))) kR (T4 k4 k9 _) rfl ?_
  rintro r M1 J1 ⟨rfl, rfl, hh⟩
  exact ⟨_, rfl, rfl, hh⟩
 ·
  exact C5 (cs := [A7, A7, A7, A7, A7]) kR rfl fun b => ⟨_, rfl, b, rfl, rfl⟩
 intro vs bs Jn0 hφ
 have g4 := ofH hφ
 dsimp only at g4
 replace hφ := ofT hφ
 have g9 := ofH hφ
 dsimp only at g9
 replace hφ := ofT hφ
 have g10 := ofH hφ
 dsimp only at g10
 replace hφ := ofT hφ
 have g11 := ofH hφ
 dsimp only at g11
 clear hφ
 dsimp only [U9, Q4, List.map, List.flatten, List.cons_append, List.nil_append]
 generalize bs 4 = B30 at *
 generalize bs 9 = B35 at *
 generalize bs 10 = B36 at *
 generalize bs 11 = B8 at *
 generalize vs 4 = u30 at *
 generalize vs 9 = u35 at *
 generalize vs 10 = u36 at *
 generalize vs 11 = u8 at *
 obtain ⟨rfl, k4⟩ := g4
 have h4 := k4
 obtain ⟨a4, b4, c4, d4, e4, rfl, -⟩ := k4
 obtain ⟨rfl, k9⟩ := g9
 have h9 := k9
 obtain ⟨a9, b9, c9, d9, e9, rfl, -⟩ := k9
 obtain ⟨rfl, k10⟩ := g10
 have h10 := k10
 obtain ⟨a10, b10, c10, d10, e10, rfl, -⟩ := k10
 obtain ⟨b11, rfl, rfl⟩ := g11
 dsimp only [List.append_eq, List.nil_append, List.cons_append]
 have hfb := h10
 clear h4 h9 h10
 refine G5 rfl rfl rfl (A8 rfl rfl Cel.cel kR ln5 al5 UpC.upd ?_)
 refine E4 (I1 3 4 5 6 7 8) ?_
 refine D2 (.range 8) [(0, 0), (1, 1), (2, 1), (4, 0), (5, 1), (3, 3), (6, 3), (7, 4), (8, 2)] kR kR fun hs => ?_
 refine D1 hs rfl (qf_ 15 15) rfl ?_
 refine F7 hs rfl (H2 (n := 5) rfl kR (by first | exact At.mem | exact mA (by assumption)) TakeC.take) rfl ?_
 refine F7 hs rfl (qw_ 5) rfl ?_
 refine D1 hs rfl (qf_ 15 15) rfl ?_
 refine F7 hs rfl (H2 (n := 5) rfl kR (by first | exact At.mem | exact mA (by assumption)) TakeC.take) rfl ?_
 refine N5 [⟨3, 40, fun v B _ => B = [] ∧ Fe v (fM P.T dd)⟩, ⟨6, 43, fun v B _ => B = [] ∧ Fe v (fM (fM P.T dd) Q.T)⟩, ⟨7, 9, fun v B _ => ∃ b, v = (vP b) ∧ B = [(b, blk [.int .u64 0, .int .u64 0, .int .u64 0, .int .u64 0, .int .u64 0] 113)]⟩]
  (C1 (fun _ _ _ _ _ h => h) (C1 (fun _ _ _ _ _ h => h) (C1 (fun _ _ _ _ _ h => h) (K7)))) (show List.Nodup [40, 43, 9] by decide) (show List.Nodup [3, 6, 7] by decide) (C1 (C8 rfl) (C1 (C8 rfl) (C1 (C8 rfl) (K7))))
  (C1 ⟨_, rfl, fun vs bs R w hb ha => ⟨.inl rfl, ?_⟩⟩ (C1 ⟨_, rfl, fun vs bs R w hb ha => ⟨.inl rfl, ?_⟩⟩ (C1 ⟨_, rfl, fun vs bs R w hb ha => ⟨.inl rfl, ?_⟩⟩ (K7)))) ?_
 ·
  refine D7 (aS rfl (aS rfl (a0))) kR (T4 hPT hd _) rfl ?_
  rintro r M1 J1 ⟨rfl, rfl, hh⟩
  exact ⟨_, rfl, rfl, hh⟩
 ·
  have g3 := ha _ (List.mem_of_getElem? (i := 0) rfl) kR
  replace g3 : (fun v B _ => B = [] ∧ Fe v (fM P.T dd)) (vs 3) (bs 3) R := g3
  dsimp only at g3
  obtain ⟨-, k3⟩ := g3
  refine D7 (aS rfl (aS rfl (a0))) kR (T4 k3 hQT _) rfl ?_
  rintro r M1 J1 ⟨rfl, rfl, hh⟩
  exact ⟨_, rfl, rfl, hh⟩
 ·
  exact C5 (cs := [A7, A7, A7, A7, A7]) kR rfl fun b => ⟨_, rfl, b, rfl, rfl⟩
 intro vs bs Jn0 hφ
 have g3 := ofH hφ
 dsimp only at g3
 replace hφ := ofT hφ
 have g6 := ofH hφ
 dsimp only at g6
 replace hφ := ofT hφ
 have g7 := ofH hφ
 dsimp only at g7
 clear hφ
 dsimp only [U9, Q4, List.map, List.flatten, List.cons_append, List.nil_append]
 generalize bs 3 = B40 at *
 generalize bs 6 = B43 at *
 generalize bs 7 = B9 at *
 generalize vs 3 = u40 at *
 generalize vs 6 = u43 at *
 generalize vs 7 = u9 at *
 obtain ⟨rfl, k3⟩ := g3
 have h3 := k3
 obtain ⟨a3, b3, c3, d3, e3, rfl, -⟩ := k3
 obtain ⟨rfl, k6⟩ := g6
 have h6 := k6
 obtain ⟨a6, b6, c6, d6, e6, rfl, -⟩ := k6
 obtain ⟨b7, rfl, rfl⟩ := g7
 dsimp only [List.append_eq, List.nil_append, List.cons_append]
 have hc := h6
 clear h3 h6
 refine G5 rfl rfl rfl (A8 rfl rfl Cel.cel kR ln5 al5 UpC.upd ?_)
 refine E4 (I1 3 4 6 7 8 9) (A3 ?_)
 refine A4 (qf_ 10 10) rfl ?_
 refine A4 (H2 (n := 5) rfl kR (by first | exact At.mem | exact mA (by assumption)) TakeC.take) rfl ?_
 refine A4 (qf_ 10 10) rfl ?_
 refine A4 (H2 (n := 5) rfl kR (by first | exact At.mem | exact mA (by assumption)) TakeC.take) rfl ?_
 refine C9 (aS rfl (aS rfl a0)) kR (T4 hPZ hQZ _) rfl ?_
 rintro r48 M48 J48 ⟨rfl, rfl, k48⟩
 have h48 := k48
 obtain ⟨a48, b48, c48, d48, e48, rfl, -⟩ := k48
 refine A6 rfl (C5 (cs := [A7, A7, A7, A7, A7]) kR rfl fun b10 => ?_)
 refine A6 rfl (A8 rfl rfl Cel.cel kR ln5 al5 UpC.upd ?_)
 refine A0 (F5 6 7 8 9 10) (A3 ?_)
 refine A4 (qw_ 5) rfl ?_
 refine A4 (qw_ 5) rfl ?_
 refine C9 (aS rfl (aS rfl a0)) kR (A4h h48 h48 _) rfl ?_
 rintro r51 M51 J51 ⟨rfl, rfl, k51⟩
 have h51 := k51
 obtain ⟨a51, b51, c51, d51, e51, rfl, -⟩ := k51
 refine A6 rfl (A8 rfl rfl Cel.cel kR ln5 al5 UpC.upd ?_)
 refine A0 (F5 6 7 8 9 10) ?_
 refine D2 (.range 16) [(0, 1), (1, 1), (3, 1), (4, 1), (6, 1), (7, 1), (9, 1), (10, 1), (2, 3), (5, 3), (8, 3), (11, 3), (12, 3), (13, 3), (14, 3), (15, 4), (16, 2), (17, 2), (18, 2), (19, 2)] kR kR fun hs => ?_
 refine F7 hs rfl (qw_ 5) rfl ?_
 refine F7 hs rfl (qw_ 5) rfl ?_
 refine F7 hs rfl (qw_ 5) rfl ?_
 refine F7 hs rfl (qw_ 5) rfl ?_
 refine F7 hs rfl (qw_ 5) rfl ?_
 refine F7 hs rfl (qw_ 5) rfl ?_
 refine F7 hs rfl (qw_ 5) rfl ?_
 refine F7 hs rfl (qw_ 5) rfl ?_
 refine N5 [⟨2, 54, fun v B _ => B = [] ∧ Fe v (fS (fM (fA P.Y P.X) (fA Q.Y Q.X)) (fM (fS P.Y P.X) (fS Q.Y Q.X)))⟩, ⟨5, 57, fun v B _ => B = [] ∧ Fe v (fS (fA (fM P.Z Q.Z) (fM P.Z Q.Z)) (fM (fM P.T dd) Q.T))⟩, ⟨8, 60, fun v B _ => B = [] ∧ Fe v (fA (fA (fM P.Z Q.Z) (fM P.Z Q.Z)) (fM (fM P.T dd) Q.T))⟩, ⟨11, 63, fun v B _ => B = [] ∧ Fe v (fA (fM (fA P.Y P.X) (fA Q.Y Q.X)) (fM (fS P.Y P.X) (fS Q.Y Q.X)))⟩, ⟨12, 11, fun v B _ => ∃ b, v = (vP b) ∧ B = [(b, blk [.int .u64 0, .int .u64 0, .int .u64 0, .int .u64 0, .int .u64 0] 113)]⟩, ⟨13, 12, fun v B _ => ∃ b, v = (vP b) ∧ B = [(b, blk [.int .u64 0, .int .u64 0, .int .u64 0, .int .u64 0, .int .u64 0] 113)]⟩, ⟨14, 13, fun v B _ => ∃ b, v = (vP b) ∧ B = [(b, blk [.int .u64 0, .int .u64 0, .int .u64 0, .int .u64 0, .int .u64 0] 113)]⟩, ⟨15, 14, fun v B _ => ∃ b, v = (vP b) ∧ B = [(b, blk [.int .u64 0, .int .u64 0, .int .u64 0, .int .u64 0, .int .u64 0] 113)]⟩]
  (C1 (fun _ _ _ _ _ h => h) (C1 (fun _ _ _ _ _ h => h) (C1 (fun _ _ _ _ _ h => h) (C1 (fun _ _ _ _ _ h => h) (C1 (fun _ _ _ _ _ h => h) (C1 (fun _ _ _ _ _ h => h) (C1 (fun _ _ _ _ _ h => h) (C1 (fun _ _ _ _ _ h => h) (K7))))))))) (show List.Nodup [54, 57, 60, 63, 11, 12, 13, 14] by decide) (show List.Nodup [2, 5, 8, 11, 12, 13, 14, 15] by decide) (C1 (C8 rfl) (C1 (C8 rfl) (C1 (C8 rfl) (C1 (C8 rfl) (C1 (C8 rfl) (C1 (C8 rfl) (C1 (C8 rfl) (C1 (C8 rfl) (K7)))))))))
  (C1 ⟨_, rfl, fun vs bs R w hb ha => ⟨.inl rfl, ?_⟩⟩ (C1 ⟨_, rfl, fun vs bs R w hb ha => ⟨.inl rfl, ?_⟩⟩ (C1 ⟨_, rfl, fun vs bs R w hb ha => ⟨.inl rfl, ?_⟩⟩ (C1 ⟨_, rfl, fun vs bs R w hb ha => ⟨.inl rfl, ?_⟩⟩ (C1 ⟨_, rfl, fun vs bs R w hb ha => ⟨.inl rfl, ?_⟩⟩ (C1 ⟨_, rfl, fun vs bs R w hb ha => ⟨.inl rfl, ?_⟩⟩ (C1 ⟨_, rfl, fun vs bs R w hb ha => ⟨.inl rfl, ?_⟩⟩ (C1 ⟨_, rfl, fun vs bs R w hb ha => ⟨.inl rfl, ?_⟩⟩ (K7))))))))) ?_
 ·
  refine D7 (aS rfl (aS rfl (a0))) kR (A5x hfb hfa _) rfl ?_
  rintro r M1 J1 ⟨rfl, rfl, hh⟩
  exact ⟨_, rfl, rfl, hh⟩
 ·
  refine D7 (aS rfl (aS rfl (a0))) kR (A5x h51 hc _) rfl ?_
  rintro r M1 J1 ⟨rfl, rfl, hh⟩
  exact ⟨_, rfl, rfl, hh⟩
 ·
  refine D7 (aS rfl (aS rfl (a0))) kR (A4h h51 hc _) rfl ?_
  rintro r M1 J1 ⟨rfl, rfl, hh⟩
  exact ⟨_, rfl, rfl, hh⟩
 ·
  refine D7 (aS rfl (aS rfl (a0))) kR (A4h hfb hfa _) rfl ?_
  rintro r M1 J1 ⟨rfl, rfl, hh⟩
  exact ⟨_, rfl, rfl, hh⟩
 ·
  exact C5 (cs := [A7, A7, A7, A7, A7]) kR rfl fun b => ⟨_, rfl, b, rfl, rfl⟩
 ·
  exact C5 (cs := [A7, A7, A7, A7, A7]) kR rfl fun b => ⟨_, rfl, b, rfl, rfl⟩
 ·
  exact C5 (cs := [A7, A7, A7, A7, A7]) kR rfl fun b => ⟨_, rfl, b, rfl, rfl⟩
 ·
  exact C5 (cs := [A7, A7, A7, A7, A7]) kR rfl fun b => ⟨_, rfl, b, rfl, rfl⟩
 intro vs bs Jn0 hφ
 have g2 := ofH hφ
 dsimp only at g2
 replace hφ := ofT hφ
 have g5 := ofH hφ
 dsimp only at g5
 replace hφ := ofT hφ
 have g8 := ofH hφ
 dsimp only at g8
 replace hφ := ofT hφ
 have g11 := ofH hφ
 dsimp only at g11
 replace hφ := ofT hφ
 have g12 := ofH hφ
 dsimp only at g12
 replace hφ := ofT hφ
 have g13 := ofH hφ
 dsimp only at g13
 replace hφ := ofT hφ
 have g14 := ofH hφ
 dsimp only at g14
 replace hφ := ofT hφ
 have g15 := ofH hφ
 dsimp only at g15
 clear hφ
 dsimp only [U9, Q4, List.map, List.flatten, List.cons_append, List.nil_append]
 generalize bs 2 = B54 at *
 generalize bs 5 = B57 at *
 generalize bs 8 = B60 at *
 generalize bs 11 = B63 at *
 generalize bs 12 = B11 at *
 generalize bs 13 = B12 at *
 generalize bs 14 = B13 at *
 generalize bs 15 = B14 at *
 generalize vs 2 = u54 at *
 generalize vs 5 = u57 at *
 generalize vs 8 = u60 at *
 generalize vs 11 = u63 at *
 generalize vs 12 = u11 at *
 generalize vs 13 = u12 at *
 generalize vs 14 = u13 at *
 generalize vs 15 = u14 at *
 obtain ⟨rfl, k2⟩ := g2
 have h2 := k2
 obtain ⟨a2, b2, c2, d2, e2, rfl, -⟩ := k2
 obtain ⟨rfl, k5⟩ := g5
 have h5 := k5
 obtain ⟨a5, b5, c5, d5, e5, rfl, -⟩ := k5
 obtain ⟨rfl, k8⟩ := g8
 have h8 := k8
 obtain ⟨a8, b8, c8, d8, e8, rfl, -⟩ := k8
 obtain ⟨rfl, k11⟩ := g11
 have h11 := k11
 obtain ⟨a11, b11, c11, d11, e11, rfl, -⟩ := k11
 obtain ⟨b12, rfl, rfl⟩ := g12
 obtain ⟨b13, rfl, rfl⟩ := g13
 obtain ⟨b14, rfl, rfl⟩ := g14
 obtain ⟨b15, rfl, rfl⟩ := g15
 dsimp only [List.append_eq, List.nil_append, List.cons_append]
 refine G5 rfl rfl rfl (A8 rfl rfl Cel.cel kR ln5 al5 UpC.upd ?_)
 refine G5 rfl rfl rfl (A8 rfl rfl Cel.cel kR ln5 al5 UpC.upd ?_)
 refine G5 rfl rfl rfl (A8 rfl rfl Cel.cel kR ln5 al5 UpC.upd ?_)
 refine G5 rfl rfl rfl (A8 rfl rfl Cel.cel kR ln5 al5 UpC.upd ?_)
 refine E4 (F5 6 11 12 13 14) ?_
 refine D2 (.range 13) [(0, 1), (1, 1), (3, 1), (4, 1), (6, 1), (7, 1), (9, 1), (10, 1), (2, 2), (5, 2), (8, 2), (11, 2), (12, 0), (13, 2)] kR kR fun hs => ?_
 refine F7 hs rfl (qw_ 5) rfl ?_
 refine F7 hs rfl (qw_ 5) rfl ?_
 refine F7 hs rfl (qw_ 5) rfl ?_
 refine F7 hs rfl (qw_ 5) rfl ?_
 refine F7 hs rfl (qw_ 5) rfl ?_
 refine F7 hs rfl (qw_ 5) rfl ?_
 refine F7 hs rfl (qw_ 5) rfl ?_
 refine F7 hs rfl (qw_ 5) rfl ?_
 refine G1 rfl (aS rfl (aS rfl a0)) kR (T4 h2 h5 _) rfl ?_
 rintro r66 M66 J66 ⟨rfl, rfl, k66⟩
 have h66 := k66
 obtain ⟨a66, b66, c66, d66, e66, rfl, -⟩ := k66
 refine G1 rfl (aS rfl (aS rfl a0)) kR (T4 h8 h11 _) rfl ?_
 rintro r69 M69 J69 ⟨rfl, rfl, k69⟩
 have h69 := k69
 obtain ⟨a69, b69, c69, d69, e69, rfl, -⟩ := k69
 refine G1 rfl (aS rfl (aS rfl a0)) kR (T4 h5 h8 _) rfl ?_
 rintro r72 M72 J72 ⟨rfl, rfl, k72⟩
 have h72 := k72
 obtain ⟨a72, b72, c72, d72, e72, rfl, -⟩ := k72
 refine G1 rfl (aS rfl (aS rfl a0)) kR (T4 h2 h11 _) rfl ?_
 rintro r75 M75 J75 ⟨rfl, rfl, k75⟩
 have h75 := k75
 obtain ⟨a75, b75, c75, d75, e75, rfl, -⟩ := k75
 refine D1 hs rfl (F3 (place := fun x => #[(0, 5), (5, 5), (10, 5), (15, 5)][x]?) (z := [A7, A7, A7, A7, A7, A7, A7, A7, A7, A7, A7, A7, A7, A7, A7, A7, A7, A7, A7, A7]) (fun _ => by kernel_rfl) (eS rfl (eS rfl (eS rfl (eS rfl e0)))) (bdS 0 5 rfl qR (bdS 5 5 rfl qR (bdS 10 5 rfl qR (bdS 15 5 rfl qR bd0))))) rfl ?_
 refine G5 rfl rfl rfl (A8 rfl rfl Cel.cel kR A26 A27 UpC.upd ?_)
 refine E4 (D8 6) (C3 ?_)
 exact ⟨_, [], [], A1x rfl rfl kR At.mem qR, List.nil_sublist _, by simp, rfl, rfl, ⟨_, rfl, _, _, _, _, _, _, _, _, _, _, _, _, _, _, _, _, _, _, _, _, rfl, h66, h69, h72, h75⟩⟩

end Go.Proofs.YtoigcbkclcbmpaaGreatDoor
namespace Go.Px
structure Gv where
  i : Nat
  d : Nat
  m : Mem
  φ : Value → Mem → Mem → Prop
def B7y (G : List Gv) (vs : Nat → Value) : Env := G.map fun g => (g.d, vs g.i)
def toGM (G : List Gv) : List Gm := G.map fun g => ⟨g.i, g.d, fun _ _ => True⟩
def curM (X : List Nat) (bs : Nat → Mem) (G : List Gv) : Mem := (G.map fun g => if g.i ∈ X then bs g.i else g.m).flatten
def doneM (X : List Nat) (bs : Nat → Mem) (G : List Gv) : Mem := (G.map fun g => if g.i ∈ X then bs g.i else []).flatten
def allM (bs : Nat → Mem) (G : List Gv) : Mem := (G.map fun g => bs g.i).flatten
theorem St.widen {P : Program} {w w' : World} {F : List Nat} {A A' Mc M' J' : Mem} {n : Nat} (h : St ⟨P, w, F, A', n⟩ Mc [] w) (hs : St ⟨P, w, F, A, n⟩ M' J' w') : St ⟨P, w, F, A', n⟩ M' J' w' := by
  refine ⟨hs.os, hs.tape, hs.output, hs.size, hs.frame, fun b o hb => ?_, hs.nodup, hs.own, hs.sepJ, h.sepA, hs.old⟩
  simp only [List.mem_append] at hb
  rcases hb with hb | hb | hb
  · exact hs.mem b o (by simp [hb])
  · exact hs.mem b o (by simp [hb])
  · have h1 := h.sepA b o hb
    have h2 := hs.frame b h1.2 h1.1
    rw [h2]
    exact h.mem b o (by simp; exact .inr hb)
theorem St.less {P : Program} {w : World} {F : List Nat} {A A' Mc : Mem} {n : Nat} (h : St ⟨P, w, F, A', n⟩ Mc [] w) (hA : ∀ x ∈ A, x ∈ A') : St ⟨P, w, F, A, n⟩ Mc [] w :=
  ⟨h.os, h.tape, h.output, h.size, h.frame, fun b o hb => h.mem b o (by simp at hb ⊢; exact hb.imp id (hA _)), h.nodup, h.own, h.sepJ, fun b o hb => h.sepA b o (hA _ hb), h.old⟩
section group
variable {C : Cx} {Q : XQ} {l : Env} {M M0 J : Mem} {os : List Oper} {K : Nat → Prop} {n0 : Nat} {nd : List Nat} {plan : List (Nat × Nat)}
def OwesM (C : Cx) (os : List Oper) (l : Env) (M0 J : Mem) (G : List Gv) (g : Gv) : Prop :=
  ∃ o, nth os g.i = some o ∧ ∀ (vs : Nat → Value) (bs : Nat → Mem) (R Rj : Mem) (w : World), (∀ x ∈ M0 ++ (J ++ C.A), x ∈ R) → (∀ x ∈ J ++ C.A, x ∈ Rj) → (∀ x ∈ Rj, x ∈ R) → (∀ g' ∈ G, anc os.toArray os.toArray.size g.i g'.i = true → g'.φ (vs g'.i) (bs g'.i) Rj) →
    A9A os (B7y G vs ++ l) o ∧ OpL ⟨C.P, w, g.m.map Prod.fst, R, C.N⟩ o (B7y G vs ++ l) g.m [] (fun l' M' J' => ∃ v, l' = (g.d, v) :: (B7y G vs ++ l) ∧ g.φ v M' (J' ++ Rj))
end group
end Go.Px

namespace Go.Px
structure Gc where
  i : Nat
  d : Nat
  s : Option Nat
  m : Mem
  φ : Value → Mem → Mem → Prop
def Gc.inp (g : Gc) (bs : Nat → Mem) : Mem := match g.s with
  | none => g.m
  | some s => bs s
theorem Gc.inp_none {g : Gc} {bs : Nat → Mem} (h : g.s = none) : g.inp bs = g.m := by unfold Gc.inp; rw [h]
theorem Gc.inp_some {g : Gc} {bs : Nat → Mem} {s : Nat} (h : g.s = some s) : g.inp bs = bs s := by unfold Gc.inp; rw [h]
def U0 (G : List Gc) (vs : Nat → Value) : Env := G.map fun g => (g.d, vs g.i)
def B4j (G : List Gc) : List Gm := G.map fun g => ⟨g.i, g.d, fun _ _ => True⟩
theorem B1x (G : List Gc) : (B4j G).map (·.i) = G.map (·.i) := by simp [B4j]
theorem B1y (G : List Gc) : (B4j G).map (·.d) = G.map (·.d) := by simp [B4j]
theorem A1j (G : List Gc) (vs : Nat → Value) : A3y (B4j G) vs = U0 G vs := by simp [A3y, U0, B4j]
theorem A0i {G : List Gc} (h : (G.map (·.i)).Nodup) {g g' : Gc} (hg : g ∈ G) (hg' : g' ∈ G) (e : g.i = g'.i) : g = g' := by
  induction G with
  | nil => cases hg
  | cons x G ih =>
    simp only [List.map_cons, List.nodup_cons] at h
    rcases List.mem_cons.1 hg with h1 | h1 <;> rcases List.mem_cons.1 hg' with h2 | h2
    · rw [h1, h2]
    · exact absurd (by rw [← h1, e]; exact List.mem_map_of_mem (f := Gc.i) h2) h.1
    · exact absurd (by rw [← h2, ← e]; exact List.mem_map_of_mem (f := Gc.i) h1) h.1
    · exact ih h.2 h1 h2
def A2M (G : List Gc) (X : List Nat) (bs : Nat → Mem) (g : Gc) : Mem :=
  if g.i ∈ X then (if ∃ g' ∈ G, g'.s = some g.i ∧ g'.i ∈ X then [] else bs g.i) else (if g.s = none then g.m else [])
def A7O (X : List Nat) (bs : Nat → Mem) (G : List Gc) : Mem := (G.map (A2M G X bs)).flatten
def B1z (l : List (Nat × Option Nat)) (i : Nat) : Bool := l.any fun p => p.2 == some i
def A9S (G : List Gc) (bs : Nat → Mem) : List Mem := (G.filter fun g => !B1z (G.map fun g => (g.i, g.s)) g.i).map fun g => bs g.i
def A0H (l : List Mem) (M : Mem) : Mem := l.foldr (· ++ ·) M
def A2b (G : List Gc) : List Mem := (G.filter fun g => g.s.isNone).map (·.m)
def A7P (ops : Array Oper) (l : List (Nat × Option Nat)) : Bool :=
  l.all fun p => match p.2 with
    | none => true
    | some s => (l.map Prod.fst).contains s && anc ops ops.size p.1 s && l.all fun q => q.2 != some s || q.1 == p.1
structure ChainOk (ops : Array Oper) (G : List Gc) : Prop where
  anc : ∀ g ∈ G, ∀ s, g.s = some s → anc ops ops.size g.i s = true
  mem : ∀ g ∈ G, ∀ s, g.s = some s → s ∈ G.map (·.i)
  one : ∀ g ∈ G, ∀ g' ∈ G, ∀ s, g.s = some s → g'.s = some s → g'.i = g.i
theorem A8O {ops : Array Oper} {G : List Gc} (h : A7P ops (G.map fun g => (g.i, g.s)) = true) : ChainOk ops G := by
  have key : ∀ g ∈ G, ∀ s, g.s = some s → s ∈ G.map (·.i) ∧ Px.anc ops ops.size g.i s = true ∧ ∀ g' ∈ G, g'.s = some s → g'.i = g.i := by
    intro g hg s hs
    have h1 := List.all_eq_true.1 h (g.i, g.s) (List.mem_map_of_mem (f := fun g : Gc => (g.i, g.s)) hg)
    simp only [hs, Bool.and_eq_true, List.contains_iff_mem, List.map_map] at h1
    obtain ⟨⟨h2, h3⟩, h4⟩ := h1
    refine ⟨by simpa [Function.comp_def] using h2, h3, fun g' hg' hs' => ?_⟩
    have h5 := List.all_eq_true.1 h4 (g'.i, g'.s) (List.mem_map_of_mem (f := fun g : Gc => (g.i, g.s)) hg')
    simp [hs'] at h5
    exact h5
  exact ⟨fun g hg s hs => (key g hg s hs).2.1, fun g hg s hs => (key g hg s hs).1, fun g hg g' hg' s hs hs' => (key g hg s hs).2.2 g' hg' hs'⟩
theorem A7Q {G : List Gc} (hi : (G.map (·.i)).Nodup) {g : Gc} (hg : g ∈ G) (f : Gc → Mem) :
    ∃ R, ∀ f' : Gc → Mem, (∀ x ∈ G, x.i ≠ g.i → f' x = f x) → (G.map f').flatten.Perm (f' g ++ R) := by
  obtain ⟨s, t, rfl⟩ := List.append_of_mem hg
  have hne : ∀ x ∈ s ++ t, x.i ≠ g.i := by
    intro x hx e
    simp only [List.map_append, List.map_cons, List.nodup_append, List.nodup_cons] at hi
    rcases List.mem_append.1 hx with h | h
    · exact hi.2.2 _ (List.mem_map_of_mem (f := Gc.i) h) _ List.mem_cons_self e
    · exact hi.2.1.1 (e ▸ List.mem_map_of_mem (f := Gc.i) h)
  refine ⟨(s.map f).flatten ++ (t.map f).flatten, fun f' h => ?_⟩
  have es : s.map f' = s.map f := List.map_congr_left fun x hx => h x (by simp [hx]) (hne x (List.mem_append_left _ hx))
  have et : t.map f' = t.map f := List.map_congr_left fun x hx => h x (by simp [hx]) (hne x (List.mem_append_right _ hx))
  simp only [List.map_append, List.map_cons, List.flatten_append, List.flatten_cons, es, et]
  exact List.perm_append_comm_assoc _ _ _
theorem A3V {ops : Array Oper} {X : List Nat} {bs : Nat → Mem} {G : List Gc} {g : Gc} (hi : (G.map (·.i)).Nodup) (hc : ChainOk ops G) (hg : g ∈ G) (hX : g.i ∉ X) (hcl : ∀ g' ∈ G, g'.i ∈ X → ∀ s, g'.s = some s → s ∈ X) (hsx : ∀ s, g.s = some s → s ∈ X) :
    ∃ R, (A7O X bs G).Perm (g.inp bs ++ R) ∧ ∀ M', (M' ++ R).Perm (A7O (X ++ [g.i]) (fun k => if k = g.i then M' else bs k) G) := by
  have hmem : ∀ x : Gc, x.i ≠ g.i → (x.i ∈ X ++ [g.i] ↔ x.i ∈ X) := fun x h => by simp [h]
  have hself : ∀ M' : Mem, A2M G (X ++ [g.i]) (fun k => if k = g.i then M' else bs k) g = M' := by
    intro M'
    have hno : ¬ ∃ g' ∈ G, g'.s = some g.i ∧ g'.i ∈ X ++ [g.i] := by
      rintro ⟨g', hg', hs', hx'⟩
      rcases List.mem_append.1 hx' with h | h
      · exact hX (hcl g' hg' h _ hs')
      · have h2 : g' = g := A0i hi hg' hg (by simpa using h)
        subst h2
        exact hX (hsx _ hs')
    unfold A2M
    rw [if_pos (by simp), if_neg hno]
    exact if_pos rfl
  cases hs : g.s with
  | none =>
    obtain ⟨R, hR⟩ := A7Q hi hg (A2M G X bs)
    refine ⟨R, ?_, fun M' => ?_⟩
    · have h1 := hR (A2M G X bs) fun _ _ _ => rfl
      have h2 : A2M G X bs g = g.inp bs := by unfold A2M; rw [if_neg hX, if_pos hs, Gc.inp_none hs]
      rw [h2] at h1
      exact h1
    · have h1 := hR (A2M G (X ++ [g.i]) fun k => if k = g.i then M' else bs k) fun x hx hne => by
        unfold A2M
        by_cases hxX : x.i ∈ X
        · rw [if_pos ((hmem x hne).2 hxX), if_pos hxX]
          have hiff : (∃ g' ∈ G, g'.s = some x.i ∧ g'.i ∈ X ++ [g.i]) ↔ (∃ g' ∈ G, g'.s = some x.i ∧ g'.i ∈ X) := by
            constructor
            · rintro ⟨g', h1, h2, h3⟩
              rcases List.mem_append.1 h3 with h4 | h4
              · exact ⟨g', h1, h2, h4⟩
              · have h5 : g' = g := A0i hi h1 hg (by simpa using h4)
                subst h5; rw [hs] at h2; cases h2
            · rintro ⟨g', h1, h2, h3⟩; exact ⟨g', h1, h2, List.mem_append_left _ h3⟩
          simp only [hiff, if_neg hne]
        · rw [if_neg (fun h => hxX ((hmem x hne).1 h)), if_neg hxX]
      rw [hself M'] at h1
      exact h1.symm
  | some s =>
    have hsX := hsx s hs
    obtain ⟨gs, hgs, rfl⟩ := List.mem_map.1 (hc.mem g hg s hs)
    have hne0 : gs.i ≠ g.i := fun h => hX (h ▸ hsX)
    obtain ⟨R1, hR1⟩ := A7Q hi hgs (A2M G X bs)
    have h1 := hR1 (A2M G X bs) fun _ _ _ => rfl
    have e1 : A2M G X bs gs = bs gs.i := by
      unfold A2M
      rw [if_pos hsX, if_neg]
      rintro ⟨g', hg', hs', hx'⟩
      exact hX (hc.one g hg g' hg' _ hs hs' ▸ hx')
    rw [e1] at h1
    have h2 := hR1 (fun x => if x.i = gs.i then [] else A2M G X bs x) fun x _ hne => if_neg hne
    simp only [if_true, List.nil_append] at h2
    obtain ⟨R2, hR2⟩ := A7Q hi hg (fun x => if x.i = gs.i then [] else A2M G X bs x)
    have h3 := hR2 (fun x => if x.i = gs.i then [] else A2M G X bs x) fun _ _ _ => rfl
    have e3 : (if g.i = gs.i then [] else A2M G X bs g) = ([] : Mem) := by
      rw [if_neg (Ne.symm hne0)]
      unfold A2M
      rw [if_neg hX, if_neg (by rw [hs]; exact fun h => by cases h)]
    simp only [e3, List.nil_append] at h3
    refine ⟨R2, ?_, fun M' => ?_⟩
    · rw [Gc.inp_some hs]
      exact h1.trans (List.Perm.append_left _ (h2.symm.trans h3))
    · have h4 := hR2 (A2M G (X ++ [g.i]) fun k => if k = g.i then M' else bs k) fun x hx hne => by
        by_cases hxs : x.i = gs.i
        · rw [if_pos hxs]
          unfold A2M
          rw [if_pos ((hmem x hne).2 (hxs ▸ hsX)), if_pos ⟨g, hg, by rw [hs, hxs], by simp⟩]
        · rw [if_neg hxs]
          unfold A2M
          by_cases hxX : x.i ∈ X
          · rw [if_pos ((hmem x hne).2 hxX), if_pos hxX]
            have hiff : (∃ g' ∈ G, g'.s = some x.i ∧ g'.i ∈ X ++ [g.i]) ↔ (∃ g' ∈ G, g'.s = some x.i ∧ g'.i ∈ X) := by
              constructor
              · rintro ⟨g', h1, h2, h3⟩
                rcases List.mem_append.1 h3 with h4 | h4
                · exact ⟨g', h1, h2, h4⟩
                · have h5 : g' = g := A0i hi h1 hg (by simpa using h4)
                  subst h5; rw [hs] at h2; exact absurd (Option.some.inj h2).symm hxs
              · rintro ⟨g', h1, h2, h3⟩; exact ⟨g', h1, h2, List.mem_append_left _ h3⟩
            simp only [hiff, if_neg hne]
          · rw [if_neg (fun h => hxX ((hmem x hne).1 h)), if_neg hxX]
      rw [hself M'] at h4
      exact h4.symm
theorem A8P {bs : Nat → Mem} {G : List Gc} : A7O [] bs G = (A2b G).flatten := by
  have : ∀ G' : List Gc, (G'.map (A2M G [] bs)).flatten = (A2b G').flatten := by
    intro G'
    induction G' with
    | nil => rfl
    | cons g G' ih =>
      rw [List.map_cons, List.flatten_cons, ih]
      have e : A2M G [] bs g = if g.s = none then g.m else [] := by unfold A2M; rw [if_neg (by simp)]
      rw [e]
      cases hs : g.s with
      | none => simp [A2b, hs]
      | some s => simp [A2b, hs]
  exact this G
theorem A8Q {X : List Nat} {bs : Nat → Mem} {G : List Gc} (h : ∀ g ∈ G, g.i ∈ X) : A7O X bs G = (A9S G bs).flatten := by
  have he : ∀ g ∈ G, A2M G X bs g = if B1z (G.map fun g => (g.i, g.s)) g.i = true then [] else bs g.i := by
    intro g hg
    unfold A2M
    rw [if_pos (h g hg)]
    have : (∃ g' ∈ G, g'.s = some g.i ∧ g'.i ∈ X) ↔ B1z (G.map fun g => (g.i, g.s)) g.i = true := by
      unfold B1z
      simp only [List.any_eq_true, List.mem_map]
      constructor
      · rintro ⟨g', h1, h2, _⟩; exact ⟨_, ⟨g', h1, rfl⟩, by simp [h2]⟩
      · rintro ⟨_, ⟨g', h1, rfl⟩, h2⟩; exact ⟨g', h1, by simpa using h2, h g' h1⟩
    simp only [this]
  unfold A7O A9S
  rw [List.map_congr_left he]
  have : ∀ (G' : List Gc) (p : Gc → Bool), (G'.map fun g => if p g = true then ([] : Mem) else bs g.i).flatten = ((G'.filter fun g => !p g).map fun g => bs g.i).flatten := by
    intro G' p
    induction G' with
    | nil => rfl
    | cons g G' ih =>
      rw [List.map_cons, List.flatten_cons, ih]
      cases hp : p g <;> simp [hp]
  exact this G fun g => B1z (G.map fun g => (g.i, g.s)) g.i
theorem A3f (l : List Mem) (M : Mem) : A0H l M = l.flatten ++ M := by
  induction l with
  | nil => rfl
  | cons a l ih => show a ++ A0H l M = _; rw [ih, List.flatten_cons, List.append_assoc]
section group
variable {C : Cx} {Q : XQ} {l : Env} {M M0 J : Mem} {os : List Oper} {K : Nat → Prop} {n0 : Nat} {nd : List Nat} {plan : List (Nat × Nat)}
def B1A (C : Cx) (os : List Oper) (l : Env) (M0 J : Mem) (G : List Gc) (g : Gc) : Prop :=
  ∃ o, nth os g.i = some o ∧ ∀ (vs : Nat → Value) (bs : Nat → Mem) (R Rj : Mem) (w : World), (∀ x ∈ M0 ++ (J ++ C.A), x ∈ R) → (∀ x ∈ J ++ C.A, x ∈ Rj) → (∀ x ∈ Rj, x ∈ R) → (∀ g' ∈ G, anc os.toArray os.toArray.size g.i g'.i = true → g'.φ (vs g'.i) (bs g'.i) Rj) →
    A9A os (U0 G vs ++ l) o ∧ OpL ⟨C.P, w, (g.inp bs).map Prod.fst, R, C.N⟩ o (U0 G vs ++ l) (g.inp bs) [] (fun l' M' J' => ∃ v, l' = (g.d, v) :: (U0 G vs ++ l) ∧ g.φ v M' (J' ++ Rj))
theorem B1B {G : List Gc} (hmono : ∀ g ∈ G, A2L g.φ) (hd : (G.map (·.d)).Nodup) (hi : (G.map (·.i)).Nodup) (hc : ChainOk os.toArray G) (hKn : ∀ b, n0 ≤ b → K b) (hK : ∀ m ∈ A2b G, ∀ x ∈ m, K x.1) (hob : ∀ g ∈ G, B1A C os l M0 J G g) {A B : Array Bool} (hok : GOk os.toArray A (G.map (·.i)) B)
    (hfin : ∀ (vs : Nat → Value) (bs : Nat → Mem) Jn a w, (∀ g ∈ G, g.φ (vs g.i) (bs g.i) ((Jn ++ J) ++ C.A)) → (∀ g ∈ G, ∀ x ∈ bs g.i, K x.1) → Ag C.N (U0 G vs ++ l) a → St C ((A9S G bs).flatten ++ M0) (Jn ++ J) w → n0 ≤ w.heap.size → A0c C.P os.toArray (R7 (A7g C Q)) (Sk K) nd.contains plan.length B a w) :
    ∀ (n : Nat) (X : List Nat) (vs : Nat → Value) (bs : Nat → Mem) (Jn : Mem) (a : Act) (w : World), X.Nodup → (∀ i ∈ X, i ∈ G.map (·.i)) → n + X.length = G.length → Q7 os.toArray (mark A X) → (∀ g ∈ G, g.i ∈ X → ∀ s, g.s = some s → s ∈ X) →
      (∀ g ∈ G, g.i ∈ X → g.φ (vs g.i) (bs g.i) ((Jn ++ J) ++ C.A)) → (∀ g ∈ G, g.i ∈ X → ∀ x ∈ bs g.i, K x.1) → Ag C.N (U0 G vs ++ l) a → St C (A7O X bs G ++ M0) (Jn ++ J) w → n0 ≤ w.heap.size →
      A0c C.P os.toArray (R7 (A7g C Q)) (Sk K) nd.contains (n + plan.length) (mark A X) a w := by
  intro n
  induction n with
  | zero =>
    intro X vs bs Jn a w hnd hX hlen hcl hXs hφ hN ha hw hn
    have hall : ∀ i, i ∈ X ↔ i ∈ G.map (·.i) := fun i => ⟨hX i, A12 hnd hX (by simp; omega) i⟩
    have hin : ∀ g ∈ G, g.i ∈ X := fun g hg => (hall _).2 (List.mem_map_of_mem (f := Gc.i) hg)
    have hcur := A8Q (bs := bs) hin
    rw [hcur] at hw
    rw [Nat.zero_add, A5b hall, ← hok.mark]
    exact hfin vs bs Jn a w (fun g hg => hφ g hg (hin g hg)) (fun g hg => hN g hg (hin g hg)) ha hw hn
  | succ n ih =>
    intro X vs bs Jn a w hnd hX hlen hcl hXs hφ hN ha hw hn
    have hmiss : ∃ k ∈ G.map (·.i), k ∉ X := by
      apply Classical.byContradiction
      intro hno
      have hs : ∀ k ∈ G.map (·.i), k ∈ X := fun k hk => Classical.byContradiction fun h => hno ⟨k, hk, h⟩
      have := A11 hi hs
      simp at this; omega
    obtain ⟨k, hkG, hkX⟩ := hmiss
    have hun : ∀ i ∈ G.map (·.i), A.getD i true = false := by
      have : ∀ {is A B}, GOk os.toArray A is B → ∀ i ∈ is, A.getD i true = false := by
        intro is A B h
        induction h with
        | nil => intro i hi; cases hi
        | @cons A B i r hr ho h ih =>
          intro k hk
          rcases List.mem_cons.1 hk with rfl | hk
          · exact L1 hr
          · have h2 := ih k hk
            by_cases e : i = k
            · subst e; exact L1 hr
            · rwa [getD_set_ne true e] at h2
      exact this hok
    have hkun : (mark A X).getD k true = false := H7.2 ⟨hun k hkG, fun h => hkX h.1⟩
    rw [show n + 1 + plan.length = (n + plan.length) + 1 by omega]
    refine ⟨fun h0 => ?_, fun i hir => ?_⟩
    · obtain ⟨i, hir⟩ := hok.first (A02 A X) (fun j hj => A03 hj) hkG hkun
      rw [h0] at hir; cases hir
    · have hiG : i ∈ G.map (·.i) := by
        apply Classical.byContradiction
        intro hno
        have h1 := H7.1 (L1 hir)
        have h2 := hok.outer k hkG i (A25 hir) h1.1 hno
        exact T5 hkun (Q8 hcl h2 hir)
      obtain ⟨g, hg, rfl⟩ := List.mem_map.1 hiG
      have hiX : g.i ∉ X := fun h => (H7.1 (L1 hir)).2 ⟨h, V8 (hun _ hiG)⟩
      have hin : ∀ j ∈ G.map (·.i), anc os.toArray os.toArray.size g.i j = true → j ∈ X := fun j hj hanc => by
        have h3 := Q8 hcl hanc hir
        rcases Y8 h3 with h4 | h4
        · exact (T5 (hun _ hj) h4).elim
        · exact h4
      have hsx : ∀ s, g.s = some s → s ∈ X := fun s hs => hin s (hc.mem g hg s hs) (hc.anc g hg s hs)
      have hKi : ∀ x ∈ g.inp bs, K x.1 := by
        intro x hx
        cases hs : g.s with
        | none =>
          rw [Gc.inp_none hs] at hx
          exact hK g.m (List.mem_map.2 ⟨g, List.mem_filter.2 ⟨hg, by simp [hs]⟩, rfl⟩) x hx
        | some s =>
          rw [Gc.inp_some hs] at hx
          obtain ⟨gs, hgs, rfl⟩ := List.mem_map.1 (hc.mem g hg s hs)
          exact hN gs hgs (hsx _ hs) x hx
      obtain ⟨o, hget, howe⟩ := hob g hg
      have hi' : os.toArray[g.i]? = some o := by rw [V2] at hget; simpa using hget
      obtain ⟨hask, hop⟩ := howe vs bs (M0 ++ ((Jn ++ J) ++ C.A)) ((Jn ++ J) ++ C.A) w (fun x hx => by simp only [List.mem_append] at hx ⊢; rcases hx with h | h | h <;> simp [h]) (fun x hx => by simp only [List.mem_append] at hx ⊢; rcases hx with h | h <;> simp [h]) (fun x hx => List.mem_append_right _ hx) (fun g' hg' hanc => hφ g' hg' (hin _ (List.mem_map_of_mem (f := Gc.i) hg') hanc))
      unfold wpOp
      simp only [hi']
      rw [if_pos (hask.wanted ha)]
      obtain ⟨R0, hp0, hq0⟩ := A3V (bs := bs) hi hc hg hiX hXs hsx
      have hpc : (A7O X bs G ++ M0).Perm (g.inp bs ++ (R0 ++ M0)) := by
        rw [← List.append_assoc]; exact List.Perm.append_right _ hp0
      have hcal := hw.callee hpc
      have hcal2 := St.less (A := M0 ++ ((Jn ++ J) ++ C.A)) hcal fun x hx => by
        simp only [List.mem_append] at hx ⊢
        rcases hx with h | h
        · exact .inl (.inr h)
        · exact .inr h
      refine .inl (Oper.wp_mono ?_ (hop _ a w ha hcal2.cx))
      rintro a' w' ⟨l', M', J', ha', hs', v, rfl, hφv⟩
      have hsz : w.heap.size ≤ w'.heap.size := hs'.size
      have hs2 := St.widen hcal.cx hs'
      have hb := hw.back hpc hs2.cx
      let bs' : Nat → Mem := fun k => if k = g.i then M' else bs k
      have hperm : (M' ++ (R0 ++ M0)).Perm (A7O (X ++ [g.i]) bs' G ++ M0) := by
        rw [← List.append_assoc]
        exact List.Perm.append_right _ (hq0 M')
      have hfr2 : St C (A7O (X ++ [g.i]) bs' G ++ M0) ((J' ++ Jn) ++ J) w' := (hb.perm hperm).drop (List.Sublist.refl _) fun x hx => by
        simp only [List.mem_append] at hx ⊢
        rcases hx with (h | h) | h <;> simp [h]
      refine ⟨fun _ b hb' hnk => hs'.frame b hb' fun hm => ?_, ?_⟩
      · obtain ⟨x, hx, e⟩ := List.mem_map.1 hm
        exact hnk (e ▸ hKi x hx)
      rw [← S6]
      have henv := A13 (N := C.N) (G := B4j G) (l := l) (vs := vs) (g := ⟨g.i, g.d, fun _ _ => True⟩) (a := a') (v := v) (List.mem_map_of_mem (f := fun g : Gc => (⟨g.i, g.d, fun _ _ => True⟩ : Gm)) hg) (by rw [B1y]; exact hd) (by rw [B1x]; exact hi) (by rw [A1j]; exact ha')
      rw [A1j] at henv
      refine ih (X ++ [g.i]) (fun k => if k = g.i then v else vs k) bs' (J' ++ Jn) a' w' ?_ ?_ (by simp; omega) ?_ ?_ ?_ ?_ henv hfr2 (Nat.le_trans hn hsz)
      · rw [List.nodup_append]; exact ⟨hnd, by simp, fun x hx y hy e => hiX (by simp at hy; subst hy; exact e ▸ hx)⟩
      · intro j hj
        rcases List.mem_append.1 hj with hj | hj
        · exact hX j hj
        · simp at hj; subst hj; exact hiG
      · rw [S6]; exact H8 hcl hir
      · intro g' hg' hm s hs
        rcases List.mem_append.1 hm with h | h
        · exact List.mem_append_left _ (hXs g' hg' h s hs)
        · have h2 : g' = g := A0i hi hg' hg (by simpa using h)
          subst h2
          exact List.mem_append_left _ (hsx s hs)
      · intro g' hg' hm
        by_cases e : g'.i = g.i
        · have : g' = g := A0i hi hg' hg e
          subst this
          simp only [if_true, bs']
          exact hmono g' hg' _ _ _ _ (fun x hx => by simp only [List.mem_append] at hx ⊢; rcases hx with h | (h | h) | h <;> simp [h]) hφv
        · simp only [e, if_false, bs']
          have hm' : g'.i ∈ X := by simpa [e] using hm
          exact hmono g' hg' _ _ _ _ (fun x hx => by simp only [List.mem_append] at hx ⊢; rcases hx with (h | h) | h <;> simp [h]) (hφ g' hg' hm')
      · intro g' hg' hk x hx
        by_cases e : g'.i = g.i
        · have : g' = g := A0i hi hg' hg e
          subst this
          simp only [if_true, bs'] at hx
          rcases hs'.own x.1 x.2 (by simp [hx]) with h6 | h6
          · obtain ⟨y, hy, e6⟩ := List.mem_map.1 h6
            exact e6 ▸ hKi y hy
          · exact hKn _ (Nat.le_trans hn h6)
        · simp only [e, if_false, bs'] at hx
          have hk' : g'.i ∈ X := by simpa [e] using hk
          exact hN g' hg' hk' x hx
theorem A07 (G : List Gc) (M0 : Mem) (Lf : (Nat → Mem) → List Mem) (hKn : ∀ b, n0 ≤ b → K b) (hM : M.Perm (A0H (A2b G) M0)) (hK : ∀ m ∈ A2b G, ∀ x ∈ m, K x.1) (hck : A7P os.toArray (G.map fun g => (g.i, g.s)) = true) (hLf : ∀ bs, A9S G bs = Lf bs)
    (hmono : ∀ g ∈ G, A2L g.φ) (hd : (G.map (·.d)).Nodup) (hi : (G.map (·.i)).Nodup) (hdN : ∀ g ∈ G, g.d < C.N) (hob : ∀ g ∈ G, B1A C os l M0 J G g)
    (h : ∀ (vs : Nat → Value) (bs : Nat → Mem) Jn, (∀ g ∈ G, g.φ (vs g.i) (bs g.i) ((Jn ++ J) ++ C.A)) → (∀ g ∈ G, ∀ x ∈ bs g.i, K x.1) → XK C os Q K n0 nd plan (U0 G vs ++ l) (A0H (Lf bs) M0) (Jn ++ J)) : XK C os Q K n0 nd (enc (G.map (·.i)) ++ plan) l M J := by
  refine A1z hM ?_
  rw [A3f]
  intro listed hcl hp a w ha hw hn
  obtain ⟨B, hok, hp2⟩ := A8r hp
  have hBcl : Q7 os.toArray B := by
    have : ∀ {A is B}, GOk os.toArray A is B → Q7 os.toArray A → Q7 os.toArray B := by
      intro A is B h
      induction h with
      | nil => exact id
      | cons hr _ _ ih => exact fun hc => ih (H8 hc hr)
    exact this hok hcl
  have hlen : (enc (G.map (·.i)) ++ plan).length = G.length + plan.length := by
    have : ∀ is : List Nat, (enc is).length = is.length := by
      intro is
      induction is with
      | nil => rfl
      | cons i r ih => cases r with
        | nil => rfl
        | cons j r => simp only [enc, List.length_cons] at ih ⊢; rw [ih]
    simp [this]
  rw [hlen]
  let vs : Nat → Value := fun k => match G.find? (fun g => g.i == k) with
    | some g => (a.tmps[g.d]?).getD undef
    | none => undef
  have hag : Ag C.N (U0 G vs ++ l) a := by
    refine ⟨ha.defers, ha.size, ?_⟩
    intro k u hk
    have key : ∀ G' : List Gc, (∀ g ∈ G', g ∈ G) → lk (U0 G' vs ++ l) k = some u → a.tmps[k]? = some u := by
      intro G'
      induction G' with
      | nil => intro _ h; exact ha.slot k u h
      | cons g G' ih =>
        intro hs h
        simp only [U0, List.map_cons, List.cons_append, lk] at h
        by_cases e : g.d = k
        · subst e
          simp at h
          have hf : G.find? (fun x => x.i == g.i) = some g := by
            have hgG := hs g List.mem_cons_self
            cases hq : G.find? (fun x => x.i == g.i) with
            | none => have := List.find?_eq_none.1 hq g hgG; simp at this
            | some x =>
              have h1 := List.find?_some hq
              have h2 := List.mem_of_find?_eq_some hq
              rw [A0i hi h2 hgG (by simpa using h1)]
          have hlt : g.d < a.tmps.size := by rw [ha.size]; exact hdN g (hs g List.mem_cons_self)
          rw [← h]
          show a.tmps[g.d]? = some (vs g.i)
          simp only [vs, hf, Array.getElem?_eq_getElem hlt, Option.getD_some]
        · simp only [X7 e, cond_false] at h
          exact ih (fun x hx => hs x (List.mem_cons_of_mem _ hx)) h
    exact key G (fun _ h => h) hk
  refine B1B (n0 := n0) (K := K) hmono hd hi (A8O hck) hKn hK hob hok (fun vs bs Jn a w hφ hN ha hw hn => h vs bs Jn hφ hN B hBcl hp2 a w ha (by rw [A3f, ← hLf]; exact hw) hn) G.length [] vs (fun _ => []) [] a w .nil (fun _ h => by cases h) (by simp) hcl (fun _ _ h => by cases h) (fun _ _ h => by cases h) (fun _ _ h => by cases h) hag (by rw [A8P]; exact hw) hn
end group
end Go.Px

namespace Go.Px
def A3W : List Nat → List (Nat × Nat)
  | [] => []
  | [q] => [(q, 10)]
  | q :: q' :: r => (q, 9) :: A3W (q' :: r)
def B0d (qs : List Nat) : List Nat → List (Nat × Nat)
  | [] => A3W qs
  | i :: r => (i, 8) :: B0d qs r
theorem B7z (plan : List (Nat × Nat)) : ∀ {qs : List Nat}, qs ≠ [] → grz (A3W qs ++ plan) = qs ∧ qsz (A3W qs ++ plan) = qs
  | [], h => absurd rfl h
  | [q], _ => ⟨rfl, rfl⟩
  | q :: q' :: r, _ => by
    obtain ⟨h1, h2⟩ := B7z plan (qs := q' :: r) (by simp)
    refine ⟨?_, ?_⟩
    · show q :: grz (A3W (q' :: r) ++ plan) = _; rw [h1]
    · show q :: qsz (A3W (q' :: r) ++ plan) = _; rw [h2]
theorem A7R {qs : List Nat} (plan : List (Nat × Nat)) (h : qs ≠ []) : ∀ r : List Nat, grz (B0d qs r ++ plan) = r ++ qs ∧ qsz (B0d qs r ++ plan) = qs
  | [] => B7z plan h
  | i :: r => by
    obtain ⟨h1, h2⟩ := A7R plan h r
    refine ⟨?_, ?_⟩
    · show i :: grz (B0d qs r ++ plan) = _; rw [h1]; rfl
    · show qsz (B0d qs r ++ plan) = _; rw [h2]
inductive GOz (ops : Array Oper) (qs : List Nat) : Array Bool → List Nat → Array Bool → Prop
  | nil {A : Array Bool} : GOz ops qs A [] A
  | cons {A B : Array Bool} {i : Nat} {r : List Nat} (hr : i ∈ Region.ready .any ops A) (ho : i ∉ qs → ∀ j, j < ops.size → A.getD j true = false → j ∉ i :: r → anc ops ops.size j i = true) (h : GOz ops qs (A.setIfInBounds i true) r B) : GOz ops qs A (i :: r) B
theorem A8R {ops : Array Oper} {nd : List Nat} {Q : List Nat} {plan : List (Nat × Nat)} : ∀ {qs : List Nat} {A : Array Bool}, qs ≠ [] → (∀ q ∈ qs, q ∈ Q) → L0 ops nd (A3W qs ++ plan) A = true → ∃ B, GOz ops Q A qs B ∧ (∀ q ∈ qs, A4b ops A q = true) ∧ L0 ops nd plan B = true
  | [], A, h, _, _ => absurd rfl h
  | [q], A, _, hQ, h => by
    simp only [A3W, List.cons_append, List.nil_append, L0, Bool.and_eq_true] at h
    exact ⟨_, .cons (by simpa using h.1.1) (fun hq => absurd (hQ q (by simp)) hq) .nil, (fun x hx => by rw [List.mem_singleton.1 hx]; exact h.1.2), h.2⟩
  | q :: q' :: r, A, _, hQ, h => by
    simp only [A3W, List.cons_append, L0, Bool.and_eq_true] at h
    obtain ⟨B, hB, -, hp⟩ := A8R (qs := q' :: r) (by simp) (fun x hx => hQ x (List.mem_cons_of_mem _ hx)) h.2
    refine ⟨B, .cons (by simpa using h.1.1) (fun hq => absurd (hQ q (by simp)) hq) hB, fun x hx => ?_, hp⟩
    have h2 := h.1.2
    rw [(B7z plan (qs := q' :: r) (by simp)).2] at h2
    exact List.all_eq_true.1 h2 x hx
theorem B1C {ops : Array Oper} {nd : List Nat} {qs : List Nat} {plan : List (Nat × Nat)} (hne : qs ≠ []) : ∀ {is : List Nat} {A : Array Bool}, L0 ops nd (B0d qs is ++ plan) A = true → ∃ B, GOz ops qs A (is ++ qs) B ∧ (∀ q ∈ qs, A4b ops A q = true) ∧ L0 ops nd plan B = true
  | [], A, h => A8R hne (fun _ h => h) h
  | i :: r, A, h => by
    simp only [B0d, List.cons_append, L0, A7n, Bool.and_eq_true, List.all_eq_true, List.mem_range, Bool.or_eq_true, (A7R plan hne r).1, (A7R plan hne r).2] at h
    obtain ⟨B, hB, -, hp⟩ := B1C hne (is := r) h.2
    refine ⟨B, .cons (by simpa using h.1.1.1) (fun _ j hj hu hn => ?_) hB, h.1.2, hp⟩
    rcases h.1.1.2 j hj with (h1 | h1) | h1
    · rw [hu] at h1; cases h1
    · exact absurd (by simpa using h1) hn
    · exact h1
theorem GOz.mark {ops : Array Oper} {q : List Nat} {A B : Array Bool} {is : List Nat} (h : GOz ops q A is B) : B = mark A is := by
  induction h with
  | nil => rfl
  | cons _ _ _ ih => rw [ih]; rfl
theorem GOz.un {ops : Array Oper} {q : List Nat} {A B : Array Bool} {is : List Nat} (h : GOz ops q A is B) : ∀ i ∈ is, A.getD i true = false := by
  induction h with
  | nil => intro i hi; cases hi
  | @cons A B i r hr ho h ih =>
    intro k hk
    rcases List.mem_cons.1 hk with rfl | hk
    · exact L1 hr
    · have h2 := ih k hk
      by_cases e : i = k
      · subst e; exact L1 hr
      · rwa [getD_set_ne true e] at h2
theorem GOz.outer {ops : Array Oper} {q : List Nat} {A B : Array Bool} {is : List Nat} (h : GOz ops q A is B) : ∀ i ∈ is, i ∉ q → ∀ j, j < ops.size → A.getD j true = false → j ∉ is → anc ops ops.size j i = true := by
  induction h with
  | nil => intro i hi; cases hi
  | @cons A B i r hr ho h ih =>
    intro k hk hq j hj hu hn
    rcases List.mem_cons.1 hk with rfl | hk
    · exact ho hq j hj hu hn
    · have hne : i ≠ j := fun e => hn (e ▸ List.mem_cons_self)
      exact ih k hk hq j hj (by rw [getD_set_ne true hne]; exact hu) (fun hm => hn (List.mem_cons_of_mem _ hm))
theorem GOz.first {ops : Array Oper} {q : List Nat} {A B : Array Bool} {is : List Nat} (h : GOz ops q A is B) {A' : Array Bool} (hsz : A'.size = A.size) (hm : ∀ j, A.getD j false = true → A'.getD j false = true) {k : Nat} (hk : k ∈ is) (hk' : A'.getD k true = false) : ∃ i, i ∈ is ∧ i ∈ Region.ready .any ops A' := by
  induction h generalizing k with
  | nil => cases hk
  | @cons A B i r hr ho h ih =>
    by_cases hi : A'.getD i true = false
    · exact ⟨i, List.mem_cons_self, A4u hr hi hm⟩
    · rcases List.mem_cons.1 hk with rfl | hk
      · exact absurd hk' hi
      · obtain ⟨x, hx1, hx2⟩ := ih (by simpa using hsz) (fun j hj => by
          by_cases e : i = j
          · subst e
            have hlt := V8 (L1 hr)
            have hlt' : i < A'.size := by omega
            simp [hlt'] at hi ⊢; exact hi
          · rw [getD_set_ne false e] at hj
            exact hm j hj) hk hk'
        exact ⟨x, List.mem_cons_of_mem _ hx1, hx2⟩
section group
variable {C : Cx} {Q : XQ} {l : Env} {M M0 J : Mem} {os : List Oper} {K : Nat → Prop} {n0 : Nat} {nd : List Nat} {plan : List (Nat × Nat)}
def B7A (C : Cx) (os : List Oper) (l : Env) (J : Mem) (G : List Gc) (g : Gc) : Prop :=
  g.s = none ∧ g.m = [] ∧ ∃ op ty pos af, nth os g.i = some ⟨some g.d, op, ty, pos, af, none⟩ ∧ ∀ (vs : Nat → Value) (bs : Nat → Mem) (Rj : Mem), (∀ x ∈ J ++ C.A, x ∈ Rj) → (∀ g' ∈ G, anc os.toArray os.toArray.size g.i g'.i = true → g'.φ (vs g'.i) (bs g'.i) Rj) →
    ∃ v, OpQ C.P [] ⟨some g.d, op, ty, pos, af, none⟩ (U0 G vs ++ l) v ∧ g.φ v [] Rj
theorem B1D {G : List Gc} (hmono : ∀ g ∈ G, A2L g.φ) (hd : (G.map (·.d)).Nodup) (hi : (G.map (·.i)).Nodup) (hc : ChainOk os.toArray G) (hKn : ∀ b, n0 ≤ b → K b) (hK : ∀ m ∈ A2b G, ∀ x ∈ m, K x.1) (hs : Region.noSelect os.toArray = true) (hdN : ∀ g ∈ G, g.d < C.N) {qs : List Nat} (hob : ∀ g ∈ G, g.i ∉ qs → B1A C os l M0 J G g) (hoq : ∀ g ∈ G, g.i ∈ qs → B7A C os l J G g) {A B : Array Bool} (hok : GOz os.toArray qs A (G.map (·.i)) B) (hfr : ∀ q ∈ qs, A4b os.toArray A q = true)
    (hfin : ∀ (vs : Nat → Value) (bs : Nat → Mem) Jn a w, (∀ g ∈ G, g.φ (vs g.i) (bs g.i) ((Jn ++ J) ++ C.A)) → (∀ g ∈ G, ∀ x ∈ bs g.i, K x.1) → Ag C.N (U0 G vs ++ l) a → St C ((A9S G bs).flatten ++ M0) (Jn ++ J) w → n0 ≤ w.heap.size → A0c C.P os.toArray (R7 (A7g C Q)) (Sk K) nd.contains plan.length B a w) :
    ∀ (n : Nat) (X : List Nat) (vs : Nat → Value) (bs : Nat → Mem) (Jn : Mem) (a : Act) (w : World), X.Nodup → (∀ i ∈ X, i ∈ G.map (·.i)) → n + X.length = G.length → Q7 os.toArray (mark A X) → (∀ g ∈ G, g.i ∈ X → ∀ s, g.s = some s → s ∈ X) →
      (∀ g ∈ G, g.i ∈ X → g.φ (vs g.i) (bs g.i) ((Jn ++ J) ++ C.A)) → (∀ g ∈ G, g.i ∈ X → ∀ x ∈ bs g.i, K x.1) → Ag C.N (U0 G vs ++ l) a → St C (A7O X bs G ++ M0) (Jn ++ J) w → n0 ≤ w.heap.size →
      A0c C.P os.toArray (R7 (A7g C Q)) (Sk K) nd.contains (n + plan.length) (mark A X) a w := by
  intro n
  induction n with
  | zero =>
    intro X vs bs Jn a w hnd hX hlen hcl hXs hφ hN ha hw hn
    have hall : ∀ i, i ∈ X ↔ i ∈ G.map (·.i) := fun i => ⟨hX i, A12 hnd hX (by simp; omega) i⟩
    have hin : ∀ g ∈ G, g.i ∈ X := fun g hg => (hall _).2 (List.mem_map_of_mem (f := Gc.i) hg)
    have hcur := A8Q (bs := bs) hin
    rw [hcur] at hw
    rw [Nat.zero_add, A5b hall, ← hok.mark]
    exact hfin vs bs Jn a w (fun g hg => hφ g hg (hin g hg)) (fun g hg => hN g hg (hin g hg)) ha hw hn
  | succ n ih =>
    intro X vs bs Jn a w hnd hX hlen hcl hXs hφ hN ha hw hn
    have hun : ∀ i ∈ G.map (·.i), A.getD i true = false := hok.un
    by_cases hqe : ∃ g ∈ G, g.i ∈ qs ∧ g.i ∈ Region.ready .any os.toArray (mark A X)
    · obtain ⟨g, hg, hgq, hqr⟩ := hqe
      obtain ⟨hsn, hmn, op, ty, pos, af, hget, howe⟩ := hoq g hg hgq
      have hi' : os.toArray[g.i]? = some ⟨some g.d, op, ty, pos, af, none⟩ := by rw [V2] at hget; simpa using hget
      have hiG : g.i ∈ G.map (·.i) := List.mem_map_of_mem (f := Gc.i) hg
      have hiX : g.i ∉ X := fun h => (H7.1 (L1 hqr)).2 ⟨h, V8 (hun _ hiG)⟩
      obtain ⟨v, hq, hφv⟩ := howe vs bs ((Jn ++ J) ++ C.A) (fun x hx => by simp only [List.mem_append] at hx ⊢; rcases hx with h | h <;> simp [h]) (fun g' hg' hanc => hφ g' hg' (by
        have h3 := Q8 hcl hanc hqr
        rcases Y8 h3 with h4 | h4
        · exact (T5 (hun _ (List.mem_map_of_mem (f := Gc.i) hg')) h4).elim
        · exact h4))
      rw [show n + 1 + plan.length = (n + plan.length) + 1 by omega]
      refine V7 (S := Sk K) (T := fun _ => True) (N := 0) (v := v) hi' (Region.noSelect_spec hs) (fun _ _ _ h => h) (fun _ _ _ _ => rfl) _ (mark A X) a w hcl (fun j oj hj hne hun' hno => A9r hi' (hfr _ hgq) j oj hj hne (H7.1 hun').1 (by
        cases ha0 : anc os.toArray os.toArray.size g.i j with
        | false => rfl
        | true => exact (T5 hun' (Q8 hcl ha0 hqr)).elim) hno) (fun _ _ _ _ => .inr fun _ _ _ _ => trivial) hqr (.inl ⟨rfl, fun w hw => hq C.N a w ha (fun _ _ hb => by cases hb)⟩) trivial ?_
      rw [← S6]
      have hsx : ∀ s, g.s = some s → s ∈ X := fun s hs' => by rw [hsn] at hs'; cases hs'
      obtain ⟨R0, hp0, hq0⟩ := A3V (bs := bs) hi hc hg hiX hXs hsx
      rw [Gc.inp_none hsn, hmn] at hp0
      let bs' : Nat → Mem := fun k => if k = g.i then [] else bs k
      have hperm : (A7O X bs G ++ M0).Perm (A7O (X ++ [g.i]) bs' G ++ M0) := List.Perm.append_right _ (hp0.trans (hq0 []))
      have ha' : Ag C.N ((g.d, v) :: (U0 G vs ++ l)) (a.put (some g.d) v) := ha.put (hdN g hg) v
      have henv := A13 (N := C.N) (G := B4j G) (l := l) (vs := vs) (g := ⟨g.i, g.d, fun _ _ => True⟩) (a := a.put (some g.d) v) (v := v) (List.mem_map_of_mem (f := fun g : Gc => (⟨g.i, g.d, fun _ _ => True⟩ : Gm)) hg) (by rw [B1y]; exact hd) (by rw [B1x]; exact hi) (by rw [A1j]; exact ha')
      rw [A1j] at henv
      refine ih (X ++ [g.i]) (fun k => if k = g.i then v else vs k) bs' Jn (a.put (some g.d) v) w ?_ ?_ (by simp; omega) ?_ ?_ ?_ ?_ henv (hw.perm hperm) hn
      · rw [List.nodup_append]; exact ⟨hnd, by simp, fun x hx y hy e => hiX (by simp at hy; subst hy; exact e ▸ hx)⟩
      · intro j hj
        rcases List.mem_append.1 hj with hj | hj
        · exact hX j hj
        · simp at hj; subst hj; exact hiG
      · rw [S6]; exact H8 hcl hqr
      · intro g' hg' hm s hs'
        rcases List.mem_append.1 hm with h | h
        · exact List.mem_append_left _ (hXs g' hg' h s hs')
        · have h2 : g' = g := A0i hi hg' hg (by simpa using h)
          subst h2
          exact List.mem_append_left _ (hsx s hs')
      · intro g' hg' hm
        by_cases e : g'.i = g.i
        · have : g' = g := A0i hi hg' hg e
          subst this
          simp only [if_true, bs']
          exact hφv
        · simp only [e, if_false, bs']
          exact hφ g' hg' (by simpa [e] using hm)
      · intro g' hg' hk x hx
        by_cases e : g'.i = g.i
        · simp only [e, if_true, bs'] at hx
          cases hx
        · simp only [e, if_false, bs'] at hx
          exact hN g' hg' (by simpa [e] using hk) x hx
    have hmiss : ∃ k ∈ G.map (·.i), k ∉ X ∧ k ∉ qs := by
      apply Classical.byContradiction
      intro hno
      have hs' : ∀ k ∈ G.map (·.i), k ∉ qs → k ∈ X := fun k hk hne => Classical.byContradiction fun h => hno ⟨k, hk, h, hne⟩
      by_cases hall : ∀ k ∈ G.map (·.i), k ∈ X
      · have := A11 hi hall
        simp at this; omega
      · obtain ⟨k, hk⟩ := Classical.not_forall.1 hall
        obtain ⟨hkG, hkX⟩ := Classical.not_imp.1 hk
        obtain ⟨i, hiG, hir⟩ := hok.first (A02 A X) (fun j hj => A03 hj) hkG (H7.2 ⟨hun _ hkG, fun h => hkX h.1⟩)
        have hiX : i ∉ X := fun h => (H7.1 (L1 hir)).2 ⟨h, V8 (hun _ hiG)⟩
        by_cases e : i ∈ qs
        · obtain ⟨g, hg, rfl⟩ := List.mem_map.1 hiG
          exact hqe ⟨g, hg, e, hir⟩
        · exact hiX (hs' i hiG e)
    obtain ⟨k, hkG, hkX, hkq⟩ := hmiss
    have hkun : (mark A X).getD k true = false := H7.2 ⟨hun k hkG, fun h => hkX h.1⟩
    rw [show n + 1 + plan.length = (n + plan.length) + 1 by omega]
    refine ⟨fun h0 => ?_, fun i hir => ?_⟩
    · obtain ⟨i, -, hir⟩ := hok.first (A02 A X) (fun j hj => A03 hj) hkG hkun
      rw [h0] at hir; cases hir
    · have hiG : i ∈ G.map (·.i) := by
        apply Classical.byContradiction
        intro hno
        have h1 := H7.1 (L1 hir)
        have h2 := hok.outer k hkG hkq i (A25 hir) h1.1 hno
        exact T5 hkun (Q8 hcl h2 hir)
      obtain ⟨g, hg, rfl⟩ := List.mem_map.1 hiG
      have hiX : g.i ∉ X := fun h => (H7.1 (L1 hir)).2 ⟨h, V8 (hun _ hiG)⟩
      have hin : ∀ j ∈ G.map (·.i), anc os.toArray os.toArray.size g.i j = true → j ∈ X := fun j hj hanc => by
        have h3 := Q8 hcl hanc hir
        rcases Y8 h3 with h4 | h4
        · exact (T5 (hun _ hj) h4).elim
        · exact h4
      have hsx : ∀ s, g.s = some s → s ∈ X := fun s hs => hin s (hc.mem g hg s hs) (hc.anc g hg s hs)
      have hKi : ∀ x ∈ g.inp bs, K x.1 := by
        intro x hx
        cases hs : g.s with
        | none =>
          rw [Gc.inp_none hs] at hx
          exact hK g.m (List.mem_map.2 ⟨g, List.mem_filter.2 ⟨hg, by simp [hs]⟩, rfl⟩) x hx
        | some s =>
          rw [Gc.inp_some hs] at hx
          obtain ⟨gs, hgs, rfl⟩ := List.mem_map.1 (hc.mem g hg s hs)
          exact hN gs hgs (hsx _ hs) x hx
      obtain ⟨o, hget, howe⟩ := hob g hg (fun e => hqe ⟨g, hg, e, hir⟩)
      have hi' : os.toArray[g.i]? = some o := by rw [V2] at hget; simpa using hget
      obtain ⟨hask, hop⟩ := howe vs bs (M0 ++ ((Jn ++ J) ++ C.A)) ((Jn ++ J) ++ C.A) w (fun x hx => by simp only [List.mem_append] at hx ⊢; rcases hx with h | h | h <;> simp [h]) (fun x hx => by simp only [List.mem_append] at hx ⊢; rcases hx with h | h <;> simp [h]) (fun x hx => List.mem_append_right _ hx) (fun g' hg' hanc => hφ g' hg' (hin _ (List.mem_map_of_mem (f := Gc.i) hg') hanc))
      unfold wpOp
      simp only [hi']
      rw [if_pos (hask.wanted ha)]
      obtain ⟨R0, hp0, hq0⟩ := A3V (bs := bs) hi hc hg hiX hXs hsx
      have hpc : (A7O X bs G ++ M0).Perm (g.inp bs ++ (R0 ++ M0)) := by
        rw [← List.append_assoc]; exact List.Perm.append_right _ hp0
      have hcal := hw.callee hpc
      have hcal2 := St.less (A := M0 ++ ((Jn ++ J) ++ C.A)) hcal fun x hx => by
        simp only [List.mem_append] at hx ⊢
        rcases hx with h | h
        · exact .inl (.inr h)
        · exact .inr h
      refine .inl (Oper.wp_mono ?_ (hop _ a w ha hcal2.cx))
      rintro a' w' ⟨l', M', J', ha', hs', v, rfl, hφv⟩
      have hsz : w.heap.size ≤ w'.heap.size := hs'.size
      have hs2 := St.widen hcal.cx hs'
      have hb := hw.back hpc hs2.cx
      let bs' : Nat → Mem := fun k => if k = g.i then M' else bs k
      have hperm : (M' ++ (R0 ++ M0)).Perm (A7O (X ++ [g.i]) bs' G ++ M0) := by
        rw [← List.append_assoc]
        exact List.Perm.append_right _ (hq0 M')
      have hfr2 : St C (A7O (X ++ [g.i]) bs' G ++ M0) ((J' ++ Jn) ++ J) w' := (hb.perm hperm).drop (List.Sublist.refl _) fun x hx => by
        simp only [List.mem_append] at hx ⊢
        rcases hx with (h | h) | h <;> simp [h]
      refine ⟨fun _ b hb' hnk => hs'.frame b hb' fun hm => ?_, ?_⟩
      · obtain ⟨x, hx, e⟩ := List.mem_map.1 hm
        exact hnk (e ▸ hKi x hx)
      rw [← S6]
      have henv := A13 (N := C.N) (G := B4j G) (l := l) (vs := vs) (g := ⟨g.i, g.d, fun _ _ => True⟩) (a := a') (v := v) (List.mem_map_of_mem (f := fun g : Gc => (⟨g.i, g.d, fun _ _ => True⟩ : Gm)) hg) (by rw [B1y]; exact hd) (by rw [B1x]; exact hi) (by rw [A1j]; exact ha')
      rw [A1j] at henv
      refine ih (X ++ [g.i]) (fun k => if k = g.i then v else vs k) bs' (J' ++ Jn) a' w' ?_ ?_ (by simp; omega) ?_ ?_ ?_ ?_ henv hfr2 (Nat.le_trans hn hsz)
      · rw [List.nodup_append]; exact ⟨hnd, by simp, fun x hx y hy e => hiX (by simp at hy; subst hy; exact e ▸ hx)⟩
      · intro j hj
        rcases List.mem_append.1 hj with hj | hj
        · exact hX j hj
        · simp at hj; subst hj; exact hiG
      · rw [S6]; exact H8 hcl hir
      · intro g' hg' hm s hs
        rcases List.mem_append.1 hm with h | h
        · exact List.mem_append_left _ (hXs g' hg' h s hs)
        · have h2 : g' = g := A0i hi hg' hg (by simpa using h)
          subst h2
          exact List.mem_append_left _ (hsx s hs)
      · intro g' hg' hm
        by_cases e : g'.i = g.i
        · have : g' = g := A0i hi hg' hg e
          subst this
          simp only [if_true, bs']
          exact hmono g' hg' _ _ _ _ (fun x hx => by simp only [List.mem_append] at hx ⊢; rcases hx with h | (h | h) | h <;> simp [h]) hφv
        · simp only [e, if_false, bs']
          have hm' : g'.i ∈ X := by simpa [e] using hm
          exact hmono g' hg' _ _ _ _ (fun x hx => by simp only [List.mem_append] at hx ⊢; rcases hx with (h | h) | h <;> simp [h]) (hφ g' hg' hm')
      · intro g' hg' hk x hx
        by_cases e : g'.i = g.i
        · have : g' = g := A0i hi hg' hg e
          subst this
          simp only [if_true, bs'] at hx
          rcases hs'.own x.1 x.2 (by simp [hx]) with h6 | h6
          · obtain ⟨y, hy, e6⟩ := List.mem_map.1 h6
            exact e6 ▸ hKi y hy
          · exact hKn _ (Nat.le_trans hn h6)
        · simp only [e, if_false, bs'] at hx
          have hk' : g'.i ∈ X := by simpa [e] using hk
          exact hN g' hg' hk' x hx
theorem A2c (G0 Gq : List Gc) (M0 : Mem) (Lf : (Nat → Mem) → List Mem) (hKn : ∀ b, n0 ≤ b → K b) (hM : M.Perm (A0H (A2b (G0 ++ Gq)) M0)) (hK : ∀ m ∈ A2b (G0 ++ Gq), ∀ x ∈ m, K x.1) (hck : A7P os.toArray ((G0 ++ Gq).map fun g => (g.i, g.s)) = true) (hLf : ∀ bs, A9S (G0 ++ Gq) bs = Lf bs)
    (hmono : ∀ g ∈ G0 ++ Gq, A2L g.φ) (hd : ((G0 ++ Gq).map (·.d)).Nodup) (hi : ((G0 ++ Gq).map (·.i)).Nodup) (hdN : ∀ g ∈ G0 ++ Gq, g.d < C.N) (hs : Region.noSelect os.toArray = true) (hne : Gq.map (·.i) ≠ []) (hob0 : ∀ g ∈ G0, B1A C os l M0 J (G0 ++ Gq) g) (hoq0 : ∀ g ∈ Gq, B7A C os l J (G0 ++ Gq) g)
    (h : ∀ (vs : Nat → Value) (bs : Nat → Mem) Jn, (∀ g ∈ G0 ++ Gq, g.φ (vs g.i) (bs g.i) ((Jn ++ J) ++ C.A)) → (∀ g ∈ G0 ++ Gq, ∀ x ∈ bs g.i, K x.1) → XK C os Q K n0 nd plan (U0 (G0 ++ Gq) vs ++ l) (A0H (Lf bs) M0) (Jn ++ J)) : XK C os Q K n0 nd (B0d (Gq.map (·.i)) (G0.map (·.i)) ++ plan) l M J := by
  refine A1z hM ?_
  rw [A3f]
  intro listed hcl hp a w ha hw hn
  obtain ⟨B, hok, hfr, hp2⟩ := B1C hne hp
  have hBcl : Q7 os.toArray B := by
    have : ∀ {A is B}, GOz os.toArray (Gq.map (·.i)) A is B → Q7 os.toArray A → Q7 os.toArray B := by
      intro A is B h
      induction h with
      | nil => exact id
      | cons hr _ _ ih => exact fun hc => ih (H8 hc hr)
    exact this hok hcl
  rw [← List.map_append] at hok
  have hlen : (B0d (Gq.map (·.i)) (G0.map (·.i)) ++ plan).length = (G0 ++ Gq).length + plan.length := by
    have h1 : ∀ qs : List Nat, (A3W qs).length = qs.length := by
      intro qs
      induction qs with
      | nil => rfl
      | cons q r ih => cases r with
        | nil => rfl
        | cons q' r => simp only [A3W, List.length_cons] at ih ⊢; rw [ih]
    have h2 : ∀ (qs is : List Nat), (B0d qs is).length = is.length + qs.length := by
      intro qs is
      induction is with
      | nil => simp [B0d, h1]
      | cons i r ih => simp only [B0d, List.length_cons, ih]; omega
    simp [h2]
  have hob : ∀ g ∈ G0 ++ Gq, g.i ∉ Gq.map (·.i) → B1A C os l M0 J (G0 ++ Gq) g := fun g hg hq => by
    rcases List.mem_append.1 hg with h1 | h1
    · exact hob0 g h1
    · exact absurd (List.mem_map_of_mem (f := Gc.i) h1) hq
  have hoq : ∀ g ∈ G0 ++ Gq, g.i ∈ Gq.map (·.i) → B7A C os l J (G0 ++ Gq) g := fun g hg hq => by
    obtain ⟨g', hg', e⟩ := List.mem_map.1 hq
    have := A0i hi (List.mem_append_right _ hg') hg e
    exact this ▸ hoq0 g' hg'
  rw [hlen]
  generalize Gq.map (·.i) = qs at *
  generalize G0 ++ Gq = G at *
  let vs : Nat → Value := fun k => match G.find? (fun g => g.i == k) with
    | some g => (a.tmps[g.d]?).getD undef
    | none => undef
  have hag : Ag C.N (U0 G vs ++ l) a := by
    refine ⟨ha.defers, ha.size, ?_⟩
    intro k u hk
    have key : ∀ G' : List Gc, (∀ g ∈ G', g ∈ G) → lk (U0 G' vs ++ l) k = some u → a.tmps[k]? = some u := by
      intro G'
      induction G' with
      | nil => intro _ h; exact ha.slot k u h
      | cons g G' ih =>
        intro hs h
        simp only [U0, List.map_cons, List.cons_append, lk] at h
        by_cases e : g.d = k
        · subst e
          simp at h
          have hf : G.find? (fun x => x.i == g.i) = some g := by
            have hgG := hs g List.mem_cons_self
            cases hq : G.find? (fun x => x.i == g.i) with
            | none => have := List.find?_eq_none.1 hq g hgG; simp at this
            | some x =>
              have h1 := List.find?_some hq
              have h2 := List.mem_of_find?_eq_some hq
              rw [A0i hi h2 hgG (by simpa using h1)]
          have hlt : g.d < a.tmps.size := by rw [ha.size]; exact hdN g (hs g List.mem_cons_self)
          rw [← h]
          show a.tmps[g.d]? = some (vs g.i)
          simp only [vs, hf, Array.getElem?_eq_getElem hlt, Option.getD_some]
        · simp only [X7 e, cond_false] at h
          exact ih (fun x hx => hs x (List.mem_cons_of_mem _ hx)) h
    exact key G (fun _ h => h) hk
  refine B1D (n0 := n0) (K := K) hmono hd hi (A8O hck) hKn hK hs hdN hob hoq hok hfr (fun vs bs Jn a w hφ hN ha hw hn => h vs bs Jn hφ hN B hBcl hp2 a w ha (by rw [A3f, ← hLf]; exact hw) hn) G.length [] vs (fun _ => []) [] a w .nil (fun _ h => by cases h) (by simp) hcl (fun _ _ h => by cases h) (fun _ _ h => by cases h) (fun _ _ h => by cases h) hag (by rw [A8P]; exact hw) hn
end group
end Go.Px

