/- Part 9 of the texts of this claim, one behind the other. -/
import Derived.Test.YthmnlkpikgglbaaGreatDoorB8
import Derived.WalkKit
import Derived.ProofKit
import Derived.OpenShut
import Derived.ShutString
import Derived.ChangeOld
import Derived.Below
set_option linter.unusedVariables false
set_option linter.unusedSimpArgs false
set_option linter.unusedVariables false
set_option linter.unusedSimpArgs false
namespace Go.Proofs.YthmnlkpikgglbaaGreatDoor
open Go.Px
/-- Two numbers, the lesser first. -/
def srt (x y : Int) : List Int := if y < x then [y, x] else [x, y]
def two (j : Nat) (x y : Int) : List Int := if j = 1 then [x, y] else [y, x]
def out_ (i : Nat) (x y : Int) : List Int := if i = 1 then [x, y] else srt x y
theorem two_rd {R : Mem} {b j : Nat} {x y : Int} {e : TypeId} {fr : Nat × Nat} (h : (b, Obj.cells (ints (two j x y)).toArray e fr) ∈ R) : Rd R 1 (.slice (some ⟨b, 0, none⟩) 2 2) 2 (ints (two j x y)) := Rd.whole (n := 2) h (by unfold two; split <;> rfl)

set_option maxRecDepth 100000 in
theorem isNaN_spec (x : Int) (A : Mem) : FnV Tryz.prog 164 [.int .i64 x] A (.bool false) := by
  refine FnX.enter (N := 6) Tryz.func164 rfl rfl rfl fun w => ?_
  refine XC.keep (kp 0 rfl kn) ?_
  refine XC.reg ?_
  refine XL.q (q_assign rfl) rfl ?_
  refine XL.fin (kp 0 rfl kn) ?_
  refine XC.reg ?_
  refine XL.q (q_move rfl) rfl ?_
  refine XL.q (q_move rfl) rfl ?_
  refine XL.q (q_bin (v := .bool false) rfl rfl (by simp [arith])) rfl ?_
  refine XL.q (q_assign rfl) rfl ?_
  refine XL.fin (kp 2 rfl kn) ?_
  refine XC.ret ?_
  refine ⟨_, [], [], res1 rfl rfl, List.nil_sublist _, by simp, rfl, rfl, rfl⟩

set_option maxRecDepth 100000 in
theorem less_spec (x y : Int) (A : Mem) : FnV Tryz.prog 142 [.int .i64 x, .int .i64 y] A (.bool (decide (x < y))) := by
  refine FnX.enter (N := 17) Tryz.func142 rfl rfl rfl fun w => ?_
  refine XC.keep (kp 0 rfl (kp 1 rfl kn)) ?_
  refine XC.reg ?_
  refine XL.q (q_assign rfl) rfl ?_
  refine XL.fin (kp 0 rfl (kp 1 rfl kn)) ?_
  refine XC.reg ?_
  refine XL.q (q_move rfl) rfl ?_
  refine XL.callV (aS rfl a0) (by kernel_rfl) (isNaN_spec x _) rfl ?_
  refine XL.q (q_move rfl) rfl ?_
  refine XL.gn rfl rfl rfl rfl ?_
  refine XL.gn rfl rfl rfl rfl ?_
  refine XL.gn rfl rfl rfl rfl ?_
  refine XL.q (q_pickF rfl rfl) rfl ?_
  refine XL.q (q_move rfl) rfl ?_
  refine XL.gy rfl rfl (OpQ.opL (q_move rfl) rfl ?_)
  refine XL.gy rfl rfl (OpQ.opL (q_move rfl) rfl ?_)
  refine XL.gy rfl rfl (OpQ.opL (q_bin rfl rfl rfl) rfl ?_)
  refine XL.q (q_pickF rfl rfl) rfl ?_
  refine XL.q (q_assign rfl) rfl ?_
  refine XL.fin (kp 4 rfl kn) ?_
  refine XC.ret ?_
  refine ⟨_, [], [], res1 rfl rfl, List.nil_sublist _, by simp, rfl, rfl, rfl⟩

set_option maxRecDepth 100000 in
theorem ins_spec (b : Nat) (x y : Int) (A : Mem) : FnX Tryz.prog 136 [.slice (some ⟨b, 0, none⟩) 2 2, .int .i64 0, .int .i64 2] [(b, blk (ints ([x, y])) 3)] A fun r M J => J = [] ∧ r = .tuple #[] ∧ M = [(b, blk (ints (srt x y)) 3)] := by
  refine FnX.enter (N := 49) Tryz.func136 rfl rfl rfl fun w => ?_
  refine XC.keep (kp 0 rfl (kp 1 rfl (kp 2 rfl kn))) ?_
  refine XC.reg ?_
  refine XL.q (q_move rfl) rfl ?_
  refine XL.q (q_addI (a := 0) (b := 1) rfl rfl rfl rfl (by omega)) rfl ?_
  refine XL.q (q_assign rfl) rfl ?_
  refine XL.fin (kp 0 rfl (kp 1 rfl (kp 2 rfl (kp 6 rfl kn)))) ?_
  refine XC.block ?_
  refine XC.loop (α := Nat) (fun i => [(0, .slice (some ⟨b, 0, none⟩) 2 2), (1, .int .i64 0), (2, .int .i64 2), (6, .int .i64 (i : Int))]) (fun i => [(b, blk (ints (out_ i x y)) 3)]) (fun _ => []) (fun i => i = 1 ∨ i = 2) (fun i => 2 - i) 1 (.inl rfl) (kp 0 rfl (kp 1 rfl (kp 2 rfl (kp 6 rfl kn)))) .rfl (fun _ h => h) ?_
  rintro i hi
  refine XC.seq ?_
  refine XC.reg ?_
  refine XL.q (q_move rfl) rfl ?_
  refine XL.q (q_move rfl) rfl ?_
  refine XL.q (q_bin rfl rfl rfl) rfl ?_
  refine XL.fin (kp 0 rfl (kp 1 rfl (kp 2 rfl (kp 6 rfl (kp 12 rfl kn))))) ?_
  refine XC.cond rfl (fun hc => ?_) (fun hc => ?_)
  ·
    obtain rfl : i = 1 := by simp at hc; omega
    refine XC.skip ?_
    refine nx (kp 0 rfl (kp 1 rfl (kp 2 rfl (kp 6 rfl kn)))) ?_
    refine XC.seq ?_
    refine XC.block ?_
    refine XC.reg ?_
    refine XL.q (q_move rfl) rfl ?_
    refine XL.q (q_assign rfl) rfl ?_
    refine XL.fin (kp 0 rfl (kp 1 rfl (kp 2 rfl (kp 6 rfl (kp 7 rfl kn))))) ?_
    refine XC.block ?_
    refine XC.loop (α := Nat) (fun j => [(0, .slice (some ⟨b, 0, none⟩) 2 2), (1, .int .i64 0), (2, .int .i64 2), (6, .int .i64 1), (7, .int .i64 (j : Int))]) (fun j => [(b, blk (ints (two j x y)) 3)]) (fun _ => []) (fun j => j = 1 ∨ (j = 0 ∧ y < x)) (fun j => j) 1 (.inl rfl) (kp 0 rfl (kp 1 rfl (kp 2 rfl (kp 6 rfl (kp 7 rfl kn))))) .rfl (fun _ h => h) ?_
    rintro j hj
    refine XC.seq ?_
    refine XC.drawF [0, 1, 2, 3, 4, 5, 6, 7, 8, 9, 10, 11, 12, 13, 14] [(0, 0), (1, 0), (2, 0), (3, 0), (4, 0), (5, 0), (6, 0), (7, 1), (8, 0), (9, 0), (10, 0), (11, 0), (12, 1), (13, 2), (14, 0)] (by kernel_rfl) (by kernel_rfl) fun hs => ?_
    refine XF.q hs rfl (q_move rfl) rfl ?_
    refine XF.q hs rfl (q_move rfl) rfl ?_
    refine XF.q hs rfl (q_bin rfl rfl rfl) rfl ?_
    refine XF.q hs rfl (q_move rfl) rfl ?_
    refine XF.split (t := 19) rfl (fun hb => ?_) (fun hb => ?_)
    ·
      obtain rfl : j = 1 := by have := of_decide_eq_true hb; omega
      refine XF.qg hs rfl rfl rfl rfl (q_move rfl) rfl ?_
      refine XF.qg hs rfl rfl rfl rfl (q_move rfl) rfl ?_
      refine XF.qg hs rfl rfl rfl rfl (q_atV2 (sz := 1) (a := 1) rfl rfl (by kernel_rfl) rfl (two_rd (R := [_]) (j := 1) (x := x) (y := y) (e := 3) (fr := (0, 0)) List.mem_cons_self) (by decide)) rfl ?_
      refine XF.rg hs rfl rfl rfl rfl (q_ldV (j := 1) (u := .int .i64 y) (two_rd At.mem) rfl (by kernel_rfl) rfl) rfl ?_
      refine XF.qg hs rfl rfl rfl rfl (q_move rfl) rfl ?_
      refine XF.qg hs rfl rfl rfl rfl (q_move rfl) rfl ?_
      refine XF.qg hs rfl rfl rfl rfl (q_subI (a := 1) (b := 1) rfl rfl rfl rfl (by omega) (by omega)) rfl ?_
      refine XF.qg hs rfl rfl rfl rfl (q_atV2 (sz := 1) (a := 0) rfl rfl (by kernel_rfl) rfl (two_rd (R := [_]) (j := 1) (x := x) (y := y) (e := 3) (fr := (0, 0)) List.mem_cons_self) (by decide)) rfl ?_
      refine XF.rg hs rfl rfl rfl rfl (q_ldV (j := 0) (u := .int .i64 x) (two_rd At.mem) rfl (by kernel_rfl) rfl) rfl ?_
      refine XF.callVg rfl rfl rfl rfl (aS rfl (aS rfl a0)) (by kernel_rfl) (less_spec y x _) rfl ?_
      refine XF.q hs rfl (q_pickT rfl rfl) rfl ?_
      refine XF.fin (kp 0 rfl (kp 1 rfl (kp 2 rfl (kp 6 rfl (kp 7 rfl (kp 30 rfl kn)))))) ?_
      refine XC.cond rfl (fun hc => ?_) (fun hc => ?_)
      ·
        have hyx : y < x := by simpa using hc
        refine XC.skip ?_
        refine nx (kp 0 rfl (kp 1 rfl (kp 2 rfl (kp 6 rfl (kp 7 rfl kn))))) ?_
        refine XC.seq ?_
        refine XC.block ?_
        refine XC.drawF1 [0, 1, 2, 3, 4, 5, 6, 7, 8, 9, 10, 11, 12, 13, 14, 16] [(0, 0), (1, 0), (2, 0), (3, 0), (4, 0), (5, 0), (6, 0), (7, 0), (8, 0), (9, 1), (10, 0), (11, 0), (12, 0), (13, 1), (14, 0), (15, 2), (16, 0), (17, 2)] (by kernel_rfl) (by kernel_rfl) fun hs => ?_
        refine XF.q hs rfl (q_move rfl) rfl ?_
        refine XF.q hs rfl (q_move rfl) rfl ?_
        refine XF.q hs rfl (q_move rfl) rfl ?_
        refine XF.q hs rfl (q_move rfl) rfl ?_
        refine XF.q hs rfl (q_subI (a := 1) (b := 1) rfl rfl rfl rfl (by omega) (by omega)) rfl ?_
        refine XF.q hs rfl (q_move rfl) rfl ?_
        refine XF.q hs rfl (q_move rfl) rfl ?_
        refine XF.q hs rfl (q_subI (a := 1) (b := 1) rfl rfl rfl rfl (by omega) (by omega)) rfl ?_
        refine XF.q hs rfl (q_atV2 (sz := 1) (a := 0) rfl rfl (by kernel_rfl) rfl (two_rd (R := [_]) (j := 1) (x := x) (y := y) (e := 3) (fr := (0, 0)) List.mem_cons_self) (by decide)) rfl ?_
        refine XF.r hs rfl (q_ldV (j := 0) (u := .int .i64 x) (two_rd At.mem) rfl (by kernel_rfl) rfl) rfl ?_
        refine XF.q hs rfl (q_move rfl) rfl ?_
        refine XF.q hs rfl (q_move rfl) rfl ?_
        refine XF.q hs rfl (q_atV2 (sz := 1) (a := 1) rfl rfl (by kernel_rfl) rfl (two_rd (R := [_]) (j := 1) (x := x) (y := y) (e := 3) (fr := (0, 0)) List.mem_cons_self) (by decide)) rfl ?_
        refine XF.r hs rfl (q_ldV (j := 1) (u := .int .i64 y) (two_rd At.mem) rfl (by kernel_rfl) rfl) rfl ?_
        refine XF.q hs rfl (q_atV2 (sz := 1) (a := 1) rfl rfl (by kernel_rfl) rfl (two_rd (R := [_]) (j := 1) (x := x) (y := y) (e := 3) (fr := (0, 0)) List.mem_cons_self) (by decide)) rfl ?_
        refine XF.tl rfl rfl rfl (l_store (show ev _ _ = some (.pointer (some ⟨b, 1, none⟩)) from rfl) rfl rfl (by kernel_rfl) (show SetL [.int .i64 x, .int .i64 y] 1 (.int .i64 x) [.int .i64 x, .int .i64 x] from SetC.set) UpC.upd ?_)
        refine XF.q hs rfl (q_atV2 (sz := 1) (a := 0) rfl rfl (by kernel_rfl) rfl (two_rd (R := [_]) (j := 1) (x := x) (y := y) (e := 3) (fr := (0, 0)) List.mem_cons_self) (by decide)) rfl ?_
        refine XF.tl rfl rfl rfl (l_store (show ev _ _ = some (.pointer (some ⟨b, 0, none⟩)) from rfl) rfl rfl (by kernel_rfl) (show SetL [.int .i64 x, .int .i64 x] 0 (.int .i64 y) [.int .i64 y, .int .i64 x] from SetC.set) UpC.upd ?_)
        refine XF.nil ?_
        refine nb ?_
        refine nx (kp 0 rfl (kp 1 rfl (kp 2 rfl (kp 6 rfl (kp 7 rfl kn))))) ?_
        refine XC.reg1 ?_
        refine XL.q (q_move rfl) rfl ?_
        refine XL.q (q_subI (a := 1) (b := 1) rfl rfl rfl rfl (by omega) (by omega)) rfl ?_
        refine XL.q (q_assign rfl) rfl ?_
        refine XL.nil ?_
        exact rn 0 (.inr ⟨rfl, hyx⟩) (by decide) (kp 0 rfl (kp 1 rfl (kp 2 rfl (kp 6 rfl (kp 7 rfl kn))))) .rfl (fun _ h => h)
      ·
        have hyx : ¬ y < x := by simpa using hc
        refine XC.exit ?_
        refine te ?_
        refine re ?_
        refine be rfl ?_
        refine nb ?_
        refine nx (kp 0 rfl (kp 1 rfl (kp 2 rfl (kp 6 rfl kn)))) ?_
        refine XC.reg1 ?_
        refine XL.q (q_move rfl) rfl ?_
        refine XL.q (q_addI (a := 1) (b := 1) rfl rfl rfl rfl (by omega)) rfl ?_
        refine XL.q (q_assign rfl) rfl ?_
        refine XL.nil ?_
        exact rn 2 (.inr rfl) (by decide) (kp 0 rfl (kp 1 rfl (kp 2 rfl (kp 6 rfl kn)))) (by rw [show out_ 2 x y = [x, y] by unfold out_ srt; simp [hyx]]; exact .rfl) (fun _ h => h)
    ·
      obtain ⟨rfl, hyx⟩ : j = 0 ∧ y < x := by have := of_decide_eq_false hb; omega
      refine XF.qn hs rfl rfl rfl rfl rfl rfl ?_
      refine XF.qn hs rfl rfl rfl rfl rfl rfl ?_
      refine XF.qn hs rfl rfl rfl rfl rfl rfl ?_
      refine XF.rn hs rfl rfl rfl rfl rfl rfl ?_
      refine XF.qn hs rfl rfl rfl rfl rfl rfl ?_
      refine XF.qn hs rfl rfl rfl rfl rfl rfl ?_
      refine XF.qn hs rfl rfl rfl rfl rfl rfl ?_
      refine XF.qn hs rfl rfl rfl rfl rfl rfl ?_
      refine XF.rn hs rfl rfl rfl rfl rfl rfl ?_
      refine XF.ln hs rfl rfl rfl rfl rfl rfl ?_
      refine XF.q hs rfl (q_pickF rfl rfl) rfl ?_
      refine XF.fin (kp 0 rfl (kp 1 rfl (kp 2 rfl (kp 6 rfl (kp 7 rfl (kp 30 rfl kn)))))) ?_
      refine XC.condF rfl ?_
      refine XC.exit ?_
      refine te ?_
      refine re ?_
      refine be rfl ?_
      refine nb ?_
      refine nx (kp 0 rfl (kp 1 rfl (kp 2 rfl (kp 6 rfl kn)))) ?_
      refine XC.reg1 ?_
      refine XL.q (q_move rfl) rfl ?_
      refine XL.q (q_addI (a := 1) (b := 1) rfl rfl rfl rfl (by omega)) rfl ?_
      refine XL.q (q_assign rfl) rfl ?_
      refine XL.nil ?_
      exact rn 2 (.inr rfl) (by decide) (kp 0 rfl (kp 1 rfl (kp 2 rfl (kp 6 rfl kn)))) (by rw [show out_ 2 x y = [y, x] by unfold out_ srt; simp [hyx]]; exact .rfl) (fun _ h => h)
  ·
    obtain rfl : i = 2 := by simp at hc; omega
    refine XC.exit ?_
    refine te ?_
    refine re ?_
    refine be rfl ?_
    exact ⟨_, _, [], res0 rfl, List.Sublist.refl _, by simp, rfl, rfl, rfl⟩

set_option maxRecDepth 100000 in
theorem pdq_spec (b : Nat) (x y n : Int) (A : Mem) : FnX Tryz.prog 113 [.slice (some ⟨b, 0, none⟩) 2 2, .int .i64 0, .int .i64 2, .int .i64 n] [(b, blk (ints ([x, y])) 3)] A fun r M J => J = [] ∧ r = .tuple #[] ∧ M = [(b, blk (ints (srt x y)) 3)] := by
  refine FnX.enter (N := 134) Tryz.func113 rfl rfl rfl fun w => ?_
  refine XC.keep (kp 0 rfl (kp 1 rfl (kp 2 rfl (kp 3 rfl kn)))) ?_
  refine XC.reg ?_
  refine XL.q (q_assign rfl) rfl ?_
  refine XL.fin (kp 0 rfl (kp 1 rfl (kp 2 rfl (kp 3 rfl (kp 8 rfl kn))))) ?_
  refine XC.reg ?_
  refine XL.q (q_assign rfl) rfl ?_
  refine XL.fin (kp 0 rfl (kp 1 rfl (kp 2 rfl (kp 3 rfl (kp 8 rfl (kp 9 rfl kn)))))) ?_
  refine XC.block ?_
  refine XC.loop (α := Unit) (fun _ => [(0, .slice (some ⟨b, 0, none⟩) 2 2), (1, .int .i64 0), (2, .int .i64 2), (3, .int .i64 n), (8, .bool true), (9, .bool true)]) (fun _ => [(b, blk (ints ([x, y])) 3)]) (fun _ => []) (fun _ => True) (fun _ => 0) () trivial (kp 0 rfl (kp 1 rfl (kp 2 rfl (kp 3 rfl (kp 8 rfl (kp 9 rfl kn)))))) .rfl (fun _ h => h) ?_
  rintro _ _
  refine XC.block ?_
  refine XC.reg ?_
  refine XL.q (q_move rfl) rfl ?_
  refine XL.q (q_move rfl) rfl ?_
  refine XL.q (q_subI (a := 2) (b := 0) rfl rfl rfl rfl (by omega) (by omega)) rfl ?_
  refine XL.q (q_assign rfl) rfl ?_
  refine XL.fin (kp 0 rfl (kp 1 rfl (kp 2 rfl (kp 3 rfl (kp 8 rfl (kp 9 rfl (kp 10 rfl kn))))))) ?_
  refine XC.seq ?_
  refine XC.reg ?_
  refine XL.q (q_move rfl) rfl ?_
  refine XL.q (q_bin (v := .bool true) rfl rfl (by rfl)) rfl ?_
  refine XL.fin (kp 0 rfl (kp 1 rfl (kp 2 rfl (kp 3 rfl (kp 8 rfl (kp 9 rfl (kp 10 rfl (kp 23 rfl kn)))))))) ?_
  refine XC.cond rfl (fun hc => ?_) (fun hc => ?_)
  ·
    refine XC.reg ?_
    refine XL.q (q_move rfl) rfl ?_
    refine XL.q (q_move rfl) rfl ?_
    refine XL.q (q_move rfl) rfl ?_
    refine XL.lo rfl (l_call (Mc := [(b, blk (ints ([x, y])) 3)]) (R := []) (aS rfl (aS rfl (aS rfl a0))) (by kernel_rfl) (.refl _) (ins_spec b x y _) rfl ?_)
    rintro v27 M27 J27 ⟨rfl, rfl, rfl⟩
    refine XL.fin kn ?_
    refine XC.ret ?_
    refine tr ?_
    refine br ?_
    refine rr ?_
    refine br ?_
    exact ⟨_, _, [], res0 rfl, by first | exact List.Sublist.refl _ | simp, by simp, rfl, rfl, by first | rfl | simp⟩
  ·
    exact absurd hc (by decide)

set_option maxRecDepth 100000 in
theorem len_spec (x : Nat) (hx : x < 18446744073709551616) (A : Mem) : FnX Tryz.prog 114 [.int .u64 (x : Int)] [] A fun r M J => M = [] ∧ J = [] ∧ ∃ n : Int, r = .int .i64 n := by
  refine FnX.enter (N := 8) Tryz.func114 rfl rfl rfl fun w => ?_
  refine XC.keep (kp 0 rfl kn) ?_
  refine XC.reg ?_
  refine XL.q (q_assign rfl) rfl ?_
  refine XL.fin (kp 0 rfl kn) ?_
  refine XC.seq ?_
  refine XC.cond rfl (fun hc => ?_) (fun hc => ?_)
  ·
    exact absurd hc (by decide)
  ·
    refine XC.skip ?_
    refine nx (kp 0 rfl kn) ?_
    refine XC.reg ?_
    refine XL.q (q_move rfl) rfl ?_
    refine XL.call (aS rfl a0) (by kernel_rfl) (len64_spec x hx _) rfl ?_
    rintro v7 M7 J7 ⟨rfl, rfl, n7, rfl, -⟩
    refine XL.q (q_assign rfl) rfl ?_
    refine XL.fin (kp 2 rfl kn) ?_
    refine XC.ret ?_
    exact ⟨_, [], [], res1 rfl rfl, by first | exact List.Sublist.refl _ | simp, by simp, rfl, rfl, _, rfl⟩

set_option maxRecDepth 100000 in
theorem sort_spec (b : Nat) (x y : Int) (A : Mem) : FnX Tryz.prog 80 [.slice (some ⟨b, 0, none⟩) 2 2] [(b, blk (ints ([x, y])) 3)] A fun r M J => J = [] ∧ r = .tuple #[] ∧ M = [(b, blk (ints (srt x y)) 3)] := by
  refine FnX.enter (N := 11) Tryz.func80 rfl rfl rfl fun w => ?_
  refine XC.keep (kp 0 rfl kn) ?_
  refine XC.reg ?_
  refine XL.q (q_move rfl) rfl ?_
  refine XL.q (q_lenS (e := 3) rfl (by kernel_rfl)) rfl ?_
  refine XL.q (q_assign rfl) rfl ?_
  refine XL.fin (kp 0 rfl (kp 2 rfl kn)) ?_
  refine XC.reg1 ?_
  refine XL.q (q_move rfl) rfl ?_
  refine XL.q (q_move rfl) rfl ?_
  refine XL.q (q_move rfl) rfl ?_
  refine XL.q (q_convN (k' := .u64) 2 rfl (by kernel_rfl) (by rfl)) rfl ?_
  refine XL.call (aS rfl a0) (by kernel_rfl) (len_spec 2 (by decide) _) rfl ?_
  rintro v9 M9 J9 ⟨rfl, rfl, n9, rfl⟩
  refine XL.lo rfl (l_call (Mc := [(b, blk (ints ([x, y])) 3)]) (R := []) (aS rfl (aS rfl (aS rfl (aS rfl a0)))) (by kernel_rfl) (.refl _) (pdq_spec b x y _ _) rfl ?_)
  rintro v10 M10 J10 ⟨rfl, rfl, rfl⟩
  refine XL.nil ?_
  exact ⟨_, _, [], res0 rfl, by first | exact List.Sublist.refl _ | simp, by simp, rfl, rfl, by first | rfl | simp⟩

/-- What a secret one and another one agree on. -/
def agT (ts : List Tm) (s o : Int) : Tm := if 0 ≤ o then match ts[o.toNat]? with
  | some t => if t.kind = 3 ∧ t.of.length = 1 then ⟨4, srt s (t.of.getD 0 0), [], 0⟩ else ⟨4, [s, o], [], 1⟩
  | none => ⟨4, [s, o], [], 1⟩ else ⟨4, [s, o], [], 1⟩
theorem agT_no {ts : List Tm} {s o : Int} (h : ¬ (0 ≤ o ∧ o < (ts.length : Int))) : agT ts s o = ⟨4, [s, o], [], 1⟩ := by
  unfold agT
  by_cases h0 : 0 ≤ o
  · rw [if_pos h0, List.getElem?_eq_none (by omega)]
  · rw [if_neg h0]
theorem agT_un {ts : List Tm} {s o : Int} {t : Tm} (h0 : 0 ≤ o) (h : ts[o.toNat]? = some t) (hk : ¬ (t.kind = 3 ∧ t.of.length = 1)) : agT ts s o = ⟨4, [s, o], [], 1⟩ := by
  unfold agT
  rw [if_pos h0, h]
  exact if_neg hk
theorem agT_yes {ts : List Tm} {s o : Int} {t : Tm} (h0 : 0 ≤ o) (h : ts[o.toNat]? = some t) (hk : t.kind = 3 ∧ t.of.length = 1) : agT ts s o = ⟨4, srt s (t.of.getD 0 0), [], 0⟩ := by
  unfold agT
  rw [if_pos h0, h]
  exact if_pos hk
theorem get_facts {A : Mem} {ts : List Tm} {i : Int} {c : List Value} {ok : Bool} (hts : ∀ t ∈ ts, Tmo t) (h1 : (0 ≤ i ∧ i < (ts.length : Int)) → ok = true ∧ ∃ t, ts[i.toNat]? = some t ∧ TmC A c t) (h2 : ¬ (0 ≤ i ∧ i < (ts.length : Int)) → ok = false ∧ c = tmc 0 (.slice none 0 0) [] 0) :
    ∃ (vo : Value) (t : Tm), c = tmc t.kind vo t.text t.n ∧ Rd A 1 vo t.of.length (ints t.of) ∧ (∀ z ∈ t.of, i64 z) ∧ t.kind < 256 ∧ (ok = true → 0 ≤ i ∧ ts[i.toNat]? = some t) ∧ (ok = false → ¬ (0 ≤ i ∧ i < (ts.length : Int))) := by
  by_cases h : 0 ≤ i ∧ i < (ts.length : Int)
  · obtain ⟨e, t, ht, vo, hc, hr⟩ := h1 h
    have hto := hts t (List.mem_of_getElem? ht)
    exact ⟨vo, t, hc, hr, hto.of, hto.kind, fun _ => ⟨h.1, ht⟩, fun e' => by rw [e] at e'; cases e'⟩
  · obtain ⟨e, hc⟩ := h2 h
    exact ⟨.slice none 0 0, ⟨0, [], [], 0⟩, hc, Rd.nil, (fun z hz => by cases hz), by decide, (fun e' => by rw [e] at e'; cases e'), fun _ => h⟩
theorem srt_len (x y : Int) : (srt x y).length = 2 := by unfold srt; split <;> rfl
theorem srt_mem {x y z : Int} (h : z ∈ srt x y) : z = x ∨ z = y := by
  unfold srt at h
  split at h <;> simp at h <;> omega
theorem ag_ok {s o n : Int} {l : List Int} (hl : l.length = 2) (h : ∀ z ∈ l, i64 z) (hn : n = 0 ∨ n = 1) : Tmo ⟨4, l, [], n⟩ := ⟨show 4 < 256 by decide, show i64 n by unfold i64; omega, h, show l.length ≤ 1048576 by omega, ⟨fun x hx => (List.not_mem_nil hx).elim⟩, show 0 ≤ 1099511627776 by decide⟩

set_option maxRecDepth 100000 in
theorem agree_spec (bt bm : Nat) (ts : List Tm) (s o : Int) (MT A : Mem) (hT : Tab bt bm ts MT) (hn : ts.length ≤ 1048576) (hs : i64 s) (ho : i64 o) {e4 : TypeId} {f4 : Nat × Nat} (h4 : (4, Obj.cells (nums .u64 pow10T).toArray e4 f4) ∈ A) : FnX Tryz.prog 54 [.pointer (some ⟨bt, 0, none⟩), .int .i64 s, .int .i64 o] MT A fun r M J => J = [] ∧ r = .int .i64 ((at_ ts (agT ts s o) : Nat) : Int) ∧ Tab bt bm (add ts (agT ts s o)) M := by
  have hnT := hT
  obtain ⟨_, _, _, _, _, _, _, _, _, _, _, hts, hnd⟩ := hnT
  refine FnX.enter (N := 46) Tryz.func54 rfl rfl rfl fun w => ?_
  refine XC.keep (kp 0 rfl (kp 1 rfl (kp 2 rfl kn))) ?_
  refine XC.reg ?_
  refine XL.q (q_assign rfl) rfl ?_
  refine XL.fin (kp 0 rfl (kp 1 rfl (kp 2 rfl kn))) ?_
  refine XC.seq ?_
  refine XC.reg ?_
  refine XL.q (q_move rfl) rfl ?_
  refine XL.q (q_move rfl) rfl ?_
  refine XL.call (aS rfl (aS rfl a0)) (by kernel_rfl) (getT_spec bt bm ts o MT _ hT SubC.sub) rfl ?_
  rintro v13 M13 J13 ⟨rfl, rfl, c13, ok13, rfl, hg1, hg2⟩
  obtain ⟨vo, t, rfl, hvo, hz, htk, hok, hno⟩ := get_facts hts hg1 hg2
  haveI := hvo.cel
  refine XL.q (q_move rfl) rfl ?_
  refine XL.q (q_x0 rfl) rfl ?_
  refine XL.q (q_x1 rfl) rfl ?_
  refine XL.lo rfl (l_alloc (cs := [.int .u8 0, .slice none 0 0, .string ByteArray.empty, .int .i64 0]) (by kernel_rfl) rfl fun b7 => ?_)
  refine XL.lo rfl (l_storeW rfl rfl rfl (by kernel_rfl) (by rfl) (by intro c hc; simp only [List.mem_cons, List.not_mem_nil, or_false] at hc; rcases hc with rfl | rfl | rfl | rfl <;> first | rfl | exact hvo.one) UpC.upd ?_)
  refine XL.q (q_assign rfl) rfl ?_
  refine XL.fin (kp 0 rfl (kp 1 rfl (kp 2 rfl (kp 7 rfl (kp 8 rfl kn))))) ?_
  refine XC.reg ?_
  refine XL.q (q_move rfl) rfl ?_
  refine XL.q (q_move rfl) rfl ?_
  refine XL.split (t := 17) rfl (fun hb => ?_) (fun hb => ?_)
  ·
    obtain ⟨h0, hget⟩ := hok hb
    refine XL.gy rfl rfl (OpQ.opL (q_fieldAddrN 0 (off := 0) rfl (by kernel_rfl) rfl) rfl ?_)
    refine XL.gy rfl rfl (OpQ.opL (q_load rfl (by kernel_rfl) (by first | exact At.mem | exact mA (by assumption)) (by rfl)) rfl ?_)
    refine XL.gy rfl rfl (OpQ.opL (q_bin rfl rfl rfl) rfl ?_)
    refine XL.q (q_pickT rfl rfl) rfl ?_
    refine XL.q (q_move rfl) rfl ?_
    refine XL.split (t := 22) rfl (fun hb => ?_) (fun hb => ?_)
    ·
      have hk3 : t.kind = 3 := by simp at hb; omega
      refine XL.gy rfl rfl (OpQ.opL (q_fieldAddrN 1 (off := 1) rfl (by kernel_rfl) rfl) rfl ?_)
      refine XL.gy rfl rfl (OpQ.opL (q_load rfl (by kernel_rfl) (by first | exact At.mem | exact mA (by assumption)) (by rfl)) rfl ?_)
      refine XL.gy rfl rfl (OpQ.opL (q_lenV2 (sz := 1) rfl (by kernel_rfl) hvo) rfl ?_)
      refine XL.gy rfl rfl (OpQ.opL (q_bin rfl rfl rfl) rfl ?_)
      refine XL.q (q_pickT rfl rfl) rfl ?_
      refine XL.fin (kp 0 rfl (kp 1 rfl (kp 2 rfl (kp 7 rfl (kp 27 rfl kn))))) ?_
      refine XC.cond rfl (fun hc => ?_) (fun hc => ?_)
      ·
        have h1 : t.of.length = 1 := by simp at hc; omega
        have hag := agT_yes (s := s) h0 hget ⟨hk3, h1⟩
        have hz0 : i64 (t.of.getD 0 0) := hz _ (by rw [List.getD_eq_getElem?_getD, List.getElem?_eq_getElem (by omega)]; exact List.getElem_mem _)
        generalize hzz : t.of.getD 0 0 = z0 at *
        refine XC.reg ?_
        refine XL.q (q_move rfl) rfl ?_
        refine XL.q (q_fieldAddrN 1 (off := 1) rfl (by kernel_rfl) rfl) rfl ?_
        refine XL.q (q_load rfl (by kernel_rfl) (by first | exact At.mem | exact mA (by assumption)) (by rfl)) rfl ?_
        refine XL.q (q_atV2 (sz := 1) (a := 0) rfl rfl (by kernel_rfl) rfl hvo (by omega)) rfl ?_
        refine XL.q (q_ldV (j := 0) (u := .int .i64 z0) (hvo.mono SubC.sub) rfl (by kernel_rfl) (by rw [← hzz, List.getD_eq_getElem?_getD, ints, List.getElem?_map, List.getElem?_eq_getElem (by omega)]; rfl)) rfl ?_
        refine XL.lo rfl (l_buildSlice (e := 3) (sz := 1) (z := [.int .i64 0, .int .i64 0]) (by kernel_rfl) (eS rfl (eS rfl e0)) (bdS 0 1 rfl (by rfl) (bdS 1 1 rfl (by rfl) bd0)) rfl fun b33 => ?_)
        refine XL.q (q_assign rfl) rfl ?_
        refine XL.fin (kp 0 rfl (kp 9 rfl kn)) ?_
        refine XC.reg ?_
        refine XL.q (q_move rfl) rfl ?_
        refine XL.lo rfl (l_call (Mc := [(b33, blk [.int .i64 s, .int .i64 z0] 3)]) (R := _) (aS rfl a0) (by kernel_rfl) PickC.perm (sort_spec b33 s z0 _) rfl ?_)
        rintro v35 M35 J35 ⟨rfl, rfl, rfl⟩
        refine XL.fin (kp 0 rfl (kp 9 rfl kn)) ?_
        refine XC.reg ?_
        refine XL.q (q_move rfl) rfl ?_
        refine XL.q (q_move rfl) rfl ?_
        refine XL.q (q_build (place := fun x => #[(0, 1), (1, 1), (2, 1), (3, 1)][x]?) (z := [.int .u8 0, .slice none 0 0, .string ByteArray.empty, .int .i64 0]) (fun _ => by kernel_rfl) (eS rfl (eS rfl e0)) (bdS 0 1 rfl (by rfl) (bdS 1 1 rfl (by rfl) bd0))) rfl ?_
        refine XL.lo rfl (l_call (Mc := MT) (R := _) (aS rfl (aS rfl a0)) (by kernel_rfl) PickC.perm (putT_spec bt bm ts _ ⟨4, srt s z0, [], 0⟩ MT _ hT hn (by rw [srt_len]; exact (Rd.whole (n := 2) At.mem (by first | rfl | exact (ints_len _).trans (srt_len _ _)))) (ag_ok (s := s) (o := o) (srt_len _ _) (fun q hq => (srt_mem hq).elim (fun e => e ▸ hs) (fun e => e ▸ hz0)) (.inl rfl)) (SubC.sub _ h4)) rfl ?_)
        rintro v39 M39 J39 ⟨rfl, rfl, hT39⟩
        refine XL.q (q_assign rfl) rfl ?_
        refine XL.fin (kp 6 rfl kn) ?_
        refine XC.ret ?_
        refine tr ?_
        exact ⟨_, M39, [], res1 rfl rfl, by first | exact List.Sublist.refl _ | simp, by simp, rfl, by rw [hag], by rw [hag]; exact hT39⟩
      ·
        have hag := agT_un (s := s) h0 hget (fun h => by have := h.2; simp at hc; omega)
        refine XC.skip ?_
        refine nx (kp 0 rfl (kp 1 rfl (kp 2 rfl kn))) ?_
        refine XC.reg ?_
        refine XL.q (q_move rfl) rfl ?_
        refine XL.q (q_move rfl) rfl ?_
        refine XL.q (q_move rfl) rfl ?_
        refine XL.lo rfl (l_buildSlice (e := 3) (sz := 1) (z := [.int .i64 0, .int .i64 0]) (by kernel_rfl) (eS rfl (eS rfl e0)) (bdS 0 1 rfl (by rfl) (bdS 1 1 rfl (by rfl) bd0)) rfl fun b43 => ?_)
        refine XL.q (q_build (place := fun x => #[(0, 1), (1, 1), (2, 1), (3, 1)][x]?) (z := [.int .u8 0, .slice none 0 0, .string ByteArray.empty, .int .i64 0]) (fun _ => by kernel_rfl) (eS rfl (eS rfl (eS rfl e0))) (bdS 0 1 rfl (by rfl) (bdS 1 1 rfl (by rfl) (bdS 3 1 rfl (by rfl) bd0)))) rfl ?_
        refine XL.lo rfl (l_call (Mc := MT) (R := _) (aS rfl (aS rfl a0)) (by kernel_rfl) PickC.perm (putT_spec bt bm ts _ ⟨4, [s, o], [], 1⟩ MT _ hT hn (Rd.whole (n := 2) At.mem (by first | rfl | exact (ints_len _).trans (srt_len _ _))) (ag_ok (s := s) (o := o) rfl (fun q hq => by simp at hq; rcases hq with rfl | rfl <;> assumption) (.inr rfl)) (SubC.sub _ h4)) rfl ?_)
        rintro v45 M45 J45 ⟨rfl, rfl, hT45⟩
        refine XL.q (q_assign rfl) rfl ?_
        refine XL.fin (kp 6 rfl kn) ?_
        refine XC.ret ?_
        exact ⟨_, M45, [], res1 rfl rfl, by first | exact List.Sublist.refl _ | simp, by simp, rfl, by rw [hag], by rw [hag]; exact hT45⟩
    ·
      have hag := agT_un (s := s) h0 hget (fun h => by have := h.1; simp at hb; omega)
      refine XL.gn rfl rfl rfl rfl ?_
      refine XL.gn rfl rfl rfl rfl ?_
      refine XL.gn rfl rfl rfl rfl ?_
      refine XL.gn rfl rfl rfl rfl ?_
      refine XL.q (q_pickF rfl rfl) rfl ?_
      refine XL.fin (kp 0 rfl (kp 1 rfl (kp 2 rfl (kp 7 rfl (kp 27 rfl kn))))) ?_
      refine XC.condF rfl ?_
      refine XC.skip ?_
      refine nx (kp 0 rfl (kp 1 rfl (kp 2 rfl kn))) ?_
      refine XC.reg ?_
      refine XL.q (q_move rfl) rfl ?_
      refine XL.q (q_move rfl) rfl ?_
      refine XL.q (q_move rfl) rfl ?_
      refine XL.lo rfl (l_buildSlice (e := 3) (sz := 1) (z := [.int .i64 0, .int .i64 0]) (by kernel_rfl) (eS rfl (eS rfl e0)) (bdS 0 1 rfl (by rfl) (bdS 1 1 rfl (by rfl) bd0)) rfl fun b43 => ?_)
      refine XL.q (q_build (place := fun x => #[(0, 1), (1, 1), (2, 1), (3, 1)][x]?) (z := [.int .u8 0, .slice none 0 0, .string ByteArray.empty, .int .i64 0]) (fun _ => by kernel_rfl) (eS rfl (eS rfl (eS rfl e0))) (bdS 0 1 rfl (by rfl) (bdS 1 1 rfl (by rfl) (bdS 3 1 rfl (by rfl) bd0)))) rfl ?_
      refine XL.lo rfl (l_call (Mc := MT) (R := _) (aS rfl (aS rfl a0)) (by kernel_rfl) PickC.perm (putT_spec bt bm ts _ ⟨4, [s, o], [], 1⟩ MT _ hT hn (Rd.whole (n := 2) At.mem (by first | rfl | exact (ints_len _).trans (srt_len _ _))) (ag_ok (s := s) (o := o) rfl (fun q hq => by simp at hq; rcases hq with rfl | rfl <;> assumption) (.inr rfl)) (SubC.sub _ h4)) rfl ?_)
      rintro v45 M45 J45 ⟨rfl, rfl, hT45⟩
      refine XL.q (q_assign rfl) rfl ?_
      refine XL.fin (kp 6 rfl kn) ?_
      refine XC.ret ?_
      exact ⟨_, M45, [], res1 rfl rfl, by first | exact List.Sublist.refl _ | simp, by simp, rfl, by rw [hag], by rw [hag]; exact hT45⟩
  ·
    have hag := agT_no (s := s) (hno hb)
    refine XL.gn rfl rfl rfl rfl ?_
    refine XL.gn rfl rfl rfl rfl ?_
    refine XL.gn rfl rfl rfl rfl ?_
    refine XL.q (q_pickF rfl rfl) rfl ?_
    refine XL.q (q_move rfl) rfl ?_
    refine XL.gn rfl rfl rfl rfl ?_
    refine XL.gn rfl rfl rfl rfl ?_
    refine XL.gn rfl rfl rfl rfl ?_
    refine XL.gn rfl rfl rfl rfl ?_
    refine XL.q (q_pickF rfl rfl) rfl ?_
    refine XL.fin (kp 0 rfl (kp 1 rfl (kp 2 rfl (kp 7 rfl (kp 27 rfl kn))))) ?_
    refine XC.condF rfl ?_
    refine XC.skip ?_
    refine nx (kp 0 rfl (kp 1 rfl (kp 2 rfl kn))) ?_
    refine XC.reg ?_
    refine XL.q (q_move rfl) rfl ?_
    refine XL.q (q_move rfl) rfl ?_
    refine XL.q (q_move rfl) rfl ?_
    refine XL.lo rfl (l_buildSlice (e := 3) (sz := 1) (z := [.int .i64 0, .int .i64 0]) (by kernel_rfl) (eS rfl (eS rfl e0)) (bdS 0 1 rfl (by rfl) (bdS 1 1 rfl (by rfl) bd0)) rfl fun b43 => ?_)
    refine XL.q (q_build (place := fun x => #[(0, 1), (1, 1), (2, 1), (3, 1)][x]?) (z := [.int .u8 0, .slice none 0 0, .string ByteArray.empty, .int .i64 0]) (fun _ => by kernel_rfl) (eS rfl (eS rfl (eS rfl e0))) (bdS 0 1 rfl (by rfl) (bdS 1 1 rfl (by rfl) (bdS 3 1 rfl (by rfl) bd0)))) rfl ?_
    refine XL.lo rfl (l_call (Mc := MT) (R := _) (aS rfl (aS rfl a0)) (by kernel_rfl) PickC.perm (putT_spec bt bm ts _ ⟨4, [s, o], [], 1⟩ MT _ hT hn (Rd.whole (n := 2) At.mem (by first | rfl | exact (ints_len _).trans (srt_len _ _))) (ag_ok (s := s) (o := o) rfl (fun q hq => by simp at hq; rcases hq with rfl | rfl <;> assumption) (.inr rfl)) (SubC.sub _ h4)) rfl ?_)
    rintro v45 M45 J45 ⟨rfl, rfl, hT45⟩
    refine XL.q (q_assign rfl) rfl ?_
    refine XL.fin (kp 6 rfl kn) ?_
    refine XC.ret ?_
    exact ⟨_, M45, [], res1 rfl rfl, by first | exact List.Sublist.refl _ | simp, by simp, rfl, by rw [hag], by rw [hag]; exact hT45⟩

end Go.Proofs.YthmnlkpikgglbaaGreatDoor
/-
  Slices of unsigned numbers that came in.
-/
set_option linter.unusedVariables false
set_option linter.unusedSimpArgs false
namespace Go.Px
theorem wf_u {k : IntKind} (hk : k.signed = false) {n : Int} (h : (Lit.int k n).wf = true) : 0 ≤ n ∧ n < 2 ^ k.bits := by
  cases k <;> simp_all [Lit.wf, IntKind.min, IntKind.max, IntKind.bits, IntKind.signed] <;> omega
theorem row_nums {k : IntKind} (hk : k.signed = false) {w : World} {a : Option Addr} {len cap : Nat} {zs : List Int}
    (h : (a = none ∧ len = 0 ∧ cap = 0 ∧ zs = []) ∨ ∃ x, a = some x ∧ len ≤ cap ∧ cap ≤ maxLen ∧ zs.length = cap ∧ (∀ i, i < zs.length → w.cell? (x.add i) = some (.int k (zs.getD i 0))) ∧ ∀ n ∈ zs, (Lit.int k n).wf = true) :
    ∃ A ws, Fx A w ∧ Rd A 1 (.slice a len cap) ws.length (nums k ws) ∧ (∀ x ∈ ws, x < 2 ^ k.bits) ∧ ws.length ≤ maxLen := by
  obtain ⟨A, hf, hr, hl, hm, hw⟩ := row_rd h
  obtain ⟨ws, e, h1⟩ := nats_of (k := k) (zs := zs.take len) fun n hn => (wf_u hk (hw n hn)).1
  have hlen : ws.length = len := by
    have := congrArg List.length e
    simp only [List.length_map, nums_len] at this
    omega
  refine ⟨A, ws, hf, ?_, fun x hx => ?_, by omega⟩
  · rw [hlen, ← e]; exact hr
  · have := (wf_u hk (hw _ (h1 x hx))).2
    have h2 : ((x : Nat) : Int) < ((2 ^ k.bits : Nat) : Int) := by simpa using this
    exact Int.ofNat_lt.1 h2
theorem fx_app {A B : Mem} {w : World} (h1 : Fx A w) (h2 : Fx B w) : Fx (A ++ B) w := fun b o hb => (List.mem_append.1 hb).elim (h1 b o) (h2 b o)
theorem fx_one {b : Nat} {o : Obj} {w : World} (h : w.heap[b]? = some o) : Fx [(b, o)] w := fun b' o' hb => by cases List.mem_singleton.1 hb; exact h
end Go.Px

/-
  Arguments that came in, by their types: what the engine's rules ask of them.
-/
set_option linter.unusedVariables false
set_option linter.unusedSimpArgs false
namespace Go.Px
open Go.ChangeShapes Go.WideShapes Go.ChangeAt Go.RowKit
/-- All that lies in a world. -/
def heapA (w : World) : Mem := (List.range w.heap.size).filterMap fun b => (w.heap[b]?).map fun o => (b, o)
theorem heapA_mem {w : World} {b : Nat} {o : Obj} : (b, o) ∈ heapA w ↔ w.heap[b]? = some o := by
  simp only [heapA, List.mem_filterMap, List.mem_range, Option.map_eq_some_iff, Prod.mk.injEq]
  constructor
  · rintro ⟨x, _, y, h, rfl, rfl⟩; exact h
  · intro h; exact ⟨b, lt_of_heap h, o, h, rfl, rfl⟩
theorem heapA_fx (w : World) : Fx (heapA w) w := fun b o h => heapA_mem.1 h
section
variable {H : Type} {enc : TypeId × Value → H} {P : Program} {w : World} {spare : Nat → Bool} {held : Bool} {fuel : Nat} {t e : TypeId} {cs : List Value} {x : DataW H × List MemPlace} {v : Value} {d : DataW H} {p : List MemPlace} {r : Reach} {base : Nat} {k : IntKind}
theorem cells_get {a : Addr} {n : Nat} {c : List Value} (h : w.cells? 0 a n = some c) : c.length = n ∧ ∀ j, j < n → w.cell? (a.add j) = c[j]? := by
  unfold World.cells? at h
  rw [if_pos (Nat.zero_le _)] at h
  exact ⟨by simpa using mapM_some_length h, fun j hj => mapM_some_get h j j (by simp [hj])⟩
theorem in_slice {sz : Nat} (ht : P.underlying t = some (.slice e)) (hsz : P.cellsOf e = sz) (hs0 : 0 < sz) (h : DataW.trod enc P w 0 spare held fuel t cs = some x) :
    ∃ (v : Value) (xss : List (List Value)), cs = [v] ∧ xss.length ≤ maxLen ∧ Rd (heapA w) sz v xss.length xss.flatten ∧ ∀ c ∈ xss, c.length = sz ∧ ∃ m y, DataW.trod enc P w 0 spare held m e c = some y := by
  rcases DataW.trod_slice ht h with ⟨rfl, _⟩ | ⟨a, len, cap, elems, rest, n, _, rfl, _, _, hl, hm, hlen, hel, _, _⟩
  · exact ⟨_, [], rfl, by simp, Rd.nil, fun c hc => by cases hc⟩
  · rw [hsz] at hel
    have hrow : ∀ i, i < len → ∃ c y, w.cells? 0 (a.add (i * sz)) sz = some c ∧ DataW.trod enc P w 0 spare held n e c = some y := by
      intro i hi
      have h1 := hel i hi
      rw [List.getElem?_eq_getElem (by omega)] at h1
      obtain ⟨c, h2, h3⟩ := Option.bind_eq_some_iff.1 h1
      exact ⟨c, _, h2, h3⟩
    have hget : ∀ i, i < len → ((List.range len).map fun i => (w.cells? 0 (a.add (i * sz)) sz).getD [])[i]? = some ((w.cells? 0 (a.add (i * sz)) sz).getD []) := by
      intro i hi; simp [hi]
    have hlen2 : ∀ c ∈ (List.range len).map (fun i => (w.cells? 0 (a.add (i * sz)) sz).getD []), c.length = sz ∧ ∃ m y, DataW.trod enc P w 0 spare held m e c = some y := by
      intro c hc
      obtain ⟨i, hi, rfl⟩ := List.mem_map.1 hc
      obtain ⟨c, y, h1, h2⟩ := hrow i (List.mem_range.1 hi)
      rw [h1, Option.getD_some]
      exact ⟨(cells_get h1).1, n, y, h2⟩
    refine ⟨_, (List.range len).map fun i => (w.cells? 0 (a.add (i * sz)) sz).getD [], rfl, by simp; omega, ?_, hlen2⟩
    have hl1 : ((List.range len).map fun i => (w.cells? 0 (a.add (i * sz)) sz).getD []).length = len := by simp
    have hfl := flat_len (rows := (List.range len).map fun i => (w.cells? 0 (a.add (i * sz)) sz).getD []) (s := sz) fun c hc => (hlen2 c hc).1
    rw [hl1]
    rw [hl1] at hfl
    by_cases h0 : len * sz = 0
    · refine ⟨some a, cap, rfl, hfl, hl, .inl ?_⟩
      rcases Nat.mul_eq_zero.1 h0 with h | h <;> omega
    · have hlp : 0 < len := Nat.pos_of_ne_zero (by rintro rfl; simp at h0)
      have hsp : 0 < sz := Nat.pos_of_ne_zero (by rintro rfl; simp at h0)
      obtain ⟨c0, y0, h1, _⟩ := hrow 0 hlp
      have h2 := (cells_get h1).2 0 hsp
      have h3 := (cells_get h1).1
      obtain ⟨b, o, sp⟩ := a
      have hadd : ((⟨b, o, sp⟩ : Addr).add (0 * sz)).add 0 = ⟨b, o, sp⟩ := by simp [Addr.add]
      rw [hadd, List.getElem?_eq_getElem (by omega)] at h2
      cases hb : w.heap[b]? with
      | none => simp [World.cell?, hb] at h2
      | some ob =>
        cases ob <;> simp [World.cell?, hb] at h2
        rename_i cells et fr
        obtain ⟨rfl, h2⟩ := h2
        refine ⟨_, cap, rfl, hfl, hl, .inr ⟨b, o, cells.toList, et, fr, rfl, heapA_mem.2 (by simpa using hb), fun j u hj => ?_⟩⟩
        have hjl : j < len * sz := by have := (List.getElem?_eq_some_iff.1 hj).1; rwa [hfl] at this
        have hi : j / sz < len := Nat.div_lt_of_lt_mul (by rw [Nat.mul_comm]; exact hjl)
        have hr : j % sz < sz := Nat.mod_lt _ hsp
        have hj2 := flat_get (fun c hc => (hlen2 c hc).1) (hget _ hi) (j % sz) hr
        have ej : j / sz * sz + j % sz = j := by rw [Nat.mul_comm]; exact Nat.div_add_mod j sz
        rw [ej, hj] at hj2
        obtain ⟨c, y, h5, _⟩ := hrow _ hi
        rw [h5, Option.getD_some] at hj2
        have h6 := (cells_get h5).2 _ hr
        rw [← hj2, Addr.add_mid, Addr.add_mid, World.cell?, hb] at h6
        simp only [Option.isSome_none, Bool.false_eq_true, if_false] at h6
        rw [Array.getElem?_toList, show o + j = o + j / sz * sz + j % sz by omega, h6]
/-! ### Scalars -/
theorem nat_of_wf (hk : k.signed = false) {n : Int} (h : (Lit.int k n).wf = true) : ∃ m : Nat, n = (m : Int) ∧ m < 2 ^ k.bits := by
  obtain ⟨h1, h2⟩ := wf_u hk h
  obtain ⟨m, rfl⟩ := Int.eq_ofNat_of_zero_le h1
  refine ⟨m, rfl, ?_⟩
  have h3 : ((m : Nat) : Int) < ((2 ^ k.bits : Nat) : Int) := by simpa using h2
  exact Int.ofNat_lt.1 h3
theorem cells_scalar {u : Value} (h : v.cells.toList = [u]) (hv : ∀ cs, v ≠ .agg cs) : v = u := by
  cases v <;> simp [Value.cells] at h <;> first | exact h | exact absurd rfl (hv _)
theorem inU (ht : P.underlying t = some (.int k)) (hk : k.signed = false) (hv : Value.okWide P w r base t v) (h : DataW.Trod enc P w 0 spare held t v d p) : ∃ n : Nat, v = .int k (n : Int) ∧ n < 2 ^ k.bits := by
  obtain ⟨n, rfl⟩ := okWide_int ht hv
  obtain ⟨f, hf⟩ := h
  obtain ⟨m, h1, _, h2⟩ := DataW.trod_int ht hf
  obtain ⟨q, rfl, h3⟩ := nat_of_wf hk h2
  exact ⟨q, by simpa [Value.cells] using h1, h3⟩
theorem inI (ht : P.underlying t = some (.int k)) (hv : Value.okWide P w r base t v) (h : DataW.Trod enc P w 0 spare held t v d p) : ∃ n : Int, v = .int k n ∧ (Lit.int k n).wf = true := by
  obtain ⟨n, rfl⟩ := okWide_int ht hv
  obtain ⟨f, hf⟩ := h
  obtain ⟨m, h1, _, h2⟩ := DataW.trod_int ht hf
  exact ⟨m, by simpa [Value.cells] using h1, h2⟩
theorem inB (ht : P.underlying t = some .bool) (hv : Value.okWide P w r base t v) : ∃ b, v = .bool b := okWide_bool ht hv
theorem inS (ht : P.underlying t = some .string) (hv : Value.okWide P w r base t v) (h : DataW.Trod enc P w 0 spare held t v d p) : ∃ s, v = .string s ∧ s.size ≤ maxLen := by
  obtain ⟨n, rfl⟩ := okWide_string ht hv
  obtain ⟨f, hf⟩ := h
  obtain ⟨m, h1, _, h2⟩ := DataW.trod_string ht hf
  exact ⟨m, by simpa [Value.cells] using h1, h2⟩
/-! ### Slices and arrays -/
theorem uints_of (hk : k.signed = false) (he : P.underlying e = some (.int k)) {xss : List (List Value)} (h : ∀ c ∈ xss, c.length = 1 ∧ ∃ m y, DataW.trod enc P w 0 spare held m e c = some y) :
    ∃ ws : List Nat, xss.flatten = nums k ws ∧ ws.length = xss.length ∧ ∀ x ∈ ws, x < 2 ^ k.bits := by
  induction xss with
  | nil => exact ⟨[], rfl, rfl, fun x hx => by cases hx⟩
  | cons c xss ih =>
    obtain ⟨ws, h1, h2, h3⟩ := ih fun c hc => h c (by simp [hc])
    obtain ⟨_, m, y, h4⟩ := h c (by simp)
    obtain ⟨n, rfl, _, h5⟩ := DataW.trod_int he h4
    obtain ⟨q, rfl, h6⟩ := nat_of_wf hk h5
    refine ⟨q :: ws, by rw [List.flatten_cons, h1]; rfl, by simp [h2], fun x hx => ?_⟩
    rcases List.mem_cons.1 hx with rfl | hx
    · exact h6
    · exact h3 x hx
theorem inSlU (ht : P.underlying t = some (.slice e)) (he : P.underlying e = some (.int k)) (hc : P.cellsOf e = 1) (hk : k.signed = false) (hv : Value.okWide P w r base t v) (h : DataW.Trod enc P w 0 spare held t v d p) :
    ∃ ws, Rd (heapA w) 1 v ws.length (nums k ws) ∧ (∀ x ∈ ws, x < 2 ^ k.bits) ∧ ws.length ≤ maxLen := by
  obtain ⟨a, len, cap, rfl⟩ := okWide_slice ht hv
  obtain ⟨f, hf⟩ := h
  obtain ⟨v, xss, h1, h2, h3, h4⟩ := in_slice ht hc (by decide) hf
  obtain ⟨ws, h5, h6, h7⟩ := uints_of hk he h4
  obtain rfl : Value.slice a len cap = v := by simpa [Value.cells] using h1
  exact ⟨ws, by rw [h6, ← h5]; exact h3, h7, by omega⟩
theorem inArrU {n : Nat} (ht : P.underlying t = some (.array n e)) (he : P.underlying e = some (.int k)) (hc : P.cellsOf e = 1) (hct : P.cellsOf t = n) (hk : k.signed = false) (hv : Value.okWide P w r base t v) (h : DataW.Trod enc P w 0 spare held t v d p) :
    ∃ ws, v = .agg (nums k ws).toArray ∧ ws.length = n ∧ ∀ x ∈ ws, x < 2 ^ k.bits := by
  have hv2 := hv
  simp only [Value.okWide, ht] at hv2
  obtain ⟨cs, rfl, _⟩ := hv2
  obtain ⟨f, hf⟩ := h
  obtain ⟨xs, m, _, _, h1, h2, h3⟩ := DataW.trod_array ht hf
  have hcs : (Value.agg cs).cells.toList = cs.toList := by simp [Value.cells]
  rw [hcs] at h1 h3
  rw [hc] at h3
  have hfl : ((List.range n).map fun i => ((cs.toList.drop (i * 1)).take 1)).flatten = cs.toList := by
    apply List.ext_getElem?
    intro j
    have hlen : ∀ c ∈ (List.range n).map (fun i => ((cs.toList.drop (i * 1)).take 1)), c.length = 1 := by
      intro c hc
      obtain ⟨i, hi, rfl⟩ := List.mem_map.1 hc
      have := List.mem_range.1 hi
      simp at h1
      simp; omega
    by_cases hj : j < n
    · have := flat_get hlen (k := j) (r := (cs.toList.drop (j * 1)).take 1) (by simp [hj]) 0 (by decide)
      rw [show j * 1 + 0 = j by omega] at this
      rw [this, List.getElem?_take_of_lt (by decide), List.getElem?_drop]
      congr 1; omega
    · have h5 := flat_len hlen
      rw [List.length_map, List.length_range] at h5
      rw [List.getElem?_eq_none (by omega), List.getElem?_eq_none (by omega)]
  obtain ⟨ws, h5, h6, h7⟩ := uints_of (e := e) (xss := (List.range n).map fun i => ((cs.toList.drop (i * 1)).take 1)) (enc := enc) (P := P) (w := w) (spare := spare) (held := held) hk he (by
    intro c hcm
    obtain ⟨i, hi, rfl⟩ := List.mem_map.1 hcm
    have hi := List.mem_range.1 hi
    have h8 := h3 i hi
    rw [List.getElem?_eq_getElem (by omega)] at h8
    refine ⟨?_, m, _, h8⟩
    simp at h1
    simp; omega)
  rw [hfl] at h5
  refine ⟨ws, ?_, by simpa using h6, h7⟩
  rw [← h5]
end
end Go.Px

/-
  Slices of byte slices.
-/
set_option linter.unusedVariables false
set_option linter.unusedSimpArgs false
namespace Go.Px
open Go.ChangeShapes Go.WideShapes Go.ChangeAt Go.RowKit
/-- The values 'vs' are slices of the bytes 'ls'. -/
structure Bys (R : Mem) (vs : List Value) (ls : List (List Nat)) : Prop where
  len : vs.length = ls.length
  get : ∀ (j : Nat) (w : List Nat), ls[j]? = some w → ∃ v, vs[j]? = some v ∧ Rd R 1 v w.length (nums .u8 w) ∧ (∀ x ∈ w, x < 256) ∧ w.length ≤ maxLen
theorem Bys.mono {R R' : Mem} {vs : List Value} {ls : List (List Nat)} (h : Bys R vs ls) (hR : ∀ x, x ∈ R → x ∈ R') : Bys R' vs ls := ⟨h.len, fun j w hj => by
  obtain ⟨v, h1, h2, h3, h4⟩ := h.get j w hj
  exact ⟨v, h1, h2.mono hR, h3, h4⟩⟩
theorem Bys.at {R : Mem} {vs : List Value} {ls : List (List Nat)} (h : Bys R vs ls) {j : Nat} (hj : j < ls.length) : ∃ v, vs[j]? = some v ∧ Rd R 1 v ls[j].length (nums .u8 ls[j]) ∧ B256 ls[j] ∧ ls[j].length ≤ maxLen := by
  obtain ⟨v, h1, h2, h3, h4⟩ := h.get j ls[j] (List.getElem?_eq_getElem hj)
  exact ⟨v, h1, h2, ⟨h3⟩, h4⟩
theorem Bys.nil {R : Mem} : Bys R [] [] := ⟨rfl, fun j w h => by simp at h⟩
theorem Bys.snoc {R : Mem} {vs : List Value} {ls : List (List Nat)} (h : Bys R vs ls) {v : Value} {w : List Nat} (hv : Rd R 1 v w.length (nums .u8 w)) (hb : ∀ x ∈ w, x < 256) (hl : w.length ≤ maxLen) : Bys R (vs ++ [v]) (ls ++ [w]) := ⟨by simp [h.len], fun j u hj => by
  by_cases hlt : j < ls.length
  · rw [List.getElem?_append_left hlt] at hj
    obtain ⟨v', h1, h2⟩ := h.get j u hj
    exact ⟨v', by rw [List.getElem?_append_left (List.getElem?_eq_some_iff.1 h1).1]; exact h1, h2⟩
  · rw [List.getElem?_append_right (by omega)] at hj
    have hj0 : j = ls.length := by
      have := (List.getElem?_eq_some_iff.1 hj).1
      simp at this; omega
    subst hj0
    simp at hj
    subst hj
    exact ⟨v, by rw [List.getElem?_append_right (by rw [h.len]; omega), h.len]; simp, hv, hb, hl⟩⟩
theorem Bys.cons {R : Mem} {vs : List Value} {ls : List (List Nat)} (h : Bys R vs ls) {v : Value} {w : List Nat} (hv : Rd R 1 v w.length (nums .u8 w)) (hb : ∀ x ∈ w, x < 256) (hl : w.length ≤ maxLen) : Bys R (v :: vs) (w :: ls) := ⟨by simp [h.len], fun j u hj => by
  cases j with
  | zero => simp at hj; subst hj; exact ⟨v, rfl, hv, hb, hl⟩
  | succ j => exact h.get j u hj⟩
theorem Bys.one {R : Mem} {vs : List Value} {ls : List (List Nat)} (h : Bys R vs ls) : ∀ c ∈ vs, c.oneCell' = true := by
  intro c hc
  obtain ⟨j, hj⟩ := List.getElem?_of_mem hc
  have hlt := (List.getElem?_eq_some_iff.1 hj).1
  rw [h.len] at hlt
  obtain ⟨v, h1, h2, _⟩ := h.at hlt
  rw [hj] at h1
  cases h1
  obtain ⟨p, cap, rfl, _⟩ := h2
  rfl
section
variable {H : Type} {enc : TypeId × Value → H} {P : Program} {w : World} {spare : Nat → Bool} {held : Bool} {fuel : Nat} {t e e' : TypeId} {cs : List Value} {x : DataW H × List MemPlace} {v : Value} {d : DataW H} {p : List MemPlace} {r : Reach} {base : Nat}
theorem bys_of (he : P.underlying e = some (.slice e')) (he' : P.underlying e' = some (.int .u8)) (hc' : P.cellsOf e' = 1) {xss : List (List Value)} (h : ∀ c ∈ xss, c.length = 1 ∧ ∃ m y, DataW.trod enc P w 0 spare held m e c = some y) :
    ∃ (vs : List Value) (ls : List (List Nat)), xss.flatten = vs ∧ ls.length = xss.length ∧ Bys (heapA w) vs ls := by
  induction xss with
  | nil => exact ⟨[], [], rfl, rfl, .nil⟩
  | cons c xss ih =>
    obtain ⟨vs, ls, h1, h2, h3⟩ := ih fun c hc => h c (by simp [hc])
    obtain ⟨_, m, y, h4⟩ := h c (by simp)
    obtain ⟨v, yss, rfl, g2, g3, g4⟩ := in_slice he hc' (by decide) h4
    obtain ⟨ws, k1, k2, k3⟩ := uints_of (k := .u8) rfl he' g4
    refine ⟨v :: vs, ws :: ls, by rw [List.flatten_cons, h1]; rfl, by simp [h2], h3.cons ?_ k3 (by omega)⟩
    rw [k2, ← k1]; exact g3
theorem inBys (ht : P.underlying t = some (.slice e)) (hc : P.cellsOf e = 1) (he : P.underlying e = some (.slice e')) (he' : P.underlying e' = some (.int .u8)) (hc' : P.cellsOf e' = 1) (hv : Value.okWide P w r base t v) (h : DataW.Trod enc P w 0 spare held t v d p) :
    ∃ (vs : List Value) (ls : List (List Nat)), Rd (heapA w) 1 v ls.length vs ∧ Bys (heapA w) vs ls ∧ ls.length ≤ maxLen := by
  obtain ⟨a, len, cap, rfl⟩ := okWide_slice ht hv
  obtain ⟨f, hf⟩ := h
  obtain ⟨v, xss, h1, h2, h3, h4⟩ := in_slice ht hc (by decide) hf
  obtain ⟨vs, ls, h5, h6, h7⟩ := bys_of he he' hc' h4
  obtain rfl : Value.slice a len cap = v := by simpa [Value.cells] using h1
  exact ⟨vs, ls, by rw [h6, ← h5]; exact h3, h7, by omega⟩
end
end Go.Px

/-
  Owned blocks that are read alone from now on; byte slices to be read; copy of a part.
-/
set_option linter.unusedVariables false
set_option linter.unusedSimpArgs false
namespace Go.Px
section
variable {C : Cx} {Q : XQ} {l : Env} {M J B R M' : Mem} {w : World}
theorem St.freezes (h : St C (B ++ M) J w) : St C M (B ++ J) w := by
  induction B generalizing J with
  | nil => exact h
  | cons x B ih =>
    have h1 := ih (J := x :: J) (St.freeze (by simpa using h))
    refine h1.drop (List.Sublist.refl _) fun y hy => ?_
    simp only [List.cons_append, List.mem_cons, List.mem_append] at hy ⊢
    rcases hy with h | h | h <;> simp [h]
theorem St.frz (hp : M.Perm (B ++ M')) (h : St C M J w) : St C M' (B ++ J) w := (h.perm hp).freezes
theorem XC.frz {c : Code} (hp : M.Perm (B ++ M')) (h : XC C c Q l M' (B ++ J)) : XC C c Q l M J := fun a w ha hw => h a w ha (hw.frz hp)
theorem XL.frz {ops : Array Oper} {rest : List Oper} (hp : M.Perm (B ++ M')) (h : XL C ops rest Q l M' (B ++ J)) : XL C ops rest Q l M J := fun a w ha hw => h a w ha (hw.frz hp)
theorem XK.frz {os : List Oper} {K : Nat → Prop} {n0 : Nat} {nd : List Nat} {plan : List (Nat × Nat)} (hp : M.Perm (B ++ M')) (h : XK C os Q K n0 nd plan l M' (B ++ J)) : XK C os Q K n0 nd plan l M J :=
  fun listed hcl hpl a w ha hw hn => h listed hcl hpl a w ha (hw.frz hp) hn
theorem XF.frz {os : List Oper} {nd : List Nat} {plan : List (Nat × Nat)} (hp : M.Perm (B ++ M')) (h : XF C os Q nd plan l M' (B ++ J)) : XF C os Q nd plan l M J := XK.frz hp h
end
/-- What was made is read alone from the return on. -/
theorem FnX.frz {P : Program} {f : FuncId} {args : List Value} {M A : Mem} {post : Value → Mem → Mem → Mem → Prop} (h : FnX P f args M A fun r M' J => ∃ B M1, M'.Perm (B ++ M1) ∧ post r B M1 J) : FnX P f args M A fun r M1 J1 => ∃ B J, J1 = B ++ J ∧ post r B M1 J := by
  intro w hw
  refine Calls.mono (h w hw) ?_
  rintro e w' ⟨v, M', J, rfl, ⟨B, M1, hp, hq⟩, hs⟩
  exact ⟨v, M1, B ++ J, rfl, ⟨B, J, rfl, hq⟩, hs.frz hp⟩
theorem FnX.frz0 {P : Program} {f : FuncId} {args : List Value} {A : Mem} {φ : Value → Mem → Prop} (h : FnX P f args [] A fun r M J => J = [] ∧ φ r M) : FnX P f args [] A fun r M J => M = [] ∧ φ r J := by
  intro w hw
  refine Calls.mono (h w hw) ?_
  rintro e w' ⟨v, M', J, rfl, ⟨rfl, hq⟩, hs⟩
  exact ⟨v, [], M', rfl, ⟨rfl, hq⟩, by have := St.frz (B := M') (M' := []) (by simp) hs; simpa using this⟩
/-- A slice of bytes, to be read. -/
structure By (R : Mem) (v : Value) (w : List Nat) : Prop where
  rd : Rd R 1 v w.length (nums .u8 w)
  lt : ∀ x ∈ w, x < 256
  len : w.length ≤ 16777216
theorem By.mono {R R' : Mem} {v : Value} {w : List Nat} (h : By R v w) (hR : ∀ x, x ∈ R → x ∈ R') : By R' v w := ⟨h.rd.mono hR, h.lt, h.len⟩
theorem By.b256 {R : Mem} {v : Value} {w : List Nat} (h : By R v w) : B256 w := ⟨h.lt⟩
theorem By.one {R : Mem} {v : Value} {w : List Nat} (h : By R v w) : v.oneCell' = true := h.rd.one
theorem By.cel {R : Mem} {v : Value} {w : List Nat} (h : By R v w) : Cel v [v] := h.rd.cel
theorem By.nil {R : Mem} : By R (.slice none 0 0) [] := ⟨Rd.nil, (fun x h => by cases h), by decide⟩
theorem By.max {R : Mem} {v : Value} {w : List Nat} (h : By R v w) : w.length ≤ maxLen := Nat.le_trans h.len (by unfold maxLen; omega)
/-- Slices of bytes, to be read. -/
structure Lst (R : Mem) (vs : List Value) (ls : List (List Nat)) : Prop where
  len : vs.length = ls.length
  get : ∀ (j : Nat) (w : List Nat), ls[j]? = some w → ∃ v, vs[j]? = some v ∧ By R v w
theorem Lst.mono {R R' : Mem} {vs : List Value} {ls : List (List Nat)} (h : Lst R vs ls) (hR : ∀ x, x ∈ R → x ∈ R') : Lst R' vs ls := ⟨h.len, fun j w hj => by
  obtain ⟨v, h1, h2⟩ := h.get j w hj
  exact ⟨v, h1, h2.mono hR⟩⟩
theorem Lst.at {R : Mem} {vs : List Value} {ls : List (List Nat)} (h : Lst R vs ls) {j : Nat} (hj : j < ls.length) : ∃ v, vs[j]? = some v ∧ By R v ls[j] := h.get j ls[j] (List.getElem?_eq_getElem hj)
theorem Lst.nil {R : Mem} : Lst R [] [] := ⟨rfl, fun j w h => by simp at h⟩
theorem Lst.cons {R : Mem} {vs : List Value} {ls : List (List Nat)} {v : Value} {w : List Nat} (hv : By R v w) (h : Lst R vs ls) : Lst R (v :: vs) (w :: ls) := ⟨by simp [h.len], fun j u hj => by
  cases j with
  | zero => simp at hj; subst hj; exact ⟨v, rfl, hv⟩
  | succ j => exact h.get j u hj⟩
theorem Lst.snoc {R : Mem} {vs : List Value} {ls : List (List Nat)} (h : Lst R vs ls) {v : Value} {w : List Nat} (hv : By R v w) : Lst R (vs ++ [v]) (ls ++ [w]) := ⟨by simp [h.len], fun j u hj => by
  by_cases hlt : j < ls.length
  · rw [List.getElem?_append_left hlt] at hj
    obtain ⟨v', h1, h2⟩ := h.get j u hj
    exact ⟨v', by rw [List.getElem?_append_left (List.getElem?_eq_some_iff.1 h1).1]; exact h1, h2⟩
  · rw [List.getElem?_append_right (by omega)] at hj
    have hj0 : j = ls.length := by
      have := (List.getElem?_eq_some_iff.1 hj).1
      simp at this; omega
    subst hj0
    simp at hj
    subst hj
    exact ⟨v, by rw [List.getElem?_append_right (by rw [h.len]; omega), h.len]; simp, hv⟩⟩
theorem Lst.one {R : Mem} {vs : List Value} {ls : List (List Nat)} (h : Lst R vs ls) : ∀ c ∈ vs, c.oneCell' = true := by
  intro c hc
  obtain ⟨j, hj⟩ := List.getElem?_of_mem hc
  have hlt := (List.getElem?_eq_some_iff.1 hj).1
  rw [h.len] at hlt
  obtain ⟨v, h1, h2⟩ := h.at hlt
  rw [hj] at h1
  cases h1
  exact h2.one
/-- A slice of slices of bytes, to be read. -/
structure LsV (R : Mem) (v : Value) (ls : List (List Nat)) : Prop where
  ex : ∃ vs, Rd R 1 v ls.length vs ∧ Lst R vs ls
theorem LsV.mono {R R' : Mem} {v : Value} {ls : List (List Nat)} (h : LsV R v ls) (hR : ∀ x, x ∈ R → x ∈ R') : LsV R' v ls := by
  obtain ⟨vs, h1, h2⟩ := h.ex
  exact ⟨vs, h1.mono hR, h2.mono hR⟩
theorem LsV.nil {R : Mem} : LsV R (.slice none 0 0) [] := ⟨[], Rd.nil, Lst.nil⟩
theorem LsV.cel {R : Mem} {v : Value} {ls : List (List Nat)} (h : LsV R v ls) : Cel v [v] := by
  obtain ⟨vs, h1, _⟩ := h.ex
  exact h1.cel
section loud
variable {C : Cx} {l : Env} {M J : Mem} {K : Env → Mem → Mem → Prop} {d : Nat} {ty t e : TypeId} {pos : String} {af : Array Edge} {g : Option (Nat × Bool)} {x y : Operand}
/-- copy of a part, into the whole of an owned array of numbers. -/
theorem l_copyP {b m n : Nat} {u : Value} {k : IntKind} {ws us ws' : List Nat} {e' : TypeId} {by_ : Nat} {M' : Mem} (hx : ev l x = some (.slice (some ⟨b, 0, none⟩) m m)) (hy : ev l y = some u) (ht : elemT C.P t = some (e, 1, by_))
    (hr : Rd (M ++ (J ++ C.A)) 1 u n (nums k us)) (hm : ws.length = m) (hw' : ws' = us.take m ++ ws.drop n) (hu : Upd M b (blk (nums k ws) e') (blk (nums k ws') e') M') (hd : Nat.blt d C.N = true) (h : K ((d, .int .i64 ((min n m : Nat) : Int)) :: l) M' J) :
    OpL C ⟨some d, .call { callee := .builtin .copy, args := #[x, y], argTypes := #[t, t] }, ty, pos, af, g⟩ l M J K := by
  intro Qp a w ha hw
  obtain ⟨i, z, hut, hi, hz, hzs, his, hib⟩ := elemT_spec ht
  obtain ⟨pu, cu, rfl, hul, huc, hub⟩ := hr
  have hru : Rd (M ++ (J ++ C.A)) 1 (.slice pu n cu) n (nums k us) := ⟨pu, cu, rfl, hul, huc, hub⟩
  have hb := hw.mem _ _ (List.mem_append_left _ hu.mem)
  have hf := first_rd (P := C.P) (m := n) (c2 := cu) (hru.hi (min n m) (Nat.min_le_left _ _)) hw.fx
  have hus : us.length = n := by simpa using hul
  rw [Nat.mul_one, show (nums k us).take (min n m) = nums k (us.take (min n m)) by simp [nums]] at hf
  have hst := run_storeCells_at (P := C.P) b 0 e' (nums k (us.take (min n m))) 0 (nums k ws).toArray w hb (by simp [hus, hm]; omega) nums_one
  simp only [Nat.add_zero, Nat.zero_add, List.take_zero, List.nil_append, nums_len, List.length_take, hus] at hst
  rw [← nums_drop, ← nums_append] at hst
  have e1 : us.take (min n m) ++ ws.drop (min (min n m) n) = ws' := by
    rw [hw']
    rcases Nat.le_total m n with h | h
    · rw [Nat.min_eq_right h, Nat.min_eq_left h, List.drop_of_length_le (l := ws) (i := m) (by omega), List.drop_of_length_le (l := ws) (i := n) (by omega)]
    · rw [Nat.min_eq_left h, Nat.min_self, List.take_of_length_le (l := us) (i := n) (by omega), List.take_of_length_le (l := us) (i := m) (by omega)]
  rw [e1] at hst
  have hrun : (execOp a.eval ⟨some d, .call { callee := .builtin .copy, args := #[x, y], argTypes := #[t, t] }, ty, pos, af, g⟩).run C.P w = .ok (.value (.int .i64 ((min n m : Nat) : Int))) (w.setRow b (nums k ws').toArray) := by
    simp [execOp, resolve, invoke, builtin, ha.ev hx, ha.ev hy, Builtin.copy_, run_underlying hut, sizeOf, typeInfo, hi, his, Builtin.lenOf, hf, hst, goInt]
  unfold Oper.wp
  rw [hrun]
  exact ⟨_, M', J, ha.put (blt_lt hd) _, hw.setRow hu, h⟩
/-- An append behind a slice without room, of what is read alone: a new array. -/
theorem l_appendC {sz by_ n m b o : Nat} {u : Value} {xs ys : List Value} (hx : ev l x = some (.slice (some ⟨b, o, none⟩) n n)) (hy : ev l y = some u) (ht : elemT C.P t = some (e, sz, by_)) (hsz : Nat.blt 0 sz = true)
    (hs : Rd (M ++ (J ++ C.A)) sz (.slice (some ⟨b, o, none⟩) n n) n xs) (hr : Rd (M ++ (J ++ C.A)) sz u m ys) (hm : 0 < m) (hmax : n + m ≤ maxLen) (hbytes : (n + m) * by_ ≤ 140737488355328) (hd : Nat.blt d C.N = true)
    (k : ∀ v' B', Sl sz v' (n + m) (xs ++ ys) B' → K ((d, v') :: l) (B' ++ M) J) :
    OpL C ⟨some d, .call { callee := .builtin .append, args := #[x, y], argTypes := #[t, t] }, ty, pos, af, g⟩ l M J K := by
  intro Qp a w ha hw
  obtain ⟨i, z, hu, hi, hz, hzs, his, hib⟩ := elemT_spec ht
  obtain ⟨pu, cu, rfl, hul, huc, hub⟩ := hr
  obtain ⟨p', c', e', hxl, hcc, hxb⟩ := hs
  cases e'
  subst his; subst hib
  obtain ⟨bu, ou, csu, eu, fru, rfl, hbu, hxu⟩ : ∃ (b o : Nat) (cs : List Value) (e : TypeId) (fr : Nat × Nat), pu = some ⟨b, o, none⟩ ∧ (b, Obj.cells cs.toArray e fr) ∈ M ++ (J ++ C.A) ∧ ∀ j u, ys[j]? = some u → cs[o + j]? = some u := by
    rcases hub with h | h
    · omega
    · exact h
  have hnews : ∀ j u, ys[j]? = some u → w.cell? ((⟨bu, ou, none⟩ : Addr).add j) = some u := fun j u hj => by rw [Addr.add_mid, cell_fx hw.fx hbu]; simpa using hxu j u hj
  have holds : ∀ j u, xs[j]? = some u → w.cell? ((⟨b, o, none⟩ : Addr).add j) = some u := fun j u hj => by
    rcases hxb with h | ⟨b2, o2, cs2, e2, f2, h1, h2, h3⟩
    · subst h
      have : xs = [] := List.eq_nil_of_length_eq_zero (by simpa using hxl)
      subst this; simp at hj
    · cases h1
      rw [Addr.add_mid, cell_fx hw.fx h2]; simpa using h3 j u hj
  have hsmall : n + m ≤ 9223372036854775807 := by simp only [maxLen] at hmax; omega
  have hge := grownCap_ge w (n + m) n e
  have hcm : grownCap w (n + m) n e ≤ maxLen := grownCap_le_maxLen w (n + m) n e hmax
  have hrg := run_append_grow (P := C.P) w t ty e i z hu hi hz ⟨b, o, none⟩ n n xs hxl holds ⟨bu, ou, none⟩ m cu ys hul hnews (by omega) (by omega) (growslice_fits (by omega) hbytes)
  have hexec : (execOp a.eval ⟨some d, .call { callee := .builtin .append, args := #[x, y], argTypes := #[t, t] }, ty, pos, af, g⟩).run C.P w = .ok (.value (.slice (some ⟨w.heap.size, 0, none⟩) (n + m) (grownCap w (n + m) n e))) (w.drew.alloc (.cells (xs.toArray ++ ys.toArray ++ Builtin.zeroCells z.cells (grownCap w (n + m) n e - (n + m))) e (0, 0))) := by
    simp [execOp, resolve, invoke, builtin, ha.ev hx, ha.ev hy, hrg]
  unfold Oper.wp
  rw [hexec]
  have hsl : Sl i.size (.slice (some ⟨w.heap.size, 0, none⟩) (n + m) (grownCap w (n + m) n e)) (n + m) (xs ++ ys) [(w.heap.size, .cells (xs.toArray ++ ys.toArray ++ Builtin.zeroCells z.cells (grownCap w (n + m) n e - (n + m))) e (0, 0))] := by
    refine .inr ⟨w.heap.size, 0, _, (xs.toArray ++ ys.toArray ++ Builtin.zeroCells z.cells (grownCap w (n + m) n e - (n + m))).toList, e, rfl, by simp [blk], hge, hcm, ?_, ?_, ?_⟩
    · simp only [Array.length_toList, Array.size_append, List.size_toArray, size_zeroCells, hzs, hxl, hul, ← Nat.add_mul, Nat.zero_add]
      refine Nat.mul_le_mul_right _ ?_
      omega
    · simp [hxl, hul, Nat.add_mul]
    · intro j u hj
      have hlt : j < (xs ++ ys).length := (List.getElem?_eq_some_iff.1 hj).1
      rw [Nat.zero_add]
      simp only [Array.toList_append, List.append_assoc]
      rw [← List.append_assoc, List.getElem?_append_left (by simpa using hlt)]
      exact hj
  exact ⟨_, _, J, ha.put (blt_lt hd) _, St.alloc (w := w.drew) hw.drew _, k _ _ hsl⟩
end loud
/-- The return, in a free form: what is owned still, what is read alone from now on. -/
def retZ (P : Program) (fn : Func) (A : Mem) (post : Value → Mem → Mem → Prop) : XQ
  | .ret, l, M, J => ∃ v M' B, Res P fn l (M ++ (J ++ A)) v ∧ Fit M (B ++ M') ∧ post v M' (B ++ J)
  | .normal, l, M, J => ∃ v M' B, Res P fn l (M ++ (J ++ A)) v ∧ Fit M (B ++ M') ∧ post v M' (B ++ J)
  | _, _, _, _ => False
theorem FnX.enterZ {P : Program} {f : FuncId} {fn : Func} {c : Code} {N : Nat} {args : List Value} {M A : Mem} {post : Value → Mem → Mem → Prop}
    (hf : P.funcs[f]? = some fn) (hb : fn.body = some c) (hn : fn.ntmps = N) (hN : Nat.ble args.length N = true)
    (h : ∀ w, XC ⟨P, w, M.map Prod.fst, A, N⟩ c (retZ P fn A post) (argE args 0) M []) : FnX P f args M A post := by
  intro w hw
  refine calls_of_wp hf hb ?_
  have hle : args.length ≤ N := by simpa using hN
  refine Code.wp_mono ?_ (h w _ w ?_ hw.cx)
  · rintro e a' w' ⟨l, M', J, ha, hw', hq⟩
    cases e <;> first | exact hq.elim | skip
    all_goals
      obtain ⟨v, M2, B, hv, hM2, hp⟩ := hq
      exact ⟨ha.defers, v, hv N a' w' ha hw'.fx, v, M2, B ++ J, rfl, hp, (hw'.fit hM2 (fun _ h => h)).freezes.cx⟩
  · refine ⟨rfl, by simp [hn]; omega, ?_⟩
    intro i v hi
    obtain ⟨_, h2⟩ := argE_lk args 0 i v hi
    simp only [Nat.sub_zero] at h2
    have hlt : i < args.length := (List.getElem?_eq_some_iff.1 h2).1
    rw [Array.getElem?_append_left (by simpa using hlt)]
    simpa using h2
theorem Fit.nil {M : Mem} : Fit M ([] ++ []) := Fit.sub (List.nil_sublist _)
theorem Fit.none {M M' : Mem} (h : Fit M M') : Fit M ([] ++ M') := h
/-- A call that gets blocks, of which only what it gives back is known. -/
theorem FnX.weak {P : Program} {f : FuncId} {args : List Value} {M A : Mem} {post post' : Value → Mem → Mem → Prop} (h : FnX P f args M A post) (hp : ∀ v M J, post v M J → post' v M J) : FnX P f args M A post' := h.mono hp
instance PickC.two {M X Y R1 R : Mem} [h1 : PickC M X R1] [h2 : PickC R1 Y R] : PickC M (X ++ Y) R := ⟨h1.perm.trans (by rw [List.append_assoc]; exact h2.perm.append_left X)⟩
instance (priority := 50) PickC.left {D M B R : Mem} [h : PickC D B R] : PickC (D ++ M) B (R ++ M) := ⟨(List.Perm.append_right M h.perm).trans (by rw [List.append_assoc])⟩
instance (priority := 60) PickC.consB {M B R1 R : Mem} {x : Nat × Obj} [h1 : PickC M [x] R1] [h2 : PickC R1 B R] : PickC M (x :: B) R := ⟨h1.perm.trans (List.Perm.cons x h2.perm)⟩
theorem uL {B B' r : Mem} {b : Nat} {o o' : Obj} (h : Upd B b o o' B') : Upd (B ++ r) b o o' (B' ++ r) := by
  induction h with
  | hd => exact .hd
  | tl _ ih => exact .tl ih
instance (priority := 50) UpC.lft {b : Nat} {o o' : Obj} {B B' r : Mem} [h : UpC B b o o' B'] : UpC (B ++ r) b o o' (B' ++ r) := ⟨uL h.upd⟩
end Go.Px

