/- The walks of package closure without terms, and of ClosureNil. -/
import Derived.Test.YthmnlkpikgglbaaGreatDoorCls7
set_option linter.unusedVariables false
set_option linter.unusedSimpArgs false
namespace Go.Proofs.YthmnlkpikgglbaaGreatDoor
open Go.Px

set_option maxRecDepth 100000 in
theorem knew0_spec (A : Mem) : FnX Tryz.prog 11 [.pointer none] [] A fun q M J => ∃ kb, q = .pointer (some ⟨kb, 0, none⟩) ∧ M = [(kb, blk [.pointer none, .slice none 0 0] 79)] := by
  skip
  refine FnX.enterZ (N := 6) Tryz.func11 rfl rfl rfl fun w_ => ?_
  refine XC.keep (kp 0 rfl kn) ?_
  refine XC.reg ?_
  refine XL.q (q_assign rfl) rfl ?_
  refine XL.fin (kp 0 rfl kn) ?_
  refine XC.reg ?_
  refine XL.q (q_move rfl) rfl ?_
  refine XL.q (q_build (place := fun x => #[(0, 1), (1, 1)][x]?) (z := [.pointer none, .slice none 0 0]) (fun _ => by kernel_rfl) (eS rfl e0) (bdS 0 1 rfl (by rfl) bd0)) rfl ?_
  refine XL.lo rfl (l_box rfl (by first | exact Cel.cel | rfl) rfl fun b5 => ?_)
  refine XL.q (q_assign rfl) rfl ?_
  refine XL.fin (kp 2 rfl kn) ?_
  refine XC.ret ?_
  exact ⟨_, [(b5, _)], [], res1 rfl rfl, Fit.none (Fit.last PickC.perm), b5, rfl, rfl⟩

set_option maxRecDepth 100000 in
theorem learnN (u : Value) [hu : Cel u [u]] (A : Mem) : FnV Tryz.prog 13 [.pointer none, u] A (.tuple #[]) := by
  refine FnX.enter (N := 39) Tryz.func13 rfl rfl rfl fun w => ?_
  refine XC.keep (kp 0 rfl (kp 1 rfl kn)) ?_
  refine XC.seq ?_
  refine XC.reg ?_
  refine XL.q (q_move rfl) rfl ?_
  refine XL.q (q_ptrEqNil (e := 79) rfl rfl (by kernel_rfl)) rfl ?_
  refine XL.q (q_move rfl) rfl ?_
  refine XL.gn rfl rfl rfl rfl ?_
  refine XL.gn rfl rfl rfl rfl ?_
  refine XL.gn rfl rfl rfl rfl ?_
  refine XL.gn rfl rfl rfl rfl ?_
  refine XL.gn rfl rfl rfl rfl ?_
  refine XL.q (q_pickT rfl rfl) rfl ?_
  refine XL.fin (kp 0 rfl (kp 1 rfl (kp 15 rfl kn))) ?_
  refine XC.condT rfl ?_
  refine XC.ret ?_
  refine tr ?_
  exact ⟨_, [], [], res0 rfl, List.nil_sublist _, by simp, rfl, rfl, rfl⟩

set_option maxRecDepth 100000 in
theorem learnK (kb : Nat) (u : Value) [hu : Cel u [u]] (A : Mem) (hk : (kb, blk [.pointer none, .slice none 0 0] 79) ∈ A) : FnV Tryz.prog 13 [.pointer (some ⟨kb, 0, none⟩), u] A (.tuple #[]) := by
  refine FnX.enter (N := 39) Tryz.func13 rfl rfl rfl fun w => ?_
  refine XC.keep (kp 0 rfl (kp 1 rfl kn)) ?_
  refine XC.seq ?_
  refine XC.reg ?_
  refine XL.q (q_move rfl) rfl ?_
  refine XL.q (q_ptrEqNil (e := 79) rfl rfl (by kernel_rfl)) rfl ?_
  refine XL.q (q_move rfl) rfl ?_
  refine XL.gy rfl rfl (OpQ.opL (q_move rfl) rfl ?_)
  refine XL.gy rfl rfl (OpQ.opL (q_nil rfl) rfl ?_)
  refine XL.gy rfl rfl (OpQ.opL (q_fieldAddrN 0 (off := 0) rfl (by kernel_rfl) rfl) rfl ?_)
  refine XL.gy rfl rfl (OpQ.opL (q_load rfl (by kernel_rfl) (mA hk) (by rfl)) rfl ?_)
  refine XL.gy rfl rfl (OpQ.opL (q_ptrEqNil (e := 83) rfl rfl (by kernel_rfl)) rfl ?_)
  refine XL.q (q_pickF rfl rfl) rfl ?_
  refine XL.fin (kp 0 rfl (kp 1 rfl (kp 15 rfl kn))) ?_
  refine XC.condT rfl ?_
  refine XC.ret ?_
  refine tr ?_
  exact ⟨_, [], [], res0 rfl, List.nil_sublist _, by simp, rfl, rfl, rfl⟩

set_option maxRecDepth 100000 in
theorem closeN  (A : Mem) : FnV Tryz.prog 15 [.pointer none] A (.tuple #[]) := by
  refine FnX.enter (N := 44) Tryz.func15 rfl rfl rfl fun w => ?_
  refine XC.keep (kp 0 rfl kn) ?_
  refine XC.seq ?_
  refine XC.reg ?_
  refine XL.q (q_move rfl) rfl ?_
  refine XL.q (q_ptrEqNil (e := 79) rfl rfl (by kernel_rfl)) rfl ?_
  refine XL.q (q_move rfl) rfl ?_
  refine XL.gn rfl rfl rfl rfl ?_
  refine XL.gn rfl rfl rfl rfl ?_
  refine XL.gn rfl rfl rfl rfl ?_
  refine XL.gn rfl rfl rfl rfl ?_
  refine XL.gn rfl rfl rfl rfl ?_
  refine XL.q (q_pickT rfl rfl) rfl ?_
  refine XL.fin (kp 0 rfl (kp 12 rfl kn)) ?_
  refine XC.condT rfl ?_
  refine XC.ret ?_
  refine tr ?_
  exact ⟨_, [], [], res0 rfl, List.nil_sublist _, by simp, rfl, rfl, rfl⟩

set_option maxRecDepth 100000 in
theorem closeK (kb : Nat)  (A : Mem) (hk : (kb, blk [.pointer none, .slice none 0 0] 79) ∈ A) : FnV Tryz.prog 15 [.pointer (some ⟨kb, 0, none⟩)] A (.tuple #[]) := by
  refine FnX.enter (N := 44) Tryz.func15 rfl rfl rfl fun w => ?_
  refine XC.keep (kp 0 rfl kn) ?_
  refine XC.seq ?_
  refine XC.reg ?_
  refine XL.q (q_move rfl) rfl ?_
  refine XL.q (q_ptrEqNil (e := 79) rfl rfl (by kernel_rfl)) rfl ?_
  refine XL.q (q_move rfl) rfl ?_
  refine XL.gy rfl rfl (OpQ.opL (q_move rfl) rfl ?_)
  refine XL.gy rfl rfl (OpQ.opL (q_nil rfl) rfl ?_)
  refine XL.gy rfl rfl (OpQ.opL (q_fieldAddrN 0 (off := 0) rfl (by kernel_rfl) rfl) rfl ?_)
  refine XL.gy rfl rfl (OpQ.opL (q_load rfl (by kernel_rfl) (mA hk) (by rfl)) rfl ?_)
  refine XL.gy rfl rfl (OpQ.opL (q_ptrEqNil (e := 83) rfl rfl (by kernel_rfl)) rfl ?_)
  refine XL.q (q_pickF rfl rfl) rfl ?_
  refine XL.fin (kp 0 rfl (kp 12 rfl kn)) ?_
  refine XC.condT rfl ?_
  refine XC.ret ?_
  refine tr ?_
  exact ⟨_, [], [], res0 rfl, List.nil_sublist _, by simp, rfl, rfl, rfl⟩

set_option maxRecDepth 100000 in
theorem hasN (u : Value) [hu : Cel u [u]] (A : Mem) : FnV Tryz.prog 18 [.pointer none, u] A (.bool true) := by
  refine FnX.enter (N := 32) Tryz.func18 rfl rfl rfl fun w => ?_
  refine XC.keep (kp 0 rfl (kp 1 rfl kn)) ?_
  refine XC.reg ?_
  refine XL.q (q_assign rfl) rfl ?_
  refine XL.fin (kp 0 rfl (kp 1 rfl kn)) ?_
  refine XC.seq ?_
  refine XC.reg ?_
  refine XL.q (q_move rfl) rfl ?_
  refine XL.q (q_ptrEqNil (e := 79) rfl rfl (by kernel_rfl)) rfl ?_
  refine XL.q (q_move rfl) rfl ?_
  refine XL.gn rfl rfl rfl rfl ?_
  refine XL.gn rfl rfl rfl rfl ?_
  refine XL.gn rfl rfl rfl rfl ?_
  refine XL.gn rfl rfl rfl rfl ?_
  refine XL.gn rfl rfl rfl rfl ?_
  refine XL.q (q_pickT rfl rfl) rfl ?_
  refine XL.fin (kp 0 rfl (kp 1 rfl (kp 15 rfl kn))) ?_
  refine XC.condT rfl ?_
  refine XC.reg ?_
  refine XL.q (q_assign rfl) rfl ?_
  refine XL.fin (kp 4 rfl kn) ?_
  refine XC.ret ?_
  refine tr ?_
  exact ⟨_, [], [], res1 rfl rfl, List.nil_sublist _, by simp, rfl, rfl, rfl⟩

set_option maxRecDepth 100000 in
theorem hasK (kb : Nat) (u : Value) [hu : Cel u [u]] (A : Mem) (hk : (kb, blk [.pointer none, .slice none 0 0] 79) ∈ A) : FnV Tryz.prog 18 [.pointer (some ⟨kb, 0, none⟩), u] A (.bool true) := by
  refine FnX.enter (N := 32) Tryz.func18 rfl rfl rfl fun w => ?_
  refine XC.keep (kp 0 rfl (kp 1 rfl kn)) ?_
  refine XC.reg ?_
  refine XL.q (q_assign rfl) rfl ?_
  refine XL.fin (kp 0 rfl (kp 1 rfl kn)) ?_
  refine XC.seq ?_
  refine XC.reg ?_
  refine XL.q (q_move rfl) rfl ?_
  refine XL.q (q_ptrEqNil (e := 79) rfl rfl (by kernel_rfl)) rfl ?_
  refine XL.q (q_move rfl) rfl ?_
  refine XL.gy rfl rfl (OpQ.opL (q_move rfl) rfl ?_)
  refine XL.gy rfl rfl (OpQ.opL (q_nil rfl) rfl ?_)
  refine XL.gy rfl rfl (OpQ.opL (q_fieldAddrN 0 (off := 0) rfl (by kernel_rfl) rfl) rfl ?_)
  refine XL.gy rfl rfl (OpQ.opL (q_load rfl (by kernel_rfl) (mA hk) (by rfl)) rfl ?_)
  refine XL.gy rfl rfl (OpQ.opL (q_ptrEqNil (e := 83) rfl rfl (by kernel_rfl)) rfl ?_)
  refine XL.q (q_pickF rfl rfl) rfl ?_
  refine XL.fin (kp 0 rfl (kp 1 rfl (kp 15 rfl kn))) ?_
  refine XC.condT rfl ?_
  refine XC.reg ?_
  refine XL.q (q_assign rfl) rfl ?_
  refine XL.fin (kp 4 rfl kn) ?_
  refine XC.ret ?_
  refine tr ?_
  exact ⟨_, [], [], res1 rfl rfl, List.nil_sublist _, by simp, rfl, rfl, rfl⟩

set_option maxRecDepth 100000 in
theorem keysN  (A : Mem) : FnV Tryz.prog 20 [.pointer none] A (.slice none 0 0) := by
  refine FnX.enter (N := 53) Tryz.func20 rfl rfl rfl fun w => ?_
  refine XC.keep (kp 0 rfl kn) ?_
  refine XC.reg ?_
  refine XL.q (q_assign rfl) rfl ?_
  refine XL.fin (kp 0 rfl kn) ?_
  refine XC.reg ?_
  refine XL.q (q_assign rfl) rfl ?_
  refine XL.fin (kp 0 rfl (kp 3 rfl kn)) ?_
  refine XC.seq ?_
  refine XC.reg ?_
  refine XL.q (q_move rfl) rfl ?_
  refine XL.q (q_ptrEqNil (e := 79) rfl rfl (by kernel_rfl)) rfl ?_
  refine XL.fin (kp 0 rfl (kp 3 rfl (kp 9 rfl kn))) ?_
  refine XC.condT rfl ?_
  refine XC.reg ?_
  refine XL.q (q_move rfl) rfl ?_
  refine XL.q (q_assign rfl) rfl ?_
  refine XL.fin (kp 2 rfl kn) ?_
  refine XC.ret ?_
  refine tr ?_
  exact ⟨_, [], [], res1 rfl rfl, List.nil_sublist _, by simp, rfl, rfl, rfl⟩

set_option maxRecDepth 100000 in
theorem keysK (kb : Nat)  (A : Mem) (hk : (kb, blk [.pointer none, .slice none 0 0] 79) ∈ A) : FnV Tryz.prog 20 [.pointer (some ⟨kb, 0, none⟩)] A (.slice none 0 0) := by
  refine FnX.enter (N := 53) Tryz.func20 rfl rfl rfl fun w => ?_
  refine XC.keep (kp 0 rfl kn) ?_
  refine XC.reg ?_
  refine XL.q (q_assign rfl) rfl ?_
  refine XL.fin (kp 0 rfl kn) ?_
  refine XC.reg ?_
  refine XL.q (q_assign rfl) rfl ?_
  refine XL.fin (kp 0 rfl (kp 3 rfl kn)) ?_
  refine XC.seq ?_
  refine XC.reg ?_
  refine XL.q (q_move rfl) rfl ?_
  refine XL.q (q_ptrEqNil (e := 79) rfl rfl (by kernel_rfl)) rfl ?_
  refine XL.fin (kp 0 rfl (kp 3 rfl (kp 9 rfl kn))) ?_
  refine XC.condF rfl ?_
  refine XC.skip ?_
  refine nx (kp 0 rfl (kp 3 rfl kn)) ?_
  refine XC.seq ?_
  refine XC.reg ?_
  refine XL.q (q_move rfl) rfl ?_
  refine XL.q (q_nil rfl) rfl ?_
  refine XL.q (q_fieldAddrN 1 (off := 1) rfl (by kernel_rfl) rfl) rfl ?_
  refine XL.q (q_load rfl (by kernel_rfl) (mA hk) (by rfl)) rfl ?_
  refine XL.q (q_lenV2 (n := 0) (sz := 1) rfl (by kernel_rfl) (Rd.nil (R := []))) rfl ?_
  refine XL.q (q_move rfl) rfl ?_
  refine XL.fin (kp 0 rfl (kp 3 rfl (kp 14 rfl (kp 15 rfl (kp 16 rfl kn))))) ?_
  refine XC.block ?_
  refine XC.rounds 1 ?_
  refine XR.step ?_
  refine XC.reg ?_
  refine XL.q (q_cmp false rfl rfl (ltF (by decide))) rfl ?_
  refine XL.fin (kp 0 rfl (kp 3 rfl (kp 14 rfl (kp 15 rfl (kp 16 rfl (kp 17 rfl kn)))))) ?_
  refine XC.seq ?_
  refine XC.condF rfl ?_
  refine XC.exit ?_
  refine te ?_
  refine ue ?_
  refine be rfl ?_
  refine nx (kp 3 rfl kn) ?_
  refine XC.reg ?_
  refine XL.q (q_move rfl) rfl ?_
  refine XL.q (q_assign rfl) rfl ?_
  refine XL.fin (kp 2 rfl kn) ?_
  refine XC.ret ?_
  exact ⟨_, [], [], res1 rfl rfl, List.nil_sublist _, by simp, rfl, rfl, rfl⟩

set_option maxRecDepth 100000 in
theorem textsN  (A : Mem) : FnV Tryz.prog 22 [.pointer none] A (.slice none 0 0) := by
  refine FnX.enter (N := 70) Tryz.func22 rfl rfl rfl fun w => ?_
  refine XC.keep (kp 0 rfl kn) ?_
  refine XC.reg ?_
  refine XL.q (q_assign rfl) rfl ?_
  refine XL.fin (kp 0 rfl kn) ?_
  refine XC.reg ?_
  refine XL.q (q_assign rfl) rfl ?_
  refine XL.fin (kp 0 rfl (kp 3 rfl kn)) ?_
  refine XC.seq ?_
  refine XC.reg ?_
  refine XL.q (q_move rfl) rfl ?_
  refine XL.q (q_ptrEqNil (e := 79) rfl rfl (by kernel_rfl)) rfl ?_
  refine XL.fin (kp 0 rfl (kp 3 rfl (kp 11 rfl kn))) ?_
  refine XC.condT rfl ?_
  refine XC.reg ?_
  refine XL.q (q_move rfl) rfl ?_
  refine XL.q (q_assign rfl) rfl ?_
  refine XL.fin (kp 2 rfl kn) ?_
  refine XC.ret ?_
  refine tr ?_
  exact ⟨_, [], [], res1 rfl rfl, List.nil_sublist _, by simp, rfl, rfl, rfl⟩

set_option maxRecDepth 100000 in
theorem textsK (kb : Nat)  (A : Mem) (hk : (kb, blk [.pointer none, .slice none 0 0] 79) ∈ A) : FnV Tryz.prog 22 [.pointer (some ⟨kb, 0, none⟩)] A (.slice none 0 0) := by
  refine FnX.enter (N := 70) Tryz.func22 rfl rfl rfl fun w => ?_
  refine XC.keep (kp 0 rfl kn) ?_
  refine XC.reg ?_
  refine XL.q (q_assign rfl) rfl ?_
  refine XL.fin (kp 0 rfl kn) ?_
  refine XC.reg ?_
  refine XL.q (q_assign rfl) rfl ?_
  refine XL.fin (kp 0 rfl (kp 3 rfl kn)) ?_
  refine XC.seq ?_
  refine XC.reg ?_
  refine XL.q (q_move rfl) rfl ?_
  refine XL.q (q_ptrEqNil (e := 79) rfl rfl (by kernel_rfl)) rfl ?_
  refine XL.fin (kp 0 rfl (kp 3 rfl (kp 11 rfl kn))) ?_
  refine XC.condF rfl ?_
  refine XC.skip ?_
  refine nx (kp 0 rfl (kp 3 rfl kn)) ?_
  refine XC.seq ?_
  refine XC.reg ?_
  refine XL.q (q_move rfl) rfl ?_
  refine XL.q (q_nil rfl) rfl ?_
  refine XL.q (q_fieldAddrN 1 (off := 1) rfl (by kernel_rfl) rfl) rfl ?_
  refine XL.q (q_load rfl (by kernel_rfl) (mA hk) (by rfl)) rfl ?_
  refine XL.q (q_lenV2 (n := 0) (sz := 1) rfl (by kernel_rfl) (Rd.nil (R := []))) rfl ?_
  refine XL.q (q_move rfl) rfl ?_
  refine XL.fin (kp 0 rfl (kp 3 rfl (kp 16 rfl (kp 17 rfl (kp 18 rfl kn))))) ?_
  refine XC.block ?_
  refine XC.rounds 1 ?_
  refine XR.step ?_
  refine XC.reg ?_
  refine XL.q (q_cmp false rfl rfl (ltF (by decide))) rfl ?_
  refine XL.fin (kp 0 rfl (kp 3 rfl (kp 16 rfl (kp 17 rfl (kp 18 rfl (kp 19 rfl kn)))))) ?_
  refine XC.seq ?_
  refine XC.condF rfl ?_
  refine XC.exit ?_
  refine te ?_
  refine ue ?_
  refine be rfl ?_
  refine nx (kp 3 rfl kn) ?_
  refine XC.reg ?_
  refine XL.q (q_move rfl) rfl ?_
  refine XL.q (q_assign rfl) rfl ?_
  refine XL.fin (kp 2 rfl kn) ?_
  refine XC.ret ?_
  exact ⟨_, [], [], res1 rfl rfl, List.nil_sublist _, by simp, rfl, rfl, rfl⟩

set_option maxRecDepth 100000 in
theorem says0 (q : Option Addr) (u : Value) [hu : Cel u [u]] (A : Mem) (hx : ∀ A', (∀ x, x ∈ A → x ∈ A') → FnV Tryz.prog 22 [.pointer q] A' (.slice none 0 0)) : FnV Tryz.prog 23 [.pointer q, u] A (.bool false) := by
  refine FnX.enter (N := 9) Tryz.func23 rfl rfl rfl fun w => ?_
  refine XC.keep (kp 0 rfl (kp 1 rfl kn)) ?_
  refine XC.reg ?_
  refine XL.lo rfl (l_box rfl (by first | exact Cel.cel | rfl) rfl fun b3 => ?_)
  refine XL.q (q_assign rfl) rfl ?_
  refine XL.fin (kp 0 rfl (kp 3 rfl kn)) ?_
  refine XC.reg ?_
  refine XL.q (q_move rfl) rfl ?_
  refine XL.callV (aS rfl a0) (by kernel_rfl) (hx _ SubC.sub) rfl ?_
  refine XL.q (q_mkFuncF a0 (aS rfl a0)) rfl ?_
  refine XL.callV (aS rfl (aS rfl a0)) (by kernel_rfl) (contains_b (.slice none 0 0) [] 40 [.pointer (some ⟨b3, 0, none⟩)] (fun j => false) _ Rd.nil (by decide) (by kernel_rfl) (fun j u hj => by simp at hj)) rfl ?_
  refine XL.q (q_assign rfl) rfl ?_
  refine XL.fin (kp 4 rfl kn) ?_
  refine XC.ret ?_
  exact ⟨_, [], [], res1 rfl rfl, List.nil_sublist _, by simp, rfl, rfl, rfl⟩

set_option maxRecDepth 100000 in
theorem closureNil_spec (p : Value) (ws : List Nat) (y0 : Int) (y1 : Int) (y2 : Int) (y3 : Int) (y4 : Value) (wy4 : List Nat) (y5 : Bool) (y6 : Value) (wy6 : List Nat) (y7 : Value) (wy7 : List Nat) (y8 : Value) (wy8 : List Nat) (y9 : Nat) (y10 : Bool) (y11 : Nat) (y12 : Value) (wy12 : List Nat) (y13 : Nat) (y14 : Nat) (y15 : Value) (wy15 : List Nat) (A : Mem) (hp : Byi A p ws) (h4 : Byi A y4 wy4) (h6 : Byi A y6 wy6) (h7 : Byi A y7 wy7) (h8 : Byi A y8 wy8) (h12 : Byi A y12 wy12) (h15 : Byi A y15 wy15) (hG : Glb A) : FnV Tryz.prog 5 [p, .agg #[.int .i64 y0, .int .i64 y1, .int .i64 y2, .int .i64 y3, y4, .bool y5, y6, y7, y8, .int .u32 ((y9 : Nat) : Int), .bool y10, .int .u32 ((y11 : Nat) : Int), y12, .int .u32 ((y13 : Nat) : Int), .int .u32 ((y14 : Nat) : Int), y15]] A (.bool true) := by
  haveI := h4.cel
  haveI := h6.cel
  haveI := h7.cel
  haveI := h8.cel
  haveI := h12.cel
  haveI := h15.cel
  haveI := hp.cel
  refine FnX.enter (N := 76) Tryz.func5 rfl rfl rfl fun w => ?_
  refine XC.keep (kp 0 rfl (kp 1 rfl kn)) ?_
  refine XC.reg ?_
  refine XL.lo rfl (l_box rfl (by first | exact Cel.cel | rfl) rfl fun b3 => ?_)
  refine XL.q (q_assign rfl) rfl ?_
  refine XL.fin (kp 0 rfl (kp 3 rfl kn)) ?_
  refine XC.seq ?_
  refine XC.reg ?_
  refine XL.callV a0 (by kernel_rfl) (awake22_spec _ hG.up) rfl ?_
  refine XL.q (q_not rfl) rfl ?_
  refine XL.q (q_move rfl) rfl ?_
  refine XL.gy rfl rfl (OpQ.opL (q_move rfl) rfl ?_)
  refine XL.gy rfl rfl (OpQ.opL (q_lenV2 (sz := 1) rfl (by kernel_rfl) hp.rd) rfl ?_)
  refine XL.gy rfl rfl (OpQ.opL (q_bin rfl rfl rfl) rfl ?_)
  refine XL.q (q_pickF rfl rfl) rfl ?_
  refine XL.fin (kp 0 rfl (kp 3 rfl (kp 13 rfl kn))) ?_
  refine XC.cond rfl (fun hc => ?_) (fun hc => ?_)
  ·
    refine XC.reg ?_
    refine XL.callV a0 (by kernel_rfl) (awake22_spec _ hG.up) rfl ?_
    refine XL.q (q_assign rfl) rfl ?_
    refine XL.fin (kp 4 rfl kn) ?_
    refine XC.ret ?_
    refine tr ?_
    exact ⟨_, [], [], res1 rfl rfl, List.nil_sublist _, by simp, rfl, rfl, rfl⟩
  ·
    refine XC.skip ?_
    refine nx (kp 0 rfl (kp 3 rfl kn)) ?_
    refine XC.reg ?_
    refine XL.q (q_assign rfl) rfl ?_
    refine XL.fin (kp 0 rfl (kp 3 rfl (kp 5 rfl kn))) ?_
    refine XC.reg ?_
    refine XL.q (q_move rfl) rfl ?_
    refine XL.q (q_move rfl) rfl ?_
    refine XL.lo rfl (l_buildSlice (e := 23) (sz := 1) (z := [.slice none 0 0]) (by kernel_rfl) (eS rfl e0) (bdS 0 1 rfl (by rfl) bd0) rfl fun b17 => ?_)
    refine XL.callV (aS rfl (aS rfl a0)) (by kernel_rfl) (learnN _ _) rfl ?_
    refine XL.fin (kp 0 rfl (kp 3 rfl (kp 5 rfl kn))) ?_
    refine XC.reg ?_
    refine XL.q (q_move rfl) rfl ?_
    refine XL.callV (aS rfl a0) (by kernel_rfl) (closeN _) rfl ?_
    refine XL.fin (kp 0 rfl (kp 3 rfl (kp 5 rfl kn))) ?_
    refine XC.reg ?_
    refine XL.call (aS rfl a0) (by kernel_rfl) (knew0_spec _) rfl ?_
    rintro v21 M21 J21 ⟨kb, rfl, rfl⟩
    refine XL.q (q_assign rfl) rfl ?_
    refine XL.fin (kp 0 rfl (kp 3 rfl (kp 5 rfl (kp 6 rfl kn)))) ?_
    refine XC.reg ?_
    refine XL.q (q_move rfl) rfl ?_
    refine XL.q (q_move rfl) rfl ?_
    refine XL.lo rfl (l_buildSlice (e := 23) (sz := 1) (z := [.slice none 0 0]) (by kernel_rfl) (eS rfl e0) (bdS 0 1 rfl (by rfl) bd0) rfl fun b24 => ?_)
    refine XL.callV (aS rfl (aS rfl a0)) (by kernel_rfl) (learnK kb _ _ At.mem) rfl ?_
    refine XL.fin (kp 0 rfl (kp 3 rfl (kp 5 rfl (kp 6 rfl kn)))) ?_
    refine XC.reg ?_
    refine XL.q (q_move rfl) rfl ?_
    refine XL.callV (aS rfl a0) (by kernel_rfl) (closeK kb _ At.mem) rfl ?_
    refine XL.fin (kp 0 rfl (kp 3 rfl (kp 5 rfl (kp 6 rfl kn)))) ?_
    refine XC.reg ?_
    refine XL.q (q_move rfl) rfl ?_
    refine XL.q (q_move rfl) rfl ?_
    refine XL.callV (aS rfl (aS rfl a0)) (by kernel_rfl) (hasN p _) rfl ?_
    refine XL.q (q_move rfl) rfl ?_
    refine XL.gy rfl rfl (OpQ.opL (q_move rfl) rfl ?_)
    refine XL.gy rfl rfl (OpQ.opL (q_move rfl) rfl ?_)
    refine XL.callVg rfl rfl (aS rfl (aS rfl a0)) (by kernel_rfl) (hasK kb p _ At.mem) rfl ?_
    refine XL.q (q_pickT rfl rfl) rfl ?_
    refine XL.q (q_move rfl) rfl ?_
    refine XL.gy rfl rfl (OpQ.opL (q_move rfl) rfl ?_)
    refine XL.gy rfl rfl (OpQ.opL (q_loadW (n := 16) rfl (by kernel_rfl) (by first | exact At.mem | exact mA (by assumption)) (by rfl)) rfl ?_)
    refine XL.callVg rfl rfl (aS rfl (aS rfl a0)) (by kernel_rfl) (can_spec (none) y0 y1 y2 y3 y4 y5 y6 y7 y8 y9 y10 y11 y12 y13 y14 y15 h4.one h6.one h7.one h8.one h12.one h15.one true true true true true true _ (fun A' hA => hasN y4 A') (fun A' hA => hasN y6 A') (fun A' hA => hasN y7 A') (fun A' hA => hasN y8 A') (fun A' hA => hasN y12 A') (fun A' hA => hasN y15 A')) rfl ?_
    rw [show (true && true && true && (if y5 = true then true && true && true else true)) = true by cases y5 <;> rfl]
    refine XL.q (q_pickT rfl rfl) rfl ?_
    refine XL.q (q_move rfl) rfl ?_
    refine XL.gy rfl rfl (OpQ.opL (q_move rfl) rfl ?_)
    refine XL.gy rfl rfl (OpQ.opL (q_loadW (n := 16) rfl (by kernel_rfl) (by first | exact At.mem | exact mA (by assumption)) (by rfl)) rfl ?_)
    refine XL.callVg rfl rfl (aS rfl (aS rfl a0)) (by kernel_rfl) (can_spec (some ⟨kb, 0, none⟩) y0 y1 y2 y3 y4 y5 y6 y7 y8 y9 y10 y11 y12 y13 y14 y15 h4.one h6.one h7.one h8.one h12.one h15.one true true true true true true _ (fun A' hA => hasK kb y4 A' (hA _ At.mem)) (fun A' hA => hasK kb y6 A' (hA _ At.mem)) (fun A' hA => hasK kb y7 A' (hA _ At.mem)) (fun A' hA => hasK kb y8 A' (hA _ At.mem)) (fun A' hA => hasK kb y12 A' (hA _ At.mem)) (fun A' hA => hasK kb y15 A' (hA _ At.mem))) rfl ?_
    rw [show (true && true && true && (if y5 = true then true && true && true else true)) = true by cases y5 <;> rfl]
    refine XL.q (q_pickT rfl rfl) rfl ?_
    refine XL.q (q_move rfl) rfl ?_
    refine XL.gy rfl rfl (OpQ.opL (q_move rfl) rfl ?_)
    refine XL.callVg rfl rfl (aS rfl a0) (by kernel_rfl) (keysN _) rfl ?_
    refine XL.gy rfl rfl (OpQ.opL (q_lenV2 (n := 0) (sz := 1) rfl (by kernel_rfl) (Rd.nil (R := []))) rfl ?_)
    refine XL.gy rfl rfl (OpQ.opL (q_move rfl) rfl ?_)
    refine XL.callVg rfl rfl (aS rfl a0) (by kernel_rfl) (textsN _) rfl ?_
    refine XL.gy rfl rfl (OpQ.opL (q_lenV2 (n := 0) (sz := 1) rfl (by kernel_rfl) (Rd.nil (R := []))) rfl ?_)
    refine XL.gy rfl rfl (OpQ.opL (q_addI rfl rfl rfl rfl (by omega)) rfl ?_)
    refine XL.gy rfl rfl (OpQ.opL (q_move rfl) rfl ?_)
    refine XL.callVg rfl rfl (aS rfl a0) (by kernel_rfl) (keysK kb _ At.mem) rfl ?_
    refine XL.gy rfl rfl (OpQ.opL (q_lenV2 (n := 0) (sz := 1) rfl (by kernel_rfl) (Rd.nil (R := []))) rfl ?_)
    refine XL.gy rfl rfl (OpQ.opL (q_addI rfl rfl rfl rfl (by omega)) rfl ?_)
    refine XL.gy rfl rfl (OpQ.opL (q_move rfl) rfl ?_)
    refine XL.callVg rfl rfl (aS rfl a0) (by kernel_rfl) (textsK kb _ At.mem) rfl ?_
    refine XL.gy rfl rfl (OpQ.opL (q_lenV2 (n := 0) (sz := 1) rfl (by kernel_rfl) (Rd.nil (R := []))) rfl ?_)
    refine XL.gy rfl rfl (OpQ.opL (q_addI rfl rfl rfl rfl (by omega)) rfl ?_)
    refine XL.gy rfl rfl (OpQ.opL (q_cmp true rfl rfl (eqT rfl)) rfl ?_)
    refine XL.q (q_pickT rfl rfl) rfl ?_
    refine XL.q (q_move rfl) rfl ?_
    refine XL.gy rfl rfl (OpQ.opL (q_move rfl) rfl ?_)
    refine XL.gy rfl rfl (OpQ.opL (q_move rfl) rfl ?_)
    refine XL.callVg rfl rfl (aS rfl (aS rfl a0)) (by kernel_rfl) (says0 none p _ (fun A' hA => textsN A')) rfl ?_
    refine XL.gy rfl rfl (OpQ.opL (q_not rfl) rfl ?_)
    refine XL.q (q_pickT rfl rfl) rfl ?_
    refine XL.q (q_move rfl) rfl ?_
    refine XL.gy rfl rfl (OpQ.opL (q_move rfl) rfl ?_)
    refine XL.gy rfl rfl (OpQ.opL (q_move rfl) rfl ?_)
    refine XL.callVg rfl rfl (aS rfl (aS rfl a0)) (by kernel_rfl) (says0 (some ⟨kb, 0, none⟩) p _ (fun A' hA => textsK kb A' (hA _ At.mem))) rfl ?_
    refine XL.gy rfl rfl (OpQ.opL (q_not rfl) rfl ?_)
    refine XL.q (q_pickT rfl rfl) rfl ?_
    refine XL.q (q_assign rfl) rfl ?_
    refine XL.fin (kp 4 rfl kn) ?_
    refine XC.ret ?_
    exact ⟨_, [], [], res1 rfl rfl, List.nil_sublist _, by simp, rfl, rfl, rfl⟩
