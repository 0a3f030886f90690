/- The walks of pawllaw07.awake and TermNil. -/
import Derived.Test.YtibemhcnjdgemaaDoorTrm1
import Derived.Test.YtibemhcnjdgemaaDoorMap
set_option linter.unusedVariables false
set_option linter.unusedSimpArgs false
namespace Go.Proofs.YtibemhcnjdgemaaDoor
open Go.Px
def ints (l : List Int) : List Value := l.map (.int .i64)
/-- The cells of a term. -/
abbrev tmc (k : Nat) (vo : Value) (t : List Nat) (n : Int) : List Value := [.int .u8 (k : Int), vo, .string (txt t), .int .i64 n]

set_option maxRecDepth 100000 in
theorem tawake_spec (A : Mem) {e4 : TypeId} {f4 : Nat × Nat} (h4 : (4, Obj.cells (nums .u64 pow10T).toArray e4 f4) ∈ A) : FnV Tryd.prog 19 [] A (.bool true) := by
  refine FnX.enter (N := 32) Tryd.func19 rfl rfl rfl fun w => ?_
  refine XC.keep kn ?_
  refine XC.reg ?_
  refine XL.q (q_assign rfl) rfl ?_
  refine XL.fin kn ?_
  refine XC.reg ?_
  refine XL.call (aS rfl a0) (by kernel_rfl) ((show txt (marks [[97, 98], []]) = txt [50, 58, 97, 98, 48, 58] by kernel_rfl) ▸ parts_spec [[97, 98], []] ⟨by decide +kernel⟩ (by decide +kernel) _ (mA h4)) rfl ?_
  rintro r4 M4 J4 ⟨rfl, v4, rfl, hs4⟩
  replace hs4 : Sl 1 v4 2 [.string (txt [97, 98]), .string (txt [])] M4 := hs4
  refine XL.q (q_move rfl) rfl ?_
  refine XL.q (q_x0 rfl) rfl ?_
  refine XL.q (q_x1 rfl) rfl ?_
  refine XL.q (q_assign rfl) rfl ?_
  refine XL.q (q_assign rfl) rfl ?_
  refine XL.fin (kp 1 rfl (kp 2 rfl kn)) ?_
  refine XC.reg ?_
  refine XL.lo rfl (l_buildSlice (e := 5) (sz := 1) (z := [.int .u8 0, .int .u8 0]) (by kernel_rfl) (eS rfl (eS rfl e0)) (bdS 0 1 rfl (by rfl) (bdS 1 1 rfl (by rfl) bd0)) rfl fun b7 => ?_)
  refine XL.lo rfl (l_mark rfl (by kernel_rfl) UpC.upd rfl ?_)
  refine XL.callV (aS rfl a0) (by kernel_rfl) (mark_spec _ [97, 98] _ (Rd.whole (n := 2) (cs := nums .u8 [97, 98]) At.mem (by rfl)) (hb := ⟨by decide⟩) (by decide) (mA h4)) rfl ?_
  refine XL.q (q_strEqT rfl rfl (by kernel_rfl)) rfl ?_
  refine XL.q (q_move rfl) rfl ?_
  refine XL.gy rfl rfl (OpQ.opL (q_move rfl) rfl ?_)
  refine XL.gy rfl rfl (OpQ.opL (q_cmp true rfl rfl (eqT rfl)) rfl ?_)
  refine XL.q (q_pickT rfl rfl) rfl ?_
  refine XL.q (q_move rfl) rfl ?_
  refine XL.gy rfl rfl (OpQ.opL (q_move rfl) rfl ?_)
  refine XL.gy rfl rfl (OpQ.opL (q_lenV2 (sz := 1) rfl (by kernel_rfl) (by first | assumption | exact Sl.rd (by assumption) (fun _ h => h))) rfl ?_)
  refine XL.gy rfl rfl (OpQ.opL (q_cmp true rfl rfl (eqT rfl)) rfl ?_)
  refine XL.q (q_pickT rfl rfl) rfl ?_
  refine XL.q (q_move rfl) rfl ?_
  refine XL.gy rfl rfl (OpQ.opL (q_move rfl) rfl ?_)
  refine XL.gy rfl rfl (OpQ.opL (q_atV2 (sz := 1) (a := 0) rfl rfl (by kernel_rfl) rfl (by first | assumption | exact Sl.rd (by assumption) (fun _ h => h)) (by omega)) rfl ?_)
  refine XL.gy rfl rfl (OpQ.opL (q_ldV (hs4.rd SubC.sub) rfl (by kernel_rfl) rfl) rfl ?_)
  refine XL.gy rfl rfl (OpQ.opL (q_strEqT rfl rfl (by kernel_rfl)) rfl ?_)
  refine XL.q (q_pickT rfl rfl) rfl ?_
  refine XL.q (q_move rfl) rfl ?_
  refine XL.gy rfl rfl (OpQ.opL (q_move rfl) rfl ?_)
  refine XL.gy rfl rfl (OpQ.opL (q_atV2 (sz := 1) (a := 1) rfl rfl (by kernel_rfl) rfl (by first | assumption | exact Sl.rd (by assumption) (fun _ h => h)) (by omega)) rfl ?_)
  refine XL.gy rfl rfl (OpQ.opL (q_ldV (hs4.rd SubC.sub) rfl (by kernel_rfl) rfl) rfl ?_)
  refine XL.gy rfl rfl (OpQ.opL (q_strEqT rfl rfl (by kernel_rfl)) rfl ?_)
  refine XL.q (q_pickT rfl rfl) rfl ?_
  refine XL.q (q_assign rfl) rfl ?_
  refine XL.fin (kp 0 rfl kn) ?_
  refine XC.ret ?_
  exact ⟨_, [], [], res1 rfl rfl, List.nil_sublist _, by simp, rfl, rfl, rfl⟩

set_option maxRecDepth 100000 in
theorem getNil_spec (i : Int) (A : Mem) : FnV Tryd.prog 27 [.pointer none, .int .i64 i] A (.tuple #[.agg (tmc 0 (.slice none 0 0) [] 0).toArray, .bool false]) := by
  refine FnX.enter (N := 29) Tryd.func27 rfl rfl rfl fun w => ?_
  refine XC.keep (kp 0 rfl (kp 1 rfl kn)) ?_
  refine XC.reg ?_
  refine XL.lo rfl (l_alloc (cs := [.int .u8 0, .slice none 0 0, .string ByteArray.empty, .int .i64 0]) (by kernel_rfl) rfl fun b4 => ?_)
  refine XL.q (q_assign rfl) rfl ?_
  refine XL.fin (kp 0 rfl (kp 1 rfl (kp 4 rfl kn))) ?_
  refine XC.seq ?_
  refine XC.reg ?_
  refine XL.q (q_move rfl) rfl ?_
  refine XL.q (q_ptrEqNil (e := 100) rfl rfl (by kernel_rfl)) rfl ?_
  refine XL.q (q_move rfl) rfl ?_
  refine XL.gn rfl rfl rfl rfl ?_
  refine XL.gn rfl rfl rfl rfl ?_
  refine XL.q (q_pickT rfl rfl) rfl ?_
  refine XL.q (q_move rfl) rfl ?_
  refine XL.gn rfl rfl rfl rfl ?_
  refine XL.gn rfl rfl rfl rfl ?_
  refine XL.gn rfl rfl rfl rfl ?_
  refine XL.gn rfl rfl rfl rfl ?_
  refine XL.gn rfl rfl rfl rfl ?_
  refine XL.gn rfl rfl rfl rfl ?_
  refine XL.gn rfl rfl rfl rfl ?_
  refine XL.q (q_pickT rfl rfl) rfl ?_
  refine XL.fin (kp 0 rfl (kp 1 rfl (kp 4 rfl (kp 20 rfl kn)))) ?_
  refine XC.condT rfl ?_
  refine XC.reg ?_
  refine XL.q (q_build (place := fun x => #[(0, 1), (1, 1), (2, 1), (3, 1)][x]?) (z := [.int .u8 0, .slice none 0 0, .string ByteArray.empty, .int .i64 0]) (fun _ => by kernel_rfl) e0 bd0) rfl ?_
  refine XL.lo rfl (l_storeW rfl rfl Cel.cel (by kernel_rfl) (lnS (lnS (lnS (lnS (ln0))))) (allS rfl (allS rfl (allS rfl (allS rfl (all0))))) UpC.upd ?_)
  refine XL.q (q_assign rfl) rfl ?_
  refine XL.fin (kp 4 rfl (kp 5 rfl kn)) ?_
  refine XC.ret ?_
  refine tr ?_
  exact ⟨_, [], [], resC1 rfl rfl rfl (by kernel_rfl) At.mem (by rfl), List.nil_sublist _, by simp, rfl, rfl, rfl⟩

set_option maxRecDepth 100000 in
theorem findNil_spec (k : Nat) (vo : Value) (tx : List Nat) (n : Int) (A : Mem) : FnV Tryd.prog 28 [.pointer none, .agg (tmc k vo tx n).toArray] A (.tuple #[.int .i64 0, .bool false]) := by
  skip
  refine FnX.enter (N := 22) Tryd.func28 rfl rfl rfl fun w => ?_
  refine XC.keep (kp 0 rfl (kp 1 rfl kn)) ?_
  refine XC.reg ?_
  refine XL.lo rfl (l_box rfl rfl rfl fun b3 => ?_)
  refine XL.q (q_assign rfl) rfl ?_
  refine XL.q (q_assign rfl) rfl ?_
  refine XL.fin (kp 0 rfl (kp 3 rfl kn)) ?_
  refine XC.seq ?_
  refine XC.reg ?_
  refine XL.q (q_move rfl) rfl ?_
  refine XL.q (q_ptrEqNil (e := 100) rfl rfl (by kernel_rfl)) rfl ?_
  refine XL.fin (kp 0 rfl (kp 3 rfl (kp 9 rfl kn))) ?_
  refine XC.condT rfl ?_
  refine XC.reg ?_
  refine XL.q (q_assign rfl) rfl ?_
  refine XL.q (q_assign rfl) rfl ?_
  refine XL.fin (kp 4 rfl (kp 5 rfl kn)) ?_
  refine XC.ret ?_
  refine tr ?_
  exact ⟨_, [], [], res2 rfl rfl rfl, List.nil_sublist _, by simp, rfl, rfl, rfl⟩

set_option maxRecDepth 100000 in
theorem putNil_spec (k : Nat) (vo : Value) (tx : List Nat) (n : Int) (A : Mem) : FnV Tryd.prog 29 [.pointer none, .agg (tmc k vo tx n).toArray] A (.int .i64 (-1)) := by
  refine FnX.enter (N := 50) Tryd.func29 rfl rfl rfl fun w => ?_
  refine XC.keep (kp 0 rfl (kp 1 rfl kn)) ?_
  refine XC.reg ?_
  refine XL.lo rfl (l_box rfl rfl rfl fun b3 => ?_)
  refine XL.q (q_assign rfl) rfl ?_
  refine XL.fin (kp 0 rfl (kp 3 rfl kn)) ?_
  refine XC.seq ?_
  refine XC.reg ?_
  refine XL.q (q_move rfl) rfl ?_
  refine XL.q (q_ptrEqNil (e := 100) rfl rfl (by kernel_rfl)) rfl ?_
  refine XL.fin (kp 0 rfl (kp 3 rfl (kp 8 rfl kn))) ?_
  refine XC.condT rfl ?_
  refine XC.reg ?_
  refine XL.q (q_assign rfl) rfl ?_
  refine XL.fin (kp 4 rfl kn) ?_
  refine XC.ret ?_
  refine tr ?_
  exact ⟨_, [], [], res1 rfl rfl, List.nil_sublist _, by simp, rfl, rfl, rfl⟩

set_option maxRecDepth 100000 in
theorem lenNil_spec (A : Mem) : FnV Tryd.prog 30 [.pointer none] A (.int .i64 0) := by
  refine FnX.enter (N := 10) Tryd.func30 rfl rfl rfl fun w => ?_
  refine XC.keep (kp 0 rfl kn) ?_
  refine XC.reg ?_
  refine XL.q (q_assign rfl) rfl ?_
  refine XL.fin (kp 0 rfl kn) ?_
  refine XC.seq ?_
  refine XC.reg ?_
  refine XL.q (q_move rfl) rfl ?_
  refine XL.q (q_ptrEqNil (e := 100) rfl rfl (by kernel_rfl)) rfl ?_
  refine XL.fin (kp 0 rfl (kp 4 rfl kn)) ?_
  refine XC.condT rfl ?_
  refine XC.reg ?_
  refine XL.q (q_assign rfl) rfl ?_
  refine XL.fin (kp 2 rfl kn) ?_
  refine XC.ret ?_
  refine tr ?_
  exact ⟨_, [], [], res1 rfl rfl, List.nil_sublist _, by simp, rfl, rfl, rfl⟩

set_option maxRecDepth 100000 in
theorem termNil_spec (i : Int) (k : Nat) (vo : Value) (tx : List Nat) (n : Int) (m : Nat) (xs : List Value) (A : Mem) (ho : Rd A 1 vo m xs) {e4 : TypeId} {f4 : Nat × Nat} (h4 : (4, Obj.cells (nums .u64 pow10T).toArray e4 f4) ∈ A) : FnV Tryd.prog 8 [.int .i64 i, .agg (tmc k vo tx n).toArray] A (.bool true) := by
  haveI := ho.cel
  refine FnX.enter (N := 54) Tryd.func8 rfl rfl rfl fun w => ?_
  refine XC.keep (kp 0 rfl (kp 1 rfl kn)) ?_
  refine XC.reg ?_
  refine XL.lo rfl (l_box rfl rfl rfl fun b3 => ?_)
  refine XL.q (q_assign rfl) rfl ?_
  refine XL.fin (kp 0 rfl (kp 3 rfl kn)) ?_
  refine XC.seq ?_
  refine XC.reg ?_
  refine XL.callV a0 (by kernel_rfl) (tawake_spec _ (mA h4)) rfl ?_
  refine XL.q (q_not rfl) rfl ?_
  refine XL.q (q_move rfl) rfl ?_
  refine XL.gy rfl rfl (OpQ.opL (q_fieldAddrN 1 (off := 1) rfl (by kernel_rfl) rfl) rfl ?_)
  refine XL.gy rfl rfl (OpQ.opL (q_load rfl (by kernel_rfl) (by first | exact At.mem | exact mA (by assumption)) (by rfl)) rfl ?_)
  refine XL.gy rfl rfl (OpQ.opL (q_lenV2 (sz := 1) rfl (by kernel_rfl) ho) rfl ?_)
  refine XL.gy rfl rfl (OpQ.opL (q_bin rfl rfl rfl) rfl ?_)
  refine XL.q (q_pickF rfl rfl) rfl ?_
  refine XL.q (q_move rfl) rfl ?_
  refine XL.split (t := 18) rfl (fun hb => ?_) (fun hb => ?_)
  ·
    refine XL.gn rfl rfl rfl rfl ?_
    refine XL.gn rfl rfl rfl rfl ?_
    refine XL.gn rfl rfl rfl rfl ?_
    refine XL.gn rfl rfl rfl rfl ?_
    refine XL.q (q_pickT rfl rfl) rfl ?_
    refine XL.fin (kp 0 rfl (kp 3 rfl (kp 23 rfl kn))) ?_
    refine XC.condT rfl ?_
    refine XC.reg ?_
    refine XL.callV a0 (by kernel_rfl) (tawake_spec _ (mA h4)) rfl ?_
    refine XL.q (q_assign rfl) rfl ?_
    refine XL.fin (kp 4 rfl kn) ?_
    refine XC.ret ?_
    refine tr ?_
    exact ⟨_, [], [], res1 rfl rfl, List.nil_sublist _, by simp, rfl, rfl, rfl⟩
  ·
    refine XL.gy rfl rfl (OpQ.opL (q_fieldAddrN 2 (off := 2) rfl (by kernel_rfl) rfl) rfl ?_)
    refine XL.gy rfl rfl (OpQ.opL (q_load rfl (by kernel_rfl) (by first | exact At.mem | exact mA (by assumption)) (by rfl)) rfl ?_)
    refine XL.gy rfl rfl (OpQ.opL (q_sLen rfl rfl (by kernel_rfl)) rfl ?_)
    refine XL.gy rfl rfl (OpQ.opL (q_bin rfl rfl rfl) rfl ?_)
    refine XL.q (q_pickF rfl rfl) rfl ?_
    refine XL.fin (kp 0 rfl (kp 3 rfl (kp 23 rfl kn))) ?_
    refine XC.cond rfl (fun hc => ?_) (fun hc => ?_)
    ·
      refine XC.reg ?_
      refine XL.callV a0 (by kernel_rfl) (tawake_spec _ (mA h4)) rfl ?_
      refine XL.q (q_assign rfl) rfl ?_
      refine XL.fin (kp 4 rfl kn) ?_
      refine XC.ret ?_
      refine tr ?_
      exact ⟨_, [], [], res1 rfl rfl, List.nil_sublist _, by simp, rfl, rfl, rfl⟩
    ·
      refine XC.skip ?_
      refine nx (kp 0 rfl (kp 3 rfl kn)) ?_
      refine XC.reg ?_
      refine XL.q (q_assign rfl) rfl ?_
      refine XL.fin (kp 0 rfl (kp 3 rfl (kp 5 rfl kn))) ?_
      refine XC.reg ?_
      refine XL.q (q_move rfl) rfl ?_
      refine XL.q (q_move rfl) rfl ?_
      refine XL.callV (aS rfl (aS rfl a0)) (by kernel_rfl) (getNil_spec i _) rfl ?_
      refine XL.q (q_move rfl) rfl ?_
      refine XL.q (q_x0 rfl) rfl ?_
      refine XL.q (q_x1 rfl) rfl ?_
      refine XL.lo rfl (l_alloc (cs := [.int .u8 0, .slice none 0 0, .string ByteArray.empty, .int .i64 0]) (by kernel_rfl) rfl fun b6 => ?_)
      refine XL.lo rfl (l_storeW rfl rfl Cel.cel (by kernel_rfl) (lnS (lnS (lnS (lnS (ln0))))) (allS rfl (allS rfl (allS rfl (allS rfl (all0))))) UpC.upd ?_)
      refine XL.q (q_assign rfl) rfl ?_
      refine XL.fin (kp 3 rfl (kp 5 rfl (kp 7 rfl kn))) ?_
      refine XC.reg ?_
      refine XL.q (q_move rfl) rfl ?_
      refine XL.q (q_loadW (n := 4) rfl (by kernel_rfl) (by first | exact At.mem | exact mA (by assumption)) (by rfl)) rfl ?_
      refine XL.callV (aS rfl (aS rfl a0)) (by kernel_rfl) (findNil_spec _ _ _ _ _) rfl ?_
      refine XL.q (q_move rfl) rfl ?_
      refine XL.q (q_x0 rfl) rfl ?_
      refine XL.q (q_x1 rfl) rfl ?_
      refine XL.q (q_assign rfl) rfl ?_
      refine XL.q (q_assign rfl) rfl ?_
      refine XL.fin (kp 3 rfl (kp 5 rfl (kp 7 rfl (kp 9 rfl kn)))) ?_
      refine XC.reg ?_
      refine XL.q (q_move rfl) rfl ?_
      refine XL.q (q_loadW (n := 4) rfl (by kernel_rfl) (by first | exact At.mem | exact mA (by assumption)) (by rfl)) rfl ?_
      refine XL.callV (aS rfl (aS rfl a0)) (by kernel_rfl) (putNil_spec _ _ _ _ _) rfl ?_
      refine XL.q (q_cmp true rfl rfl (eqT rfl)) rfl ?_
      refine XL.q (q_move rfl) rfl ?_
      refine XL.gy rfl rfl (OpQ.opL (q_move rfl) rfl ?_)
      refine XL.gy rfl rfl (OpQ.opL (q_not rfl) rfl ?_)
      refine XL.q (q_pickT rfl rfl) rfl ?_
      refine XL.q (q_move rfl) rfl ?_
      refine XL.gy rfl rfl (OpQ.opL (q_move rfl) rfl ?_)
      refine XL.gy rfl rfl (OpQ.opL (q_not rfl) rfl ?_)
      refine XL.q (q_pickT rfl rfl) rfl ?_
      refine XL.q (q_move rfl) rfl ?_
      refine XL.gy rfl rfl (OpQ.opL (q_move rfl) rfl ?_)
      refine XL.callVg rfl rfl (aS rfl a0) (by kernel_rfl) (lenNil_spec _) rfl ?_
      refine XL.gy rfl rfl (OpQ.opL (q_cmp true rfl rfl (eqT rfl)) rfl ?_)
      refine XL.q (q_pickT rfl rfl) rfl ?_
      refine XL.q (q_assign rfl) rfl ?_
      refine XL.fin (kp 4 rfl kn) ?_
      refine XC.ret ?_
      exact ⟨_, [], [], res1 rfl rfl, List.nil_sublist _, by simp, rfl, rfl, rfl⟩
