/- The walks of strconv's errors, and of strconv.Atoi of any text: it answers. -/
import Derived.Test.YtibemhcnjdgemaaDoorPrs2
import Derived.Test.YtibemhcnjdgemaaDoorUns
set_option linter.unusedVariables false
set_option linter.unusedSimpArgs false
namespace Go.Proofs.YtibemhcnjdgemaaDoor
open Go.Px

set_option maxRecDepth 100000 in
theorem clone_spec (ws : List Nat) (hw : B256 ws) (hl : ws.length ≤ 1099511627776) (A : Mem) : FnV Tryd.prog 85 [.string (txt ws)] A (.string (txt ws)) := by
  haveI := hw
  refine FnX.enter (N := 18) Tryd.func85 rfl rfl rfl fun w => ?_
  refine XC.keep (kp 0 rfl kn) ?_
  refine XC.reg ?_
  refine XL.q (q_assign rfl) rfl ?_
  refine XL.fin (kp 0 rfl kn) ?_
  refine XC.seq ?_
  refine XC.reg ?_
  refine XL.q (q_move rfl) rfl ?_
  refine XL.q (q_sLen rfl rfl (by kernel_rfl)) rfl ?_
  refine XL.q (q_bin rfl rfl rfl) rfl ?_
  refine XL.fin (kp 0 rfl (kp 6 rfl kn)) ?_
  refine XC.cond rfl (fun hc => ?_) (fun hc => ?_)
  ·
    have h0 : ws = [] := by simpa using hc
    subst h0
    refine XC.reg ?_
    refine XL.q (q_assign rfl) rfl ?_
    refine XL.fin (kp 2 rfl kn) ?_
    refine XC.ret ?_
    refine tr ?_
    exact ⟨_, [], [], res1 rfl rfl, List.nil_sublist _, by simp, rfl, rfl, rfl⟩
  ·
    have h0 : 0 < ws.length := List.length_pos_iff.2 (by simpa using hc)
    refine XC.skip ?_
    refine nx (kp 0 rfl kn) ?_
    refine XC.reg ?_
    refine XL.q (q_move rfl) rfl ?_
    refine XL.q (q_sLen rfl rfl (by kernel_rfl)) rfl ?_
    refine XL.lo rfl (l_makeN (by_ := 1) (k := .u8) (e := 5) ws.length rfl rfl (by kernel_rfl) rfl rfl (by omega) (by omega) rfl fun b9 => ?_)
    refine XL.q (q_assign rfl) rfl ?_
    refine XL.fin (kp 0 rfl (kp 3 rfl kn)) ?_
    refine XC.reg ?_
    refine XL.q (q_move rfl) rfl ?_
    refine XL.q (q_move rfl) rfl ?_
    refine XL.lo rfl (l_copyStr (e := 5) (us := ws) (vs := List.replicate ws.length 0) (by_ := 1) rfl rfl (by kernel_rfl) (fun x hx => hw.lt x hx) rfl (by simp) UpC.upd rfl ?_)
    refine XL.fin (kp 3 rfl kn) ?_
    refine XC.reg ?_
    refine XL.q (q_move rfl) rfl ?_
    refine XL.q (q_atV2 (sz := 1) (a := 0) rfl rfl (by kernel_rfl) rfl (show Rd [(b9, Obj.cells (nums .u8 ws).toArray 5 (0, 0))] 1 _ ws.length (nums .u8 ws) from Rd.whole (n := ws.length) List.mem_cons_self (by simp)) h0) rfl ?_
    refine XL.q (q_move rfl) rfl ?_
    refine XL.q (q_lenS (e := 5) rfl (by kernel_rfl)) rfl ?_
    refine XL.lo rfl (l_unsafeStr (e := 5) (ws := ws) rfl rfl (by kernel_rfl) (by kernel_rfl) h0 (fun x hx => hw.lt x hx) (by omega) rfl UpC.upd ?_)
    refine XL.q (q_assign rfl) rfl ?_
    refine XL.fin (kp 2 rfl kn) ?_
    refine XC.ret ?_
    exact ⟨_, [], [], res1 rfl rfl, List.nil_sublist _, by simp, rfl, rfl, rfl⟩

set_option maxRecDepth 100000 in
theorem syntaxError_spec (fs : ByteArray) (ws : List Nat) (hw : B256 ws) (hl : ws.length ≤ 1099511627776) (A : Mem) {v5 : Value} {e5 : TypeId} {f5 : Nat × Nat} (c5 : Cel v5 [v5]) (h5 : (1, Obj.cells [v5].toArray e5 f5) ∈ A) : FnX Tryd.prog 64 [.string fs, .string (txt ws)] [] A fun r M J => ∃ q, r = .pointer q := by
  haveI := hw
  haveI := c5
  refine FnX.enter (N := 11) Tryd.func64 rfl rfl rfl fun w => ?_
  refine XC.keep (kp 0 rfl (kp 1 rfl kn)) ?_
  refine XC.reg ?_
  refine XL.q (q_assign rfl) rfl ?_
  refine XL.fin (kp 0 rfl (kp 1 rfl kn)) ?_
  refine XC.drawF [0, 1, 2, 3, 4, 5, 6] [(0, 0), (1, 0), (3, 1), (2, 2), (4, 0), (5, 2), (6, 0)] (by kernel_rfl) (by kernel_rfl) fun hs => ?_
  refine XF.q hs rfl (q_move rfl) rfl ?_
  refine XF.q hs rfl (q_move rfl) rfl ?_
  refine XF.r hs rfl (q_load (v := v5) rfl (by kernel_rfl) (mA h5) (by rfl)) rfl ?_
  refine XF.callV rfl (aS rfl a0) (by kernel_rfl) (clone_spec ws hw hl _) rfl ?_
  refine XF.q hs rfl (q_build (place := fun x => #[(0, 1), (1, 1), (2, 1)][x]?) (z := [.string ByteArray.empty, .string ByteArray.empty, .nilIface]) (fun _ => by kernel_rfl) (eS rfl (eS rfl (eS rfl e0))) (bdS 0 1 rfl (by rfl) (bdS 1 1 rfl (by rfl) (bdS 2 1 rfl (by rfl) bd0)))) rfl ?_
  refine XF.lo rfl rfl fun _ => (l_box rfl rfl rfl fun b10 => ?_)
  refine XF.q hs rfl (q_assign rfl) rfl ?_
  refine XF.fin (kp 4 rfl kn) ?_
  refine XC.ret ?_
  exact ⟨_, _, [], res1 rfl rfl, List.Sublist.refl _, by simp, _, rfl⟩

set_option maxRecDepth 100000 in
theorem rangeError_spec (fs : ByteArray) (ws : List Nat) (hw : B256 ws) (hl : ws.length ≤ 1099511627776) (A : Mem) {v5 : Value} {e5 : TypeId} {f5 : Nat × Nat} (c5 : Cel v5 [v5]) (h5 : (2, Obj.cells [v5].toArray e5 f5) ∈ A) : FnX Tryd.prog 65 [.string fs, .string (txt ws)] [] A fun r M J => ∃ q, r = .pointer q := by
  haveI := hw
  haveI := c5
  refine FnX.enter (N := 11) Tryd.func65 rfl rfl rfl fun w => ?_
  refine XC.keep (kp 0 rfl (kp 1 rfl kn)) ?_
  refine XC.reg ?_
  refine XL.q (q_assign rfl) rfl ?_
  refine XL.fin (kp 0 rfl (kp 1 rfl kn)) ?_
  refine XC.drawF [0, 1, 2, 3, 4, 5, 6] [(0, 0), (1, 0), (3, 1), (2, 2), (4, 0), (5, 2), (6, 0)] (by kernel_rfl) (by kernel_rfl) fun hs => ?_
  refine XF.q hs rfl (q_move rfl) rfl ?_
  refine XF.q hs rfl (q_move rfl) rfl ?_
  refine XF.r hs rfl (q_load (v := v5) rfl (by kernel_rfl) (mA h5) (by rfl)) rfl ?_
  refine XF.callV rfl (aS rfl a0) (by kernel_rfl) (clone_spec ws hw hl _) rfl ?_
  refine XF.q hs rfl (q_build (place := fun x => #[(0, 1), (1, 1), (2, 1)][x]?) (z := [.string ByteArray.empty, .string ByteArray.empty, .nilIface]) (fun _ => by kernel_rfl) (eS rfl (eS rfl (eS rfl e0))) (bdS 0 1 rfl (by rfl) (bdS 1 1 rfl (by rfl) (bdS 2 1 rfl (by rfl) bd0)))) rfl ?_
  refine XF.lo rfl rfl fun _ => (l_box rfl rfl rfl fun b10 => ?_)
  refine XF.q hs rfl (q_assign rfl) rfl ?_
  refine XF.fin (kp 4 rfl kn) ?_
  refine XC.ret ?_
  exact ⟨_, _, [], res1 rfl rfl, List.Sublist.refl _, by simp, _, rfl⟩

set_option maxRecDepth 100000 in
theorem toError_spec (fs : ByteArray) (ws : List Nat) (p : Option Int) (hw : B256 ws) (hl : ws.length ≤ 1099511627776) (hp : p = some 1 ∨ p = some 2) (A : Mem) {v5 : Value} {e5 : TypeId} {f5 : Nat × Nat} (c5 : Cel v5 [v5]) (h5 : (1, Obj.cells [v5].toArray e5 f5) ∈ A) {v6 : Value} {e6 : TypeId} {f6 : Nat × Nat} (c6 : Cel v6 [v6]) (h6 : (2, Obj.cells [v6].toArray e6 f6) ∈ A) : FnX Tryd.prog 58 [.string fs, .string (txt ws), .int .i64 0, .int .i64 0, errV 116 p] [] A fun r M J => ∃ u z, r = .iface u z := by
  haveI := hw
  refine FnX.enter (N := 43) Tryd.func58 rfl rfl rfl fun w => ?_
  refine XC.keep (kp 0 rfl (kp 1 rfl (kp 2 rfl (kp 3 rfl (kp 4 rfl kn))))) ?_
  refine XC.reg ?_
  refine XL.q (q_assign rfl) rfl ?_
  refine XL.fin (kp 0 rfl (kp 1 rfl (kp 2 rfl (kp 3 rfl (kp 4 rfl kn))))) ?_
  refine XC.seq ?_
  refine XC.reg ?_
  refine XL.q (q_move rfl) rfl ?_
  refine XL.fin (kp 0 rfl (kp 1 rfl (kp 2 rfl (kp 3 rfl (kp 4 rfl (kp 11 rfl kn)))))) ?_
  refine XC.block ?_
  refine XC.reg ?_
  refine XL.q (q_mkIf rfl (by kernel_rfl)) rfl ?_
  refine XL.q (q_errEq (u := 116) (p := p) (n := 2) rfl rfl (by kernel_rfl) (by kernel_rfl) (by kernel_rfl)) rfl ?_
  refine XL.q (q_assign rfl) rfl ?_
  refine XL.fin (kp 0 rfl (kp 1 rfl (kp 2 rfl (kp 3 rfl (kp 4 rfl (kp 11 rfl (kp 12 rfl kn))))))) ?_
  refine XC.cond rfl (fun hc => ?_) (fun hc => ?_)
  ·
    refine XC.reg ?_
    refine XL.q (q_move rfl) rfl ?_
    refine XL.q (q_move rfl) rfl ?_
    refine XL.call (aS rfl (aS rfl a0)) (by kernel_rfl) (syntaxError_spec fs ws hw hl _ c5 (mA h5)) rfl ?_
    rintro v17 M17 J17 ⟨q17, rfl⟩
    refine XL.q (q_mkIf rfl (by kernel_rfl)) rfl ?_
    refine XL.q (q_assign rfl) rfl ?_
    refine XL.fin (kp 10 rfl kn) ?_
    refine XC.ret ?_
    refine br ?_
    refine tr ?_
    exact ⟨_, _, [], res1 rfl rfl, List.Sublist.refl _, by simp, _, _, rfl⟩
  ·
    have hc2 := hc
    refine XC.reg ?_
    refine XL.q (q_mkIf rfl (by kernel_rfl)) rfl ?_
    refine XL.q (q_errEq (u := 116) (p := p) (n := 1) rfl rfl (by kernel_rfl) (by kernel_rfl) (by kernel_rfl)) rfl ?_
    refine XL.q (q_assign rfl) rfl ?_
    refine XL.fin (kp 0 rfl (kp 1 rfl (kp 2 rfl (kp 3 rfl (kp 4 rfl (kp 11 rfl (kp 19 rfl kn))))))) ?_
    refine XC.cond rfl (fun hc => ?_) (fun hc => ?_)
    ·
      refine XC.reg ?_
      refine XL.q (q_move rfl) rfl ?_
      refine XL.q (q_move rfl) rfl ?_
      refine XL.call (aS rfl (aS rfl a0)) (by kernel_rfl) (rangeError_spec fs ws hw hl _ c6 (mA h6)) rfl ?_
      rintro v24 M24 J24 ⟨q24, rfl⟩
      refine XL.q (q_mkIf rfl (by kernel_rfl)) rfl ?_
      refine XL.q (q_assign rfl) rfl ?_
      refine XL.fin (kp 10 rfl kn) ?_
      refine XC.ret ?_
      refine br ?_
      refine tr ?_
      exact ⟨_, _, [], res1 rfl rfl, List.Sublist.refl _, by simp, _, _, rfl⟩
    ·
      have hn2 : p ≠ some 2 := by intro h; subst h; simp at hc2
      exact absurd hc (by rcases hp with rfl | rfl <;> simp at *)

set_option maxRecDepth 100000 in
theorem atoi_any (ws : List Nat) (hw : B256 ws) (hl : ws.length ≤ 1099511627776) (A : Mem) {v5 : Value} {e5 : TypeId} {f5 : Nat × Nat} (c5 : Cel v5 [v5]) (h5 : (1, Obj.cells [v5].toArray e5 f5) ∈ A) {v6 : Value} {e6 : TypeId} {f6 : Nat × Nat} (c6 : Cel v6 [v6]) (h6 : (2, Obj.cells [v6].toArray e6 f6) ∈ A) : FnX Tryd.prog 46 [.string (txt ws)] [] A fun r M J => ∃ (n : Int) (v : Value), r = .tuple #[.int .i64 n, v] ∧ i64 n ∧ (v = .nilIface ∨ ∃ u z, v = .iface u z) := by
  haveI := hw
  refine FnX.enter (N := 18) Tryd.func46 rfl rfl rfl fun w => ?_
  refine XC.keep (kp 0 rfl kn) ?_
  refine XC.reg ?_
  refine XL.q (q_assign rfl) rfl ?_
  refine XL.q (q_assign rfl) rfl ?_
  refine XL.fin (kp 0 rfl kn) ?_
  refine XC.reg ?_
  refine XL.q (q_move rfl) rfl ?_
  refine XL.call (aS rfl a0) (by kernel_rfl) (atoi0_any ws hw hl _) rfl ?_
  rintro v8 M8 J8 ⟨n8, p8, rfl, hn8, ho8⟩
  refine XL.q (q_move rfl) rfl ?_
  refine XL.q (q_x0 rfl) rfl ?_
  refine XL.q (q_x1 rfl) rfl ?_
  refine XL.q (q_assign rfl) rfl ?_
  refine XL.q (q_assign rfl) rfl ?_
  refine XL.fin (kp 0 rfl (kp 4 rfl (kp 5 rfl kn))) ?_
  refine XC.seq ?_
  refine XC.reg ?_
  refine XL.q (q_move rfl) rfl ?_
  refine XL.q (q_errNeN (u := 116) (p := p8) rfl (by kernel_rfl)) rfl ?_
  refine XL.fin (kp 0 rfl (kp 4 rfl (kp 5 rfl (kp 12 rfl kn)))) ?_
  refine XC.cond rfl (fun hc => ?_) (fun hc => ?_)
  ·
    have hp8 : p8 = some 1 ∨ p8 = some 2 := by rcases ho8 with rfl | h; cases hc; exact h
    refine XC.reg ?_
    refine XL.q (q_move rfl) rfl ?_
    refine XL.q (q_move rfl) rfl ?_
    refine XL.q (q_move rfl) rfl ?_
    refine XL.call (aS rfl (aS rfl (aS rfl (aS rfl (aS rfl a0))))) (by kernel_rfl) (toError_spec _ ws p8 hw hl hp8 _ c5 (SubC.sub _ h5) c6 (SubC.sub _ h6)) rfl ?_
    rintro v16 M16 J16 ⟨u16, z16, rfl⟩
    refine XL.q (q_assign rfl) rfl ?_
    refine XL.q (q_assign rfl) rfl ?_
    refine XL.fin (kp 2 rfl (kp 3 rfl kn)) ?_
    refine XC.ret ?_
    refine tr ?_
    exact ⟨_, _, _, res2 rfl rfl rfl, List.Sublist.refl _, fun _ h => h, _, _, rfl, hn8, .inr ⟨_, _, rfl⟩⟩
  ·
    refine XC.skip ?_
    refine nx (kp 4 rfl kn) ?_
    refine XC.reg ?_
    refine XL.q (q_move rfl) rfl ?_
    refine XL.q (q_assign rfl) rfl ?_
    refine XL.q (q_assign rfl) rfl ?_
    refine XL.fin (kp 2 rfl (kp 3 rfl kn)) ?_
    refine XC.ret ?_
    exact ⟨_, _, _, res2 rfl rfl rfl, List.Sublist.refl _, fun _ h => h, _, _, rfl, hn8, .inl rfl⟩
