/- The walks of strconv.Itoa. -/
import Derived.Test.YthmnlkpikgglbaaGreatDoorStc
set_option linter.unusedVariables false
set_option linter.unusedSimpArgs false
namespace Go.Proofs.YthmnlkpikgglbaaGreatDoor
open Go.Px
def digitsL : List Nat := [48, 49, 50, 51, 52, 53, 54, 55, 56, 57, 97, 98, 99, 100, 101, 102, 103, 104, 105, 106, 107, 108, 109, 110, 111, 112, 113, 114, 115, 116, 117, 118, 119, 120, 121, 122]
theorem digits_law : ∀ i : Fin 10, (digitsL.take (i.val + 1)).drop i.val = dec i.val := by decide +kernel
theorem smalls2_law : ∀ i : Fin 100, 10 ≤ i.val → (smallsL.take (i.val * 2 + 2)).drop (i.val * 2) = dec i.val := by decide +kernel
theorem wrap_neg {n : Nat} (h0 : 0 < n) (h : n ≤ 9223372036854775808) : IntKind.u64.wrap (-(n : Int)) = ((18446744073709551616 - n : Nat) : Int) := by
  simp [IntKind.wrap, IntKind.bits, IntKind.signed]; omega
theorem wrap_neg2 {n : Nat} (h0 : 0 < n) (h : n ≤ 9223372036854775808) : IntKind.u64.wrap (0 - ((18446744073709551616 - n : Nat) : Int)) = (n : Int) := by
  simp [IntKind.wrap, IntKind.bits, IntKind.signed]; omega
theorem row_pos {n : Nat} (h : nd10 n ≤ 20) : (((List.replicate 24 0).take 1 ++ (dgs (nd10 n) n ++ (List.replicate 24 0).drop (1 + nd10 n))).drop 1).take (nd10 n) = dec n := by
  rw [List.drop_append_of_le_length (by simp)]
  simp [dec]
  rw [List.take_append_of_le_length (by rw [dgs_len]; omega), List.take_of_length_le (by rw [dgs_len]; omega)]
theorem row_neg {n : Nat} (h : nd10 n ≤ 20) : (((List.replicate 24 0).take 1 ++ (dgs (nd10 n) n ++ (List.replicate 24 0).drop (1 + nd10 n))).set 0 45).take (1 + nd10 n) = 45 :: dec n := by
  simp only [List.replicate, List.take, List.cons_append, List.nil_append, List.set_cons_zero]
  rw [Nat.add_comm 1, List.take_succ_cons, List.take_append_of_le_length (by rw [dgs_len]; omega), List.take_of_length_le (by rw [dgs_len]; omega)]
  rfl
theorem nums_mid {k : IntKind} (ws : List Nat) (o n : Nat) : ((nums k ws).drop o).take n = nums k ((ws.drop o).take n) := by simp [nums, List.map_drop, List.map_take]
theorem row_len24 {n : Nat} (h : nd10 n ≤ 20) : ((List.replicate 24 0).take 1 ++ (dgs (nd10 n) n ++ (List.replicate 24 0).drop (1 + nd10 n))).length = 24 := by
  simp [dgs_len]; omega

set_option maxRecDepth 100000 in
theorem small10_spec (i : Nat) (hi : i < 100) (A : Mem) : FnV Tryz.prog 153 [.int .i64 (i : Int)] A (.string (txt (dec i))) := by
  refine FnX.enter (N := 15) Tryz.func153 rfl rfl rfl fun w => ?_
  refine XC.keep (kp 0 rfl kn) ?_
  refine XC.reg ?_
  refine XL.q (q_assign rfl) rfl ?_
  refine XL.fin (kp 0 rfl kn) ?_
  refine XC.seq ?_
  refine XC.reg ?_
  refine XL.q (q_move rfl) rfl ?_
  refine XL.q (q_bin rfl rfl rfl) rfl ?_
  refine XL.fin (kp 0 rfl (kp 4 rfl kn)) ?_
  refine XC.cond rfl (fun hc => ?_) (fun hc => ?_)
  ·
    have hlt : i < 10 := by simp at hc; omega
    refine XC.reg ?_
    refine XL.q (q_move rfl) rfl ?_
    refine XL.q (q_move rfl) rfl ?_
    refine XL.q (q_addI (b := 1) rfl rfl rfl rfl (by omega)) rfl ?_
    refine XL.q (digits_law ⟨i, hlt⟩ ▸ q_sLH (ws := digitsL) (a := i) (b := i + 1) rfl (by kernel_rfl) rfl rfl (by kernel_rfl) rfl rfl (by omega) (by show _ ≤ 36; omega)) rfl ?_
    refine XL.q (q_assign rfl) rfl ?_
    refine XL.fin (kp 2 rfl kn) ?_
    refine XC.ret ?_
    refine tr ?_
    exact ⟨_, [], [], res1 rfl rfl, List.nil_sublist _, by simp, rfl, rfl, rfl⟩
  ·
    have hge : 10 ≤ i := by simp at hc; omega
    refine XC.skip ?_
    refine nx (kp 0 rfl kn) ?_
    refine XC.reg ?_
    refine XL.q (q_move rfl) rfl ?_
    refine XL.q (q_mulI (b := 2) rfl rfl rfl rfl (by omega)) rfl ?_
    refine XL.q (q_move rfl) rfl ?_
    refine XL.q (q_mulI (b := 2) rfl rfl rfl rfl (by omega)) rfl ?_
    refine XL.q (q_addI (b := 2) rfl rfl rfl rfl (by omega)) rfl ?_
    refine XL.q (smalls2_law ⟨i, hi⟩ hge ▸ q_sLH (ws := smallsL) (a := i * 2) (b := i * 2 + 2) rfl (by kernel_rfl) rfl rfl (by kernel_rfl) rfl rfl (by omega) (by rw [smalls_len]; omega)) rfl ?_
    refine XL.q (q_assign rfl) rfl ?_
    refine XL.fin (kp 2 rfl kn) ?_
    refine XC.ret ?_
    exact ⟨_, [], [], res1 rfl rfl, List.nil_sublist _, by simp, rfl, rfl, rfl⟩

set_option maxRecDepth 100000 in
theorem formatInt_spec (i : Int) (hmin : -9223372036854775808 ≤ i) (hmax : i ≤ 9223372036854775807) (A : Mem) {e4 : TypeId} {f4 : Nat × Nat} (h4 : (4, Obj.cells (nums .u64 pow10T).toArray e4 f4) ∈ A) : FnV Tryz.prog 127 [.int .i64 i, .int .i64 10] A (.string (txt (decI i))) := by
  refine FnX.enter (N := 54) Tryz.func127 rfl rfl rfl fun w => ?_
  refine XC.keep (kp 0 rfl (kp 1 rfl kn)) ?_
  refine XC.reg ?_
  refine XL.q (q_assign rfl) rfl ?_
  refine XL.fin (kp 0 rfl (kp 1 rfl kn)) ?_
  refine XC.seq ?_
  refine XC.reg ?_
  refine XL.q (q_move rfl) rfl ?_
  refine XL.q (q_cmp true rfl rfl (eqT rfl)) rfl ?_
  refine XL.fin (kp 0 rfl (kp 1 rfl (kp 11 rfl kn))) ?_
  refine XC.condT rfl ?_
  refine XC.seq ?_
  refine XC.reg ?_
  refine XL.q (q_move rfl) rfl ?_
  refine XL.q (q_bin rfl rfl rfl) rfl ?_
  refine XL.q (q_move rfl) rfl ?_
  refine XL.split (t := 14) rfl (fun hb => ?_) (fun hb => ?_)
  ·
    obtain ⟨n, rfl⟩ := Int.eq_ofNat_of_zero_le (show 0 ≤ i by simpa using hb)
    clear hb hmin
    rw [show decI ((n : Nat) : Int) = dec n by simp [decI]]
    refine XL.gy rfl rfl (OpQ.opL (q_move rfl) rfl ?_)
    refine XL.gy rfl rfl (OpQ.opL (q_bin rfl rfl rfl) rfl ?_)
    refine XL.q (q_pickT rfl rfl) rfl ?_
    refine XL.fin (kp 0 rfl (kp 17 rfl kn)) ?_
    refine XC.cond rfl (fun hc => ?_) (fun hc => ?_)
    ·
      have hlt : n < 100 := by simp at hc; omega
      refine XC.reg ?_
      refine XL.q (q_move rfl) rfl ?_
      refine XL.callV (aS rfl a0) (by kernel_rfl) (small10_spec n hlt _) rfl ?_
      refine XL.q (q_assign rfl) rfl ?_
      refine XL.fin (kp 4 rfl kn) ?_
      refine XC.ret ?_
      refine tr ?_
      refine tr ?_
      exact ⟨_, [], [], res1 rfl rfl, List.nil_sublist _, by simp, rfl, rfl, rfl⟩
    ·
      have hge : 100 ≤ n := by simp at hc; omega
      refine XC.skip ?_
      refine nx (kp 0 rfl kn) ?_
      refine XC.reg ?_
      refine XL.lo rfl (l_alloc (cs := [.int .u8 0, .int .u8 0, .int .u8 0, .int .u8 0, .int .u8 0, .int .u8 0, .int .u8 0, .int .u8 0, .int .u8 0, .int .u8 0, .int .u8 0, .int .u8 0, .int .u8 0, .int .u8 0, .int .u8 0, .int .u8 0, .int .u8 0, .int .u8 0, .int .u8 0, .int .u8 0, .int .u8 0, .int .u8 0, .int .u8 0, .int .u8 0]) (by kernel_rfl) rfl fun b5 => ?_)
      refine XL.fin (kp 0 rfl (kp 5 rfl kn)) ?_
      have hnd := nd10_le (u := n) (by omega)
      have hnd1 : 1 ≤ nd10 n := ndF_pos 64 n
      have hlt10 : n < 10 ^ nd10 n := ndF_lt 64 n (Nat.lt_trans (show n < 18446744073709551616 by omega) (by decide))
      refine XC.fit (M' := [(b5, blk (nums .u8 (List.replicate 24 0)) 205)]) (Fit.eq (by rfl)) (fun _ h => h) ?_
      refine XC.reg ?_
      refine XL.q (q_move rfl) rfl ?_
      refine XL.q ((Nat.mod_eq_of_lt (show n < 18446744073709551616 by omega)) ▸ q_to64 rfl (by kernel_rfl)) rfl ?_
      refine XL.q (q_assign rfl) rfl ?_
      refine XL.fin (kp 0 rfl (kp 5 rfl (kp 6 rfl kn))) ?_
      refine XC.seq ?_
      refine XC.reg ?_
      refine XL.q (q_move rfl) rfl ?_
      refine XL.q (q_bin rfl rfl rfl) rfl ?_
      refine XL.fin (kp 0 rfl (kp 5 rfl (kp 6 rfl (kp 23 rfl kn)))) ?_
      refine XC.cond rfl (fun hc => ?_) (fun hc => ?_)
      ·
        exfalso
        simp at hc
        omega
      ·
        refine XC.skip ?_
        refine nx (kp 0 rfl (kp 5 rfl (kp 6 rfl kn))) ?_
        refine XC.reg ?_
        refine XL.q (q_move rfl) rfl ?_
        refine XL.callV (aS rfl a0) (by kernel_rfl) (numDigits_spec n (by omega) (by omega) _ (mA h4)) rfl ?_
        refine XL.q (q_assign rfl) rfl ?_
        refine XL.fin (kp 0 rfl (kp 5 rfl (kp 6 rfl (kp 7 rfl kn)))) ?_
        refine XC.reg ?_
        refine XL.q (q_move rfl) rfl ?_
        refine XL.q (q_addI (a := 1) rfl rfl rfl rfl (by omega)) rfl ?_
        refine XL.q (q_slALH (sz := 1) (n := 24) (e := 5) 1 (1 + nd10 n) rfl (by kernel_rfl) (by kernel_rfl) rfl rfl rfl rfl (by omega) (by omega) (by omega)) rfl ?_
        refine XL.q (q_move rfl) rfl ?_
        refine XL.lo rfl (l_callB (Mc := [(b5, blk (nums .u8 (List.replicate 24 0)) 205)]) (aS rfl (aS rfl a0)) (by kernel_rfl) (fb10_spec b5 (0 + 1 * 1) (1 + nd10 n - 1) (24 - 1) n (List.replicate 24 0) _ (by omega) (by omega) (by simp; omega) (by rw [Nat.add_sub_cancel_left]; exact hlt10) (by omega) _) PickC.perm rfl ?_)
        rintro r32 M32 J32 ⟨rfl, rfl⟩
        rw [Nat.add_sub_cancel_left]
        dsimp only [List.cons_append, List.nil_append]
        refine XL.fin (kp 0 rfl (kp 5 rfl (kp 7 rfl kn))) ?_
        refine XC.seq ?_
        refine XC.reg ?_
        refine XL.q (q_move rfl) rfl ?_
        refine XL.q (q_bin rfl rfl rfl) rfl ?_
        refine XL.fin (kp 5 rfl (kp 7 rfl (kp 34 rfl kn))) ?_
        refine XC.cond rfl (fun hc => ?_) (fun hc => ?_)
        ·
          exfalso
          simp at hc
          omega
        ·
          refine XC.skip ?_
          refine nx (kp 5 rfl (kp 7 rfl kn)) ?_
          refine XC.reg ?_
          refine XL.q (q_move rfl) rfl ?_
          refine XL.q (q_addI (a := 1) rfl rfl rfl rfl (by omega)) rfl ?_
          refine XL.q (q_slALH (sz := 1) (n := 24) (e := 5) 1 (1 + nd10 n) rfl (by kernel_rfl) (by kernel_rfl) rfl rfl rfl rfl (by omega) (by omega) (by omega)) rfl ?_
          refine XL.q (q_toStr (ws := dec n) (n := 1 + nd10 n - 1) (rd_eq (Rd.mid (o := 0 + 1 * 1) (n := 1 + nd10 n - 1) (cap := 24 - 1) At.mem (by rw [nums_len, row_len24 hnd]; omega) (by omega)) rfl (by rw [nums_mid, Nat.add_sub_cancel_left, show 0 + 1 * 1 = 1 from rfl, row_pos hnd])) rfl (by kernel_rfl)) rfl ?_
          refine XL.q (q_assign rfl) rfl ?_
          refine XL.fin (kp 4 rfl kn) ?_
          refine XC.ret ?_
          refine tr ?_
          exact ⟨_, [], [], res1 rfl rfl, List.nil_sublist _, by simp, rfl, rfl, rfl⟩
  ·
    obtain ⟨n, hn0, rfl⟩ : ∃ n : Nat, 0 < n ∧ i = -(n : Int) := ⟨i.natAbs, by simp at hb; omega, by simp at hb; omega⟩
    clear hb
    rw [show decI (-(n : Int)) = 45 :: dec n by simp [decI]; omega]
    refine XL.gn rfl rfl rfl rfl ?_
    refine XL.gn rfl rfl rfl rfl ?_
    refine XL.q (q_pickF rfl rfl) rfl ?_
    refine XL.fin (kp 0 rfl (kp 17 rfl kn)) ?_
    refine XC.condF rfl ?_
    refine XC.skip ?_
    refine nx (kp 0 rfl kn) ?_
    refine XC.reg ?_
    refine XL.lo rfl (l_alloc (cs := [.int .u8 0, .int .u8 0, .int .u8 0, .int .u8 0, .int .u8 0, .int .u8 0, .int .u8 0, .int .u8 0, .int .u8 0, .int .u8 0, .int .u8 0, .int .u8 0, .int .u8 0, .int .u8 0, .int .u8 0, .int .u8 0, .int .u8 0, .int .u8 0, .int .u8 0, .int .u8 0, .int .u8 0, .int .u8 0, .int .u8 0, .int .u8 0]) (by kernel_rfl) rfl fun b5 => ?_)
    refine XL.fin (kp 0 rfl (kp 5 rfl kn)) ?_
    have hnd := nd10_le (u := n) (by omega)
    have hnd1 : 1 ≤ nd10 n := ndF_pos 64 n
    have hlt10 : n < 10 ^ nd10 n := ndF_lt 64 n (Nat.lt_trans (show n < 18446744073709551616 by omega) (by decide))
    refine XC.fit (M' := [(b5, blk (nums .u8 (List.replicate 24 0)) 205)]) (Fit.eq (by rfl)) (fun _ h => h) ?_
    refine XC.reg ?_
    refine XL.q (q_move rfl) rfl ?_
    refine XL.q (wrap_neg hn0 (by omega) ▸ q_conv (k' := .u64) rfl (by kernel_rfl)) rfl ?_
    refine XL.q (q_assign rfl) rfl ?_
    refine XL.fin (kp 0 rfl (kp 5 rfl (kp 6 rfl kn))) ?_
    refine XC.seq ?_
    refine XC.reg ?_
    refine XL.q (q_move rfl) rfl ?_
    refine XL.q (q_bin rfl rfl rfl) rfl ?_
    refine XL.fin (kp 0 rfl (kp 5 rfl (kp 6 rfl (kp 23 rfl kn)))) ?_
    refine XC.cond rfl (fun hc => ?_) (fun hc => ?_)
    ·
      refine XC.reg1 ?_
      refine XL.q (q_move rfl) rfl ?_
      refine XL.q (wrap_neg2 hn0 (by omega) ▸ q_neg rfl) rfl ?_
      refine XL.q (q_assign rfl) rfl ?_
      refine XL.fin (kp 0 rfl (kp 5 rfl (kp 6 rfl kn))) ?_
      refine XC.reg ?_
      refine XL.q (q_move rfl) rfl ?_
      refine XL.callV (aS rfl a0) (by kernel_rfl) (numDigits_spec n (by omega) (by omega) _ (mA h4)) rfl ?_
      refine XL.q (q_assign rfl) rfl ?_
      refine XL.fin (kp 0 rfl (kp 5 rfl (kp 6 rfl (kp 7 rfl kn)))) ?_
      refine XC.reg ?_
      refine XL.q (q_move rfl) rfl ?_
      refine XL.q (q_addI (a := 1) rfl rfl rfl rfl (by omega)) rfl ?_
      refine XL.q (q_slALH (sz := 1) (n := 24) (e := 5) 1 (1 + nd10 n) rfl (by kernel_rfl) (by kernel_rfl) rfl rfl rfl rfl (by omega) (by omega) (by omega)) rfl ?_
      refine XL.q (q_move rfl) rfl ?_
      refine XL.lo rfl (l_callB (Mc := [(b5, blk (nums .u8 (List.replicate 24 0)) 205)]) (aS rfl (aS rfl a0)) (by kernel_rfl) (fb10_spec b5 (0 + 1 * 1) (1 + nd10 n - 1) (24 - 1) n (List.replicate 24 0) _ (by omega) (by omega) (by simp; omega) (by rw [Nat.add_sub_cancel_left]; exact hlt10) (by omega) _) PickC.perm rfl ?_)
      rintro r32 M32 J32 ⟨rfl, rfl⟩
      rw [Nat.add_sub_cancel_left]
      dsimp only [List.cons_append, List.nil_append]
      refine XL.fin (kp 0 rfl (kp 5 rfl (kp 7 rfl kn))) ?_
      refine XC.seq ?_
      refine XC.reg ?_
      refine XL.q (q_move rfl) rfl ?_
      refine XL.q (q_bin rfl rfl rfl) rfl ?_
      refine XL.fin (kp 5 rfl (kp 7 rfl (kp 34 rfl kn))) ?_
      refine XC.cond rfl (fun hc => ?_) (fun hc => ?_)
      ·
        refine XC.reg ?_
        refine XL.q (q_idxAN 0 (e := 5) (n := 24) (sz := 1) (i := 0) rfl rfl (by kernel_rfl) (by kernel_rfl) rfl (by decide) rfl) rfl ?_
        refine XL.lo rfl (l_stN 0 rfl rfl (by kernel_rfl) rfl (by rw [row_len24 hnd]; omega) UpC.upd ?_)
        refine XL.fin (kp 5 rfl (kp 7 rfl kn)) ?_
        refine XC.reg ?_
        refine XL.q (q_move rfl) rfl ?_
        refine XL.q (q_addI (a := 1) rfl rfl rfl rfl (by omega)) rfl ?_
        refine XL.q (q_slAHi (sz := 1) (n := 24) (e := 5) (1 + nd10 n) rfl (by kernel_rfl) (by kernel_rfl) rfl rfl (by omega)) rfl ?_
        refine XL.q (q_toStr (ws := 45 :: dec n) (n := 1 + nd10 n) (rd_eq (Rd.mid (o := 0) (n := 1 + nd10 n) (cap := 24) At.mem (by rw [nums_len, List.length_set, row_len24 hnd]; omega) (by omega)) rfl (by rw [nums_mid, List.drop_zero, row_neg hnd])) rfl (by kernel_rfl)) rfl ?_
        refine XL.q (q_assign rfl) rfl ?_
        refine XL.fin (kp 4 rfl kn) ?_
        refine XC.ret ?_
        refine tr ?_
        refine tr ?_
        exact ⟨_, [], [], res1 rfl rfl, List.nil_sublist _, by simp, rfl, rfl, rfl⟩
      ·
        exfalso
        simp at hc
        omega
    ·
      exfalso
      simp at hc
      omega

set_option maxRecDepth 100000 in
theorem itoa0_spec (i : Int) (hmin : -9223372036854775808 ≤ i) (hmax : i ≤ 9223372036854775807) (A : Mem) {e4 : TypeId} {f4 : Nat × Nat} (h4 : (4, Obj.cells (nums .u64 pow10T).toArray e4 f4) ∈ A) : FnV Tryz.prog 96 [.int .i64 i] A (.string (txt (decI i))) := by
  refine FnX.enter (N := 5) Tryz.func96 rfl rfl rfl fun w => ?_
  refine XC.keep (kp 0 rfl kn) ?_
  refine XC.reg ?_
  refine XL.q (q_assign rfl) rfl ?_
  refine XL.fin (kp 0 rfl kn) ?_
  refine XC.reg ?_
  refine XL.q (q_move rfl) rfl ?_
  refine XL.callV (aS rfl (aS rfl a0)) (by kernel_rfl) (formatInt_spec i hmin hmax _ (mA h4)) rfl ?_
  refine XL.q (q_assign rfl) rfl ?_
  refine XL.fin (kp 2 rfl kn) ?_
  refine XC.ret ?_
  exact ⟨_, [], [], res1 rfl rfl, List.nil_sublist _, by simp, rfl, rfl, rfl⟩

set_option maxRecDepth 100000 in
theorem itoa_spec (i : Int) (hmin : -9223372036854775808 ≤ i) (hmax : i ≤ 9223372036854775807) (A : Mem) {e4 : TypeId} {f4 : Nat × Nat} (h4 : (4, Obj.cells (nums .u64 pow10T).toArray e4 f4) ∈ A) : FnV Tryz.prog 63 [.int .i64 i] A (.string (txt (decI i))) := by
  refine FnX.enter (N := 5) Tryz.func63 rfl rfl rfl fun w => ?_
  refine XC.keep (kp 0 rfl kn) ?_
  refine XC.reg ?_
  refine XL.q (q_assign rfl) rfl ?_
  refine XL.fin (kp 0 rfl kn) ?_
  refine XC.reg ?_
  refine XL.q (q_move rfl) rfl ?_
  refine XL.callV (aS rfl a0) (by kernel_rfl) (itoa0_spec i hmin hmax _ (mA h4)) rfl ?_
  refine XL.q (q_assign rfl) rfl ?_
  refine XL.fin (kp 2 rfl kn) ?_
  refine XC.ret ?_
  exact ⟨_, [], [], res1 rfl rfl, List.nil_sublist _, by simp, rfl, rfl, rfl⟩
