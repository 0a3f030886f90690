/- Part 6 of the texts of this claim, one behind the other. -/
import Derived.Test.YtphcaiplgpmnnaaGreatDoorB5
import Derived.MapKept
set_option linter.unusedVariables false
set_option linter.unusedSimpArgs false
set_option maxRecDepth 100000
namespace Go.Proofs.YtphcaiplgpmnnaaGreatDoor
open Go.Px
def digitsL : List Nat := [48, 49, 50, 51, 52, 53, 54, 55, 56, 57, 97, 98, 99, 100, 101, 102, 103, 104, 105, 106, 107, 108, 109, 110, 111, 112, 113, 114, 115, 116, 117, 118, 119, 120, 121, 122]
theorem digits_law : ∀ i : Fin 10, (digitsL.take (i.val + 1)).drop i.val = dec i.val := by decide +kernel
theorem smalls2_law : ∀ i : Fin 100, 10 ≤ i.val → (smallsL.take (i.val * 2 + 2)).drop (i.val * 2) = dec i.val := by decide +kernel
theorem wrap_neg {n : Nat} (h0 : 0 < n) (h : n ≤ 9223372036854775808) : IntKind.u64.wrap (-(n : Int)) = ((18446744073709551616 - n : Nat) : Int) := by
  simp [IntKind.wrap, IntKind.bits, IntKind.signed]; omega
theorem wrap_neg2 {n : Nat} (h0 : 0 < n) (h : n ≤ 9223372036854775808) : IntKind.u64.wrap (0 - ((18446744073709551616 - n : Nat) : Int)) = (n : Int) := by
  simp [IntKind.wrap, IntKind.bits, IntKind.signed]; omega
theorem row_pos {n : Nat} (h : nd10 n ≤ 20) : (((List.replicate 24 0).take 1 ++ (dgs (nd10 n) n ++ (List.replicate 24 0).drop (1 + nd10 n))).drop 1).take (nd10 n) = dec n := by
  rw [List.drop_append_of_le_length (by simp)]
  simp [dec]
  rw [List.take_append_of_le_length (by rw [dgs_len]; omega), List.take_of_length_le (by rw [dgs_len]; omega)]
theorem row_neg {n : Nat} (h : nd10 n ≤ 20) : (((List.replicate 24 0).take 1 ++ (dgs (nd10 n) n ++ (List.replicate 24 0).drop (1 + nd10 n))).set 0 45).take (1 + nd10 n) = 45 :: dec n := by
  simp only [List.replicate, List.take, List.cons_append, List.nil_append, List.set_cons_zero]
  rw [Nat.add_comm 1, List.take_succ_cons, List.take_append_of_le_length (by rw [dgs_len]; omega), List.take_of_length_le (by rw [dgs_len]; omega)]
  rfl
theorem nums_mid {k : IntKind} (ws : List Nat) (o n : Nat) : ((nums k ws).drop o).take n = nums k ((ws.drop o).take n) := by simp [nums, List.map_drop, List.map_take]
theorem row_len24 {n : Nat} (h : nd10 n ≤ 20) : ((List.replicate 24 0).take 1 ++ (dgs (nd10 n) n ++ (List.replicate 24 0).drop (1 + nd10 n))).length = 24 := by
  simp [dgs_len]; omega

theorem small10_spec (i : Nat) (hi : i < 100) (A : Mem) : FnV Tryz.prog 166 [.int .i64 (i : Int)] A (.string (txt (dec i))) := by
 refine FnX.enter (N := 15) Tryz.func166 rfl rfl rfl fun w => ?_
 refine XC.keep (kq 0 kn) ?_
 refine XC.reg ?_
 refine as_ ?_
 refine XL.fin (kq 0 kn) ?_
 refine XC.seq ?_
 refine XC.reg ?_
 refine mv_ ?_
 refine XL.q (q_bin rfl rfl rfl) rfl ?_
 refine XL.fin (kq 0 (kq 4 kn)) ?_
 refine XC.cond rfl (fun hc => ?_) (fun hc => ?_)
 ·
  have hlt : i < 10 := by simp at hc; omega
  refine XC.reg ?_
  refine mv_ (mv_ ?_)
  refine XL.q (q_addI (b := 1) rfl rfl rfl rfl (by omega)) rfl ?_
  refine XL.q (digits_law ⟨i, hlt⟩ ▸ q_sLH (ws := digitsL) (a := i) (b := i + 1) rfl (by kernel_rfl) rfl rfl (by kernel_rfl) rfl rfl (by omega) (by show _ ≤ 36; omega)) rfl ?_
  refine as_ ?_
  refine XL.fin (kq 2 kn) ?_
  refine XC.ret ?_
  refine tr ?_
  exact ⟨_, [], [], res1 rfl rfl, List.nil_sublist _, by simp, rfl, rfl, rfl⟩
 ·
  have hge : 10 ≤ i := by simp at hc; omega
  refine XC.skip ?_
  refine nx (kq 0 kn) ?_
  refine XC.reg ?_
  refine mv_ ?_
  refine XL.q (q_mulI (b := 2) rfl rfl rfl rfl (by omega)) rfl ?_
  refine mv_ ?_
  refine XL.q (q_mulI (b := 2) rfl rfl rfl rfl (by omega)) rfl ?_
  refine XL.q (q_addI (b := 2) rfl rfl rfl rfl (by omega)) rfl ?_
  refine XL.q (smalls2_law ⟨i, hi⟩ hge ▸ q_sLH (ws := smallsL) (a := i * 2) (b := i * 2 + 2) rfl (by kernel_rfl) rfl rfl (by kernel_rfl) rfl rfl (by omega) (by rw [smalls_len]; omega)) rfl ?_
  refine as_ ?_
  refine XL.fin (kq 2 kn) ?_
  refine XC.ret ?_
  exact ⟨_, [], [], res1 rfl rfl, List.nil_sublist _, by simp, rfl, rfl, rfl⟩

theorem formatInt_spec (i : Int) (hmin : -9223372036854775808 ≤ i) (hmax : i ≤ 9223372036854775807) (A : Mem) {e4 : TypeId} {f4 : Nat × Nat} (h4 : (2, Obj.cells (nums .u64 pow10T).toArray e4 f4) ∈ A) : FnV Tryz.prog 142 [.int .i64 i, .int .i64 10] A (.string (txt (decI i))) := by
 refine FnX.enter (N := 54) Tryz.func142 rfl rfl rfl fun w => ?_
 refine XC.keep (kq 0 (kq 1 kn)) ?_
 refine XC.reg ?_
 refine as_ ?_
 refine XL.fin (kq 0 (kq 1 kn)) ?_
 refine XC.seq ?_
 refine XC.reg ?_
 refine mv_ ?_
 refine XL.q (q_cmp true rfl rfl (eqT rfl)) rfl ?_
 refine XL.fin (kq 0 (kq 1 (kq 11 kn))) ?_
 refine XC.condT rfl ?_
 refine XC.seq ?_
 refine XC.reg ?_
 refine mv_ ?_
 refine XL.q (q_bin rfl rfl rfl) rfl ?_
 refine mv_ ?_
 refine XL.split (t := 14) rfl (fun hb => ?_) (fun hb => ?_)
 ·
  obtain ⟨n, rfl⟩ := Int.eq_ofNat_of_zero_le (show 0 ≤ i by simpa using hb)
  clear hb hmin
  rw [show decI ((n : Nat) : Int) = dec n by simp [decI]]
  refine XL.gy rfl rfl (OpQ.opL qm_ rfl ?_)
  refine XL.gy rfl rfl (OpQ.opL (q_bin rfl rfl rfl) rfl ?_)
  refine XL.q (q_pickT rfl rfl) rfl ?_
  refine XL.fin (kq 0 (kq 17 kn)) ?_
  refine XC.cond rfl (fun hc => ?_) (fun hc => ?_)
  ·
   have hlt : n < 100 := by simp at hc; omega
   refine XC.reg ?_
   refine mv_ ?_
   refine XL.callV (aS rfl a0) (by kernel_rfl) (small10_spec n hlt _) rfl ?_
   refine as_ ?_
   refine XL.fin (kq 4 kn) ?_
   refine XC.ret ?_
   refine tr ?_
   refine tr ?_
   exact ⟨_, [], [], res1 rfl rfl, List.nil_sublist _, by simp, rfl, rfl, rfl⟩
  ·
   have hge : 100 ≤ n := by simp at hc; omega
   refine XC.skip ?_
   refine nx (kq 0 kn) ?_
   refine XC.reg ?_
   refine XL.lo rfl (l_alloc (cs := [.int .u8 0, .int .u8 0, .int .u8 0, .int .u8 0, .int .u8 0, .int .u8 0, .int .u8 0, .int .u8 0, .int .u8 0, .int .u8 0, .int .u8 0, .int .u8 0, .int .u8 0, .int .u8 0, .int .u8 0, .int .u8 0, .int .u8 0, .int .u8 0, .int .u8 0, .int .u8 0, .int .u8 0, .int .u8 0, .int .u8 0, .int .u8 0]) (by kernel_rfl) rfl fun b5 => ?_)
   refine XL.fin (kq 0 (kq 5 kn)) ?_
   have hnd := nd10_le (u := n) (by omega)
   have hnd1 : 1 ≤ nd10 n := ndF_pos 64 n
   have hlt10 : n < 10 ^ nd10 n := ndF_lt 64 n (Nat.lt_trans (show n < 18446744073709551616 by omega) (by decide))
   refine XC.fit (M' := [(b5, blk (nums .u8 (List.replicate 24 0)) 209)]) (Fit.eq (by rfl)) (fun _ h => h) ?_
   refine XC.reg ?_
   refine mv_ ?_
   refine XL.q ((Nat.mod_eq_of_lt (show n < 18446744073709551616 by omega)) ▸ q_to64 rfl (by kernel_rfl)) rfl ?_
   refine as_ ?_
   refine XL.fin (kq 0 (kq 5 (kq 6 kn))) ?_
   refine XC.seq ?_
   refine XC.reg ?_
   refine mv_ ?_
   refine XL.q (q_bin rfl rfl rfl) rfl ?_
   refine XL.fin (kq 0 (kq 5 (kq 6 (kq 23 kn)))) ?_
   refine XC.cond rfl (fun hc => ?_) (fun hc => ?_)
   ·
    exfalso
    simp at hc
    omega
   ·
    refine XC.skip ?_
    refine nx (kq 0 (kq 5 (kq 6 kn))) ?_
    refine XC.reg ?_
    refine mv_ ?_
    refine XL.callV (aS rfl a0) (by kernel_rfl) (numDigits_spec n (by omega) (by omega) _ (mA h4)) rfl ?_
    refine as_ ?_
    refine XL.fin (kq 0 (kq 5 (kq 6 (kq 7 kn)))) ?_
    refine XC.reg ?_
    refine mv_ ?_
    refine XL.q (q_addI (a := 1) rfl rfl rfl rfl (by omega)) rfl ?_
    refine XL.q (q_slALH (sz := 1) (n := 24) (e := 5) 1 (1 + nd10 n) rfl (by kernel_rfl) (by kernel_rfl) rfl rfl rfl rfl (by omega) (by omega) (by omega)) rfl ?_
    refine mv_ ?_
    refine XL.lo rfl (l_callB (Mc := [(b5, blk (nums .u8 (List.replicate 24 0)) 209)]) (aS rfl (aS rfl a0)) (by kernel_rfl) (fb10_spec b5 (0 + 1 * 1) (1 + nd10 n - 1) (24 - 1) n (List.replicate 24 0) _ (by omega) (by omega) (by simp; omega) (by rw [Nat.add_sub_cancel_left]; exact hlt10) (by omega) _) PickC.perm rfl ?_)
    rintro r32 M32 J32 ⟨rfl, rfl⟩
    rw [Nat.add_sub_cancel_left]
    dsimp only [List.cons_append, List.nil_append]
    refine XL.fin (kq 0 (kq 5 (kq 7 kn))) ?_
    refine XC.seq ?_
    refine XC.reg ?_
    refine mv_ ?_
    refine XL.q (q_bin rfl rfl rfl) rfl ?_
    refine XL.fin (kq 5 (kq 7 (kq 34 kn))) ?_
    refine XC.cond rfl (fun hc => ?_) (fun hc => ?_)
    ·
     exfalso
     simp at hc
     omega
    ·
     refine XC.skip ?_
     refine nx (kq 5 (kq 7 kn)) ?_
     refine XC.reg ?_
     refine mv_ ?_
     refine XL.q (q_addI (a := 1) rfl rfl rfl rfl (by omega)) rfl ?_
     refine XL.q (q_slALH (sz := 1) (n := 24) (e := 5) 1 (1 + nd10 n) rfl (by kernel_rfl) (by kernel_rfl) rfl rfl rfl rfl (by omega) (by omega) (by omega)) rfl ?_
     refine XL.q (q_toStr (ws := dec n) (n := 1 + nd10 n - 1) (rd_eq (Rd.mid (o := 0 + 1 * 1) (n := 1 + nd10 n - 1) (cap := 24 - 1) At.mem (by rw [nums_len, row_len24 hnd]; omega) (by omega)) rfl (by rw [nums_mid, Nat.add_sub_cancel_left, show 0 + 1 * 1 = 1 from rfl, row_pos hnd])) rfl (by kernel_rfl)) rfl ?_
     refine as_ ?_
     refine XL.fin (kq 4 kn) ?_
     refine XC.ret ?_
     refine tr ?_
     exact ⟨_, [], [], res1 rfl rfl, List.nil_sublist _, by simp, rfl, rfl, rfl⟩
 ·
  obtain ⟨n, hn0, rfl⟩ : ∃ n : Nat, 0 < n ∧ i = -(n : Int) := ⟨i.natAbs, by simp at hb; omega, by simp at hb; omega⟩
  clear hb
  rw [show decI (-(n : Int)) = 45 :: dec n by simp [decI]; omega]
  refine XL.gn rfl rfl rfl rfl ?_
  refine XL.gn rfl rfl rfl rfl ?_
  refine XL.q (q_pickF rfl rfl) rfl ?_
  refine XL.fin (kq 0 (kq 17 kn)) ?_
  refine XC.condF rfl ?_
  refine XC.skip ?_
  refine nx (kq 0 kn) ?_
  refine XC.reg ?_
  refine XL.lo rfl (l_alloc (cs := [.int .u8 0, .int .u8 0, .int .u8 0, .int .u8 0, .int .u8 0, .int .u8 0, .int .u8 0, .int .u8 0, .int .u8 0, .int .u8 0, .int .u8 0, .int .u8 0, .int .u8 0, .int .u8 0, .int .u8 0, .int .u8 0, .int .u8 0, .int .u8 0, .int .u8 0, .int .u8 0, .int .u8 0, .int .u8 0, .int .u8 0, .int .u8 0]) (by kernel_rfl) rfl fun b5 => ?_)
  refine XL.fin (kq 0 (kq 5 kn)) ?_
  have hnd := nd10_le (u := n) (by omega)
  have hnd1 : 1 ≤ nd10 n := ndF_pos 64 n
  have hlt10 : n < 10 ^ nd10 n := ndF_lt 64 n (Nat.lt_trans (show n < 18446744073709551616 by omega) (by decide))
  refine XC.fit (M' := [(b5, blk (nums .u8 (List.replicate 24 0)) 209)]) (Fit.eq (by rfl)) (fun _ h => h) ?_
  refine XC.reg ?_
  refine mv_ ?_
  refine XL.q (wrap_neg hn0 (by omega) ▸ q_conv (k' := .u64) rfl (by kernel_rfl)) rfl ?_
  refine as_ ?_
  refine XL.fin (kq 0 (kq 5 (kq 6 kn))) ?_
  refine XC.seq ?_
  refine XC.reg ?_
  refine mv_ ?_
  refine XL.q (q_bin rfl rfl rfl) rfl ?_
  refine XL.fin (kq 0 (kq 5 (kq 6 (kq 23 kn)))) ?_
  refine XC.cond rfl (fun hc => ?_) (fun hc => ?_)
  ·
   refine XC.reg1 ?_
   refine mv_ ?_
   refine XL.q (wrap_neg2 hn0 (by omega) ▸ q_neg rfl) rfl ?_
   refine as_ ?_
   refine XL.fin (kq 0 (kq 5 (kq 6 kn))) ?_
   refine XC.reg ?_
   refine mv_ ?_
   refine XL.callV (aS rfl a0) (by kernel_rfl) (numDigits_spec n (by omega) (by omega) _ (mA h4)) rfl ?_
   refine as_ ?_
   refine XL.fin (kq 0 (kq 5 (kq 6 (kq 7 kn)))) ?_
   refine XC.reg ?_
   refine mv_ ?_
   refine XL.q (q_addI (a := 1) rfl rfl rfl rfl (by omega)) rfl ?_
   refine XL.q (q_slALH (sz := 1) (n := 24) (e := 5) 1 (1 + nd10 n) rfl (by kernel_rfl) (by kernel_rfl) rfl rfl rfl rfl (by omega) (by omega) (by omega)) rfl ?_
   refine mv_ ?_
   refine XL.lo rfl (l_callB (Mc := [(b5, blk (nums .u8 (List.replicate 24 0)) 209)]) (aS rfl (aS rfl a0)) (by kernel_rfl) (fb10_spec b5 (0 + 1 * 1) (1 + nd10 n - 1) (24 - 1) n (List.replicate 24 0) _ (by omega) (by omega) (by simp; omega) (by rw [Nat.add_sub_cancel_left]; exact hlt10) (by omega) _) PickC.perm rfl ?_)
   rintro r32 M32 J32 ⟨rfl, rfl⟩
   rw [Nat.add_sub_cancel_left]
   dsimp only [List.cons_append, List.nil_append]
   refine XL.fin (kq 0 (kq 5 (kq 7 kn))) ?_
   refine XC.seq ?_
   refine XC.reg ?_
   refine mv_ ?_
   refine XL.q (q_bin rfl rfl rfl) rfl ?_
   refine XL.fin (kq 5 (kq 7 (kq 34 kn))) ?_
   refine XC.cond rfl (fun hc => ?_) (fun hc => ?_)
   ·
    refine XC.reg ?_
    refine XL.q (qi_ 0 5 24 1 0) rfl ?_
    refine XL.lo rfl (l_stN 0 rfl rfl (by kernel_rfl) rfl (by rw [row_len24 hnd]; omega) UpC.upd ?_)
    refine XL.fin (kq 5 (kq 7 kn)) ?_
    refine XC.reg ?_
    refine mv_ ?_
    refine XL.q (q_addI (a := 1) rfl rfl rfl rfl (by omega)) rfl ?_
    refine XL.q (q_slAHi (sz := 1) (n := 24) (e := 5) (1 + nd10 n) rfl (by kernel_rfl) (by kernel_rfl) rfl rfl (by omega)) rfl ?_
    refine XL.q (q_toStr (ws := 45 :: dec n) (n := 1 + nd10 n) (rd_eq (Rd.mid (o := 0) (n := 1 + nd10 n) (cap := 24) At.mem (by rw [nums_len, List.length_set, row_len24 hnd]; omega) (by omega)) rfl (by rw [nums_mid, List.drop_zero, row_neg hnd])) rfl (by kernel_rfl)) rfl ?_
    refine as_ ?_
    refine XL.fin (kq 4 kn) ?_
    refine XC.ret ?_
    refine tr ?_
    refine tr ?_
    exact ⟨_, [], [], res1 rfl rfl, List.nil_sublist _, by simp, rfl, rfl, rfl⟩
   ·
    exfalso
    simp at hc
    omega
  ·
   exfalso
   simp at hc
   omega

theorem itoa0_spec (i : Int) (hmin : -9223372036854775808 ≤ i) (hmax : i ≤ 9223372036854775807) (A : Mem) {e4 : TypeId} {f4 : Nat × Nat} (h4 : (2, Obj.cells (nums .u64 pow10T).toArray e4 f4) ∈ A) : FnV Tryz.prog 120 [.int .i64 i] A (.string (txt (decI i))) := by
 refine FnX.enter (N := 5) Tryz.func120 rfl rfl rfl fun w => ?_
 refine XC.keep (kq 0 kn) ?_
 refine XC.reg ?_
 refine as_ ?_
 refine XL.fin (kq 0 kn) ?_
 refine XC.reg ?_
 refine mv_ ?_
 refine XL.callV (aS rfl (aS rfl a0)) (by kernel_rfl) (formatInt_spec i hmin hmax _ (mA h4)) rfl ?_
 refine as_ ?_
 refine XL.fin (kq 2 kn) ?_
 refine XC.ret ?_
 exact ⟨_, [], [], res1 rfl rfl, List.nil_sublist _, by simp, rfl, rfl, rfl⟩

theorem itoa_spec (i : Int) (hmin : -9223372036854775808 ≤ i) (hmax : i ≤ 9223372036854775807) (A : Mem) {e4 : TypeId} {f4 : Nat × Nat} (h4 : (2, Obj.cells (nums .u64 pow10T).toArray e4 f4) ∈ A) : FnV Tryz.prog 91 [.int .i64 i] A (.string (txt (decI i))) := by
 refine FnX.enter (N := 5) Tryz.func91 rfl rfl rfl fun w => ?_
 refine XC.keep (kq 0 kn) ?_
 refine XC.reg ?_
 refine as_ ?_
 refine XL.fin (kq 0 kn) ?_
 refine XC.reg ?_
 refine mv_ ?_
 refine XL.callV (aS rfl a0) (by kernel_rfl) (itoa0_spec i hmin hmax _ (mA h4)) rfl ?_
 refine as_ ?_
 refine XL.fin (kq 2 kn) ?_
 refine XC.ret ?_
 exact ⟨_, [], [], res1 rfl rfl, List.nil_sublist _, by simp, rfl, rfl, rfl⟩

end Go.Proofs.YtphcaiplgpmnnaaGreatDoor
/- The walks of strconv.Atoi (of a number's text), term.Mark, term.Parts (of what was marked), and the examples of pawllaw07. -/
namespace Go.Proofs.YtphcaiplgpmnnaaGreatDoor
open Go.Px
instance B256.dec {u : Nat} : B256 (dec u) := ⟨fun x h => by have := dec_mem h; omega⟩
instance B256.decI {i : Int} : B256 (decI i) := ⟨fun x h => by have := decI_mem h; omega⟩
/-! ### What is marked -/
def mark (p : List Nat) : List Nat := dec p.length ++ 58 :: p
def marks (l : List (List Nat)) : List Nat := l.flatMap mark
theorem mark_len (p : List Nat) (h : p.length < 18446744073709551616) : (mark p).length ≤ p.length + 21 := by
  have := nd10_le h
  simp [mark, dec_len]; omega
instance B256.mark {p : List Nat} [h : B256 p] : B256 (mark p) := by unfold Go.Proofs.YtphcaiplgpmnnaaGreatDoor.mark; exact @B256.app _ _ _ (B256.cons (by decide) h)

theorem mark_spec (v : Value) (p : List Nat) (A : Mem) (hp : Rd A 1 v p.length (nums .u8 p)) [hb : B256 p] (hl : p.length ≤ 1099511627776) {e4 : TypeId} {f4 : Nat × Nat} (h4 : (2, Obj.cells (nums .u64 pow10T).toArray e4 f4) ∈ A) : FnV Tryz.prog 42 [v] A (.string (txt (mark p))) := by
 have hdl := dec_len p.length
 have hd20 := nd10_le (u := p.length) (by omega)
 refine FnX.enter (N := 10) Tryz.func42 rfl rfl rfl fun w => ?_
 refine XC.keep (kq 0 kn) ?_
 refine XC.reg ?_
 refine as_ ?_
 refine XL.fin (kq 0 kn) ?_
 refine XC.drawF [0, 1, 2, 3, 4, 5, 6, 7] [(0, 0), (1, 0), (4, 0), (5, 1), (2, 2), (3, 0), (6, 0), (7, 0)] (by kernel_rfl) (by kernel_rfl) fun hs => ?_
 refine XF.q hs rfl qm_ rfl ?_
 refine XF.q hs rfl (q_lenV2 (sz := 1) rfl (by kernel_rfl) hp) rfl ?_
 refine XF.q hs rfl qm_ rfl ?_
 refine XF.r hs rfl (q_toStr2 rfl (by kernel_rfl) (by first | exact Rd.mono (by assumption) SubC.sub | exact Sl.rd (by assumption) SubC.sub | exact Rd.mono (By.rd (by assumption)) SubC.sub)) rfl ?_
 refine XF.callV rfl (aS rfl a0) (by kernel_rfl) (itoa_spec (p.length : Int) (by omega) (by omega) _ (mA h4)) rfl ?_
 rw [show decI ((p.length : Nat) : Int) = dec p.length by simp [decI]]
 refine XF.q hs rfl (q_sAdd (ws' := [58]) rfl rfl rfl (by kernel_rfl) (by first | omega | (simp only [List.length_append, List.length_cons, List.length_nil, List.length_take, List.length_drop]; omega))) rfl ?_
 refine XF.q hs rfl (q_sAdd rfl rfl rfl rfl (by first | omega | (simp only [List.length_append, List.length_cons, List.length_nil, List.length_take, List.length_drop]; omega))) rfl ?_
 refine XF.q hs rfl (q_assign rfl) rfl ?_
 refine XF.fin (kq 2 kn) ?_
 refine XC.ret ?_
 exact ⟨_, [], [], res1 rfl rfl, List.nil_sublist _, by simp, by simp [mark], rfl, rfl⟩

def strs (l : List (List Nat)) : List Value := l.map fun p => .string (txt p)
end Go.Proofs.YtphcaiplgpmnnaaGreatDoor
/-
  Maps from texts to places: each text once, the place of each the number of those ahead of it.
-/
namespace Go.Px
/-- The entries of such a map. -/
def ents : List ByteArray → Nat → List MapEntry
  | [], _ => []
  | k :: ks, i => ⟨.string k, .int .i64 (i : Int), i⟩ :: ents ks (i + 1)
theorem ents_len : ∀ (ks : List ByteArray) (i : Nat), (ents ks i).length = ks.length
  | [], _ => rfl
  | k :: ks, i => by simp [ents, ents_len ks]
theorem ents_app : ∀ (ks : List ByteArray) (s : ByteArray) (i : Nat), ents (ks ++ [s]) i = ents ks i ++ [⟨.string s, .int .i64 ((i + ks.length : Nat) : Int), i + ks.length⟩]
  | [], s, i => by simp [ents]
  | k :: ks, s, i => by
    simp only [List.cons_append, ents, ents_app ks s (i + 1), List.length_cons]
    rw [show i + 1 + ks.length = i + (ks.length + 1) by omega]
/-- The place of a text. -/
def lookK (s : ByteArray) : List ByteArray → Nat → Option Nat
  | [], _ => none
  | k :: ks, i => if s == k then some i else lookK s ks (i + 1)
theorem find_ents (s : ByteArray) : ∀ (ks : List ByteArray) (i j : Nat), Instr.findNow .string (.string s) (ents ks i) j = some ((lookK s ks i).map fun q => (q - i + j, .int .i64 (q : Int)))
  | [], i, j => rfl
  | k :: ks, i, j => by
    unfold ents Instr.findNow lookK
    simp only [Instr.sameNow]
    by_cases h : s == k
    · simp [h]
    · simp only [Bool.not_eq_true] at h
      simp only [h, Bool.false_eq_true, if_false]
      rw [find_ents s ks (i + 1) (j + 1)]
      have hge : ∀ (ks : List ByteArray) (i q : Nat), lookK s ks i = some q → i ≤ q := by
        intro ks
        induction ks with
        | nil => intro i q h; cases h
        | cons k ks ih =>
          intro i q h
          unfold lookK at h
          split at h
          · cases h; exact Nat.le_refl _
          · have := ih _ _ h; omega
      cases hl : lookK s ks (i + 1) with
      | none => rfl
      | some q =>
        have := hge _ _ _ hl
        simp only [Option.map_some]
        congr 3; omega
theorem ba_eq {a b : ByteArray} : (a == b) = true ↔ a = b := by
  rcases a with ⟨a⟩; rcases b with ⟨b⟩
  show (a == b) = true ↔ _
  simp
theorem lookK_none {s : ByteArray} : ∀ {ks : List ByteArray} {i : Nat}, lookK s ks i = none ↔ s ∉ ks
  | [], i => by simp [lookK]
  | k :: ks, i => by
    unfold lookK
    by_cases h : s = k
    · rw [if_pos (ba_eq.2 h)]
      simp [h]
    · rw [if_neg (fun e => h (ba_eq.1 e)), lookK_none (ks := ks) (i := i + 1)]
      simp [h]
theorem lookK_some {s : ByteArray} : ∀ {ks : List ByteArray} {i q : Nat}, lookK s ks i = some q → i ≤ q ∧ ks[q - i]? = some s
  | [], i, q, h => by cases h
  | k :: ks, i, q, h => by
    unfold lookK at h
    split at h
    · rename_i he
      cases h
      have := ba_eq.1 he
      simp [this]
    · obtain ⟨h1, h2⟩ := lookK_some h
      refine ⟨by omega, ?_⟩
      rw [show q - i = (q - (i + 1)) + 1 by omega]
      simpa using h2
section
variable {P : Program} {R : Mem} {l : Env} {d : Option Nat} {ty t kt et : TypeId} {pos : String} {af : Array Edge} {g : Option (Nat × Bool)} {x y z : Operand} {b c : Nat} {s : ByteArray} {ks : List ByteArray}
theorem checkStr {em : Bool} {w : World} (hk : P.underlying kt = some .string) : (Instr.checkKey em 10000 kt (.string s)).run P w = .ok () w := by
  unfold Instr.checkKey
  simp only [Sem.run_bind, run_underlying hk, Result.andThen_ok]
  rfl
theorem findStr {w : World} (hk : P.underlying kt = some .string) : (Instr.findKey kt (.string s) (ents ks 0)).run P w = .ok ((lookK s ks 0).map fun q => (q, .int .i64 (q : Int))) w := by
  unfold Instr.findKey
  simp only [Sem.run_bind, run_underlying hk, Result.andThen_ok, find_ents]
  cases lookK s ks 0 <;> simp
/-- 'v, ok := m[k]'. -/
theorem q_lookT (hx : ev l x = some (.map (some b))) (hy : ev l y = some (.string s)) (hu : P.underlying t = some (.map kt et)) (hk : P.underlying kt = some .string) (hz : ∀ w, (zeroValue et).run P w = .ok (.int .i64 0) w)
    (hb : (b, Obj.map (ents ks 0).toArray c) ∈ R) : OpQ P R ⟨d, .lookup t x y true, ty, pos, af, g⟩ l (.tuple #[.int .i64 (((lookK s ks 0).getD 0 : Nat) : Int), .bool (lookK s ks 0).isSome]) := fun N a w ha hw => by
  have hm : (getObj b).run P w = .ok (.map (ents ks 0).toArray c) w := by simp [getObj, Sem.run, hw _ _ hb]
  simp only [execOp, ha.ev hx, ha.ev hy, Instr.lookup, Sem.run_bind, run_underlying hu, Result.andThen_ok, hm, Sem.run_pure, checkStr hk]
  rw [findStr hk]
  cases lookK s ks 0 <;> simp [hz]
end
section
variable {C : Cx} {l : Env} {M J : Mem} {K : Env → Mem → Mem → Prop} {d : Nat} {ty t kt et : TypeId} {pos : String} {af : Array Edge} {g : Option (Nat × Bool)} {x y z : Operand} {b : Nat} {s : ByteArray} {ks : List ByteArray}
theorem l_makeMap (hd : Nat.blt d C.N = true) (k : ∀ b, K ((d, .map (some b)) :: l) ((b, .map (ents [] 0).toArray 0) :: M) J) : OpL C ⟨some d, .makeMap t none, ty, pos, af, g⟩ l M J K := by
  intro Qp a w ha hw
  unfold Oper.wp
  simp only [execOp, Option.map_none, RowKit.run_makeMap]
  exact ⟨_, _, J, ha.put (blt_lt hd) _, hw.alloc _, k _⟩
/-- The entries while a new one is still open. -/
def openE (ks : List ByteArray) (s : ByteArray) : List MapEntry := ents ks 0 ++ [{ key := .string s, val := .int .i64 0, born := ks.length }]
/-- 'm[k] = n' in two: a place for a text that isn't there; what stands there. -/
theorem l_mapEntry {M' : Mem} (hx : ev l x = some (.map (some b))) (hy : ev l y = some (.string s)) (hu : C.P.underlying t = some (.map kt et)) (hk : C.P.underlying kt = some .string) (hz : ∀ w, (zeroValue et).run C.P w = .ok (.int .i64 0) w) (hn : lookK s ks 0 = none) (hd : Nat.blt d C.N = true)
    (hM : Upd M b (.map (ents ks 0).toArray ks.length) (.map (openE ks s).toArray (ks.length + 1)) M') (k : K ((d, .tuple #[.int .i64 0, .int .i64 (ks.length : Int)]) :: l) M' J) : OpL C ⟨some d, .mapEntry t x y, ty, pos, af, g⟩ l M J K := by
  intro Qp a w ha hw
  have hm := hw.mem _ _ (List.mem_append_left _ hM.mem)
  have hst : (Instr.mapEntry t (.map (some b)) (.string s)).run C.P w = .ok (.tuple #[.int .i64 0, .int .i64 (ks.length : Int)]) { w with heap := w.heap.setIfInBounds b (.map (openE ks s).toArray (ks.length + 1)) } := by
    have hg : (getObj b).run C.P w = .ok (.map (ents ks 0).toArray ks.length) w := by simp [getObj, Sem.run, hm]
    have hs : ∀ o, (setObj b o).run C.P w = .ok () { w with heap := w.heap.setIfInBounds b o } := fun o => by simp [setObj, Sem.run, hm]
    simp only [Instr.mapEntry, Sem.run_bind, run_underlying hu, Result.andThen_ok, hg, checkStr hk]
    rw [findStr hk, hn]
    simp only [Option.map_none, Result.andThen_ok, Sem.run_bind, hz, hs, Sem.run_pure]
    simp [goInt, openE]
  unfold Oper.wp
  simp only [execOp, ha.ev hx, ha.ev hy, hst, Sem.run_bind, Result.andThen_ok, Sem.run_pure]
  refine ⟨_, _, J, ha.put (blt_lt hd) _, hw.upd hM (by simp [lt_of_heap hm]) (fun k hk => by simp [Array.getElem?_setIfInBounds, Ne.symm hk]) (by simp) rfl rfl rfl, k⟩
theorem born_idx (e : MapEntry) : ∀ (ks : List ByteArray) (i n : Nat), n = i + ks.length → e.born = n → (ents ks i ++ [e]).findIdx? (fun e => (e.born : Int) == (n : Int)) = some ks.length
  | [], i, n, hn, he => by simp [ents, List.findIdx?_cons, he]
  | k :: ks, i, n, hn, he => by
    simp only [List.length_cons] at hn
    rw [ents, List.cons_append, List.findIdx?_cons, if_neg (by simp; omega), born_idx e ks (i + 1) n (by omega) he]
    rfl
theorem l_entryStore {M' : Mem} (hx : ev l x = some (.map (some b))) (hy : ev l y = some (.int .i64 (ks.length : Int))) (hz : ev l z = some (.int .i64 (ks.length : Int)))
    (hM : Upd M b (.map (openE ks s).toArray (ks.length + 1)) (.map (ents (ks ++ [s]) 0).toArray (ks.length + 1)) M') (k : K l M' J) : OpL C ⟨none, .entryStore t x y z, ty, pos, af, g⟩ l M J K := by
  intro Qp a w ha hw
  have hm := hw.mem _ _ (List.mem_append_left _ hM.mem)
  have hst : (Instr.entryStore t (.map (some b)) (.int .i64 (ks.length : Int)) (.int .i64 (ks.length : Int))).run C.P w = .ok () { w with heap := w.heap.setIfInBounds b (.map (ents (ks ++ [s]) 0).toArray (ks.length + 1)) } := by
    have hg : (getObj b).run C.P w = .ok (.map (openE ks s).toArray (ks.length + 1)) w := by simp [getObj, Sem.run, hm]
    have hs : ∀ o, (setObj b o).run C.P w = .ok () { w with heap := w.heap.setIfInBounds b o } := fun o => by simp [setObj, Sem.run, hm]
    have hi : (openE ks s).toArray.findIdx? (fun e => (e.born : Int) == (ks.length : Int)) = some ks.length := by
      rw [List.findIdx?_toArray]; unfold openE; exact born_idx _ ks 0 ks.length (by omega) rfl
    have hmod : (openE ks s).toArray.modify ks.length (fun e => { e with val := .int .i64 (ks.length : Int) }) = (ents (ks ++ [s]) 0).toArray := by
      unfold openE
      rw [ents_app, Nat.zero_add, List.modify_toArray]
      congr 1
      rw [List.modify_eq_take_cons_drop (by simp [ents_len])]
      simp [ents_len, List.getElem_append_right]
    simp only [Instr.entryStore, Sem.run_bind, Result.andThen_ok, hg, asInt, asIntOf, Sem.run_pure, hi, hs, hmod]
  unfold Oper.wp
  simp only [execOp, ha.ev hx, ha.ev hy, ha.ev hz, hst, Sem.run_bind, Result.andThen_ok]
  refine ⟨_, _, J, ha, hw.upd hM (by simp [lt_of_heap hm]) (fun k hk => by simp [Array.getElem?_setIfInBounds, Ne.symm hk]) (by simp) rfl rfl rfl, k⟩
end
end Go.Px

/- The walks of pawllaw07.awake and TermNil. -/
namespace Go.Proofs.YtphcaiplgpmnnaaGreatDoor
open Go.Px
def ints (l : List Int) : List Value := l.map (.int .i64)
/-- The cells of a term. -/
abbrev tmc (k : Nat) (vo : Value) (t : List Nat) (n : Int) : List Value := [.int .u8 (k : Int), vo, .string (txt t), .int .i64 n]

end Go.Proofs.YtphcaiplgpmnnaaGreatDoor
/- The walks of package term's table: name, New, Put, Get, Find, Len. -/
namespace Go.Proofs.YtphcaiplgpmnnaaGreatDoor
open Go.Px
def i64 (i : Int) : Prop := -9223372036854775808 ≤ i ∧ i ≤ 9223372036854775807
/-- A term whose parts are not too great. -/
structure Tmo (t : Tm) : Prop where
  kind : t.kind < 256
  n : i64 t.n
  of : ∀ i ∈ t.of, i64 i
  ofl : t.of.length ≤ 1048576
  text : B256 t.text
  tl : t.text.length ≤ 1099511627776
theorem Tmo.ok {t : Tm} (h : Tmo t) : t.ok := ⟨h.kind, by have := h.n; unfold i64 at this; omega, fun i hi => by have := h.of i hi; unfold i64 at this; omega, h.text.lt⟩
theorem ints_len (l : List Int) : (ints l).length = l.length := by simp [ints]
theorem ints_one' (l : List Int) : ∀ c ∈ ints l, c.oneCell' = true := fun c hc => by
  obtain ⟨i, _, rfl⟩ := List.mem_map.1 hc; rfl
/-- The cells of a term that read. -/
def TmC (R : Mem) (c : List Value) (t : Tm) : Prop := ∃ vo, c = tmc t.kind vo t.text t.n ∧ Rd R 1 vo t.of.length (ints t.of)
theorem TmC.mono {R R' : Mem} {c : List Value} {t : Tm} (h : TmC R c t) (hR : ∀ x, x ∈ R → x ∈ R') : TmC R' c t := by
  obtain ⟨vo, h1, h2⟩ := h; exact ⟨vo, h1, h2.mono hR⟩
/-- The text ahead of a term's mark, so many of its parts told. -/
def pre (t : Tm) (i : Nat) : List Nat := dec t.kind ++ 32 :: decI t.n ++ (t.of.take i).flatMap (fun j => 32 :: decI j)
theorem pre_succ {t : Tm} {i : Nat} (h : i < t.of.length) : pre t (i + 1) = pre t i ++ (32 :: decI t.of[i]) := by
  unfold pre
  rw [List.take_add_one, List.getElem?_eq_getElem h, List.flatMap_append]
  simp
theorem nm_pre (t : Tm) : t.nm = pre t t.of.length ++ 58 :: t.text := by
  unfold Tm.nm pre sepd
  rw [List.take_length]
  simp [List.flatMap_map]
theorem pre_b (t : Tm) (i : Nat) : B256 (pre t i) := ⟨fun x hx => by
  unfold pre at hx
  simp only [List.mem_append, List.mem_cons, List.mem_flatMap] at hx
  rcases hx with (hx | hx | hx) | ⟨j, _, hx | hx⟩
  · have := dec_mem hx; omega
  · omega
  · have := decI_mem hx; omega
  · omega
  · have := decI_mem hx; omega⟩
theorem pre_len {t : Tm} (h : Tmo t) : ∀ i, i ≤ t.of.length → (pre t i).length ≤ 43 + 22 * i
  | 0, _ => by
    have a := nd10_le (u := t.kind) (by have := h.kind; omega)
    have b := decI_len (i := t.n) (h.ok.n)
    simp only [pre, List.take_zero, List.flatMap_nil, List.append_nil, List.length_append, List.length_cons, dec_len]
    omega
  | i + 1, hi => by
    have a := pre_len h i (by omega)
    have b := decI_len (i := t.of[i]) (h.ok.of _ (List.getElem_mem _))
    rw [pre_succ (by omega), List.length_append, List.length_cons]
    omega
theorem nm_b {t : Tm} (h : Tmo t) : B256 t.nm := by
  rw [nm_pre]
  exact @B256.app _ _ (pre_b _ _) (B256.cons (by decide) h.text)
/-- What a term is known by. -/
def key (t : Tm) : ByteArray := txt t.nm
theorem key_inj {s t : Tm} (hs : Tmo s) (ht : Tmo t) (h : key s = key t) : s = t := Tm.nm_inj hs.ok ht.ok (txt_inj (nm_b hs).lt (nm_b ht).lt h)
theorem look_key {t : Tm} {ts : List Tm} (ht : Tmo t) (hts : ∀ t ∈ ts, Tmo t) : (lookK (key t) (ts.map key) 0 = none ↔ t ∉ ts) ∧ ∀ i, lookK (key t) (ts.map key) 0 = some i → ts[i]? = some t := by
  constructor
  · rw [lookK_none, List.mem_map]
    constructor
    · exact fun h hm => h ⟨t, hm, rfl⟩
    · rintro h ⟨s, hs, e⟩
      exact h (key_inj (hts s hs) ht e ▸ hs)
  · intro i h
    obtain ⟨_, h2⟩ := lookK_some h
    rw [Nat.sub_zero, List.getElem?_map] at h2
    cases h3 : ts[i]? with
    | none => rw [h3] at h2; cases h2
    | some s =>
      rw [h3] at h2
      have := key_inj (hts s (List.mem_of_getElem? h3)) ht (by simpa using h2)
      rw [this]
/-- A table of terms, at its two blocks. -/
def Tab (bt bm : Nat) (ts : List Tm) (M : Mem) : Prop := ∃ (v : Value) (rows : List (List Value)) (ks : List ByteArray) (Bl BX : Mem), M = (bt, blk [v, .map (some bm)] 134) :: (bm, .map (ents ks 0).toArray ks.length) :: (Bl ++ BX) ∧ ks = ts.map key ∧ Sl 4 v ks.length rows.flatten Bl ∧ rows.length = ks.length ∧ (∀ r ∈ rows, r.length = 4) ∧ (∀ (j : Nat) (t : Tm), ts[j]? = some t → ∃ r, rows[j]? = some r ∧ TmC BX r t) ∧ (∀ t ∈ ts, Tmo t) ∧ ts.Nodup
theorem dec_decI (k : Nat) : decI ((k : Nat) : Int) = dec k := by simp [decI]

theorem cloneI_spec (v : Value) (n : Nat) (xs : List Value) (A : Mem) (h : Rd A 1 v n xs) (h1 : ∀ c ∈ xs, c.oneCell' = true) (hn : n ≤ 1099511627776) : FnX Tryz.prog 90 [v] [] A fun r M J => J = [] ∧ Rd M 1 r n xs := by
 haveI := h.cel
 refine FnX.enter (N := 8) Tryz.func90 rfl rfl rfl fun w => ?_
 refine XC.keep (kq 0 kn) ?_
 refine XC.reg ?_
 refine as_ ?_
 refine XL.fin (kq 0 kn) ?_
 refine XC.seq ?_
 refine XC.reg ?_
 refine mv_ ?_
 refine XL.q (q_slEqNil (e := 3) rfl (by kernel_rfl) (by first | assumption | exact Sl.rd (by assumption) (fun _ h => h) | exact By.rd (by assumption))) rfl ?_
 refine XL.fin (kq 0 (kq 4 kn)) ?_
 refine XC.cond rfl (fun hc => ?_) (fun hc => ?_)
 ·
  have h0 := h.isNil hc
  subst h0
  obtain rfl : xs = [] := List.eq_nil_of_length_eq_zero (by have := h.len; omega)
  refine XC.reg ?_
  refine as_ ?_
  refine XL.fin (kq 2 kn) ?_
  refine XC.ret ?_
  refine tr ?_
  exact ⟨_, [], [], res1 rfl rfl, List.nil_sublist _, by simp, rfl, Rd.nil⟩
 ·
  refine XC.skip ?_
  refine nx (kq 0 kn) ?_
  refine XC.reg ?_
  refine XL.lo rfl (l_buildSlice (e := 3) (sz := 1) (z := []) (by kernel_rfl) e0 bd0 rfl fun b5 => ?_)
  refine mv_ ?_
  refine XL.lo rfl (l_append2 (e := 3) (sz := 1) (by_ := 8) rfl rfl (by kernel_rfl) rfl (Sl.fresh (n := 0) (cs := []) (e := 3) rfl (by decide)) (Rd.mono h SubC.sub) h1 PickC.perm (by unfold maxLen; omega) (by omega) rfl fun v7 B7 hs7 => ?_)
  refine as_ ?_
  refine XL.fin (kq 2 kn) ?_
  refine XC.ret ?_
  exact ⟨_, B7, [], res1 rfl rfl, List.sublist_append_left _ _, by simp, rfl, rd_eq (hs7.rd fun _ h => h) (by omega) (by simp)⟩

theorem name_spec (vo : Value) (t : Tm) (A : Mem) (hvo : Rd A 1 vo t.of.length (ints t.of)) (ht : Tmo t) {e4 : TypeId} {f4 : Nat × Nat} (h4 : (2, Obj.cells (nums .u64 pow10T).toArray e4 f4) ∈ A) : FnV Tryz.prog 89 [.agg (tmc t.kind vo t.text t.n).toArray] A (.string (key t)) := by
 haveI := hvo.cel
 have hkind := ht.kind
 refine FnX.enter (N := 33) Tryz.func89 rfl rfl rfl fun w => ?_
 refine XC.keep (kq 0 kn) ?_
 refine XC.reg ?_
 refine XL.lo rfl (bx_ fun b1 => ?_)
 refine as_ ?_
 refine XL.fin (kq 1 kn) ?_
 refine XC.drawF [0, 1, 2, 3, 4, 5, 6, 7, 8, 9] [(0, 0), (1, 1), (2, 0), (5, 0), (6, 1), (3, 2), (4, 0), (7, 2), (8, 0), (9, 0)] (by kernel_rfl) (by kernel_rfl) fun hs => ?_
 refine XF.q hs rfl (qf_ 0 0) rfl ?_
 refine XF.r hs rfl ql_ rfl ?_
 refine XF.q hs rfl (q_same (k' := .i64) rfl (by kernel_rfl) (by show _ < 9223372036854775808; have := ht.kind; omega)) rfl ?_
 refine XF.q hs rfl (qf_ 3 3) rfl ?_
 refine XF.r hs rfl ql_ rfl ?_
 refine XF.callV rfl (aS rfl a0) (by kernel_rfl) (itoa_spec (t.kind : Int) (by have := ht.kind; omega) (by have := ht.kind; omega) _ (mA h4)) rfl ?_
 rw [dec_decI]
 refine XF.q hs rfl (q_sAdd (ws' := [32]) rfl rfl rfl (by kernel_rfl) (by simp only [dec_len, List.length_cons, List.length_nil]; have := nd10_le (u := t.kind) (by have := ht.kind; omega); omega)) rfl ?_
 refine XF.callV rfl (aS rfl a0) (by kernel_rfl) (itoa_spec t.n ht.n.1 ht.n.2 _ (mA h4)) rfl ?_
 refine XF.q hs rfl (q_sAdd rfl rfl rfl rfl (by simp only [List.length_append, dec_len, List.length_cons, List.length_nil]; have := nd10_le (u := t.kind) (by have := ht.kind; omega); have := decI_len (i := t.n) ht.ok.n; omega)) rfl ?_
 refine XF.q hs rfl (q_assign rfl) rfl ?_
 rw [show dec t.kind ++ [32] ++ decI t.n = pre t 0 by simp [pre]]
 refine XF.fin (kq 1 (kq 3 kn)) ?_
 refine XC.seq ?_
 refine XC.reg ?_
 refine XL.q (qf_ 1 1) rfl ?_
 refine XL.q ql_ rfl ?_
 refine XL.q (q_lenV2 (sz := 1) rfl (by kernel_rfl) hvo) rfl ?_
 refine mv_ ?_
 refine XL.fin (kq 1 (kq 3 (kq 16 (kq 17 (kq 18 kn))))) ?_
 refine XC.block ?_
 refine XC.loop (α := Nat) (fun i => [(1, .pointer (some ⟨b1, 0, none⟩)), (3, .string (txt (pre t i))), (16, vo), (17, .int .i64 ((t.of.length : Nat) : Int)), (18, .int .i64 (i : Int))]) (fun _ => [(b1, blk (tmc t.kind vo t.text t.n) 76)]) (fun _ => []) (fun i => i ≤ t.of.length) (fun i => t.of.length - i) 0 (Nat.zero_le _) (kq 1 (kq 3 (kq 16 (kq 17 (kq 18 kn))))) .rfl (fun _ h => h) ?_
 rintro i hi
 have hpl := pre_len ht i hi
 have hofl := ht.ofl
 haveI := pre_b t i
 refine XC.reg ?_
 refine XL.q (q_bin rfl rfl rfl) rfl ?_
 refine XL.fin (kq 1 (kq 3 (kq 16 (kq 17 (kq 18 (kq 19 kn)))))) ?_
 refine XC.seq ?_
 refine XC.cond rfl (fun hc => ?_) (fun hc => ?_)
 ·
  have hlt : i < t.of.length := by simp at hc; omega
  have hi64 := ht.of _ (List.getElem_mem hlt)
  have hdl := decI_len (i := t.of[i]) (ht.ok.of _ (List.getElem_mem hlt))
  refine XC.skip ?_
  refine nx (kq 1 (kq 3 (kq 16 (kq 17 (kq 18 kn))))) ?_
  refine XC.seq ?_
  refine XC.block ?_
  refine XC.reg ?_
  refine XL.q (q_atV2 (sz := 1) rfl rfl (by kernel_rfl) rfl hvo hlt) rfl ?_
  refine XL.q (q_ldV (u := .int .i64 t.of[i]) (Rd.mono hvo SubC.sub) rfl (by kernel_rfl) (by simp [ints, hlt])) rfl ?_
  refine as_ ?_
  refine XL.fin (kq 1 (kq 3 (kq 5 (kq 16 (kq 17 (kq 18 kn)))))) ?_
  refine XC.reg1 ?_
  refine mv_ (mv_ ?_)
  refine XL.callV (aS rfl a0) (by kernel_rfl) (itoa_spec t.of[i] hi64.1 hi64.2 _ (mA h4)) rfl ?_
  refine XL.q (q_sAdd (ws := [32]) rfl rfl (by kernel_rfl) rfl (by simp only [List.length_cons, List.length_nil]; omega)) rfl ?_
  refine XL.q (q_sAdd rfl rfl rfl rfl (by simp only [List.length_cons, List.length_append, List.length_nil]; omega)) rfl ?_
  refine as_ ?_
  rw [show pre t i ++ ([32] ++ decI t.of[i]) = pre t (i + 1) by rw [pre_succ hlt]; rfl]
  refine XL.nil ?_
  refine nb ?_
  refine nx (kq 1 (kq 3 (kq 16 (kq 17 (kq 18 kn))))) ?_
  refine XC.reg1 ?_
  refine XL.q (q_addI (b := 1) rfl rfl rfl rfl (by omega)) rfl ?_
  refine mv_ ?_
  refine XL.nil ?_
  exact rn (i + 1) (by omega) (by omega) (kq 1 (kq 3 (kq 16 (kq 17 (kq 18 kn))))) .rfl (fun _ h => h)
 ·
  have hge : i = t.of.length := by simp at hc; omega
  subst hge
  refine XC.exit ?_
  refine te ?_
  refine re ?_
  refine be rfl ?_
  refine nx (kq 1 (kq 3 kn)) ?_
  refine XC.reg ?_
  refine mv_ ?_
  refine XL.q (q_sAdd (ws' := [58]) rfl rfl rfl (by kernel_rfl) (by simp only [List.length_cons, List.length_nil]; omega)) rfl ?_
  refine XL.q (qf_ 2 2) rfl ?_
  refine XL.q ql_ rfl ?_
  refine XL.q (q_sAdd rfl rfl rfl rfl (by simp only [List.length_append, List.length_cons, List.length_nil]; have := ht.tl; omega)) rfl ?_
  refine as_ ?_
  refine XL.fin (kq 2 kn) ?_
  refine XC.ret ?_
  refine ⟨_, [], [], res1 rfl rfl, List.nil_sublist _, by simp, ?_, rfl, rfl⟩
  rw [key, nm_pre]; simp

theorem newT_spec (A : Mem) : FnX Tryz.prog 96 [] [] A fun r M J => J = [] ∧ ∃ bt bm, r = .pointer (some ⟨bt, 0, none⟩) ∧ Tab bt bm [] M := by
 refine FnX.enter (N := 4) Tryz.func96 rfl rfl rfl fun w => ?_
 refine XC.keep kn ?_
 refine XC.reg ?_
 refine as_ ?_
 refine XL.fin kn ?_
 refine XC.reg ?_
 refine XL.lo rfl (l_makeMap rfl fun b1 => ?_)
 refine XL.q (q_build (place := fun x => #[(0, 1), (1, 1)][x]?) (z := [.slice none 0 0, .map none]) (fun _ => by kernel_rfl) (eS rfl e0) (bdS 1 1 rfl (by rfl) bd0)) rfl ?_
 refine XL.lo rfl (bx_ fun b3 => ?_)
 refine as_ ?_
 refine XL.fin (kq 0 kn) ?_
 refine XC.ret ?_
 exact ⟨_, [_, _], [], res1 rfl rfl, List.Sublist.refl _, by simp, rfl, b3, b1, rfl, .slice none 0 0, [], [], [], [], rfl, rfl, Sl.nil, rfl, (fun r h => by cases h), (fun j t h => by simp at h), (fun t h => by cases h), List.nodup_nil⟩

theorem lenT_spec (bt bm : Nat) (ts : List Tm) (MT A : Mem) (hT : Tab bt bm ts MT) (hsub : ∀ x, x ∈ MT → x ∈ A) : FnV Tryz.prog 118 [.pointer (some ⟨bt, 0, none⟩)] A (.int .i64 ((ts.length : Nat) : Int)) := by
 obtain ⟨v, rows, ks, Bl, BX, rfl, hks, hsl, hrl, hr4, hat, hto, hnd⟩ := hT
 have hbt : (bt, blk [v, .map (some bm)] 134) ∈ A := hsub _ (by simp)
 have hrd := hsl.rd (R := A) (fun x hx => hsub x (by simp [hx]))
 refine FnX.enter (N := 10) Tryz.func118 rfl rfl rfl fun w => ?_
 refine XC.keep (kq 0 kn) ?_
 refine XC.reg ?_
 refine as_ ?_
 refine XL.fin (kq 0 kn) ?_
 refine XC.seq ?_
 refine XC.reg ?_
 refine mv_ ?_
 refine XL.q (q_ptrEqNil (e := 134) rfl rfl (by kernel_rfl)) rfl ?_
 refine XL.fin (kq 0 (kq 4 kn)) ?_
 refine XC.condF rfl ?_
 refine XC.skip ?_
 refine nx (kq 0 kn) ?_
 refine XC.reg ?_
 refine mv_ ?_
 refine XL.q (q_nil rfl) rfl ?_
 refine XL.q (qf_ 0 0) rfl ?_
 refine XL.q (q_load rfl (by kernel_rfl) (mA hbt) (by rfl)) rfl ?_
 refine XL.q (q_lenV2 (sz := 4) rfl (by kernel_rfl) hrd) rfl ?_
 refine as_ ?_
 refine XL.fin (kq 2 kn) ?_
 refine XC.ret ?_
 refine ⟨_, [], [], res1 rfl rfl, List.nil_sublist _, by simp, ?_, rfl, rfl⟩
 rw [hks, List.length_map]

theorem getT_spec (bt bm : Nat) (ts : List Tm) (i : Int) (MT A : Mem) (hT : Tab bt bm ts MT) (hsub : ∀ x, x ∈ MT → x ∈ A) : FnX Tryz.prog 86 [.pointer (some ⟨bt, 0, none⟩), .int .i64 i] [] A fun r M J => M = [] ∧ J = [] ∧ ∃ c ok, r = .tuple #[.agg (List.toArray c), .bool ok] ∧ ((0 ≤ i ∧ i < (ts.length : Int)) → ok = true ∧ ∃ t, ts[i.toNat]? = some t ∧ TmC A c t) ∧ (¬ (0 ≤ i ∧ i < (ts.length : Int)) → ok = false ∧ c = tmc 0 (.slice none 0 0) [] 0) := by
 obtain ⟨v, rows, ks, Bl, BX, rfl, hks, hsl, hrl, hr4, hat, hto, hnd⟩ := hT
 have hbt : (bt, blk [v, .map (some bm)] 134) ∈ A := hsub _ (by simp)
 have hrd := hsl.rd (R := A) (fun x hx => hsub x (by simp [hx]))
 have hkl : ks.length = ts.length := by rw [hks, List.length_map]
 refine FnX.enter (N := 29) Tryz.func86 rfl rfl rfl fun w => ?_
 refine XC.keep (kq 0 (kq 1 kn)) ?_
 refine XC.reg ?_
 refine XL.lo rfl (l_alloc (cs := [.int .u8 0, .slice none 0 0, .string ByteArray.empty, .int .i64 0]) (by kernel_rfl) rfl fun b4 => ?_)
 refine as_ ?_
 refine XL.fin (kq 0 (kq 1 (kq 4 kn))) ?_
 refine XC.seq ?_
 refine XC.reg ?_
 refine mv_ ?_
 refine XL.q (q_ptrEqNil (e := 134) rfl rfl (by kernel_rfl)) rfl ?_
 refine mv_ ?_
 refine XL.gy rfl rfl (OpQ.opL qm_ rfl ?_)
 refine XL.gy rfl rfl (OpQ.opL (q_bin rfl rfl rfl) rfl ?_)
 refine XL.q (q_pickF rfl rfl) rfl ?_
 refine mv_ ?_
 refine XL.split (t := 12) rfl (fun hb => ?_) (fun hb => ?_)
 ·
  have hlt0 : i < 0 := by simpa using hb
  refine XL.gn rfl rfl rfl rfl ?_
  refine XL.gn rfl rfl rfl rfl ?_
  refine XL.gn rfl rfl rfl rfl ?_
  refine XL.gn rfl rfl rfl rfl ?_
  refine XL.gn rfl rfl rfl rfl ?_
  refine XL.gn rfl rfl rfl rfl ?_
  refine XL.gn rfl rfl rfl rfl ?_
  refine XL.q (q_pickT rfl rfl) rfl ?_
  refine XL.fin (kq 0 (kq 1 (kq 4 (kq 20 kn)))) ?_
  refine XC.condT rfl ?_
  refine XC.reg ?_
  refine XL.q (q_build (place := fun x => #[(0, 1), (1, 1), (2, 1), (3, 1)][x]?) (z := [.int .u8 0, .slice none 0 0, .string ByteArray.empty, .int .i64 0]) (fun _ => by kernel_rfl) e0 bd0) rfl ?_
  refine XL.lo rfl (l_storeW rfl rfl Cel.cel (by kernel_rfl) (lnS (lnS (lnS (lnS (ln0))))) (allS rfl (allS rfl (allS rfl (allS rfl (all0))))) UpC.upd ?_)
  refine as_ ?_
  refine XL.fin (kq 4 (kq 5 kn)) ?_
  refine XC.ret ?_
  refine tr ?_
  refine ⟨_, [], [], resC1 rfl rfl rfl (by kernel_rfl) At.mem (by rfl), List.nil_sublist _, by simp, rfl, rfl, _, _, rfl, (fun h => absurd h.1 (by omega)), fun _ => ⟨rfl, rfl⟩⟩
 ·
  have hge0 : 0 ≤ i := by simpa using hb
  obtain ⟨n, rfl⟩ := Int.eq_ofNat_of_zero_le hge0
  refine XL.gy rfl rfl (OpQ.opL qm_ rfl ?_)
  refine XL.gy rfl rfl (OpQ.opL qm_ rfl ?_)
  refine XL.gy rfl rfl (OpQ.opL (q_nil rfl) rfl ?_)
  refine XL.gy rfl rfl (OpQ.opL (qf_ 0 0) rfl ?_)
  refine XL.gy rfl rfl (OpQ.opL (q_load rfl (by kernel_rfl) (mA hbt) (by rfl)) rfl ?_)
  refine XL.gy rfl rfl (OpQ.opL (q_lenV2 (sz := 4) rfl (by kernel_rfl) hrd) rfl ?_)
  refine XL.gy rfl rfl (OpQ.opL (q_bin rfl rfl rfl) rfl ?_)
  refine XL.q (q_pickF rfl rfl) rfl ?_
  refine XL.fin (kq 0 (kq 1 (kq 4 (kq 20 kn)))) ?_
  refine XC.cond rfl (fun hc => ?_) (fun hc => ?_)
  ·
   have hge : ts.length ≤ n := by simp at hc; omega
   refine XC.reg ?_
   refine XL.q (q_build (place := fun x => #[(0, 1), (1, 1), (2, 1), (3, 1)][x]?) (z := [.int .u8 0, .slice none 0 0, .string ByteArray.empty, .int .i64 0]) (fun _ => by kernel_rfl) e0 bd0) rfl ?_
   refine XL.lo rfl (l_storeW rfl rfl Cel.cel (by kernel_rfl) (lnS (lnS (lnS (lnS (ln0))))) (allS rfl (allS rfl (allS rfl (allS rfl (all0))))) UpC.upd ?_)
   refine as_ ?_
   refine XL.fin (kq 4 (kq 5 kn)) ?_
   refine XC.ret ?_
   refine tr ?_
   refine ⟨_, [], [], resC1 rfl rfl rfl (by kernel_rfl) At.mem (by rfl), List.nil_sublist _, by simp, rfl, rfl, _, _, rfl, (fun h => absurd h.2 (by omega)), fun _ => ⟨rfl, rfl⟩⟩
  ·
   have hlt : n < ts.length := by simp at hc; omega
   obtain ⟨r, hr, hcr⟩ := hat n ts[n] (List.getElem?_eq_getElem hlt)
   obtain ⟨vo, rfl, hvo⟩ := hcr
   refine XC.skip ?_
   refine nx (kq 0 (kq 1 (kq 4 kn))) ?_
   refine XC.reg ?_
   refine mv_ ?_
   refine XL.q (q_nil rfl) rfl ?_
   refine XL.q (qf_ 0 0) rfl ?_
   refine XL.q (q_load rfl (by kernel_rfl) (mA hbt) (by rfl)) rfl ?_
   refine mv_ ?_
   refine XL.q (q_atV2 (sz := 4) rfl rfl (by kernel_rfl) rfl hrd (by omega)) rfl ?_
   refine XL.q (q_ldVR rfl (by kernel_rfl) (hrd.mono fun _ h => mA h) hr4 (by decide) hr) rfl ?_
   refine XL.lo rfl (l_storeW rfl rfl rfl (by kernel_rfl) (by rfl) (by intro c hc; simp only [List.mem_cons, List.not_mem_nil, or_false] at hc; rcases hc with rfl | rfl | rfl | rfl <;> first | rfl | exact Rd.one hvo) UpC.upd ?_)
   refine as_ ?_
   refine XL.fin (kq 4 (kq 5 kn)) ?_
   refine XC.ret ?_
   refine ⟨_, [], [], resC1 rfl rfl rfl (by kernel_rfl) At.mem (by rfl), List.nil_sublist _, by simp, rfl, rfl, _, _, rfl, (fun _ => ⟨rfl, ts[n], by simp [hlt], vo, rfl, hvo.mono fun x hx => hsub x (by simp [hx])⟩), fun h => absurd ⟨Int.natCast_nonneg n, by omega⟩ h⟩

end Go.Proofs.YtphcaiplgpmnnaaGreatDoor
/- The walks of package term's table: Find, Put; bytes that stand for a place. -/
namespace Go.Proofs.YtphcaiplgpmnnaaGreatDoor
open Go.Px
instance (priority := low) SubC.union {X Y Z : Mem} [h1 : SubC X Z] [h2 : SubC Y Z] : SubC (X ++ Y) Z := ⟨fun x h => (List.mem_append.1 h).elim (h1.sub x) (h2.sub x)⟩
instance (priority := low) SubC.consC {b : Nat} {o : Obj} {X Z : Mem} [h1 : At Z b o] [h2 : SubC X Z] : SubC ((b, o) :: X) Z := ⟨fun x h => (List.mem_cons.1 h).elim (fun h => h ▸ h1.mem) (h2.sub x)⟩
theorem fit_put {B M X : Mem} {x y z : Nat × Obj} : Fit ((B ++ []) ++ (M ++ (x :: y :: z :: X))) (y :: z :: (B ++ (M ++ X))) := ⟨x :: (y :: z :: (B ++ (M ++ X))), by
  rw [List.append_nil, ← List.append_assoc]
  exact (List.perm_append_comm_assoc (B ++ M) [x, y, z] X).trans (by simp), .cons _ (List.Sublist.refl _)⟩
theorem _root_.Go.Px.XK.tl {C : Cx} {Q : XQ} {l : Env} {M J : Mem} {os : List Oper} {K : Nat → Prop} {n0 : Nat} {nd : List Nat} {plan : List (Nat × Nat)} {i : Nat} {o : Oper} (hget : nth os i = some o) (hg : o.guard = none) (hnd : nd.contains i = false) (h : OpL C o l M J (fun l' M' J' => XK C os Q K 0 nd plan l' M' J')) : XK C os Q K n0 nd ((i, 2) :: plan) l M J := by
  have h1 := XK.last hget (fun a ha => by simp [Region.wanted, hg]) hnd h
  exact fun listed hcl hp a w ha hw _ => h1 listed hcl hp a w ha hw (Nat.zero_le _)
/-- The place of a term in a table, and the table behind it. -/
def pos (ts : List Tm) (t : Tm) : Option Nat := lookK (key t) (ts.map key) 0
def at_ (ts : List Tm) (t : Tm) : Nat := (pos ts t).getD ts.length
def add (ts : List Tm) (t : Tm) : List Tm := if (pos ts t).isSome then ts else ts ++ [t]
theorem growsLitT {n : Nat} {cs : List Value} {e : TypeId} : Grows fun v R => ∃ b, v = .slice (some ⟨b, 0, none⟩) n n ∧ (b, Obj.cells cs.toArray e (0, 0)) ∈ R := fun _ _ _ h ⟨b, e, hb⟩ => ⟨b, e, h _ hb⟩
theorem pos_some {ts : List Tm} {t : Tm} (ht : Tmo t) (hts : ∀ t ∈ ts, Tmo t) {i : Nat} (h : pos ts t = some i) : ts[i]? = some t := (look_key ht hts).2 i h
theorem pos_none {ts : List Tm} {t : Tm} (ht : Tmo t) (hts : ∀ t ∈ ts, Tmo t) : pos ts t = none ↔ t ∉ ts := (look_key ht hts).1
theorem pos_of {ts : List Tm} (hts : ∀ t ∈ ts, Tmo t) (hnd : ts.Nodup) {t : Tm} {i : Nat} (h : ts[i]? = some t) : pos ts t = some i := by
  have hm : t ∈ ts := List.mem_of_getElem? h
  cases hp : pos ts t with
  | none => exact absurd hm ((pos_none (hts t hm) hts).1 hp)
  | some j =>
    have hj := pos_some (hts t hm) hts hp
    have a := List.getElem?_eq_some_iff.1 h
    have b := List.getElem?_eq_some_iff.1 hj
    obtain ⟨a1, a2⟩ := a
    obtain ⟨b1, b2⟩ := b
    have hpw := List.pairwise_iff_getElem.1 hnd
    rcases Nat.lt_trichotomy i j with h1 | h1 | h1
    · exact absurd (a2.trans b2.symm) (hpw i j a1 b1 h1)
    · rw [h1]
    · exact absurd (b2.trans a2.symm) (hpw j i b1 a1 h1)

theorem putT_spec (bt bm : Nat) (ts : List Tm) (vo : Value) (t : Tm) (MT A : Mem) (hT : Tab bt bm ts MT) (hlen : ts.length ≤ 1048576) (hvo : Rd A 1 vo t.of.length (ints t.of)) (ht : Tmo t) {e4 : TypeId} {f4 : Nat × Nat} (h4 : (2, Obj.cells (nums .u64 pow10T).toArray e4 f4) ∈ A) : FnX Tryz.prog 41 [.pointer (some ⟨bt, 0, none⟩), .agg (tmc t.kind vo t.text t.n).toArray] MT A fun r M J => J = [] ∧ r = .int .i64 ((at_ ts t : Nat) : Int) ∧ Tab bt bm (add ts t) M := by
  obtain ⟨v, rows, ks, Bl, BX, rfl, hks, hsl, hrl, hr4, hat, hto, hnd⟩ := hT
  have hkind := ht.kind
  haveI := hvo.cel
  refine FnX.enter (N := 50) Tryz.func41 rfl rfl rfl fun w => ?_
  refine XC.keep (kq 0 (kq 1 kn)) ?_
  refine XC.reg ?_
  refine XL.lo rfl (bx_ fun b3 => ?_)
  refine as_ ?_
  refine XL.fin (kq 0 (kq 3 kn)) ?_
  refine XC.seq ?_
  refine XC.reg ?_
  refine mv_ ?_
  refine XL.q (q_ptrEqNil (e := 134) rfl rfl (by kernel_rfl)) rfl ?_
  refine XL.fin (kq 0 (kq 3 (kq 8 kn))) ?_
  refine XC.condF rfl ?_
  refine XC.skip ?_
  refine nx (kq 0 (kq 3 kn)) ?_
  refine XC.drawF [0, 1, 2, 3, 4, 5, 7, 8, 9, 10, 11] [(0, 0), (1, 0), (2, 0), (3, 1), (4, 1), (5, 2), (6, 2), (7, 0), (8, 0), (9, 0), (10, 0), (11, 0)] (by kernel_rfl) (by kernel_rfl) fun hs => ?_
  refine XF.q hs rfl qm_ rfl ?_
  refine XF.q hs rfl (q_nil rfl) rfl ?_
  refine XF.q hs rfl (qf_ 1 1) rfl ?_
  refine XF.r hs rfl ql_ rfl ?_
  refine XF.r hs rfl (qw_ 4) rfl ?_
  refine XF.callV rfl (aS rfl a0) (by kernel_rfl) (name_spec vo t _ (hvo.mono fun _ h => mA h) ht (mA h4)) rfl ?_
  refine XF.tl rfl rfl rfl (OpQ.opL (q_lookT (kt := 9) (et := 3) rfl rfl (by kernel_rfl) (by kernel_rfl) (fun _ => by rfl) At.mem) rfl ?_)
  refine XF.q hs rfl qm_ rfl ?_
  refine XF.q hs rfl (q_x0 rfl) rfl ?_
  refine XF.q hs rfl (q_x1 rfl) rfl ?_
  refine XF.q hs rfl (q_assign rfl) rfl ?_
  refine XF.q hs rfl (q_assign rfl) rfl ?_
  refine XF.fin (kq 0 (kq 3 (kq 5 (kq 6 kn)))) ?_
  refine XC.join (α := Mem) (fun _ => [(5, .int .i64 ((at_ ts t : Nat) : Int))]) (fun M => M) (fun _ => []) (fun M => Tab bt bm (add ts t) M) ?_ ?_
  ·
    refine XC.reg ?_
    refine mv_ ?_
    refine XL.q (q_not rfl) rfl ?_
    refine XL.fin (kq 0 (kq 3 (kq 5 (kq 20 kn)))) ?_
    refine XC.cond rfl (fun hc => ?_) (fun hc => ?_)
    ·
      have hnm : pos ts t = none := by
        cases hp : pos ts t with
        | none => rfl
        | some j => rw [hks] at hc; rw [show lookK (key t) (ts.map key) 0 = some j from hp] at hc; cases hc
      have hnk : lookK (key t) ks 0 = none := by rw [hks]; exact hnm
      have hkl : ks.length = ts.length := by rw [hks, List.length_map]
      refine XC.reg ?_
      refine mv_ ?_
      refine XL.q (q_nil rfl) rfl ?_
      refine XL.q (qf_ 0 0) rfl ?_
      refine XL.q ql_ rfl ?_
      refine XL.q (q_lenV2 (sz := 4) rfl (by kernel_rfl) (hsl.rd (R := Bl) fun _ h => h)) rfl ?_
      refine as_ ?_
      refine XL.fin (kq 0 (kq 3 (kq 5 kn))) ?_
      refine XC.reg ?_
      refine XL.q (qf_ 1 1) rfl ?_
      refine XL.q ql_ rfl ?_
      refine XL.call (aS rfl a0) (by kernel_rfl) (cloneI_spec vo t.of.length (ints t.of) _ (hvo.mono fun _ h => mA h) (ints_one' _) (by have := ht.ofl; omega)) rfl ?_
      rintro v28 M28 J28 ⟨rfl, hv28⟩
      haveI := hv28.cel
      refine XL.q (qf_ 1 1) rfl ?_
      refine XL.lo rfl (l_store rfl rfl hv28.one (by kernel_rfl) SetC.set UpC.upd ?_)
      refine XL.fin (kq 0 (kq 3 (kq 5 kn))) ?_
      refine XC.drawK1 (Bl) (_) true [0, 1, 2, 3, 4, 5, 6, 7, 8, 9, 10, 11, 12, 13, 14, 15, 16, 19] [(0, 0), (1, 0), (2, 0), (3, 0), (4, 1), (5, 1), (7, 0), (8, 0), (9, 0), (10, 1), (11, 1), (14, 0), (6, 3), (12, 4), (13, 2), (15, 0), (16, 0), (17, 2), (18, 2), (19, 0), (20, 2)] (by kernel_rfl) (by kernel_rfl) PickC.perm fun hs K n0 hKm hKs hKn => ?_
      refine XK.q hs rfl qm_ rfl ?_
      refine XK.q hs rfl qm_ rfl ?_
      refine XK.q hs rfl (q_nil rfl) rfl ?_
      refine XK.q hs rfl (qf_ 1 1) rfl ?_
      refine XK.r hs rfl kr_ hKs ql_ rfl ?_
      refine XK.r hs rfl kr_ hKs (qw_ 4) rfl ?_
      refine XK.q hs rfl qm_ rfl ?_
      refine XK.q hs rfl (q_nil rfl) rfl ?_
      refine XK.q hs rfl (qf_ 0 0) rfl ?_
      refine XK.r hs rfl kr_ hKs ql_ rfl ?_
      refine XK.r hs rfl kr_ hKs (qw_ 4) rfl ?_
      refine XK.q hs rfl qm_ rfl ?_
      refine XK.group [⟨6, 36, fun v _ => v = .string (key t)⟩, ⟨12, 42, fun v R => ∃ b, v = .slice (some ⟨b, 0, none⟩) 1 1 ∧ (b, Obj.cells (tmc t.kind v28 t.text t.n).toArray 76 (0, 0)) ∈ R⟩]
        (allS growsEq (allS growsLitT (all0))) (show List.Nodup [36, 42] by decide) (show List.Nodup [6, 12] by decide) (allS (blt_lt rfl) (allS (blt_lt rfl) (all0)))
        (allS ⟨_, rfl, fun vs R w hb ha => ⟨.inl rfl, ?_⟩⟩ (allS ⟨_, rfl, fun vs R w hb ha => ⟨.inl rfl, ?_⟩⟩ (all0))) ?_
      ·
        exact l_callV (aS rfl a0) (by kernel_rfl) (name_spec v28 t _ (hv28.mono fun _ h => hb _ (by simp [h])) ht (hb _ (mA h4))) rfl ⟨_, rfl, rfl⟩
      ·
        exact l_buildSlice (e := 76) (sz := 4) (z := [.int .u8 0, .slice none 0 0, .string ByteArray.empty, .int .i64 0]) (by kernel_rfl) (eS rfl e0) (.cons rfl rfl (by rfl) (SetR.all (by rfl)) .nil) rfl fun b => ⟨_, rfl, b, rfl, List.mem_append_left _ List.mem_cons_self⟩
      intro vs Jn0 hφ
      have g6 := ofH hφ
      dsimp only at g6
      replace hφ := ofT hφ
      have g12 := ofH hφ
      dsimp only at g12
      clear hφ
      dsimp only [gEnv, List.map, List.cons_append, List.nil_append]
      generalize vs 6 = u36 at *
      generalize vs 12 = u42 at *
      subst g6
      obtain ⟨b42, rfl, hb42⟩ := g12
      have hl42 := Rd.whole (sz := 4) (n := 1) hb42 (by rfl)
      refine XK.lo _ _ rfl rfl (List.Perm.refl _) hKm fun w0 => (l_append2 (e := 76) (sz := 4) (by_ := 56) rfl rfl (by kernel_rfl) rfl hsl (hl42.mono fun x hx => by simpa only [List.append_assoc, List.nil_append, List.append_nil] using hx) (by intro c hc; simp only [List.mem_cons, List.not_mem_nil, or_false] at hc; rcases hc with rfl | rfl | rfl | rfl <;> first | rfl | exact hv28.one) (by rw [List.append_nil]) (by unfold maxLen; omega) (by omega) rfl fun v43 B43 hs43 => fun _ => ?_)
      refine XK.q hs rfl (q_nil rfl) rfl ?_
      refine XK.q hs rfl (qf_ 0 0) rfl ?_
      refine XK.tl rfl rfl rfl (l_store rfl rfl hs43.one (by kernel_rfl) SetC.set UpC.upd ?_)
      refine XK.tl rfl rfl rfl (l_mapEntry (kt := 9) (et := 3) rfl rfl (by kernel_rfl) (by kernel_rfl) (fun _ => by rfl) hnk rfl UpC.upd ?_)
      refine XK.q hs rfl (q_x1 rfl) rfl ?_
      refine XK.tl rfl rfl rfl (l_entryStore (ks := ks) (s := key t) rfl (by rfl) (by rfl) UpC.upd ?_)
      refine XK.nil ?_
      have hat_ : at_ ts t = ks.length := by unfold at_; rw [hnm, hkl]; rfl
      have hadd : add ts t = ts ++ [t] := by unfold add; rw [hnm]; rfl
      refine jn (_ :: _ :: (B43 ++ (M28 ++ BX))) ⟨v43, rows ++ [tmc t.kind v28 t.text t.n], ks ++ [key t], B43, M28 ++ BX, rfl, by rw [hadd, hks]; simp, (by rw [show (rows ++ [tmc t.kind v28 t.text t.n]).flatten = rows.flatten ++ tmc t.kind v28 t.text t.n by simp, List.length_append]; exact hs43), by simp [hrl], ?_, ?_, ?_, ?_⟩ (kp 5 (by rw [hat_]; rfl) kn) ?_ (fun _ h => by cases h)
      · intro r hr
        rcases List.mem_append.1 hr with hr | hr
        · exact hr4 r hr
        · rw [List.mem_singleton.1 hr]; rfl
      · intro j u hj
        rw [hadd] at hj
        by_cases hlt : j < ts.length
        · rw [List.getElem?_append_left hlt] at hj
          obtain ⟨r, hr, hcr⟩ := hat j u hj
          exact ⟨r, by rw [List.getElem?_append_left (by omega)]; exact hr, hcr.mono fun x hx => List.mem_append_right _ hx⟩
        · rw [List.getElem?_append_right (by omega)] at hj
          have hj0 : j = ts.length := by
            have := (List.getElem?_eq_some_iff.1 hj).1
            simp at this; omega
          subst hj0
          simp at hj
          subst hj
          exact ⟨_, by rw [List.getElem?_append_right (by omega), show ts.length - rows.length = 0 by omega]; rfl, v28, rfl, hv28.mono fun x hx => List.mem_append_left _ hx⟩
      · intro u hu
        rw [hadd] at hu
        rcases List.mem_append.1 hu with hu | hu
        · exact hto u hu
        · rw [List.mem_singleton.1 hu]; exact ht
      · rw [hadd, List.nodup_append]
        refine ⟨hnd, by simp, fun x hx y hy e => (pos_none ht hto).1 hnm ?_⟩
        rw [List.mem_singleton.1 hy] at e
        exact e ▸ hx
      · rw [List.length_append]; exact fit_put
    ·
      have hsm : (pos ts t).isSome = true := by
        cases hp : pos ts t with
        | some j => rfl
        | none => rw [hks] at hc; rw [show lookK (key t) (ts.map key) 0 = none from hp] at hc; cases hc
      refine XC.skip ?_
      have hpl : lookK (key t) ks 0 = pos ts t := by rw [hks]; rfl
      have hadd : add ts t = ts := by unfold add; rw [hsm]; rfl
      refine jn _ ⟨v, rows, ks, Bl, BX, rfl, by rw [hadd, hks], hsl, hrl, hr4, by rw [hadd]; exact hat, by rw [hadd]; exact hto, by rw [hadd]; exact hnd⟩ (kp 5 (by rw [hpl]; unfold at_; cases hq : pos ts t with | none => rw [hq] at hsm; cases hsm | some j => rfl) kn) (Fit.sub (.cons _ (List.Sublist.refl _))) (fun _ h => h)
  ·
    rintro M hM
    refine XC.reg ?_
    refine mv_ (as_ ?_)
    refine XL.fin (kq 4 kn) ?_
    refine XC.ret ?_
    exact ⟨_, _, _, res1 rfl rfl, List.Sublist.refl _, fun _ h => h, rfl, rfl, hM⟩

end Go.Proofs.YtphcaiplgpmnnaaGreatDoor
/- The walks of the term laws: same; terms that are put. -/
namespace Go.Proofs.YtphcaiplgpmnnaaGreatDoor
open Go.Px
/-- Are two terms one? -/
def tmEq (a b : Tm) : Bool := a.kind == b.kind && a.n == b.n && a.text == b.text && a.of == b.of
end Go.Proofs.YtphcaiplgpmnnaaGreatDoor
/- The walk of TermPuts. -/
namespace Go.Px
section
variable {P : Program} {R R' : Mem} {l : Env} {d : Option Nat} {ty t : TypeId} {pos : String} {af : Array Edge} {g : Option (Nat × Bool)} {x y : Operand} {v u : Value} {sz n a off j : Nat} {xs : List Value}
end
end Go.Px
namespace Go.Proofs.YtphcaiplgpmnnaaGreatDoor
open Go.Px
/-- Terms that came in. -/
structure TmI (t : Tm) : Prop where
  kind : t.kind < 256
  n : i64 t.n
  of : ∀ i ∈ t.of, i64 i
  ofl : t.of.length ≤ maxLen
  text : B256 t.text
  tl : t.text.length ≤ maxLen
/-- Rows of terms that read. -/
def Rws (R : Mem) (rows : List (List Value)) (ts : List Tm) : Prop := rows.length = ts.length ∧ (∀ r ∈ rows, r.length = 4) ∧ ∀ (j : Nat) (t : Tm), ts[j]? = some t → ∃ r, rows[j]? = some r ∧ TmC R r t
theorem Rws.get {R : Mem} {rows : List (List Value)} {ts : List Tm} (h : Rws R rows ts) {j : Nat} {r : List Value} (hr : rows[j]? = some r) {k : Nat} (hk : k < 4) : rows.flatten[j * 4 + k]? = r[k]? := flat_get h.2.1 hr k hk
/-- Which of the first k of a table's terms is that one? -/
def fnd (ts : List Tm) (t : Tm) (k : Nat) : Int := match pos ts t with
  | some j => if j < k then (j : Int) else -1
  | none => -1
theorem add_len {ts : List Tm} {t : Tm} : (add ts t).length ≤ ts.length + 1 := by unfold add; split <;> simp
structure Pst where
  i : Nat
  ts : List Tm
  v : Value
  rows : List (List Value)
  B : Mem
  MT : Mem
structure Pok (A : Mem) (bt bm n : Nat) (s : Pst) : Prop where
  hi : s.i ≤ n
  hl : s.ts.length ≤ s.i
  tab : Tab bt bm s.ts s.MT
  sl : Sl 4 s.v s.ts.length s.rows.flatten s.B
  rw_ : Rws A s.rows s.ts

end Go.Proofs.YtphcaiplgpmnnaaGreatDoor
