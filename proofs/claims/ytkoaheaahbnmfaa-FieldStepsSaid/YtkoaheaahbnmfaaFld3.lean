/- The walks of package field: Read, Bytes, Same, Zero, Odd. -/
import Derived.Test.YtkoaheaahbnmfaaFld2
import Derived.Test.YtkoaheaahbnmfaaFldB
set_option linter.unusedVariables false
set_option linter.unusedSimpArgs false
namespace Go.Proofs.Ytkoaheaahbnmfaa
open Go.Px
/-- The number of 32 bytes without the highest bit; 0 of others. -/
def rdN (p : List Nat) : Nat := if p.length = 32 then bv p % 57896044618658097711785492504343953926634992332820282019728792003956564819968 % p25 else 0
theorem fv_prts (N : Nat) : fv (prt 51 N 255 0) (prt 51 N 255 1) (prt 51 N 255 2) (prt 51 N 255 3) (prt 51 N 255 4) = N % 57896044618658097711785492504343953926634992332820282019728792003956564819968 := by
  unfold fv prt
  simp only [Nat.reducePow, Nat.reduceMul]
  omega
theorem prt_lt (w N i j : Nat) : prt w N i j < 2 ^ w := Nat.mod_lt _ (Nat.two_pow_pos _)
theorem prt52 (N i j : Nat) : prt 51 N i j < 4503599627370496 := Nat.lt_trans (prt_lt 51 N i j) (by decide)
theorem shl_small {b s w : Nat} (hb : b < 2) (hs : s < w) : b <<< s < 2 ^ w := by
  rw [Nat.shiftLeft_eq]
  have h1 : 2 ^ s * 2 ≤ 2 ^ w := by rw [← Nat.pow_succ]; exact Nat.pow_le_pow_right (by decide) hs
  have h2 : b * 2 ^ s ≤ 1 * 2 ^ s := Nat.mul_le_mul_right _ (by omega)
  have h3 := Nat.two_pow_pos s
  omega

theorem fread_spec (pv : Value) (p : List Nat) (A : Mem) (hp : Rd A 1 pv p.length (nums .u8 p)) (hp256 : ∀ x ∈ p, x < 256) (hpl : p.length < 9223372036854775808) : FnX Try.prog 9 [pv] [] A fun r M J => M = [] ∧ J = [] ∧ Fe r (rdN p) := by
  refine FnX.enter (N := 33) Try.func9 rfl rfl rfl fun w => ?_
  refine XC.keep (kp 0 rfl kn) ?_
  refine XC.reg ?_
  refine XL.lo rfl (l_alloc (cs := [.int .u64 0, .int .u64 0, .int .u64 0, .int .u64 0, .int .u64 0]) (by kernel_rfl) rfl fun b2 => ?_)
  refine XL.fin (kp 0 rfl (kp 2 rfl kn)) ?_
  refine XC.reg ?_
  refine XL.lo rfl (l_alloc (cs := [.int .u64 0, .int .u64 0, .int .u64 0, .int .u64 0, .int .u64 0]) (by kernel_rfl) rfl fun b3 => ?_)
  refine XL.fin (kp 0 rfl (kp 2 rfl (kp 3 rfl kn))) ?_
  refine XC.seq ?_
  refine XC.reg ?_
  refine XL.q (q_move rfl) rfl ?_
  refine XL.q (q_lenV hp rfl (by kernel_rfl)) rfl ?_
  refine XL.q (q_bin rfl rfl rfl) rfl ?_
  refine XL.fin (kp 0 rfl (kp 2 rfl (kp 3 rfl (kp 7 rfl kn)))) ?_
  refine XC.cond rfl (fun hc => ?_) (fun hc => ?_)
  ·
    have h32 : p.length ≠ 32 := by simp at hc; omega
    refine XC.reg ?_
    refine XL.q (q_loadW (n := 5) rfl (by kernel_rfl) (by first | exact At.mem | exact mA (by assumption)) (by rfl)) rfl ?_
    refine XL.lo rfl (l_storeW rfl rfl Cel.cel (by kernel_rfl) (lnS (lnS (lnS (lnS (lnS (ln0)))))) (allS rfl (allS rfl (allS rfl (allS rfl (allS rfl (all0)))))) UpC.upd ?_)
    refine XL.fin (kp 2 rfl kn) ?_
    refine XC.ret ?_
    refine tr ?_
    refine ⟨_, [], [], resC rfl rfl (by kernel_rfl) At.mem (by rfl), List.nil_sublist _, by simp, rfl, rfl, 0, 0, 0, 0, 0, rfl, by decide, by decide, by decide, by decide, by decide, ?_⟩
    rw [rdN, if_neg h32]; rfl
  ·
    have h32 : p.length = 32 := by simp at hc; omega
    have hN := bv_bit hp256
    refine XC.skip ?_
    refine nx (kp 0 rfl (kp 2 rfl (kp 3 rfl kn))) ?_
    refine XC.seq ?_
    refine XC.reg ?_
    refine XL.q (q_move rfl) rfl ?_
    refine XL.fin (kp 0 rfl (kp 2 rfl (kp 3 rfl (kp 9 rfl kn)))) ?_
    refine XC.block ?_
    refine XC.fit (M' := [(b3, blk (nums .u64 (prts 51 5 (bv p) 0)) 25), (b2, blk [.int .u64 0, .int .u64 0, .int .u64 0, .int .u64 0, .int .u64 0] 25)]) (Fit.eq (by rw [prts_zero]; rfl)) (fun _ h => h) ?_
    refine XC.loop (α := Nat) (fun i => [(0, pv), (2, .pointer (some ⟨b2, 0, none⟩)), (3, .pointer (some ⟨b3, 0, none⟩)), (9, .int .i64 (i : Int))]) (fun i => [(b3, blk (nums .u64 (prts 51 5 (bv p) i)) 25), (b2, blk [.int .u64 0, .int .u64 0, .int .u64 0, .int .u64 0, .int .u64 0] 25)]) (fun _ => []) (fun i => i ≤ 255) (fun i => 255 - i) 0 (by decide) (kp 0 rfl (kp 2 rfl (kp 3 rfl (kp 9 rfl kn)))) .rfl (fun _ h => h) ?_
    rintro i hi
    refine XC.reg ?_
    refine XL.q (q_bin rfl rfl rfl) rfl ?_
    refine XL.fin (kp 0 rfl (kp 2 rfl (kp 3 rfl (kp 9 rfl (kp 10 rfl kn))))) ?_
    refine XC.seq ?_
    refine XC.cond rfl (fun hc => ?_) (fun hc => ?_)
    ·
      have hlt : i < 255 := by simp at hc; omega
      have hbit := hN i
      rw [← Nat.shiftRight_eq_div_pow] at hbit
      have hb2 : bv p / 2 ^ i % 2 < 2 := Nat.mod_lt _ (by decide)
      have hps := prts_succ (w := 51) (n := 5) (N := bv p) (i := i) (by decide) (by omega)
      have hpg := prts_get (w := 51) (n := 5) (N := bv p) (i := i) (j := i / 51) (by omega)
      have hpl := prt_lt 51 (bv p) i (i / 51)
      have hsm := shl_small (w := 51) hb2 (Nat.mod_lt i (by decide : 0 < 51))
      have hpb : p.getD (i / 8) 0 < 256 := getD_lt hp256 (by decide)
      have hsr := Nat.shiftRight_le (p.getD (i / 8) 0) (i % 8)
      rw [← hpg] at hps hpl
      generalize bv p / 2 ^ i % 2 = bt at *
      have hmo : bt <<< (i % 51) % 2 ^ IntKind.u64.bits = bt <<< (i % 51) := Nat.mod_eq_of_lt (Nat.lt_trans hsm (by decide))
      have hto : IntKind.u64.wrap (bt : Int) = (bt : Int) := by rw [wrap64, Nat.mod_eq_of_lt (by omega)]
      refine XC.skip ?_
      refine nx (kp 0 rfl (kp 2 rfl (kp 3 rfl (kp 9 rfl kn)))) ?_
      refine XC.seq ?_
      refine XC.block ?_
      refine XC.reg ?_
      refine XL.q (q_move rfl) rfl ?_
      refine XL.q (q_assign rfl) rfl ?_
      refine XL.fin (kp 0 rfl (kp 2 rfl (kp 3 rfl (kp 4 rfl (kp 9 rfl kn))))) ?_
      refine XC.drawF1 [0, 1, 2, 3, 4, 5, 6, 7, 8, 9, 10, 11, 12, 13, 14, 15, 16, 17, 18] [(0, 0), (1, 0), (2, 0), (3, 1), (4, 0), (5, 0), (6, 0), (7, 0), (8, 1), (9, 0), (10, 0), (11, 0), (12, 0), (13, 0), (14, 0), (15, 0), (16, 0), (17, 0), (18, 0), (19, 2)] (by kernel_rfl) (by kernel_rfl) fun hs => ?_
      refine XF.q hs rfl (q_move rfl) rfl ?_
      refine XF.q hs rfl (q_quoD 51 rfl rfl rfl (by decide) (wrapI (by omega))) rfl ?_
      refine XF.q hs rfl (q_idxA (e := 23) (n := 5) (sz := 1) (i := i / 51) rfl rfl (by kernel_rfl) (by kernel_rfl) rfl (by omega)) rfl ?_
      refine XF.r hs rfl (q_ldN (i / 51) rfl (by kernel_rfl) At.mem (by omega) (by rw [prts_len]; omega)) rfl ?_
      refine XF.q hs rfl (q_move rfl) rfl ?_
      refine XF.q hs rfl (q_move rfl) rfl ?_
      refine XF.q hs rfl (q_quoD 8 rfl rfl rfl (by decide) (wrapI (by omega))) rfl ?_
      refine XF.q hs rfl (q_atV hp rfl rfl (by kernel_rfl) (i / 8) rfl (by omega)) rfl ?_
      refine XF.r hs rfl (q_ldVN (hp.mono fun _ h => mA h) rfl (by kernel_rfl) (by omega)) rfl ?_
      refine XF.q hs rfl (q_move rfl) rfl ?_
      refine XF.q hs rfl (q_remD 8 rfl rfl rfl (by decide)) rfl ?_
      refine XF.q hs rfl (q_shrN (i % 8) rfl rfl rfl (by show _ ≤ 8; omega)) rfl ?_
      refine XF.q hs rfl (hbit ▸ q_andD 1 2 rfl rfl rfl rfl rfl (by show _ < 256; omega) (by decide)) rfl ?_
      refine XF.q hs rfl (q_convN bt rfl (by kernel_rfl) hto) rfl ?_
      refine XF.q hs rfl (q_move rfl) rfl ?_
      refine XF.q hs rfl (q_remD 51 rfl rfl rfl (by decide)) rfl ?_
      refine XF.q hs rfl (hmo ▸ q_shlN rfl (i % 51) rfl rfl rfl (by show _ ≤ 64; omega)) rfl ?_
      refine XF.q hs rfl (q_or rfl rfl rfl (Nat.lt_trans hpl (by decide)) (Nat.lt_trans hsm (by decide))) rfl ?_
      refine XF.q hs rfl (q_idxA (e := 23) (n := 5) (sz := 1) (i := i / 51) rfl rfl (by kernel_rfl) (by kernel_rfl) rfl (by omega)) rfl ?_
      refine XF.tl rfl rfl rfl (l_stN (i / 51) rfl rfl (by kernel_rfl) (by omega) (by rw [prts_len]; omega) UpC.upd ?_)
      refine XF.nil ?_
      refine nb ?_
      refine nx (kp 0 rfl (kp 2 rfl (kp 3 rfl (kp 9 rfl kn)))) ?_
      refine XC.reg1 ?_
      refine XL.q (q_num ((i + 1 : Nat) : Int) rfl rfl (add64 (by omega) (by omega) (by omega))) rfl ?_
      refine XL.q (q_move rfl) rfl ?_
      refine XL.nil ?_
      exact rn (i + 1) (by omega) (by omega) (kp 0 rfl (kp 2 rfl (kp 3 rfl (kp 9 rfl kn)))) (Fit.eq (by rw [hps])) (fun _ h => h)
    ·
      have hlt : i = 255 := by simp at hc; omega
      subst hlt
      refine XC.exit ?_
      refine te ?_
      refine re ?_
      refine be rfl ?_
      refine nx (kp 2 rfl (kp 3 rfl kn)) ?_
      refine XC.reg ?_
      refine XL.q (q_loadW (n := 5) (cs := nums .u64 (prts 51 5 (bv p) 255)) rfl (by kernel_rfl) At.mem (by rw [nums_len, prts_len])) rfl ?_
      refine XL.lo rfl (l_storeW (vs := nums .u64 (prts 51 5 (bv p) 255)) rfl rfl rfl (by rw [nums_len, prts_len]; kernel_rfl) (by rw [nums_len, prts_len]; rfl) nums_one UpC.upd ?_)
      refine XL.fin (kp 2 rfl kn) ?_
      refine XC.ret ?_
      refine ⟨_, [], [], resC rfl rfl (by kernel_rfl) At.mem (by rw [nums_len, prts_len]), List.nil_sublist _, by simp, rfl, rfl, _, _, _, _, _, rfl, prt52 _ _ _, prt52 _ _ _, prt52 _ _ _, prt52 _ _ _, prt52 _ _ _, ?_⟩
      rw [fv_prts, rdN, if_pos h32]

theorem fbytes_spec (v : Value) (x : Nat) (hx : Fe v x) (A : Mem) : FnX Try.prog 21 [v] [] A fun r M J => J = [] ∧ Sl 1 r 32 (nums .u8 (prts 8 32 x 255)) M := by
  obtain ⟨a, b, c, d, e, rfl, ha, hb, hc, hd, he, rfl⟩ := hx
  refine FnX.enter (N := 80) Try.func21 rfl rfl rfl fun w => ?_
  refine XC.keep (kp 0 rfl kn) ?_
  refine XC.reg ?_
  refine XL.lo rfl (l_box rfl rfl rfl fun b1 => ?_)
  refine XL.q (q_assign rfl) rfl ?_
  refine XL.fin (kp 1 rfl kn) ?_
  refine XC.reg ?_
  refine XL.q (q_loadW (n := 5) rfl (by kernel_rfl) (by first | exact At.mem | exact mA (by assumption)) (by rfl)) rfl ?_
  refine XL.call (aS rfl a0) (by kernel_rfl) (settle_spec _ _ _ _ _ (by omega) (by omega) (by omega) (by omega) (by omega) _) rfl ?_
  rintro r3 M3 J3 ⟨rfl, rfl, a3, b3, c3, d3, e3, rfl, ha3, hb3, hc3, hd3, hv3, he3⟩
  refine XL.call (aS rfl a0) (by kernel_rfl) (settle_spec _ _ _ _ _ (by omega) (by omega) (by omega) (by omega) (by omega) _) rfl ?_
  rintro r4 M4 J4 ⟨rfl, rfl, a4, b4, c4, d4, e4, rfl, ha4, hb4, hc4, hd4, hv4, he4⟩
  have hz4 := settled_top ha3 hb3 hc3 hd3 he3 ha4 hb4 hc4 hd4 hv4
  refine XL.call (aS rfl a0) (by kernel_rfl) (settle_spec _ _ _ _ _ (by omega) (by omega) (by omega) (by omega) (by omega) _) rfl ?_
  rintro r5 M5 J5 ⟨rfl, rfl, a5, b5, c5, d5, e5, rfl, ha5, hb5, hc5, hd5, hv5, he5⟩
  have hz5 := settled_top ha4 hb4 hc4 hd4 he4 ha5 hb5 hc5 hd5 hv5
  have hx5 : fv a5 b5 c5 d5 e5 % p25 = fv a b c d e % p25 := by rw [mod_of_settle hv5, mod_of_settle hv4, mod_of_settle hv3]
  have hV5 := fv_lt ha5 hb5 hc5 hd5 hz5
  clear hv3 hv4 hv5 he3 he4 he5 hz4 ha3 hb3 hc3 hd3 ha4 hb4 hc4 hd4
  refine XL.lo rfl (l_storeW rfl rfl Cel.cel (by kernel_rfl) (lnS (lnS (lnS (lnS (lnS (ln0)))))) (allS rfl (allS rfl (allS rfl (allS rfl (allS rfl (all0)))))) UpC.upd ?_)
  refine XL.fin (kp 1 rfl kn) ?_
  refine XC.reg ?_
  refine XL.q (q_idxAN 0 (e := 23) (n := 5) (sz := 1) (i := 0) rfl rfl (by kernel_rfl) (by kernel_rfl) rfl (by decide) rfl) rfl ?_
  refine XL.q (q_load rfl (by kernel_rfl) (by first | exact At.mem | exact mA (by assumption)) (by rfl)) rfl ?_
  refine XL.q (q_addM 18446744073709551616 (b := 19) rfl rfl rfl rfl rfl rfl) rfl ?_
  refine XL.q (q_shrD 51 2251799813685248 rfl rfl rfl rfl (by decide)) rfl ?_
  refine XL.q (q_assign rfl) rfl ?_
  refine XL.fin (kp 1 rfl (kp 3 rfl kn)) ?_
  refine XC.seq ?_
  refine XC.reg ?_
  refine XL.q (q_assign rfl) rfl ?_
  refine XL.fin (kp 1 rfl (kp 3 rfl (kp 4 rfl kn))) ?_
  refine XC.block ?_
  refine XC.rounds 5 ?_
  refine XR.step ?_
  refine XC.seq ?_
  refine XC.reg ?_
  refine XL.q (q_move rfl) rfl ?_
  refine XL.q (q_cmp true rfl rfl (ltT (by decide))) rfl ?_
  refine XL.fin (kp 1 rfl (kp 3 rfl (kp 4 rfl (kp 17 rfl kn)))) ?_
  refine XC.condT rfl ?_
  refine XC.skip ?_
  refine nx (kp 1 rfl (kp 3 rfl (kp 4 rfl kn))) ?_
  refine XC.seq ?_
  refine XC.block ?_
  refine XC.reg1 ?_
  refine XL.q (q_move rfl) rfl ?_
  refine XL.q (q_idxAN 1 (e := 23) (n := 5) (sz := 1) (i := 1) rfl rfl (by kernel_rfl) (by kernel_rfl) rfl (by decide) rfl) rfl ?_
  refine XL.q (q_load rfl (by kernel_rfl) (by first | exact At.mem | exact mA (by assumption)) (by rfl)) rfl ?_
  refine XL.q (q_move rfl) rfl ?_
  refine XL.q (q_addM 18446744073709551616 rfl rfl rfl rfl rfl rfl) rfl ?_
  refine XL.q (q_shrD 51 2251799813685248 rfl rfl rfl rfl (by decide)) rfl ?_
  refine XL.q (q_assign rfl) rfl ?_
  refine XL.nil ?_
  refine nb ?_
  refine nx (kp 1 rfl (kp 3 rfl (kp 4 rfl kn))) ?_
  refine XC.reg1 ?_
  refine XL.q (q_move rfl) rfl ?_
  refine XL.q (q_num (2 : Int) rfl rfl (add64 (by decide) (by decide) (by decide))) rfl ?_
  refine XL.q (q_assign rfl) rfl ?_
  refine XL.nil ?_
  refine un (kp 1 rfl (kp 3 rfl (kp 4 rfl kn))) ?_
  refine XR.step ?_
  refine XC.seq ?_
  refine XC.reg ?_
  refine XL.q (q_move rfl) rfl ?_
  refine XL.q (q_cmp true rfl rfl (ltT (by decide))) rfl ?_
  refine XL.fin (kp 1 rfl (kp 3 rfl (kp 4 rfl (kp 17 rfl kn)))) ?_
  refine XC.condT rfl ?_
  refine XC.skip ?_
  refine nx (kp 1 rfl (kp 3 rfl (kp 4 rfl kn))) ?_
  refine XC.seq ?_
  refine XC.block ?_
  refine XC.reg1 ?_
  refine XL.q (q_move rfl) rfl ?_
  refine XL.q (q_idxAN 2 (e := 23) (n := 5) (sz := 1) (i := 2) rfl rfl (by kernel_rfl) (by kernel_rfl) rfl (by decide) rfl) rfl ?_
  refine XL.q (q_load rfl (by kernel_rfl) (by first | exact At.mem | exact mA (by assumption)) (by rfl)) rfl ?_
  refine XL.q (q_move rfl) rfl ?_
  refine XL.q (q_addM 18446744073709551616 rfl rfl rfl rfl rfl rfl) rfl ?_
  refine XL.q (q_shrD 51 2251799813685248 rfl rfl rfl rfl (by decide)) rfl ?_
  refine XL.q (q_assign rfl) rfl ?_
  refine XL.nil ?_
  refine nb ?_
  refine nx (kp 1 rfl (kp 3 rfl (kp 4 rfl kn))) ?_
  refine XC.reg1 ?_
  refine XL.q (q_move rfl) rfl ?_
  refine XL.q (q_num (3 : Int) rfl rfl (add64 (by decide) (by decide) (by decide))) rfl ?_
  refine XL.q (q_assign rfl) rfl ?_
  refine XL.nil ?_
  refine un (kp 1 rfl (kp 3 rfl (kp 4 rfl kn))) ?_
  refine XR.step ?_
  refine XC.seq ?_
  refine XC.reg ?_
  refine XL.q (q_move rfl) rfl ?_
  refine XL.q (q_cmp true rfl rfl (ltT (by decide))) rfl ?_
  refine XL.fin (kp 1 rfl (kp 3 rfl (kp 4 rfl (kp 17 rfl kn)))) ?_
  refine XC.condT rfl ?_
  refine XC.skip ?_
  refine nx (kp 1 rfl (kp 3 rfl (kp 4 rfl kn))) ?_
  refine XC.seq ?_
  refine XC.block ?_
  refine XC.reg1 ?_
  refine XL.q (q_move rfl) rfl ?_
  refine XL.q (q_idxAN 3 (e := 23) (n := 5) (sz := 1) (i := 3) rfl rfl (by kernel_rfl) (by kernel_rfl) rfl (by decide) rfl) rfl ?_
  refine XL.q (q_load rfl (by kernel_rfl) (by first | exact At.mem | exact mA (by assumption)) (by rfl)) rfl ?_
  refine XL.q (q_move rfl) rfl ?_
  refine XL.q (q_addM 18446744073709551616 rfl rfl rfl rfl rfl rfl) rfl ?_
  refine XL.q (q_shrD 51 2251799813685248 rfl rfl rfl rfl (by decide)) rfl ?_
  refine XL.q (q_assign rfl) rfl ?_
  refine XL.nil ?_
  refine nb ?_
  refine nx (kp 1 rfl (kp 3 rfl (kp 4 rfl kn))) ?_
  refine XC.reg1 ?_
  refine XL.q (q_move rfl) rfl ?_
  refine XL.q (q_num (4 : Int) rfl rfl (add64 (by decide) (by decide) (by decide))) rfl ?_
  refine XL.q (q_assign rfl) rfl ?_
  refine XL.nil ?_
  refine un (kp 1 rfl (kp 3 rfl (kp 4 rfl kn))) ?_
  refine XR.step ?_
  refine XC.seq ?_
  refine XC.reg ?_
  refine XL.q (q_move rfl) rfl ?_
  refine XL.q (q_cmp true rfl rfl (ltT (by decide))) rfl ?_
  refine XL.fin (kp 1 rfl (kp 3 rfl (kp 4 rfl (kp 17 rfl kn)))) ?_
  refine XC.condT rfl ?_
  refine XC.skip ?_
  refine nx (kp 1 rfl (kp 3 rfl (kp 4 rfl kn))) ?_
  refine XC.seq ?_
  refine XC.block ?_
  refine XC.reg1 ?_
  refine XL.q (q_move rfl) rfl ?_
  refine XL.q (q_idxAN 4 (e := 23) (n := 5) (sz := 1) (i := 4) rfl rfl (by kernel_rfl) (by kernel_rfl) rfl (by decide) rfl) rfl ?_
  refine XL.q (q_load rfl (by kernel_rfl) (by first | exact At.mem | exact mA (by assumption)) (by rfl)) rfl ?_
  refine XL.q (q_move rfl) rfl ?_
  refine XL.q (q_addM 18446744073709551616 rfl rfl rfl rfl rfl rfl) rfl ?_
  refine XL.q (q_shrD 51 2251799813685248 rfl rfl rfl rfl (by decide)) rfl ?_
  refine XL.q (q_assign rfl) rfl ?_
  refine XL.nil ?_
  refine nb ?_
  refine nx (kp 1 rfl (kp 3 rfl (kp 4 rfl kn))) ?_
  refine XC.reg1 ?_
  refine XL.q (q_move rfl) rfl ?_
  refine XL.q (q_num (5 : Int) rfl rfl (add64 (by decide) (by decide) (by decide))) rfl ?_
  refine XL.q (q_assign rfl) rfl ?_
  refine XL.nil ?_
  refine un (kp 1 rfl (kp 3 rfl (kp 4 rfl kn))) ?_
  refine XR.step ?_
  refine XC.seq ?_
  refine XC.reg ?_
  refine XL.q (q_move rfl) rfl ?_
  refine XL.q (q_cmp false rfl rfl (ltF (by decide))) rfl ?_
  refine XL.fin (kp 1 rfl (kp 3 rfl (kp 4 rfl (kp 17 rfl kn)))) ?_
  refine XC.condF rfl ?_
  refine XC.exit ?_
  refine te ?_
  refine ue ?_
  refine be rfl ?_
  refine nx (kp 1 rfl (kp 3 rfl kn)) ?_
  obtain ⟨q, hqe, hq⟩ := carry_q ha5 hb5 hc5 hd5 hz5
  rw [← hqe]
  clear hqe
  refine XC.reg ?_
  refine XL.q (q_idxAN 0 (e := 23) (n := 5) (sz := 1) (i := 0) rfl rfl (by kernel_rfl) (by kernel_rfl) rfl (by decide) rfl) rfl ?_
  refine XL.q (q_load rfl (by kernel_rfl) (by first | exact At.mem | exact mA (by assumption)) (by rfl)) rfl ?_
  refine XL.q (q_move rfl) rfl ?_
  refine XL.q (q_mulM 18446744073709551616 (a := 19) rfl rfl rfl rfl rfl rfl) rfl ?_
  refine XL.q (q_addM 18446744073709551616 rfl rfl rfl rfl rfl rfl) rfl ?_
  refine XL.q (q_idxAN 0 (e := 23) (n := 5) (sz := 1) (i := 0) rfl rfl (by kernel_rfl) (by kernel_rfl) rfl (by decide) rfl) rfl ?_
  refine XL.lo rfl (l_store rfl rfl rfl (by kernel_rfl) SetC.set UpC.upd ?_)
  refine XL.fin (kp 1 rfl kn) ?_
  refine XC.seq ?_
  refine XC.reg ?_
  refine XL.q (q_move rfl) rfl ?_
  refine XL.fin (kp 1 rfl (kp 32 rfl kn)) ?_
  refine XC.block ?_
  refine XC.rounds 5 ?_
  refine XR.step ?_
  refine XC.reg ?_
  refine XL.q (q_cmp true rfl rfl (ltT (by decide))) rfl ?_
  refine XL.fin (kp 1 rfl (kp 32 rfl (kp 33 rfl kn))) ?_
  refine XC.seq ?_
  refine XC.condT rfl ?_
  refine XC.skip ?_
  refine nx (kp 1 rfl (kp 32 rfl kn)) ?_
  refine XC.seq ?_
  refine XC.block ?_
  refine XC.reg ?_
  refine XL.q (q_move rfl) rfl ?_
  refine XL.q (q_assign rfl) rfl ?_
  refine XL.fin (kp 1 rfl (kp 5 rfl (kp 32 rfl kn))) ?_
  refine XC.drawF [0, 1, 2, 3, 4, 5, 6, 7, 8, 9] [(0, 0), (1, 0), (2, 0), (3, 1), (4, 0), (5, 0), (6, 1), (7, 0), (8, 0), (9, 0), (10, 2)] (by kernel_rfl) (by kernel_rfl) fun hs => ?_
  refine XF.q hs rfl (q_move rfl) rfl ?_
  refine XF.q hs rfl (q_num (1 : Int) rfl rfl (add64 (by decide) (by decide) (by decide))) rfl ?_
  refine XF.q hs rfl (q_idxAN 1 (e := 23) (n := 5) (sz := 1) (i := 1) rfl rfl (by kernel_rfl) (by kernel_rfl) rfl (by decide) rfl) rfl ?_
  refine XF.r hs rfl (q_load rfl (by kernel_rfl) (by first | exact At.mem | exact mA (by assumption)) (by rfl)) rfl ?_
  refine XF.q hs rfl (q_move rfl) rfl ?_
  refine XF.q hs rfl (q_idxAN 0 (e := 23) (n := 5) (sz := 1) (i := 0) rfl rfl (by kernel_rfl) (by kernel_rfl) rfl (by decide) rfl) rfl ?_
  refine XF.r hs rfl (q_load rfl (by kernel_rfl) (by first | exact At.mem | exact mA (by assumption)) (by rfl)) rfl ?_
  refine XF.q hs rfl (q_shrD 51 2251799813685248 rfl rfl rfl rfl (by decide)) rfl ?_
  refine XF.q hs rfl (q_addM 18446744073709551616 rfl rfl rfl rfl rfl rfl) rfl ?_
  refine XF.q hs rfl (q_idxAN 1 (e := 23) (n := 5) (sz := 1) (i := 1) rfl rfl (by kernel_rfl) (by kernel_rfl) rfl (by decide) rfl) rfl ?_
  refine XF.tl rfl rfl rfl (l_store rfl rfl rfl (by kernel_rfl) SetC.set UpC.upd ?_)
  refine XF.fin (kp 1 rfl (kp 5 rfl (kp 32 rfl kn))) ?_
  refine XC.reg1 ?_
  refine XL.q (q_move rfl) rfl ?_
  refine XL.q (q_idxAN 0 (e := 23) (n := 5) (sz := 1) (i := 0) rfl rfl (by kernel_rfl) (by kernel_rfl) rfl (by decide) rfl) rfl ?_
  refine XL.q (q_load rfl (by kernel_rfl) (by first | exact At.mem | exact mA (by assumption)) (by rfl)) rfl ?_
  refine XL.q (q_andD 51 2251799813685248 rfl rfl rfl rfl rfl (by show _ < 18446744073709551616; first | assumption | exact Nat.mod_lt _ (by decide) | omega) (by decide)) rfl ?_
  refine XL.q (q_idxAN 0 (e := 23) (n := 5) (sz := 1) (i := 0) rfl rfl (by kernel_rfl) (by kernel_rfl) rfl (by decide) rfl) rfl ?_
  refine XL.lo rfl (l_store rfl rfl rfl (by kernel_rfl) SetC.set UpC.upd ?_)
  refine XL.nil ?_
  refine nb ?_
  refine nx (kp 1 rfl (kp 32 rfl kn)) ?_
  refine XC.reg1 ?_
  refine XL.q (q_num (1 : Int) rfl rfl (add64 (by decide) (by decide) (by decide))) rfl ?_
  refine XL.q (q_move rfl) rfl ?_
  refine XL.nil ?_
  refine un (kp 1 rfl (kp 32 rfl kn)) ?_
  refine XR.step ?_
  refine XC.reg ?_
  refine XL.q (q_cmp true rfl rfl (ltT (by decide))) rfl ?_
  refine XL.fin (kp 1 rfl (kp 32 rfl (kp 33 rfl kn))) ?_
  refine XC.seq ?_
  refine XC.condT rfl ?_
  refine XC.skip ?_
  refine nx (kp 1 rfl (kp 32 rfl kn)) ?_
  refine XC.seq ?_
  refine XC.block ?_
  refine XC.reg ?_
  refine XL.q (q_move rfl) rfl ?_
  refine XL.q (q_assign rfl) rfl ?_
  refine XL.fin (kp 1 rfl (kp 5 rfl (kp 32 rfl kn))) ?_
  refine XC.drawF [0, 1, 2, 3, 4, 5, 6, 7, 8, 9] [(0, 0), (1, 0), (2, 0), (3, 1), (4, 0), (5, 0), (6, 1), (7, 0), (8, 0), (9, 0), (10, 2)] (by kernel_rfl) (by kernel_rfl) fun hs => ?_
  refine XF.q hs rfl (q_move rfl) rfl ?_
  refine XF.q hs rfl (q_num (2 : Int) rfl rfl (add64 (by decide) (by decide) (by decide))) rfl ?_
  refine XF.q hs rfl (q_idxAN 2 (e := 23) (n := 5) (sz := 1) (i := 2) rfl rfl (by kernel_rfl) (by kernel_rfl) rfl (by decide) rfl) rfl ?_
  refine XF.r hs rfl (q_load rfl (by kernel_rfl) (by first | exact At.mem | exact mA (by assumption)) (by rfl)) rfl ?_
  refine XF.q hs rfl (q_move rfl) rfl ?_
  refine XF.q hs rfl (q_idxAN 1 (e := 23) (n := 5) (sz := 1) (i := 1) rfl rfl (by kernel_rfl) (by kernel_rfl) rfl (by decide) rfl) rfl ?_
  refine XF.r hs rfl (q_load rfl (by kernel_rfl) (by first | exact At.mem | exact mA (by assumption)) (by rfl)) rfl ?_
  refine XF.q hs rfl (q_shrD 51 2251799813685248 rfl rfl rfl rfl (by decide)) rfl ?_
  refine XF.q hs rfl (q_addM 18446744073709551616 rfl rfl rfl rfl rfl rfl) rfl ?_
  refine XF.q hs rfl (q_idxAN 2 (e := 23) (n := 5) (sz := 1) (i := 2) rfl rfl (by kernel_rfl) (by kernel_rfl) rfl (by decide) rfl) rfl ?_
  refine XF.tl rfl rfl rfl (l_store rfl rfl rfl (by kernel_rfl) SetC.set UpC.upd ?_)
  refine XF.fin (kp 1 rfl (kp 5 rfl (kp 32 rfl kn))) ?_
  refine XC.reg1 ?_
  refine XL.q (q_move rfl) rfl ?_
  refine XL.q (q_idxAN 1 (e := 23) (n := 5) (sz := 1) (i := 1) rfl rfl (by kernel_rfl) (by kernel_rfl) rfl (by decide) rfl) rfl ?_
  refine XL.q (q_load rfl (by kernel_rfl) (by first | exact At.mem | exact mA (by assumption)) (by rfl)) rfl ?_
  refine XL.q (q_andD 51 2251799813685248 rfl rfl rfl rfl rfl (by show _ < 18446744073709551616; first | assumption | exact Nat.mod_lt _ (by decide) | omega) (by decide)) rfl ?_
  refine XL.q (q_idxAN 1 (e := 23) (n := 5) (sz := 1) (i := 1) rfl rfl (by kernel_rfl) (by kernel_rfl) rfl (by decide) rfl) rfl ?_
  refine XL.lo rfl (l_store rfl rfl rfl (by kernel_rfl) SetC.set UpC.upd ?_)
  refine XL.nil ?_
  refine nb ?_
  refine nx (kp 1 rfl (kp 32 rfl kn)) ?_
  refine XC.reg1 ?_
  refine XL.q (q_num (2 : Int) rfl rfl (add64 (by decide) (by decide) (by decide))) rfl ?_
  refine XL.q (q_move rfl) rfl ?_
  refine XL.nil ?_
  refine un (kp 1 rfl (kp 32 rfl kn)) ?_
  refine XR.step ?_
  refine XC.reg ?_
  refine XL.q (q_cmp true rfl rfl (ltT (by decide))) rfl ?_
  refine XL.fin (kp 1 rfl (kp 32 rfl (kp 33 rfl kn))) ?_
  refine XC.seq ?_
  refine XC.condT rfl ?_
  refine XC.skip ?_
  refine nx (kp 1 rfl (kp 32 rfl kn)) ?_
  refine XC.seq ?_
  refine XC.block ?_
  refine XC.reg ?_
  refine XL.q (q_move rfl) rfl ?_
  refine XL.q (q_assign rfl) rfl ?_
  refine XL.fin (kp 1 rfl (kp 5 rfl (kp 32 rfl kn))) ?_
  refine XC.drawF [0, 1, 2, 3, 4, 5, 6, 7, 8, 9] [(0, 0), (1, 0), (2, 0), (3, 1), (4, 0), (5, 0), (6, 1), (7, 0), (8, 0), (9, 0), (10, 2)] (by kernel_rfl) (by kernel_rfl) fun hs => ?_
  refine XF.q hs rfl (q_move rfl) rfl ?_
  refine XF.q hs rfl (q_num (3 : Int) rfl rfl (add64 (by decide) (by decide) (by decide))) rfl ?_
  refine XF.q hs rfl (q_idxAN 3 (e := 23) (n := 5) (sz := 1) (i := 3) rfl rfl (by kernel_rfl) (by kernel_rfl) rfl (by decide) rfl) rfl ?_
  refine XF.r hs rfl (q_load rfl (by kernel_rfl) (by first | exact At.mem | exact mA (by assumption)) (by rfl)) rfl ?_
  refine XF.q hs rfl (q_move rfl) rfl ?_
  refine XF.q hs rfl (q_idxAN 2 (e := 23) (n := 5) (sz := 1) (i := 2) rfl rfl (by kernel_rfl) (by kernel_rfl) rfl (by decide) rfl) rfl ?_
  refine XF.r hs rfl (q_load rfl (by kernel_rfl) (by first | exact At.mem | exact mA (by assumption)) (by rfl)) rfl ?_
  refine XF.q hs rfl (q_shrD 51 2251799813685248 rfl rfl rfl rfl (by decide)) rfl ?_
  refine XF.q hs rfl (q_addM 18446744073709551616 rfl rfl rfl rfl rfl rfl) rfl ?_
  refine XF.q hs rfl (q_idxAN 3 (e := 23) (n := 5) (sz := 1) (i := 3) rfl rfl (by kernel_rfl) (by kernel_rfl) rfl (by decide) rfl) rfl ?_
  refine XF.tl rfl rfl rfl (l_store rfl rfl rfl (by kernel_rfl) SetC.set UpC.upd ?_)
  refine XF.fin (kp 1 rfl (kp 5 rfl (kp 32 rfl kn))) ?_
  refine XC.reg1 ?_
  refine XL.q (q_move rfl) rfl ?_
  refine XL.q (q_idxAN 2 (e := 23) (n := 5) (sz := 1) (i := 2) rfl rfl (by kernel_rfl) (by kernel_rfl) rfl (by decide) rfl) rfl ?_
  refine XL.q (q_load rfl (by kernel_rfl) (by first | exact At.mem | exact mA (by assumption)) (by rfl)) rfl ?_
  refine XL.q (q_andD 51 2251799813685248 rfl rfl rfl rfl rfl (by show _ < 18446744073709551616; first | assumption | exact Nat.mod_lt _ (by decide) | omega) (by decide)) rfl ?_
  refine XL.q (q_idxAN 2 (e := 23) (n := 5) (sz := 1) (i := 2) rfl rfl (by kernel_rfl) (by kernel_rfl) rfl (by decide) rfl) rfl ?_
  refine XL.lo rfl (l_store rfl rfl rfl (by kernel_rfl) SetC.set UpC.upd ?_)
  refine XL.nil ?_
  refine nb ?_
  refine nx (kp 1 rfl (kp 32 rfl kn)) ?_
  refine XC.reg1 ?_
  refine XL.q (q_num (3 : Int) rfl rfl (add64 (by decide) (by decide) (by decide))) rfl ?_
  refine XL.q (q_move rfl) rfl ?_
  refine XL.nil ?_
  refine un (kp 1 rfl (kp 32 rfl kn)) ?_
  refine XR.step ?_
  refine XC.reg ?_
  refine XL.q (q_cmp true rfl rfl (ltT (by decide))) rfl ?_
  refine XL.fin (kp 1 rfl (kp 32 rfl (kp 33 rfl kn))) ?_
  refine XC.seq ?_
  refine XC.condT rfl ?_
  refine XC.skip ?_
  refine nx (kp 1 rfl (kp 32 rfl kn)) ?_
  refine XC.seq ?_
  refine XC.block ?_
  refine XC.reg ?_
  refine XL.q (q_move rfl) rfl ?_
  refine XL.q (q_assign rfl) rfl ?_
  refine XL.fin (kp 1 rfl (kp 5 rfl (kp 32 rfl kn))) ?_
  refine XC.drawF [0, 1, 2, 3, 4, 5, 6, 7, 8, 9] [(0, 0), (1, 0), (2, 0), (3, 1), (4, 0), (5, 0), (6, 1), (7, 0), (8, 0), (9, 0), (10, 2)] (by kernel_rfl) (by kernel_rfl) fun hs => ?_
  refine XF.q hs rfl (q_move rfl) rfl ?_
  refine XF.q hs rfl (q_num (4 : Int) rfl rfl (add64 (by decide) (by decide) (by decide))) rfl ?_
  refine XF.q hs rfl (q_idxAN 4 (e := 23) (n := 5) (sz := 1) (i := 4) rfl rfl (by kernel_rfl) (by kernel_rfl) rfl (by decide) rfl) rfl ?_
  refine XF.r hs rfl (q_load rfl (by kernel_rfl) (by first | exact At.mem | exact mA (by assumption)) (by rfl)) rfl ?_
  refine XF.q hs rfl (q_move rfl) rfl ?_
  refine XF.q hs rfl (q_idxAN 3 (e := 23) (n := 5) (sz := 1) (i := 3) rfl rfl (by kernel_rfl) (by kernel_rfl) rfl (by decide) rfl) rfl ?_
  refine XF.r hs rfl (q_load rfl (by kernel_rfl) (by first | exact At.mem | exact mA (by assumption)) (by rfl)) rfl ?_
  refine XF.q hs rfl (q_shrD 51 2251799813685248 rfl rfl rfl rfl (by decide)) rfl ?_
  refine XF.q hs rfl (q_addM 18446744073709551616 rfl rfl rfl rfl rfl rfl) rfl ?_
  refine XF.q hs rfl (q_idxAN 4 (e := 23) (n := 5) (sz := 1) (i := 4) rfl rfl (by kernel_rfl) (by kernel_rfl) rfl (by decide) rfl) rfl ?_
  refine XF.tl rfl rfl rfl (l_store rfl rfl rfl (by kernel_rfl) SetC.set UpC.upd ?_)
  refine XF.fin (kp 1 rfl (kp 5 rfl (kp 32 rfl kn))) ?_
  refine XC.reg1 ?_
  refine XL.q (q_move rfl) rfl ?_
  refine XL.q (q_idxAN 3 (e := 23) (n := 5) (sz := 1) (i := 3) rfl rfl (by kernel_rfl) (by kernel_rfl) rfl (by decide) rfl) rfl ?_
  refine XL.q (q_load rfl (by kernel_rfl) (by first | exact At.mem | exact mA (by assumption)) (by rfl)) rfl ?_
  refine XL.q (q_andD 51 2251799813685248 rfl rfl rfl rfl rfl (by show _ < 18446744073709551616; first | assumption | exact Nat.mod_lt _ (by decide) | omega) (by decide)) rfl ?_
  refine XL.q (q_idxAN 3 (e := 23) (n := 5) (sz := 1) (i := 3) rfl rfl (by kernel_rfl) (by kernel_rfl) rfl (by decide) rfl) rfl ?_
  refine XL.lo rfl (l_store rfl rfl rfl (by kernel_rfl) SetC.set UpC.upd ?_)
  refine XL.nil ?_
  refine nb ?_
  refine nx (kp 1 rfl (kp 32 rfl kn)) ?_
  refine XC.reg1 ?_
  refine XL.q (q_num (4 : Int) rfl rfl (add64 (by decide) (by decide) (by decide))) rfl ?_
  refine XL.q (q_move rfl) rfl ?_
  refine XL.nil ?_
  refine un (kp 1 rfl (kp 32 rfl kn)) ?_
  refine XR.step ?_
  refine XC.reg ?_
  refine XL.q (q_cmp false rfl rfl (ltF (by decide))) rfl ?_
  refine XL.fin (kp 1 rfl (kp 32 rfl (kp 33 rfl kn))) ?_
  refine XC.seq ?_
  refine XC.condF rfl ?_
  refine XC.exit ?_
  refine te ?_
  refine ue ?_
  refine be rfl ?_
  refine nx (kp 1 rfl kn) ?_
  refine XC.reg ?_
  refine XL.q (q_idxAN 4 (e := 23) (n := 5) (sz := 1) (i := 4) rfl rfl (by kernel_rfl) (by kernel_rfl) rfl (by decide) rfl) rfl ?_
  refine XL.q (q_load rfl (by kernel_rfl) (by first | exact At.mem | exact mA (by assumption)) (by rfl)) rfl ?_
  refine XL.q (q_andD 51 2251799813685248 rfl rfl rfl rfl rfl (by show _ < 18446744073709551616; first | assumption | exact Nat.mod_lt _ (by decide) | omega) (by decide)) rfl ?_
  refine XL.q (q_idxAN 4 (e := 23) (n := 5) (sz := 1) (i := 4) rfl rfl (by kernel_rfl) (by kernel_rfl) rfl (by decide) rfl) rfl ?_
  refine XL.lo rfl (l_store rfl rfl rfl (by kernel_rfl) SetC.set UpC.upd ?_)
  refine XL.fin (kp 1 rfl kn) ?_
  refine XC.reg ?_
  refine XL.lo rfl (l_makeN (e := 5) (k := .u8) (by_ := 1) 32 rfl rfl (by kernel_rfl) rfl rfl (by decide) (by decide) rfl fun b55 => ?_)
  obtain ⟨f0, f1, f2, f3, f4, g0, g1, g2, g3, g4, k0, k1, k2, k3, k4, hF⟩ := bytes_all ha5 hb5 hc5 hd5 hz5 hq
  rw [← g0, ← g1, ← g2, ← g3, ← g4]
  clear g0 g1 g2 g3 g4
  rw [hx5] at hF
  refine XL.q (q_assign rfl) rfl ?_
  refine XL.fin (kp 1 rfl (kp 6 rfl kn)) ?_
  refine XC.seq ?_
  refine XC.reg ?_
  refine XL.q (q_move rfl) rfl ?_
  refine XL.fin (kp 1 rfl (kp 6 rfl (kp 56 rfl kn))) ?_
  refine XC.block ?_
  refine XC.fit (M' := [(b55, blk (nums .u8 (prts 8 32 (fv f0 f1 f2 f3 f4) 0)) 5), (b1, blk (nums .u64 [f0, f1, f2, f3, f4]) 25)]) (Fit.eq (by rw [prts_zero]; rfl)) (fun _ h => h) ?_
  have hN := fv_bit k0 k1 k2 k3 k4
  have hfl : [f0, f1, f2, f3, f4].length = 5 := rfl
  have hfb : ∀ x ∈ [f0, f1, f2, f3, f4], x < 2251799813685248 := by intro x hx; simp only [List.mem_cons, List.not_mem_nil, or_false] at hx; rcases hx with rfl | rfl | rfl | rfl | rfl <;> assumption
  generalize [f0, f1, f2, f3, f4] = fs at *
  rw [← hF]
  generalize fv f0 f1 f2 f3 f4 = X at *
  refine XC.loop (α := Nat) (fun i => [(1, .pointer (some ⟨b1, 0, none⟩)), (6, .slice (some ⟨b55, 0, none⟩) 32 32), (56, .int .i64 (i : Int))]) (fun i => [(b55, blk (nums .u8 (prts 8 32 X i)) 5), (b1, blk (nums .u64 fs) 25)]) (fun _ => []) (fun i => i ≤ 255) (fun i => 255 - i) 0 (by decide) (kp 1 rfl (kp 6 rfl (kp 56 rfl kn))) .rfl (fun _ h => h) ?_
  rintro i hi
  refine XC.reg ?_
  refine XL.q (q_bin rfl rfl rfl) rfl ?_
  refine XL.fin (kp 1 rfl (kp 6 rfl (kp 56 rfl (kp 57 rfl kn)))) ?_
  refine XC.seq ?_
  refine XC.cond rfl (fun hc => ?_) (fun hc => ?_)
  ·
    have hlt : i < 255 := by simp at hc; omega
    have hbit := hN i hlt
    rw [← Nat.shiftRight_eq_div_pow] at hbit
    have hb2 : X / 2 ^ i % 2 < 2 := Nat.mod_lt _ (by decide)
    have hps := prts_succ (w := 8) (n := 32) (N := X) (i := i) (by decide) (by omega)
    have hpg := prts_get (w := 8) (n := 32) (N := X) (i := i) (j := i / 8) (by omega)
    have hpl := prt_lt 8 X i (i / 8)
    have hsm := shl_small (w := 8) hb2 (Nat.mod_lt i (by decide : 0 < 8))
    have hpb : fs.getD (i / 51) 0 < 2251799813685248 := getD_lt hfb (by decide)
    have hsr := Nat.shiftRight_le (fs.getD (i / 51) 0) (i % 51)
    rw [← hpg] at hps hpl
    generalize X / 2 ^ i % 2 = bt at *
    have hmo : bt <<< (i % 8) % 2 ^ IntKind.u8.bits = bt <<< (i % 8) := Nat.mod_eq_of_lt hsm
    have hto : IntKind.u8.wrap (bt : Int) = (bt : Int) := by rw [wrap8, Nat.mod_eq_of_lt (by omega)]
    refine XC.skip ?_
    refine nx (kp 1 rfl (kp 6 rfl (kp 56 rfl kn))) ?_
    refine XC.seq ?_
    refine XC.block ?_
    refine XC.reg ?_
    refine XL.q (q_move rfl) rfl ?_
    refine XL.q (q_assign rfl) rfl ?_
    refine XL.fin (kp 1 rfl (kp 6 rfl (kp 7 rfl (kp 56 rfl kn)))) ?_
    refine XC.drawF1 [0, 1, 2, 3, 4, 5, 6, 7, 8, 9, 10, 11, 12, 13, 14, 15, 16, 17, 18] [(0, 0), (1, 0), (2, 0), (3, 0), (4, 1), (5, 0), (6, 0), (7, 0), (8, 1), (9, 0), (10, 0), (11, 0), (12, 0), (13, 0), (14, 0), (15, 0), (16, 0), (17, 0), (18, 0), (19, 2)] (by kernel_rfl) (by kernel_rfl) fun hs => ?_
    refine XF.q hs rfl (q_move rfl) rfl ?_
    refine XF.q hs rfl (q_move rfl) rfl ?_
    refine XF.q hs rfl (q_quoD 8 rfl rfl rfl (by decide) (wrapI (by omega))) rfl ?_
    refine XF.q hs rfl (q_idxS (e := 5) (sz := 1) (i := i / 8) rfl rfl (by kernel_rfl) (by kernel_rfl) rfl (by omega)) rfl ?_
    refine XF.r hs rfl (q_ldN (i / 8) rfl (by kernel_rfl) At.mem (by omega) (by rw [prts_len]; omega)) rfl ?_
    refine XF.q hs rfl (q_move rfl) rfl ?_
    refine XF.q hs rfl (q_quoD 51 rfl rfl rfl (by decide) (wrapI (by omega))) rfl ?_
    refine XF.q hs rfl (q_idxA (e := 23) (n := 5) (sz := 1) (i := i / 51) rfl rfl (by kernel_rfl) (by kernel_rfl) rfl (by omega)) rfl ?_
    refine XF.r hs rfl (q_ldN (i / 51) rfl (by kernel_rfl) At.mem (by omega) (by omega)) rfl ?_
    refine XF.q hs rfl (q_move rfl) rfl ?_
    refine XF.q hs rfl (q_remD 51 rfl rfl rfl (by decide)) rfl ?_
    refine XF.q hs rfl (q_shrN (i % 51) rfl rfl rfl (by show _ ≤ 64; omega)) rfl ?_
    refine XF.q hs rfl (hbit ▸ q_andD 1 2 rfl rfl rfl rfl rfl (by show _ < 18446744073709551616; omega) (by decide)) rfl ?_
    refine XF.q hs rfl (q_convN bt rfl (by kernel_rfl) hto) rfl ?_
    refine XF.q hs rfl (q_move rfl) rfl ?_
    refine XF.q hs rfl (q_remD 8 rfl rfl rfl (by decide)) rfl ?_
    refine XF.q hs rfl (hmo ▸ q_shlN rfl (i % 8) rfl rfl rfl (by show _ ≤ 8; omega)) rfl ?_
    refine XF.q hs rfl (q_or rfl rfl rfl hpl hsm) rfl ?_
    refine XF.q hs rfl (q_idxS (e := 5) (sz := 1) (i := i / 8) rfl rfl (by kernel_rfl) (by kernel_rfl) rfl (by omega)) rfl ?_
    refine XF.tl rfl rfl rfl (l_stN (i / 8) rfl rfl (by kernel_rfl) (by omega) (by rw [prts_len]; omega) UpC.upd ?_)
    refine XF.nil ?_
    refine nb ?_
    refine nx (kp 1 rfl (kp 6 rfl (kp 56 rfl kn))) ?_
    refine XC.reg1 ?_
    refine XL.q (q_num ((i + 1 : Nat) : Int) rfl rfl (add64 (by omega) (by omega) (by omega))) rfl ?_
    refine XL.q (q_move rfl) rfl ?_
    refine XL.nil ?_
    exact rn (i + 1) (by omega) (by omega) (kp 1 rfl (kp 6 rfl (kp 56 rfl kn))) (Fit.eq (by rw [hps])) (fun _ h => h)
  ·
    have hlt : i = 255 := by simp at hc; omega
    subst hlt
    refine XC.exit ?_
    refine te ?_
    refine re ?_
    refine be rfl ?_
    refine nx (kp 6 rfl kn) ?_
    refine XC.reg ?_
    refine XL.q (q_move rfl) rfl ?_
    refine XL.q (q_assign rfl) rfl ?_
    refine XL.fin (kp 2 rfl kn) ?_
    refine XC.ret ?_
    exact ⟨_, [_], [], res1 rfl rfl, List.Sublist.cons_cons _ (List.nil_sublist _), by simp, rfl, Sl.fresh (by rw [nums_len, prts_len]) (by decide)⟩
