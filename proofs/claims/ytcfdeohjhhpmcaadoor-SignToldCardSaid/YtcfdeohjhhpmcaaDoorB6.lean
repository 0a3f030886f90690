/- Part 6 of the texts of this claim, one behind the other. -/
import Derived.Test.YtcfdeohjhhpmcaaDoorB5
import Derived.Laws.Strings
set_option linter.unusedVariables false
set_option linter.unusedSimpArgs false
set_option linter.unusedVariables false
set_option linter.unusedSimpArgs false
namespace Go.Proofs.YtcfdeohjhhpmcaaDoor
open Go.Px
/-- The number of 32 bytes without the highest bit; 0 of others. -/
def rdN (p : List Nat) : Nat := if p.length = 32 then bv p % 57896044618658097711785492504343953926634992332820282019728792003956564819968 % p25 else 0
theorem fv_prts (N : Nat) : fv (prt 51 N 255 0) (prt 51 N 255 1) (prt 51 N 255 2) (prt 51 N 255 3) (prt 51 N 255 4) = N % 57896044618658097711785492504343953926634992332820282019728792003956564819968 := by
  unfold fv prt
  simp only [Nat.reducePow, Nat.reduceMul]
  omega
theorem prt_lt (w N i j : Nat) : prt w N i j < 2 ^ w := Nat.mod_lt _ (Nat.two_pow_pos _)
theorem prt52 (N i j : Nat) : prt 51 N i j < 4503599627370496 := Nat.lt_trans (prt_lt 51 N i j) (by decide)
theorem shl_small {b s w : Nat} (hb : b < 2) (hs : s < w) : b <<< s < 2 ^ w := by
  rw [Nat.shiftLeft_eq]
  have h1 : 2 ^ s * 2 ≤ 2 ^ w := by rw [← Nat.pow_succ]; exact Nat.pow_le_pow_right (by decide) hs
  have h2 : b * 2 ^ s ≤ 1 * 2 ^ s := Nat.mul_le_mul_right _ (by omega)
  have h3 := Nat.two_pow_pos s
  omega

set_option maxRecDepth 100000 in
theorem fread_spec (pv : Value) (p : List Nat) (A : Mem) (hp : Rd A 1 pv p.length (nums .u8 p)) (hp256 : ∀ x ∈ p, x < 256) (hpl : p.length < 9223372036854775808) : FnX Tryd.prog 56 [pv] [] A fun r M J => M = [] ∧ J = [] ∧ Fe r (rdN p) := by
  refine FnX.enter (N := 33) Tryd.func56 rfl rfl rfl fun w => ?_
  refine XC.keep (kp 0 rfl kn) ?_
  refine XC.reg ?_
  refine XL.lo rfl (l_alloc (cs := [.int .u64 0, .int .u64 0, .int .u64 0, .int .u64 0, .int .u64 0]) (by kernel_rfl) rfl fun b2 => ?_)
  refine XL.fin (kp 0 rfl (kp 2 rfl kn)) ?_
  refine XC.reg ?_
  refine XL.lo rfl (l_alloc (cs := [.int .u64 0, .int .u64 0, .int .u64 0, .int .u64 0, .int .u64 0]) (by kernel_rfl) rfl fun b3 => ?_)
  refine XL.fin (kp 0 rfl (kp 2 rfl (kp 3 rfl kn))) ?_
  refine XC.seq ?_
  refine XC.reg ?_
  refine XL.q (q_move rfl) rfl ?_
  refine XL.q (q_lenV hp rfl (by kernel_rfl)) rfl ?_
  refine XL.q (q_bin rfl rfl rfl) rfl ?_
  refine XL.fin (kp 0 rfl (kp 2 rfl (kp 3 rfl (kp 7 rfl kn)))) ?_
  refine XC.cond rfl (fun hc => ?_) (fun hc => ?_)
  ·
    have h32 : p.length ≠ 32 := by simp at hc; omega
    refine XC.reg ?_
    refine XL.q (q_loadW (n := 5) rfl (by kernel_rfl) (by first | exact At.mem | exact mA (by assumption)) (by rfl)) rfl ?_
    refine XL.lo rfl (l_storeW rfl rfl Cel.cel (by kernel_rfl) (lnS (lnS (lnS (lnS (lnS (ln0)))))) (allS rfl (allS rfl (allS rfl (allS rfl (allS rfl (all0)))))) UpC.upd ?_)
    refine XL.fin (kp 2 rfl kn) ?_
    refine XC.ret ?_
    refine tr ?_
    refine ⟨_, [], [], resC rfl rfl (by kernel_rfl) At.mem (by rfl), List.nil_sublist _, by simp, rfl, rfl, 0, 0, 0, 0, 0, rfl, by decide, by decide, by decide, by decide, by decide, ?_⟩
    rw [rdN, if_neg h32]; rfl
  ·
    have h32 : p.length = 32 := by simp at hc; omega
    have hN := bv_bit hp256
    refine XC.skip ?_
    refine nx (kp 0 rfl (kp 2 rfl (kp 3 rfl kn))) ?_
    refine XC.seq ?_
    refine XC.reg ?_
    refine XL.q (q_move rfl) rfl ?_
    refine XL.fin (kp 0 rfl (kp 2 rfl (kp 3 rfl (kp 9 rfl kn)))) ?_
    refine XC.block ?_
    refine XC.fit (M' := [(b3, blk (nums .u64 (prts 51 5 (bv p) 0)) 42), (b2, blk [.int .u64 0, .int .u64 0, .int .u64 0, .int .u64 0, .int .u64 0] 42)]) (Fit.eq (by rw [prts_zero]; rfl)) (fun _ h => h) ?_
    refine XC.loop (α := Nat) (fun i => [(0, pv), (2, .pointer (some ⟨b2, 0, none⟩)), (3, .pointer (some ⟨b3, 0, none⟩)), (9, .int .i64 (i : Int))]) (fun i => [(b3, blk (nums .u64 (prts 51 5 (bv p) i)) 42), (b2, blk [.int .u64 0, .int .u64 0, .int .u64 0, .int .u64 0, .int .u64 0] 42)]) (fun _ => []) (fun i => i ≤ 255) (fun i => 255 - i) 0 (by decide) (kp 0 rfl (kp 2 rfl (kp 3 rfl (kp 9 rfl kn)))) .rfl (fun _ h => h) ?_
    rintro i hi
    refine XC.reg ?_
    refine XL.q (q_bin rfl rfl rfl) rfl ?_
    refine XL.fin (kp 0 rfl (kp 2 rfl (kp 3 rfl (kp 9 rfl (kp 10 rfl kn))))) ?_
    refine XC.seq ?_
    refine XC.cond rfl (fun hc => ?_) (fun hc => ?_)
    ·
      have hlt : i < 255 := by simp at hc; omega
      have hbit := hN i
      rw [← Nat.shiftRight_eq_div_pow] at hbit
      have hb2 : bv p / 2 ^ i % 2 < 2 := Nat.mod_lt _ (by decide)
      have hps := prts_succ (w := 51) (n := 5) (N := bv p) (i := i) (by decide) (by omega)
      have hpg := prts_get (w := 51) (n := 5) (N := bv p) (i := i) (j := i / 51) (by omega)
      have hpl := prt_lt 51 (bv p) i (i / 51)
      have hsm := shl_small (w := 51) hb2 (Nat.mod_lt i (by decide : 0 < 51))
      have hpb : p.getD (i / 8) 0 < 256 := getD_lt hp256 (by decide)
      have hsr := Nat.shiftRight_le (p.getD (i / 8) 0) (i % 8)
      rw [← hpg] at hps hpl
      generalize bv p / 2 ^ i % 2 = bt at *
      have hmo : bt <<< (i % 51) % 2 ^ IntKind.u64.bits = bt <<< (i % 51) := Nat.mod_eq_of_lt (Nat.lt_trans hsm (by decide))
      have hto : IntKind.u64.wrap (bt : Int) = (bt : Int) := by rw [wrap64, Nat.mod_eq_of_lt (by omega)]
      refine XC.skip ?_
      refine nx (kp 0 rfl (kp 2 rfl (kp 3 rfl (kp 9 rfl kn)))) ?_
      refine XC.seq ?_
      refine XC.block ?_
      refine XC.reg ?_
      refine XL.q (q_move rfl) rfl ?_
      refine XL.q (q_assign rfl) rfl ?_
      refine XL.fin (kp 0 rfl (kp 2 rfl (kp 3 rfl (kp 4 rfl (kp 9 rfl kn))))) ?_
      refine XC.drawF1 [0, 1, 2, 3, 4, 5, 6, 7, 8, 9, 10, 11, 12, 13, 14, 15, 16, 17, 18] [(0, 0), (1, 0), (2, 0), (3, 1), (4, 0), (5, 0), (6, 0), (7, 0), (8, 1), (9, 0), (10, 0), (11, 0), (12, 0), (13, 0), (14, 0), (15, 0), (16, 0), (17, 0), (18, 0), (19, 2)] (by kernel_rfl) (by kernel_rfl) fun hs => ?_
      refine XF.q hs rfl (q_move rfl) rfl ?_
      refine XF.q hs rfl (q_quoD 51 rfl rfl rfl (by decide) (wrapI (by omega))) rfl ?_
      refine XF.q hs rfl (q_idxA (e := 40) (n := 5) (sz := 1) (i := i / 51) rfl rfl (by kernel_rfl) (by kernel_rfl) rfl (by omega)) rfl ?_
      refine XF.r hs rfl (q_ldN (i / 51) rfl (by kernel_rfl) At.mem (by omega) (by rw [prts_len]; omega)) rfl ?_
      refine XF.q hs rfl (q_move rfl) rfl ?_
      refine XF.q hs rfl (q_move rfl) rfl ?_
      refine XF.q hs rfl (q_quoD 8 rfl rfl rfl (by decide) (wrapI (by omega))) rfl ?_
      refine XF.q hs rfl (q_atV hp rfl rfl (by kernel_rfl) (i / 8) rfl (by omega)) rfl ?_
      refine XF.r hs rfl (q_ldVN (hp.mono fun _ h => mA h) rfl (by kernel_rfl) (by omega)) rfl ?_
      refine XF.q hs rfl (q_move rfl) rfl ?_
      refine XF.q hs rfl (q_remD 8 rfl rfl rfl (by decide)) rfl ?_
      refine XF.q hs rfl (q_shrN (i % 8) rfl rfl rfl (by show _ ≤ 8; omega)) rfl ?_
      refine XF.q hs rfl (hbit ▸ q_andD 1 2 rfl rfl rfl rfl rfl (by show _ < 256; omega) (by decide)) rfl ?_
      refine XF.q hs rfl (q_convN bt rfl (by kernel_rfl) hto) rfl ?_
      refine XF.q hs rfl (q_move rfl) rfl ?_
      refine XF.q hs rfl (q_remD 51 rfl rfl rfl (by decide)) rfl ?_
      refine XF.q hs rfl (hmo ▸ q_shlN rfl (i % 51) rfl rfl rfl (by show _ ≤ 64; omega)) rfl ?_
      refine XF.q hs rfl (q_or rfl rfl rfl (Nat.lt_trans hpl (by decide)) (Nat.lt_trans hsm (by decide))) rfl ?_
      refine XF.q hs rfl (q_idxA (e := 40) (n := 5) (sz := 1) (i := i / 51) rfl rfl (by kernel_rfl) (by kernel_rfl) rfl (by omega)) rfl ?_
      refine XF.tl rfl rfl rfl (l_stN (i / 51) rfl rfl (by kernel_rfl) (by omega) (by rw [prts_len]; omega) UpC.upd ?_)
      refine XF.nil ?_
      refine nb ?_
      refine nx (kp 0 rfl (kp 2 rfl (kp 3 rfl (kp 9 rfl kn)))) ?_
      refine XC.reg1 ?_
      refine XL.q (q_num ((i + 1 : Nat) : Int) rfl rfl (add64 (by omega) (by omega) (by omega))) rfl ?_
      refine XL.q (q_move rfl) rfl ?_
      refine XL.nil ?_
      exact rn (i + 1) (by omega) (by omega) (kp 0 rfl (kp 2 rfl (kp 3 rfl (kp 9 rfl kn)))) (Fit.eq (by rw [hps])) (fun _ h => h)
    ·
      have hlt : i = 255 := by simp at hc; omega
      subst hlt
      refine XC.exit ?_
      refine te ?_
      refine re ?_
      refine be rfl ?_
      refine nx (kp 2 rfl (kp 3 rfl kn)) ?_
      refine XC.reg ?_
      refine XL.q (q_loadW (n := 5) (cs := nums .u64 (prts 51 5 (bv p) 255)) rfl (by kernel_rfl) At.mem (by rw [nums_len, prts_len])) rfl ?_
      refine XL.lo rfl (l_storeW (vs := nums .u64 (prts 51 5 (bv p) 255)) rfl rfl rfl (by rw [nums_len, prts_len]; kernel_rfl) (by rw [nums_len, prts_len]; rfl) nums_one UpC.upd ?_)
      refine XL.fin (kp 2 rfl kn) ?_
      refine XC.ret ?_
      refine ⟨_, [], [], resC rfl rfl (by kernel_rfl) At.mem (by rw [nums_len, prts_len]), List.nil_sublist _, by simp, rfl, rfl, _, _, _, _, _, rfl, prt52 _ _ _, prt52 _ _ _, prt52 _ _ _, prt52 _ _ _, prt52 _ _ _, ?_⟩
      rw [fv_prts, rdN, if_pos h32]

set_option maxRecDepth 100000 in
theorem fbytes_spec (v : Value) (x : Nat) (hx : Fe v x) (A : Mem) : FnX Tryd.prog 45 [v] [] A fun r M J => J = [] ∧ Sl 1 r 32 (nums .u8 (prts 8 32 x 255)) M := by
  obtain ⟨a, b, c, d, e, rfl, ha, hb, hc, hd, he, rfl⟩ := hx
  refine FnX.enter (N := 80) Tryd.func45 rfl rfl rfl fun w => ?_
  refine XC.keep (kp 0 rfl kn) ?_
  refine XC.reg ?_
  refine XL.lo rfl (l_box rfl (by first | exact Cel.cel | rfl) rfl fun b1 => ?_)
  refine XL.q (q_assign rfl) rfl ?_
  refine XL.fin (kp 1 rfl kn) ?_
  refine XC.reg ?_
  refine XL.q (q_loadW (n := 5) rfl (by kernel_rfl) (by first | exact At.mem | exact mA (by assumption)) (by rfl)) rfl ?_
  refine XL.call (aS rfl a0) (by kernel_rfl) (settle_spec _ _ _ _ _ (by omega) (by omega) (by omega) (by omega) (by omega) _) rfl ?_
  rintro r3 M3 J3 ⟨rfl, rfl, a3, b3, c3, d3, e3, rfl, ha3, hb3, hc3, hd3, hv3, he3⟩
  refine XL.call (aS rfl a0) (by kernel_rfl) (settle_spec _ _ _ _ _ (by omega) (by omega) (by omega) (by omega) (by omega) _) rfl ?_
  rintro r4 M4 J4 ⟨rfl, rfl, a4, b4, c4, d4, e4, rfl, ha4, hb4, hc4, hd4, hv4, he4⟩
  have hz4 := settled_top ha3 hb3 hc3 hd3 he3 ha4 hb4 hc4 hd4 hv4
  refine XL.call (aS rfl a0) (by kernel_rfl) (settle_spec _ _ _ _ _ (by omega) (by omega) (by omega) (by omega) (by omega) _) rfl ?_
  rintro r5 M5 J5 ⟨rfl, rfl, a5, b5, c5, d5, e5, rfl, ha5, hb5, hc5, hd5, hv5, he5⟩
  have hz5 := settled_top ha4 hb4 hc4 hd4 he4 ha5 hb5 hc5 hd5 hv5
  have hx5 : fv a5 b5 c5 d5 e5 % p25 = fv a b c d e % p25 := by rw [mod_of_settle hv5, mod_of_settle hv4, mod_of_settle hv3]
  have hV5 := fv_lt ha5 hb5 hc5 hd5 hz5
  clear hv3 hv4 hv5 he3 he4 he5 hz4 ha3 hb3 hc3 hd3 ha4 hb4 hc4 hd4
  refine XL.lo rfl (l_storeW rfl rfl Cel.cel (by kernel_rfl) (lnS (lnS (lnS (lnS (lnS (ln0)))))) (allS rfl (allS rfl (allS rfl (allS rfl (allS rfl (all0)))))) UpC.upd ?_)
  refine XL.fin (kp 1 rfl kn) ?_
  refine XC.reg ?_
  refine XL.q (q_idxAN 0 (e := 40) (n := 5) (sz := 1) (i := 0) rfl rfl (by kernel_rfl) (by kernel_rfl) rfl (by decide) rfl) rfl ?_
  refine XL.q (q_load rfl (by kernel_rfl) (by first | exact At.mem | exact mA (by assumption)) (by rfl)) rfl ?_
  refine XL.q (q_addM 18446744073709551616 (b := 19) rfl rfl rfl rfl rfl rfl) rfl ?_
  refine XL.q (q_shrD 51 2251799813685248 rfl rfl rfl rfl (by decide)) rfl ?_
  refine XL.q (q_assign rfl) rfl ?_
  refine XL.fin (kp 1 rfl (kp 3 rfl kn)) ?_
  refine XC.seq ?_
  refine XC.reg ?_
  refine XL.q (q_assign rfl) rfl ?_
  refine XL.fin (kp 1 rfl (kp 3 rfl (kp 4 rfl kn))) ?_
  refine XC.block ?_
  refine XC.rounds 5 ?_
  refine XR.step ?_
  refine XC.seq ?_
  refine XC.reg ?_
  refine XL.q (q_move rfl) rfl ?_
  refine XL.q (q_cmp true rfl rfl (ltT (by decide))) rfl ?_
  refine XL.fin (kp 1 rfl (kp 3 rfl (kp 4 rfl (kp 17 rfl kn)))) ?_
  refine XC.condT rfl ?_
  refine XC.skip ?_
  refine nx (kp 1 rfl (kp 3 rfl (kp 4 rfl kn))) ?_
  refine XC.seq ?_
  refine XC.block ?_
  refine XC.reg1 ?_
  refine XL.q (q_move rfl) rfl ?_
  refine XL.q (q_idxAN 1 (e := 40) (n := 5) (sz := 1) (i := 1) rfl rfl (by kernel_rfl) (by kernel_rfl) rfl (by decide) rfl) rfl ?_
  refine XL.q (q_load rfl (by kernel_rfl) (by first | exact At.mem | exact mA (by assumption)) (by rfl)) rfl ?_
  refine XL.q (q_move rfl) rfl ?_
  refine XL.q (q_addM 18446744073709551616 rfl rfl rfl rfl rfl rfl) rfl ?_
  refine XL.q (q_shrD 51 2251799813685248 rfl rfl rfl rfl (by decide)) rfl ?_
  refine XL.q (q_assign rfl) rfl ?_
  refine XL.nil ?_
  refine nb ?_
  refine nx (kp 1 rfl (kp 3 rfl (kp 4 rfl kn))) ?_
  refine XC.reg1 ?_
  refine XL.q (q_move rfl) rfl ?_
  refine XL.q (q_num (2 : Int) rfl rfl (add64 (by decide) (by decide) (by decide))) rfl ?_
  refine XL.q (q_assign rfl) rfl ?_
  refine XL.nil ?_
  refine un (kp 1 rfl (kp 3 rfl (kp 4 rfl kn))) ?_
  refine XR.step ?_
  refine XC.seq ?_
  refine XC.reg ?_
  refine XL.q (q_move rfl) rfl ?_
  refine XL.q (q_cmp true rfl rfl (ltT (by decide))) rfl ?_
  refine XL.fin (kp 1 rfl (kp 3 rfl (kp 4 rfl (kp 17 rfl kn)))) ?_
  refine XC.condT rfl ?_
  refine XC.skip ?_
  refine nx (kp 1 rfl (kp 3 rfl (kp 4 rfl kn))) ?_
  refine XC.seq ?_
  refine XC.block ?_
  refine XC.reg1 ?_
  refine XL.q (q_move rfl) rfl ?_
  refine XL.q (q_idxAN 2 (e := 40) (n := 5) (sz := 1) (i := 2) rfl rfl (by kernel_rfl) (by kernel_rfl) rfl (by decide) rfl) rfl ?_
  refine XL.q (q_load rfl (by kernel_rfl) (by first | exact At.mem | exact mA (by assumption)) (by rfl)) rfl ?_
  refine XL.q (q_move rfl) rfl ?_
  refine XL.q (q_addM 18446744073709551616 rfl rfl rfl rfl rfl rfl) rfl ?_
  refine XL.q (q_shrD 51 2251799813685248 rfl rfl rfl rfl (by decide)) rfl ?_
  refine XL.q (q_assign rfl) rfl ?_
  refine XL.nil ?_
  refine nb ?_
  refine nx (kp 1 rfl (kp 3 rfl (kp 4 rfl kn))) ?_
  refine XC.reg1 ?_
  refine XL.q (q_move rfl) rfl ?_
  refine XL.q (q_num (3 : Int) rfl rfl (add64 (by decide) (by decide) (by decide))) rfl ?_
  refine XL.q (q_assign rfl) rfl ?_
  refine XL.nil ?_
  refine un (kp 1 rfl (kp 3 rfl (kp 4 rfl kn))) ?_
  refine XR.step ?_
  refine XC.seq ?_
  refine XC.reg ?_
  refine XL.q (q_move rfl) rfl ?_
  refine XL.q (q_cmp true rfl rfl (ltT (by decide))) rfl ?_
  refine XL.fin (kp 1 rfl (kp 3 rfl (kp 4 rfl (kp 17 rfl kn)))) ?_
  refine XC.condT rfl ?_
  refine XC.skip ?_
  refine nx (kp 1 rfl (kp 3 rfl (kp 4 rfl kn))) ?_
  refine XC.seq ?_
  refine XC.block ?_
  refine XC.reg1 ?_
  refine XL.q (q_move rfl) rfl ?_
  refine XL.q (q_idxAN 3 (e := 40) (n := 5) (sz := 1) (i := 3) rfl rfl (by kernel_rfl) (by kernel_rfl) rfl (by decide) rfl) rfl ?_
  refine XL.q (q_load rfl (by kernel_rfl) (by first | exact At.mem | exact mA (by assumption)) (by rfl)) rfl ?_
  refine XL.q (q_move rfl) rfl ?_
  refine XL.q (q_addM 18446744073709551616 rfl rfl rfl rfl rfl rfl) rfl ?_
  refine XL.q (q_shrD 51 2251799813685248 rfl rfl rfl rfl (by decide)) rfl ?_
  refine XL.q (q_assign rfl) rfl ?_
  refine XL.nil ?_
  refine nb ?_
  refine nx (kp 1 rfl (kp 3 rfl (kp 4 rfl kn))) ?_
  refine XC.reg1 ?_
  refine XL.q (q_move rfl) rfl ?_
  refine XL.q (q_num (4 : Int) rfl rfl (add64 (by decide) (by decide) (by decide))) rfl ?_
  refine XL.q (q_assign rfl) rfl ?_
  refine XL.nil ?_
  refine un (kp 1 rfl (kp 3 rfl (kp 4 rfl kn))) ?_
  refine XR.step ?_
  refine XC.seq ?_
  refine XC.reg ?_
  refine XL.q (q_move rfl) rfl ?_
  refine XL.q (q_cmp true rfl rfl (ltT (by decide))) rfl ?_
  refine XL.fin (kp 1 rfl (kp 3 rfl (kp 4 rfl (kp 17 rfl kn)))) ?_
  refine XC.condT rfl ?_
  refine XC.skip ?_
  refine nx (kp 1 rfl (kp 3 rfl (kp 4 rfl kn))) ?_
  refine XC.seq ?_
  refine XC.block ?_
  refine XC.reg1 ?_
  refine XL.q (q_move rfl) rfl ?_
  refine XL.q (q_idxAN 4 (e := 40) (n := 5) (sz := 1) (i := 4) rfl rfl (by kernel_rfl) (by kernel_rfl) rfl (by decide) rfl) rfl ?_
  refine XL.q (q_load rfl (by kernel_rfl) (by first | exact At.mem | exact mA (by assumption)) (by rfl)) rfl ?_
  refine XL.q (q_move rfl) rfl ?_
  refine XL.q (q_addM 18446744073709551616 rfl rfl rfl rfl rfl rfl) rfl ?_
  refine XL.q (q_shrD 51 2251799813685248 rfl rfl rfl rfl (by decide)) rfl ?_
  refine XL.q (q_assign rfl) rfl ?_
  refine XL.nil ?_
  refine nb ?_
  refine nx (kp 1 rfl (kp 3 rfl (kp 4 rfl kn))) ?_
  refine XC.reg1 ?_
  refine XL.q (q_move rfl) rfl ?_
  refine XL.q (q_num (5 : Int) rfl rfl (add64 (by decide) (by decide) (by decide))) rfl ?_
  refine XL.q (q_assign rfl) rfl ?_
  refine XL.nil ?_
  refine un (kp 1 rfl (kp 3 rfl (kp 4 rfl kn))) ?_
  refine XR.step ?_
  refine XC.seq ?_
  refine XC.reg ?_
  refine XL.q (q_move rfl) rfl ?_
  refine XL.q (q_cmp false rfl rfl (ltF (by decide))) rfl ?_
  refine XL.fin (kp 1 rfl (kp 3 rfl (kp 4 rfl (kp 17 rfl kn)))) ?_
  refine XC.condF rfl ?_
  refine XC.exit ?_
  refine te ?_
  refine ue ?_
  refine be rfl ?_
  refine nx (kp 1 rfl (kp 3 rfl kn)) ?_
  obtain ⟨q, hqe, hq⟩ := carry_q ha5 hb5 hc5 hd5 hz5
  rw [← hqe]
  clear hqe
  refine XC.reg ?_
  refine XL.q (q_idxAN 0 (e := 40) (n := 5) (sz := 1) (i := 0) rfl rfl (by kernel_rfl) (by kernel_rfl) rfl (by decide) rfl) rfl ?_
  refine XL.q (q_load rfl (by kernel_rfl) (by first | exact At.mem | exact mA (by assumption)) (by rfl)) rfl ?_
  refine XL.q (q_move rfl) rfl ?_
  refine XL.q (q_mulM 18446744073709551616 (a := 19) rfl rfl rfl rfl rfl rfl) rfl ?_
  refine XL.q (q_addM 18446744073709551616 rfl rfl rfl rfl rfl rfl) rfl ?_
  refine XL.q (q_idxAN 0 (e := 40) (n := 5) (sz := 1) (i := 0) rfl rfl (by kernel_rfl) (by kernel_rfl) rfl (by decide) rfl) rfl ?_
  refine XL.lo rfl (l_store rfl rfl rfl (by kernel_rfl) SetC.set UpC.upd ?_)
  refine XL.fin (kp 1 rfl kn) ?_
  refine XC.seq ?_
  refine XC.reg ?_
  refine XL.q (q_move rfl) rfl ?_
  refine XL.fin (kp 1 rfl (kp 32 rfl kn)) ?_
  refine XC.block ?_
  refine XC.rounds 5 ?_
  refine XR.step ?_
  refine XC.reg ?_
  refine XL.q (q_cmp true rfl rfl (ltT (by decide))) rfl ?_
  refine XL.fin (kp 1 rfl (kp 32 rfl (kp 33 rfl kn))) ?_
  refine XC.seq ?_
  refine XC.condT rfl ?_
  refine XC.skip ?_
  refine nx (kp 1 rfl (kp 32 rfl kn)) ?_
  refine XC.seq ?_
  refine XC.block ?_
  refine XC.reg ?_
  refine XL.q (q_move rfl) rfl ?_
  refine XL.q (q_assign rfl) rfl ?_
  refine XL.fin (kp 1 rfl (kp 5 rfl (kp 32 rfl kn))) ?_
  refine XC.drawF [0, 1, 2, 3, 4, 5, 6, 7, 8, 9] [(0, 0), (1, 0), (2, 0), (3, 1), (4, 0), (5, 0), (6, 1), (7, 0), (8, 0), (9, 0), (10, 2)] (by kernel_rfl) (by kernel_rfl) fun hs => ?_
  refine XF.q hs rfl (q_move rfl) rfl ?_
  refine XF.q hs rfl (q_num (1 : Int) rfl rfl (add64 (by decide) (by decide) (by decide))) rfl ?_
  refine XF.q hs rfl (q_idxAN 1 (e := 40) (n := 5) (sz := 1) (i := 1) rfl rfl (by kernel_rfl) (by kernel_rfl) rfl (by decide) rfl) rfl ?_
  refine XF.r hs rfl (q_load rfl (by kernel_rfl) (by first | exact At.mem | exact mA (by assumption)) (by rfl)) rfl ?_
  refine XF.q hs rfl (q_move rfl) rfl ?_
  refine XF.q hs rfl (q_idxAN 0 (e := 40) (n := 5) (sz := 1) (i := 0) rfl rfl (by kernel_rfl) (by kernel_rfl) rfl (by decide) rfl) rfl ?_
  refine XF.r hs rfl (q_load rfl (by kernel_rfl) (by first | exact At.mem | exact mA (by assumption)) (by rfl)) rfl ?_
  refine XF.q hs rfl (q_shrD 51 2251799813685248 rfl rfl rfl rfl (by decide)) rfl ?_
  refine XF.q hs rfl (q_addM 18446744073709551616 rfl rfl rfl rfl rfl rfl) rfl ?_
  refine XF.q hs rfl (q_idxAN 1 (e := 40) (n := 5) (sz := 1) (i := 1) rfl rfl (by kernel_rfl) (by kernel_rfl) rfl (by decide) rfl) rfl ?_
  refine XF.tl rfl rfl rfl (l_store rfl rfl rfl (by kernel_rfl) SetC.set UpC.upd ?_)
  refine XF.fin (kp 1 rfl (kp 5 rfl (kp 32 rfl kn))) ?_
  refine XC.reg1 ?_
  refine XL.q (q_move rfl) rfl ?_
  refine XL.q (q_idxAN 0 (e := 40) (n := 5) (sz := 1) (i := 0) rfl rfl (by kernel_rfl) (by kernel_rfl) rfl (by decide) rfl) rfl ?_
  refine XL.q (q_load rfl (by kernel_rfl) (by first | exact At.mem | exact mA (by assumption)) (by rfl)) rfl ?_
  refine XL.q (q_andD 51 2251799813685248 rfl rfl rfl rfl rfl (by show _ < 18446744073709551616; first | assumption | exact Nat.mod_lt _ (by decide) | omega) (by decide)) rfl ?_
  refine XL.q (q_idxAN 0 (e := 40) (n := 5) (sz := 1) (i := 0) rfl rfl (by kernel_rfl) (by kernel_rfl) rfl (by decide) rfl) rfl ?_
  refine XL.lo rfl (l_store rfl rfl rfl (by kernel_rfl) SetC.set UpC.upd ?_)
  refine XL.nil ?_
  refine nb ?_
  refine nx (kp 1 rfl (kp 32 rfl kn)) ?_
  refine XC.reg1 ?_
  refine XL.q (q_num (1 : Int) rfl rfl (add64 (by decide) (by decide) (by decide))) rfl ?_
  refine XL.q (q_move rfl) rfl ?_
  refine XL.nil ?_
  refine un (kp 1 rfl (kp 32 rfl kn)) ?_
  refine XR.step ?_
  refine XC.reg ?_
  refine XL.q (q_cmp true rfl rfl (ltT (by decide))) rfl ?_
  refine XL.fin (kp 1 rfl (kp 32 rfl (kp 33 rfl kn))) ?_
  refine XC.seq ?_
  refine XC.condT rfl ?_
  refine XC.skip ?_
  refine nx (kp 1 rfl (kp 32 rfl kn)) ?_
  refine XC.seq ?_
  refine XC.block ?_
  refine XC.reg ?_
  refine XL.q (q_move rfl) rfl ?_
  refine XL.q (q_assign rfl) rfl ?_
  refine XL.fin (kp 1 rfl (kp 5 rfl (kp 32 rfl kn))) ?_
  refine XC.drawF [0, 1, 2, 3, 4, 5, 6, 7, 8, 9] [(0, 0), (1, 0), (2, 0), (3, 1), (4, 0), (5, 0), (6, 1), (7, 0), (8, 0), (9, 0), (10, 2)] (by kernel_rfl) (by kernel_rfl) fun hs => ?_
  refine XF.q hs rfl (q_move rfl) rfl ?_
  refine XF.q hs rfl (q_num (2 : Int) rfl rfl (add64 (by decide) (by decide) (by decide))) rfl ?_
  refine XF.q hs rfl (q_idxAN 2 (e := 40) (n := 5) (sz := 1) (i := 2) rfl rfl (by kernel_rfl) (by kernel_rfl) rfl (by decide) rfl) rfl ?_
  refine XF.r hs rfl (q_load rfl (by kernel_rfl) (by first | exact At.mem | exact mA (by assumption)) (by rfl)) rfl ?_
  refine XF.q hs rfl (q_move rfl) rfl ?_
  refine XF.q hs rfl (q_idxAN 1 (e := 40) (n := 5) (sz := 1) (i := 1) rfl rfl (by kernel_rfl) (by kernel_rfl) rfl (by decide) rfl) rfl ?_
  refine XF.r hs rfl (q_load rfl (by kernel_rfl) (by first | exact At.mem | exact mA (by assumption)) (by rfl)) rfl ?_
  refine XF.q hs rfl (q_shrD 51 2251799813685248 rfl rfl rfl rfl (by decide)) rfl ?_
  refine XF.q hs rfl (q_addM 18446744073709551616 rfl rfl rfl rfl rfl rfl) rfl ?_
  refine XF.q hs rfl (q_idxAN 2 (e := 40) (n := 5) (sz := 1) (i := 2) rfl rfl (by kernel_rfl) (by kernel_rfl) rfl (by decide) rfl) rfl ?_
  refine XF.tl rfl rfl rfl (l_store rfl rfl rfl (by kernel_rfl) SetC.set UpC.upd ?_)
  refine XF.fin (kp 1 rfl (kp 5 rfl (kp 32 rfl kn))) ?_
  refine XC.reg1 ?_
  refine XL.q (q_move rfl) rfl ?_
  refine XL.q (q_idxAN 1 (e := 40) (n := 5) (sz := 1) (i := 1) rfl rfl (by kernel_rfl) (by kernel_rfl) rfl (by decide) rfl) rfl ?_
  refine XL.q (q_load rfl (by kernel_rfl) (by first | exact At.mem | exact mA (by assumption)) (by rfl)) rfl ?_
  refine XL.q (q_andD 51 2251799813685248 rfl rfl rfl rfl rfl (by show _ < 18446744073709551616; first | assumption | exact Nat.mod_lt _ (by decide) | omega) (by decide)) rfl ?_
  refine XL.q (q_idxAN 1 (e := 40) (n := 5) (sz := 1) (i := 1) rfl rfl (by kernel_rfl) (by kernel_rfl) rfl (by decide) rfl) rfl ?_
  refine XL.lo rfl (l_store rfl rfl rfl (by kernel_rfl) SetC.set UpC.upd ?_)
  refine XL.nil ?_
  refine nb ?_
  refine nx (kp 1 rfl (kp 32 rfl kn)) ?_
  refine XC.reg1 ?_
  refine XL.q (q_num (2 : Int) rfl rfl (add64 (by decide) (by decide) (by decide))) rfl ?_
  refine XL.q (q_move rfl) rfl ?_
  refine XL.nil ?_
  refine un (kp 1 rfl (kp 32 rfl kn)) ?_
  refine XR.step ?_
  refine XC.reg ?_
  refine XL.q (q_cmp true rfl rfl (ltT (by decide))) rfl ?_
  refine XL.fin (kp 1 rfl (kp 32 rfl (kp 33 rfl kn))) ?_
  refine XC.seq ?_
  refine XC.condT rfl ?_
  refine XC.skip ?_
  refine nx (kp 1 rfl (kp 32 rfl kn)) ?_
  refine XC.seq ?_
  refine XC.block ?_
  refine XC.reg ?_
  refine XL.q (q_move rfl) rfl ?_
  refine XL.q (q_assign rfl) rfl ?_
  refine XL.fin (kp 1 rfl (kp 5 rfl (kp 32 rfl kn))) ?_
  refine XC.drawF [0, 1, 2, 3, 4, 5, 6, 7, 8, 9] [(0, 0), (1, 0), (2, 0), (3, 1), (4, 0), (5, 0), (6, 1), (7, 0), (8, 0), (9, 0), (10, 2)] (by kernel_rfl) (by kernel_rfl) fun hs => ?_
  refine XF.q hs rfl (q_move rfl) rfl ?_
  refine XF.q hs rfl (q_num (3 : Int) rfl rfl (add64 (by decide) (by decide) (by decide))) rfl ?_
  refine XF.q hs rfl (q_idxAN 3 (e := 40) (n := 5) (sz := 1) (i := 3) rfl rfl (by kernel_rfl) (by kernel_rfl) rfl (by decide) rfl) rfl ?_
  refine XF.r hs rfl (q_load rfl (by kernel_rfl) (by first | exact At.mem | exact mA (by assumption)) (by rfl)) rfl ?_
  refine XF.q hs rfl (q_move rfl) rfl ?_
  refine XF.q hs rfl (q_idxAN 2 (e := 40) (n := 5) (sz := 1) (i := 2) rfl rfl (by kernel_rfl) (by kernel_rfl) rfl (by decide) rfl) rfl ?_
  refine XF.r hs rfl (q_load rfl (by kernel_rfl) (by first | exact At.mem | exact mA (by assumption)) (by rfl)) rfl ?_
  refine XF.q hs rfl (q_shrD 51 2251799813685248 rfl rfl rfl rfl (by decide)) rfl ?_
  refine XF.q hs rfl (q_addM 18446744073709551616 rfl rfl rfl rfl rfl rfl) rfl ?_
  refine XF.q hs rfl (q_idxAN 3 (e := 40) (n := 5) (sz := 1) (i := 3) rfl rfl (by kernel_rfl) (by kernel_rfl) rfl (by decide) rfl) rfl ?_
  refine XF.tl rfl rfl rfl (l_store rfl rfl rfl (by kernel_rfl) SetC.set UpC.upd ?_)
  refine XF.fin (kp 1 rfl (kp 5 rfl (kp 32 rfl kn))) ?_
  refine XC.reg1 ?_
  refine XL.q (q_move rfl) rfl ?_
  refine XL.q (q_idxAN 2 (e := 40) (n := 5) (sz := 1) (i := 2) rfl rfl (by kernel_rfl) (by kernel_rfl) rfl (by decide) rfl) rfl ?_
  refine XL.q (q_load rfl (by kernel_rfl) (by first | exact At.mem | exact mA (by assumption)) (by rfl)) rfl ?_
  refine XL.q (q_andD 51 2251799813685248 rfl rfl rfl rfl rfl (by show _ < 18446744073709551616; first | assumption | exact Nat.mod_lt _ (by decide) | omega) (by decide)) rfl ?_
  refine XL.q (q_idxAN 2 (e := 40) (n := 5) (sz := 1) (i := 2) rfl rfl (by kernel_rfl) (by kernel_rfl) rfl (by decide) rfl) rfl ?_
  refine XL.lo rfl (l_store rfl rfl rfl (by kernel_rfl) SetC.set UpC.upd ?_)
  refine XL.nil ?_
  refine nb ?_
  refine nx (kp 1 rfl (kp 32 rfl kn)) ?_
  refine XC.reg1 ?_
  refine XL.q (q_num (3 : Int) rfl rfl (add64 (by decide) (by decide) (by decide))) rfl ?_
  refine XL.q (q_move rfl) rfl ?_
  refine XL.nil ?_
  refine un (kp 1 rfl (kp 32 rfl kn)) ?_
  refine XR.step ?_
  refine XC.reg ?_
  refine XL.q (q_cmp true rfl rfl (ltT (by decide))) rfl ?_
  refine XL.fin (kp 1 rfl (kp 32 rfl (kp 33 rfl kn))) ?_
  refine XC.seq ?_
  refine XC.condT rfl ?_
  refine XC.skip ?_
  refine nx (kp 1 rfl (kp 32 rfl kn)) ?_
  refine XC.seq ?_
  refine XC.block ?_
  refine XC.reg ?_
  refine XL.q (q_move rfl) rfl ?_
  refine XL.q (q_assign rfl) rfl ?_
  refine XL.fin (kp 1 rfl (kp 5 rfl (kp 32 rfl kn))) ?_
  refine XC.drawF [0, 1, 2, 3, 4, 5, 6, 7, 8, 9] [(0, 0), (1, 0), (2, 0), (3, 1), (4, 0), (5, 0), (6, 1), (7, 0), (8, 0), (9, 0), (10, 2)] (by kernel_rfl) (by kernel_rfl) fun hs => ?_
  refine XF.q hs rfl (q_move rfl) rfl ?_
  refine XF.q hs rfl (q_num (4 : Int) rfl rfl (add64 (by decide) (by decide) (by decide))) rfl ?_
  refine XF.q hs rfl (q_idxAN 4 (e := 40) (n := 5) (sz := 1) (i := 4) rfl rfl (by kernel_rfl) (by kernel_rfl) rfl (by decide) rfl) rfl ?_
  refine XF.r hs rfl (q_load rfl (by kernel_rfl) (by first | exact At.mem | exact mA (by assumption)) (by rfl)) rfl ?_
  refine XF.q hs rfl (q_move rfl) rfl ?_
  refine XF.q hs rfl (q_idxAN 3 (e := 40) (n := 5) (sz := 1) (i := 3) rfl rfl (by kernel_rfl) (by kernel_rfl) rfl (by decide) rfl) rfl ?_
  refine XF.r hs rfl (q_load rfl (by kernel_rfl) (by first | exact At.mem | exact mA (by assumption)) (by rfl)) rfl ?_
  refine XF.q hs rfl (q_shrD 51 2251799813685248 rfl rfl rfl rfl (by decide)) rfl ?_
  refine XF.q hs rfl (q_addM 18446744073709551616 rfl rfl rfl rfl rfl rfl) rfl ?_
  refine XF.q hs rfl (q_idxAN 4 (e := 40) (n := 5) (sz := 1) (i := 4) rfl rfl (by kernel_rfl) (by kernel_rfl) rfl (by decide) rfl) rfl ?_
  refine XF.tl rfl rfl rfl (l_store rfl rfl rfl (by kernel_rfl) SetC.set UpC.upd ?_)
  refine XF.fin (kp 1 rfl (kp 5 rfl (kp 32 rfl kn))) ?_
  refine XC.reg1 ?_
  refine XL.q (q_move rfl) rfl ?_
  refine XL.q (q_idxAN 3 (e := 40) (n := 5) (sz := 1) (i := 3) rfl rfl (by kernel_rfl) (by kernel_rfl) rfl (by decide) rfl) rfl ?_
  refine XL.q (q_load rfl (by kernel_rfl) (by first | exact At.mem | exact mA (by assumption)) (by rfl)) rfl ?_
  refine XL.q (q_andD 51 2251799813685248 rfl rfl rfl rfl rfl (by show _ < 18446744073709551616; first | assumption | exact Nat.mod_lt _ (by decide) | omega) (by decide)) rfl ?_
  refine XL.q (q_idxAN 3 (e := 40) (n := 5) (sz := 1) (i := 3) rfl rfl (by kernel_rfl) (by kernel_rfl) rfl (by decide) rfl) rfl ?_
  refine XL.lo rfl (l_store rfl rfl rfl (by kernel_rfl) SetC.set UpC.upd ?_)
  refine XL.nil ?_
  refine nb ?_
  refine nx (kp 1 rfl (kp 32 rfl kn)) ?_
  refine XC.reg1 ?_
  refine XL.q (q_num (4 : Int) rfl rfl (add64 (by decide) (by decide) (by decide))) rfl ?_
  refine XL.q (q_move rfl) rfl ?_
  refine XL.nil ?_
  refine un (kp 1 rfl (kp 32 rfl kn)) ?_
  refine XR.step ?_
  refine XC.reg ?_
  refine XL.q (q_cmp false rfl rfl (ltF (by decide))) rfl ?_
  refine XL.fin (kp 1 rfl (kp 32 rfl (kp 33 rfl kn))) ?_
  refine XC.seq ?_
  refine XC.condF rfl ?_
  refine XC.exit ?_
  refine te ?_
  refine ue ?_
  refine be rfl ?_
  refine nx (kp 1 rfl kn) ?_
  refine XC.reg ?_
  refine XL.q (q_idxAN 4 (e := 40) (n := 5) (sz := 1) (i := 4) rfl rfl (by kernel_rfl) (by kernel_rfl) rfl (by decide) rfl) rfl ?_
  refine XL.q (q_load rfl (by kernel_rfl) (by first | exact At.mem | exact mA (by assumption)) (by rfl)) rfl ?_
  refine XL.q (q_andD 51 2251799813685248 rfl rfl rfl rfl rfl (by show _ < 18446744073709551616; first | assumption | exact Nat.mod_lt _ (by decide) | omega) (by decide)) rfl ?_
  refine XL.q (q_idxAN 4 (e := 40) (n := 5) (sz := 1) (i := 4) rfl rfl (by kernel_rfl) (by kernel_rfl) rfl (by decide) rfl) rfl ?_
  refine XL.lo rfl (l_store rfl rfl rfl (by kernel_rfl) SetC.set UpC.upd ?_)
  refine XL.fin (kp 1 rfl kn) ?_
  refine XC.reg ?_
  refine XL.lo rfl (l_makeN (e := 5) (k := .u8) (by_ := 1) 32 rfl rfl (by kernel_rfl) rfl rfl (by decide) (by decide) rfl fun b55 => ?_)
  obtain ⟨f0, f1, f2, f3, f4, g0, g1, g2, g3, g4, k0, k1, k2, k3, k4, hF⟩ := bytes_all ha5 hb5 hc5 hd5 hz5 hq
  rw [← g0, ← g1, ← g2, ← g3, ← g4]
  clear g0 g1 g2 g3 g4
  rw [hx5] at hF
  refine XL.q (q_assign rfl) rfl ?_
  refine XL.fin (kp 1 rfl (kp 6 rfl kn)) ?_
  refine XC.seq ?_
  refine XC.reg ?_
  refine XL.q (q_move rfl) rfl ?_
  refine XL.fin (kp 1 rfl (kp 6 rfl (kp 56 rfl kn))) ?_
  refine XC.block ?_
  refine XC.fit (M' := [(b55, blk (nums .u8 (prts 8 32 (fv f0 f1 f2 f3 f4) 0)) 5), (b1, blk (nums .u64 [f0, f1, f2, f3, f4]) 42)]) (Fit.eq (by rw [prts_zero]; rfl)) (fun _ h => h) ?_
  have hN := fv_bit k0 k1 k2 k3 k4
  have hfl : [f0, f1, f2, f3, f4].length = 5 := rfl
  have hfb : ∀ x ∈ [f0, f1, f2, f3, f4], x < 2251799813685248 := by intro x hx; simp only [List.mem_cons, List.not_mem_nil, or_false] at hx; rcases hx with rfl | rfl | rfl | rfl | rfl <;> assumption
  generalize [f0, f1, f2, f3, f4] = fs at *
  rw [← hF]
  generalize fv f0 f1 f2 f3 f4 = X at *
  refine XC.loop (α := Nat) (fun i => [(1, .pointer (some ⟨b1, 0, none⟩)), (6, .slice (some ⟨b55, 0, none⟩) 32 32), (56, .int .i64 (i : Int))]) (fun i => [(b55, blk (nums .u8 (prts 8 32 X i)) 5), (b1, blk (nums .u64 fs) 42)]) (fun _ => []) (fun i => i ≤ 255) (fun i => 255 - i) 0 (by decide) (kp 1 rfl (kp 6 rfl (kp 56 rfl kn))) .rfl (fun _ h => h) ?_
  rintro i hi
  refine XC.reg ?_
  refine XL.q (q_bin rfl rfl rfl) rfl ?_
  refine XL.fin (kp 1 rfl (kp 6 rfl (kp 56 rfl (kp 57 rfl kn)))) ?_
  refine XC.seq ?_
  refine XC.cond rfl (fun hc => ?_) (fun hc => ?_)
  ·
    have hlt : i < 255 := by simp at hc; omega
    have hbit := hN i hlt
    rw [← Nat.shiftRight_eq_div_pow] at hbit
    have hb2 : X / 2 ^ i % 2 < 2 := Nat.mod_lt _ (by decide)
    have hps := prts_succ (w := 8) (n := 32) (N := X) (i := i) (by decide) (by omega)
    have hpg := prts_get (w := 8) (n := 32) (N := X) (i := i) (j := i / 8) (by omega)
    have hpl := prt_lt 8 X i (i / 8)
    have hsm := shl_small (w := 8) hb2 (Nat.mod_lt i (by decide : 0 < 8))
    have hpb : fs.getD (i / 51) 0 < 2251799813685248 := getD_lt hfb (by decide)
    have hsr := Nat.shiftRight_le (fs.getD (i / 51) 0) (i % 51)
    rw [← hpg] at hps hpl
    generalize X / 2 ^ i % 2 = bt at *
    have hmo : bt <<< (i % 8) % 2 ^ IntKind.u8.bits = bt <<< (i % 8) := Nat.mod_eq_of_lt hsm
    have hto : IntKind.u8.wrap (bt : Int) = (bt : Int) := by rw [wrap8, Nat.mod_eq_of_lt (by omega)]
    refine XC.skip ?_
    refine nx (kp 1 rfl (kp 6 rfl (kp 56 rfl kn))) ?_
    refine XC.seq ?_
    refine XC.block ?_
    refine XC.reg ?_
    refine XL.q (q_move rfl) rfl ?_
    refine XL.q (q_assign rfl) rfl ?_
    refine XL.fin (kp 1 rfl (kp 6 rfl (kp 7 rfl (kp 56 rfl kn)))) ?_
    refine XC.drawF1 [0, 1, 2, 3, 4, 5, 6, 7, 8, 9, 10, 11, 12, 13, 14, 15, 16, 17, 18] [(0, 0), (1, 0), (2, 0), (3, 0), (4, 1), (5, 0), (6, 0), (7, 0), (8, 1), (9, 0), (10, 0), (11, 0), (12, 0), (13, 0), (14, 0), (15, 0), (16, 0), (17, 0), (18, 0), (19, 2)] (by kernel_rfl) (by kernel_rfl) fun hs => ?_
    refine XF.q hs rfl (q_move rfl) rfl ?_
    refine XF.q hs rfl (q_move rfl) rfl ?_
    refine XF.q hs rfl (q_quoD 8 rfl rfl rfl (by decide) (wrapI (by omega))) rfl ?_
    refine XF.q hs rfl (q_idxS (e := 5) (sz := 1) (i := i / 8) rfl rfl (by kernel_rfl) (by kernel_rfl) rfl (by omega)) rfl ?_
    refine XF.r hs rfl (q_ldN (i / 8) rfl (by kernel_rfl) At.mem (by omega) (by rw [prts_len]; omega)) rfl ?_
    refine XF.q hs rfl (q_move rfl) rfl ?_
    refine XF.q hs rfl (q_quoD 51 rfl rfl rfl (by decide) (wrapI (by omega))) rfl ?_
    refine XF.q hs rfl (q_idxA (e := 40) (n := 5) (sz := 1) (i := i / 51) rfl rfl (by kernel_rfl) (by kernel_rfl) rfl (by omega)) rfl ?_
    refine XF.r hs rfl (q_ldN (i / 51) rfl (by kernel_rfl) At.mem (by omega) (by omega)) rfl ?_
    refine XF.q hs rfl (q_move rfl) rfl ?_
    refine XF.q hs rfl (q_remD 51 rfl rfl rfl (by decide)) rfl ?_
    refine XF.q hs rfl (q_shrN (i % 51) rfl rfl rfl (by show _ ≤ 64; omega)) rfl ?_
    refine XF.q hs rfl (hbit ▸ q_andD 1 2 rfl rfl rfl rfl rfl (by show _ < 18446744073709551616; omega) (by decide)) rfl ?_
    refine XF.q hs rfl (q_convN bt rfl (by kernel_rfl) hto) rfl ?_
    refine XF.q hs rfl (q_move rfl) rfl ?_
    refine XF.q hs rfl (q_remD 8 rfl rfl rfl (by decide)) rfl ?_
    refine XF.q hs rfl (hmo ▸ q_shlN rfl (i % 8) rfl rfl rfl (by show _ ≤ 8; omega)) rfl ?_
    refine XF.q hs rfl (q_or rfl rfl rfl hpl hsm) rfl ?_
    refine XF.q hs rfl (q_idxS (e := 5) (sz := 1) (i := i / 8) rfl rfl (by kernel_rfl) (by kernel_rfl) rfl (by omega)) rfl ?_
    refine XF.tl rfl rfl rfl (l_stN (i / 8) rfl rfl (by kernel_rfl) (by omega) (by rw [prts_len]; omega) UpC.upd ?_)
    refine XF.nil ?_
    refine nb ?_
    refine nx (kp 1 rfl (kp 6 rfl (kp 56 rfl kn))) ?_
    refine XC.reg1 ?_
    refine XL.q (q_num ((i + 1 : Nat) : Int) rfl rfl (add64 (by omega) (by omega) (by omega))) rfl ?_
    refine XL.q (q_move rfl) rfl ?_
    refine XL.nil ?_
    exact rn (i + 1) (by omega) (by omega) (kp 1 rfl (kp 6 rfl (kp 56 rfl kn))) (Fit.eq (by rw [hps])) (fun _ h => h)
  ·
    have hlt : i = 255 := by simp at hc; omega
    subst hlt
    refine XC.exit ?_
    refine te ?_
    refine re ?_
    refine be rfl ?_
    refine nx (kp 6 rfl kn) ?_
    refine XC.reg ?_
    refine XL.q (q_move rfl) rfl ?_
    refine XL.q (q_assign rfl) rfl ?_
    refine XL.fin (kp 2 rfl kn) ?_
    refine XC.ret ?_
    exact ⟨_, [_], [], res1 rfl rfl, List.Sublist.cons_cons _ (List.nil_sublist _), by simp, rfl, Sl.fresh (by rw [nums_len, prts_len]) (by decide)⟩

end Go.Proofs.YtcfdeohjhhpmcaaDoor
/- The walks of package field: Same, Zero, Odd. -/
set_option linter.unusedVariables false
set_option linter.unusedSimpArgs false
namespace Go.Proofs.YtcfdeohjhhpmcaaDoor
open Go.Px
theorem txt_prts {x y : Nat} (hx : x < p25) (hy : y < p25) : ((txt (prts 8 32 x 255)).toList == (txt (prts 8 32 y 255)).toList) = decide (x = y) := by
  by_cases h : x = y
  · subst h; simp
  · have : (txt (prts 8 32 x 255)).toList ≠ (txt (prts 8 32 y 255)).toList := by
      rw [ByteArray.toList_eq, ByteArray.toList_eq]
      intro e
      refine h (prts_inj hx hy (txt_inj (prts_lt x 255) (prts_lt y 255) ?_))
      have := congrArg List.toArray e
      simp only [Array.toArray_toList] at this
      unfold txt at this ⊢
      exact congrArg ByteArray.mk this
    rw [beq_false_of_ne this]; simp [h]

set_option maxRecDepth 100000 in
theorem fsame_spec (v u : Value) (x y : Nat) (hx : Fe v x) (hy : Fe u y) (A : Mem) : FnV Tryd.prog 57 [v, u] A (.bool (decide (x = y))) := by
  have hx0 := hx
  have hxl := hx.lt
  obtain ⟨a, b, c, d, e, rfl, -⟩ := hx
  have hy0 := hy
  have hyl := hy.lt
  obtain ⟨a2, b2, c2, d2, e2, rfl, -⟩ := hy
  refine FnX.enter (N := 12) Tryd.func57 rfl rfl rfl fun w => ?_
  refine XC.keep (kp 0 rfl (kp 1 rfl kn)) ?_
  refine XC.reg ?_
  refine XL.lo rfl (l_box rfl (by first | exact Cel.cel | rfl) rfl fun b2 => ?_)
  refine XL.lo rfl (l_box rfl (by first | exact Cel.cel | rfl) rfl fun b3 => ?_)
  refine XL.q (q_assign rfl) rfl ?_
  refine XL.fin (kp 2 rfl (kp 3 rfl kn)) ?_
  refine XC.drawF [0, 1, 2, 3, 4, 5, 6, 7] [(0, 1), (3, 1), (1, 2), (2, 1), (4, 2), (5, 1), (6, 0), (7, 0)] (by kernel_rfl) (by kernel_rfl) fun hs => ?_
  refine XF.r hs rfl (q_loadW (n := 5) rfl (by kernel_rfl) (by first | exact At.mem | exact mA (by assumption)) (by rfl)) rfl ?_
  refine XF.r hs rfl (q_loadW (n := 5) rfl (by kernel_rfl) (by first | exact At.mem | exact mA (by assumption)) (by rfl)) rfl ?_
  refine XF.call rfl (aS rfl a0) (by kernel_rfl) (fbytes_spec _ _ hx0 _) rfl ?_
  rintro r1 M1 J1 ⟨rfl, h1⟩
  refine XF.r hs rfl (q_toStr (h1.rd fun _ h => by simp [h]) rfl (by kernel_rfl)) rfl ?_
  refine XF.call rfl (aS rfl a0) (by kernel_rfl) (fbytes_spec _ _ hy0 _) rfl ?_
  rintro r2 M2 J2 ⟨rfl, h2⟩
  refine XF.r hs rfl (q_toStr (h2.rd fun _ h => by simp [h]) rfl (by kernel_rfl)) rfl ?_
  refine XF.q hs rfl (q_strEq rfl rfl) rfl ?_
  refine XF.q hs rfl (q_assign rfl) rfl ?_
  refine XF.fin (kp 4 rfl kn) ?_
  refine XC.ret ?_
  refine ⟨_, [], [], res1 rfl rfl, List.nil_sublist _, by simp, by rw [txt_prts hxl hyl], rfl, rfl⟩

set_option maxRecDepth 100000 in
theorem fzero_spec (v : Value) (x : Nat) (hx : Fe v x) (A : Mem) : FnV Tryd.prog 80 [v] A (.bool (decide (x = 0))) := by
  have hx0 := hx
  have hxl := hx.lt
  obtain ⟨a, b, c, d, e, rfl, -⟩ := hx
  refine FnX.enter (N := 6) Tryd.func80 rfl rfl rfl fun w => ?_
  refine XC.keep (kp 0 rfl kn) ?_
  refine XC.reg ?_
  refine XL.lo rfl (l_box rfl (by first | exact Cel.cel | rfl) rfl fun b1 => ?_)
  refine XL.q (q_assign rfl) rfl ?_
  refine XL.fin (kp 1 rfl kn) ?_
  refine XC.reg ?_
  refine XL.q (q_loadW (n := 5) rfl (by kernel_rfl) (by first | exact At.mem | exact mA (by assumption)) (by rfl)) rfl ?_
  refine XL.q (q_build (place := fun i => some (i * 1, 1)) (z := [.int .u64 0, .int .u64 0, .int .u64 0, .int .u64 0, .int .u64 0]) (fun _ => by kernel_rfl) e0 bd0) rfl ?_
  refine XL.callV (aS rfl (aS rfl a0)) (by kernel_rfl) (fsame_spec _ _ _ _ hx0 fe_zero _) rfl ?_
  refine XL.q (q_assign rfl) rfl ?_
  refine XL.fin (kp 2 rfl kn) ?_
  refine XC.ret ?_
  refine ⟨_, [], [], res1 rfl rfl, List.nil_sublist _, by simp, rfl, rfl, rfl⟩

set_option maxRecDepth 100000 in
theorem fodd_spec (v : Value) (x : Nat) (hx : Fe v x) (A : Mem) : FnV Tryd.prog 47 [v] A (.bool (decide (x % 2 = 1))) := by
  have hx0 := hx
  have hxl := hx.lt
  obtain ⟨a, b, c, d, e, rfl, -⟩ := hx
  refine FnX.enter (N := 9) Tryd.func47 rfl rfl rfl fun w => ?_
  refine XC.keep (kp 0 rfl kn) ?_
  refine XC.reg ?_
  refine XL.lo rfl (l_box rfl (by first | exact Cel.cel | rfl) rfl fun b1 => ?_)
  refine XL.q (q_assign rfl) rfl ?_
  refine XL.fin (kp 1 rfl kn) ?_
  refine XC.reg ?_
  refine XL.q (q_loadW (n := 5) rfl (by kernel_rfl) (by first | exact At.mem | exact mA (by assumption)) (by rfl)) rfl ?_
  refine XL.call (aS rfl a0) (by kernel_rfl) (fbytes_spec _ _ hx0 _) rfl ?_
  rintro r1 M1 J1 ⟨rfl, h1⟩
  refine XL.q (q_atV (h1.rd fun _ h => h) rfl rfl (by kernel_rfl) 0 rfl (by decide)) rfl ?_
  refine XL.q (q_ldVN (h1.rd fun _ h => by simp [h]) rfl (by kernel_rfl) (by decide)) rfl ?_
  refine XL.q (q_andD 1 2 rfl rfl rfl rfl rfl (getD_lt (prts_lt x 255) (by decide)) (by decide)) rfl ?_
  refine XL.q (q_bin rfl rfl rfl) rfl ?_
  refine XL.q (q_assign rfl) rfl ?_
  refine XL.fin (kp 2 rfl kn) ?_
  refine XC.ret ?_
  refine ⟨_, [], [], res1 rfl rfl, List.nil_sublist _, by simp, ?_, rfl, rfl⟩
  rw [prts_get (by decide), prt]
  simp only [Nat.reducePow, Nat.reduceMul, Nat.div_one]
  congr 1
  unfold p25 at hxl
  have e : x % 57896044618658097711785492504343953926634992332820282019728792003956564819968 % 256 % 2 = x % 2 := by omega
  rw [e]
  rcases Nat.mod_two_eq_zero_or_one x with h | h <;> rw [h] <;> rfl

end Go.Proofs.YtcfdeohjhhpmcaaDoor
/- The walks of package field: Power. -/
set_option linter.unusedVariables false
set_option linter.unusedSimpArgs false
namespace Go.Proofs.YtcfdeohjhhpmcaaDoor
open Go.Px
/-- x to the power of the number N's bits from i on, modulo p. -/
def pwE (x N i : Nat) : Nat := x ^ (N / 2 ^ i) % p25
theorem pwE_step (x N i : Nat) : pwE x N i = (if N / 2 ^ i % 2 = 1 then pwE x N (i + 1) * pwE x N (i + 1) % p25 * (x % p25) % p25 else pwE x N (i + 1) * pwE x N (i + 1) % p25) := by
  have h : N / 2 ^ i = 2 * (N / 2 ^ (i + 1)) + N / 2 ^ i % 2 := by
    rw [Nat.pow_succ, ← Nat.div_div_eq_div_mul]; omega
  unfold pwE
  have hb : N / 2 ^ i % 2 = 0 ∨ N / 2 ^ i % 2 = 1 := by omega
  rcases hb with hb | hb
  · rw [if_neg (by omega)]
    conv => lhs; rw [h, hb, Nat.add_zero, Nat.two_mul, Nat.pow_add, Nat.mul_mod]
  · rw [if_pos hb]
    conv => lhs; rw [h, hb, Nat.two_mul, Nat.pow_add, Nat.pow_add, Nat.pow_one, Nat.mul_mod, Nat.mul_mod (x ^ _)]

set_option maxRecDepth 100000 in
theorem fpower_spec (v : Value) (x : Nat) (hx : Fe v x) (es : List Nat) (hes : es.length = 32) (he256 : ∀ y ∈ es, y < 256) (A : Mem) : FnX Tryd.prog 69 [v, .agg (nums .u8 es).toArray] [] A fun r M J => M = [] ∧ J = [] ∧ Fe r (x ^ bv es % p25) := by
  have hx0 := hx
  have hxl := hx.lt
  obtain ⟨a, b, c, d, e, rfl, -⟩ := hx
  refine FnX.enter (N := 27) Tryd.func69 rfl rfl rfl fun w => ?_
  refine XC.keep (kp 0 rfl (kp 1 rfl kn)) ?_
  refine XC.reg ?_
  refine XL.lo rfl (l_box rfl (by first | exact Cel.cel | rfl) rfl fun b2 => ?_)
  refine XL.lo rfl (l_box rfl (by first | exact Cel.cel | rfl) rfl fun b3 => ?_)
  refine XL.lo rfl (l_alloc (cs := [.int .u64 0, .int .u64 0, .int .u64 0, .int .u64 0, .int .u64 0]) (by kernel_rfl) rfl fun b4 => ?_)
  refine XL.fin (kp 2 rfl (kp 3 rfl (kp 4 rfl kn))) ?_
  refine XC.reg ?_
  refine XL.call (aS rfl a0) (by kernel_rfl) (fnum_spec 1 (by decide) _) rfl ?_
  rintro r1 M1 J1 ⟨rfl, rfl, hr1⟩
  have hr10 := hr1
  obtain ⟨o0, o1, o2, o3, o4, rfl, -⟩ := hr1
  refine XL.lo rfl (l_alloc (cs := [.int .u64 0, .int .u64 0, .int .u64 0, .int .u64 0, .int .u64 0]) (by kernel_rfl) rfl fun b5 => ?_)
  refine XL.lo rfl (l_storeW rfl rfl Cel.cel (by kernel_rfl) (lnS (lnS (lnS (lnS (lnS (ln0)))))) (allS rfl (allS rfl (allS rfl (allS rfl (allS rfl (all0)))))) UpC.upd ?_)
  refine XL.fin (kp 2 rfl (kp 3 rfl (kp 4 rfl (kp 5 rfl kn)))) ?_
  refine XC.seq ?_
  refine XC.reg ?_
  refine XL.q (q_assign rfl) rfl ?_
  refine XL.fin (kp 2 rfl (kp 3 rfl (kp 4 rfl (kp 5 rfl (kp 6 rfl kn))))) ?_
  refine XC.block ?_
  refine XC.loop (α := Nat × Nat × Nat × Nat × Nat × Nat) (fun y => [(2, .pointer (some ⟨b2, 0, none⟩)), (3, .pointer (some ⟨b3, 0, none⟩)), (4, .pointer (some ⟨b4, 0, none⟩)), (5, .pointer (some ⟨b5, 0, none⟩)), (6, .int .i64 ((y.1 : Int) - 1))]) (fun y => [(b5, blk [.int .u64 (y.2.1 : Int), .int .u64 (y.2.2.1 : Int), .int .u64 (y.2.2.2.1 : Int), .int .u64 (y.2.2.2.2.1 : Int), .int .u64 (y.2.2.2.2.2 : Int)] 42), (b4, blk [.int .u64 0, .int .u64 0, .int .u64 0, .int .u64 0, .int .u64 0] 42), (b3, blk (nums .u8 es) 47), (b2, blk [.int .u64 (a : Int), .int .u64 (b : Int), .int .u64 (c : Int), .int .u64 (d : Int), .int .u64 (e : Int)] 42)]) (fun _ => []) (fun y => y.1 ≤ 256 ∧ Fe (el y.2.1 y.2.2.1 y.2.2.2.1 y.2.2.2.2.1 y.2.2.2.2.2) (pwE x (bv es) y.1)) (fun y => y.1) (256, o0, o1, o2, o3, o4) ⟨Nat.le_refl _, by rw [show pwE x (bv es) 256 = 1 by unfold pwE; rw [Nat.div_eq_of_lt (by have := bv_lt he256; rw [hes] at this; exact this)]; rfl]; exact hr10⟩ (kp 2 rfl (kp 3 rfl (kp 4 rfl (kp 5 rfl (kp 6 rfl kn))))) .rfl (fun _ h => h) ?_
  rintro ⟨j, o0, o1, o2, o3, o4⟩ ⟨hj, ho⟩
  dsimp only at hj ho ⊢
  refine XC.seq ?_
  refine XC.reg ?_
  refine XL.q (q_move rfl) rfl ?_
  refine XL.q (q_bin rfl rfl rfl) rfl ?_
  refine XL.fin (kp 2 rfl (kp 3 rfl (kp 4 rfl (kp 5 rfl (kp 6 rfl (kp 9 rfl kn)))))) ?_
  refine XC.cond rfl (fun hc => ?_) (fun hc => ?_)
  ·
    have hj0 : 0 < j := by simp at hc; omega
    obtain ⟨i, rfl⟩ : ∃ i, j = i + 1 := ⟨j - 1, by omega⟩
    have ei : ((i + 1 : Nat) : Int) - 1 = (i : Int) := by omega
    rw [ei]
    have hps := pwE_step x (bv es) i
    have hbit := bv_bit he256 i
    rw [← Nat.shiftRight_eq_div_pow] at hbit
    have hpb : es.getD (i / 8) 0 < 256 := getD_lt he256 (by decide)
    have hsr := Nat.shiftRight_le (es.getD (i / 8) 0) (i % 8)
    have hbt : bv es / 2 ^ i % 2 < 2 := Nat.mod_lt _ (by decide)
    generalize bv es / 2 ^ i % 2 = bt at *
    refine XC.skip ?_
    refine nx (kp 2 rfl (kp 3 rfl (kp 4 rfl (kp 5 rfl (kp 6 rfl kn))))) ?_
    refine XC.seq ?_
    refine XC.block ?_
    refine XC.reg ?_
    refine XL.q (q_loadW (n := 5) rfl (by kernel_rfl) (by first | exact At.mem | exact mA (by assumption)) (by rfl)) rfl ?_
    refine XL.call (aS rfl a0) (by kernel_rfl) (fsquare_spec _ _ ho _) rfl ?_
    rintro r2 M2 J2 ⟨rfl, rfl, hr2⟩
    have hr20 := hr2
    obtain ⟨s0, s1, s2, s3, s4, rfl, -⟩ := hr2
    refine XL.lo rfl (l_storeW rfl rfl Cel.cel (by kernel_rfl) (lnS (lnS (lnS (lnS (lnS (ln0)))))) (allS rfl (allS rfl (allS rfl (allS rfl (allS rfl (all0)))))) UpC.upd ?_)
    refine XL.fin (kp 2 rfl (kp 3 rfl (kp 4 rfl (kp 5 rfl (kp 6 rfl kn))))) ?_
    refine XC.reg ?_
    refine XL.q (q_move rfl) rfl ?_
    refine XL.q (q_quoD 8 rfl rfl rfl (by decide) (wrapI (by omega))) rfl ?_
    refine XL.q (q_idxA (e := 5) (n := 32) (sz := 1) (i := i / 8) rfl rfl (by kernel_rfl) (by kernel_rfl) rfl (by omega)) rfl ?_
    refine XL.q (q_ldN (i / 8) rfl (by kernel_rfl) At.mem (by omega) (by omega)) rfl ?_
    refine XL.q (q_move rfl) rfl ?_
    refine XL.q (q_remD 8 rfl rfl rfl (by decide)) rfl ?_
    refine XL.q (q_shrN (i % 8) rfl rfl rfl (by show _ ≤ 8; omega)) rfl ?_
    refine XL.q (hbit ▸ q_andD 1 2 rfl rfl rfl rfl rfl (by show _ < 256; omega) (by decide)) rfl ?_
    refine XL.q (q_bin rfl rfl rfl) rfl ?_
    refine XL.fin (kp 2 rfl (kp 3 rfl (kp 4 rfl (kp 5 rfl (kp 6 rfl (kp 22 rfl kn)))))) ?_
    refine XC.cond rfl (fun hc => ?_) (fun hc => ?_)
    ·
      have hb1 : bt = 1 := by simp at hc; omega
      rw [if_pos hb1] at hps
      refine XC.reg1 ?_
      refine XL.q (q_loadW (n := 5) rfl (by kernel_rfl) (by first | exact At.mem | exact mA (by assumption)) (by rfl)) rfl ?_
      refine XL.q (q_loadW (n := 5) rfl (by kernel_rfl) (by first | exact At.mem | exact mA (by assumption)) (by rfl)) rfl ?_
      refine XL.call (aS rfl (aS rfl a0)) (by kernel_rfl) (fmul_spec _ _ _ _ hr20 hx0 _) rfl ?_
      rintro r3 M3 J3 ⟨rfl, rfl, hr3⟩
      rw [Nat.mod_eq_of_lt hxl] at hps
      rw [← hps] at hr3
      have hr30 := hr3
      obtain ⟨t0, t1, t2, t3, t4, rfl, -⟩ := hr3
      refine XL.lo rfl (l_storeW rfl rfl Cel.cel (by kernel_rfl) (lnS (lnS (lnS (lnS (lnS (ln0)))))) (allS rfl (allS rfl (allS rfl (allS rfl (allS rfl (all0)))))) UpC.upd ?_)
      refine XL.nil ?_
      refine nb ?_
      refine nx (kp 2 rfl (kp 3 rfl (kp 4 rfl (kp 5 rfl (kp 6 rfl kn))))) ?_
      refine XC.reg1 ?_
      refine XL.q (q_move rfl) rfl ?_
      refine XL.q (q_num ((i : Int) - 1) rfl rfl (sub64 rfl (by omega) (by omega))) rfl ?_
      refine XL.q (q_assign rfl) rfl ?_
      refine XL.nil ?_
      exact rn (i, t0, t1, t2, t3, t4) ⟨by dsimp only; omega, hr30⟩ (by dsimp only; omega) (kp 2 rfl (kp 3 rfl (kp 4 rfl (kp 5 rfl (kp 6 rfl kn))))) .rfl (fun _ h => h)
    ·
      have hb1 : ¬ bt = 1 := by simp at hc; omega
      rw [if_neg hb1] at hps
      refine XC.skip ?_
      refine nb ?_
      refine nx (kp 2 rfl (kp 3 rfl (kp 4 rfl (kp 5 rfl (kp 6 rfl kn))))) ?_
      refine XC.reg1 ?_
      refine XL.q (q_move rfl) rfl ?_
      refine XL.q (q_num ((i : Int) - 1) rfl rfl (sub64 rfl (by omega) (by omega))) rfl ?_
      refine XL.q (q_assign rfl) rfl ?_
      refine XL.nil ?_
      exact rn (i, s0, s1, s2, s3, s4) ⟨by dsimp only; omega, by dsimp only; rw [hps]; exact hr20⟩ (by dsimp only; omega) (kp 2 rfl (kp 3 rfl (kp 4 rfl (kp 5 rfl (kp 6 rfl kn))))) .rfl (fun _ h => h)
  ·
    have hj0 : j = 0 := by simp at hc; omega
    subst hj0
    refine XC.exit ?_
    refine te ?_
    refine re ?_
    refine be rfl ?_
    refine nx (kp 4 rfl (kp 5 rfl kn)) ?_
    refine XC.reg ?_
    refine XL.q (q_loadW (n := 5) rfl (by kernel_rfl) (by first | exact At.mem | exact mA (by assumption)) (by rfl)) rfl ?_
    refine XL.lo rfl (l_storeW rfl rfl Cel.cel (by kernel_rfl) (lnS (lnS (lnS (lnS (lnS (ln0)))))) (allS rfl (allS rfl (allS rfl (allS rfl (allS rfl (all0)))))) UpC.upd ?_)
    refine XL.fin (kp 4 rfl kn) ?_
    refine XC.ret ?_
    refine ⟨_, [], [], resC rfl rfl (by kernel_rfl) At.mem (by rfl), List.nil_sublist _, by simp, rfl, rfl, ?_⟩
    have : pwE x (bv es) 0 = x ^ bv es % p25 := by unfold pwE; rw [Nat.pow_zero, Nat.div_one]
    rw [← this]; exact ho

end Go.Proofs.YtcfdeohjhhpmcaaDoor
/-
  Groups of operations of a drawn region that come up in any order; each makes new blocks alone, which stay owned behind it.
-/
set_option linter.unusedVariables false
set_option linter.unusedSimpArgs false
namespace Go.Px
structure Gw where
  i : Nat
  d : Nat
  φ : Value → Mem → Mem → Prop
def gEnvO (G : List Gw) (vs : Nat → Value) : Env := G.map fun g => (g.d, vs g.i)
def GrowsO (φ : Value → Mem → Mem → Prop) : Prop := ∀ v B R R', (∀ x ∈ R, x ∈ R') → φ v B R → φ v B R'
def toG (G : List Gw) : List Gm := G.map fun g => ⟨g.i, g.d, fun _ _ => True⟩
theorem toG_i (G : List Gw) : (toG G).map (·.i) = G.map (·.i) := by simp [toG]
theorem toG_d (G : List Gw) : (toG G).map (·.d) = G.map (·.d) := by simp [toG]
theorem toG_env (G : List Gw) (vs : Nat → Value) : gEnv (toG G) vs = gEnvO G vs := by simp [gEnv, gEnvO, toG]
theorem gw_inj {G : List Gw} (h : (G.map (·.i)).Nodup) {g g' : Gw} (hg : g ∈ G) (hg' : g' ∈ G) (e : g.i = g'.i) : g = g' := by
  induction G with
  | nil => cases hg
  | cons x G ih =>
    simp only [List.map_cons, List.nodup_cons] at h
    rcases List.mem_cons.1 hg with h1 | h1 <;> rcases List.mem_cons.1 hg' with h2 | h2
    · rw [h1, h2]
    · exact absurd (by rw [← h1, e]; exact List.mem_map_of_mem (f := Gw.i) h2) h.1
    · exact absurd (by rw [← h2, ← e]; exact List.mem_map_of_mem (f := Gw.i) h1) h.1
    · exact ih h.2 h1 h2
theorem perm_of_nodup {X : List Nat} : ∀ {Y : List Nat}, X.Nodup → Y.Nodup → (∀ x, x ∈ X ↔ x ∈ Y) → X.Perm Y := by
  induction X with
  | nil =>
    intro Y _ _ h
    cases Y with
    | nil => exact .refl _
    | cons y Y => exact absurd ((h y).2 List.mem_cons_self) (by simp)
  | cons x X ih =>
    intro Y hX hY h
    simp only [List.nodup_cons] at hX
    have hx : x ∈ Y := (h x).1 List.mem_cons_self
    refine List.Perm.trans (List.Perm.cons x (ih hX.2 (hY.erase x) fun z => ?_)) (List.perm_cons_erase hx).symm
    constructor
    · intro hz
      exact (List.mem_erase_of_ne (fun e : z = x => hX.1 (by rw [← e]; exact hz))).2 ((h z).1 (List.mem_cons_of_mem _ hz))
    · intro hz
      have hne : z ≠ x := fun e => by rw [e] at hz; exact (List.Nodup.not_mem_erase hY) hz
      rcases List.mem_cons.1 ((h z).2 (List.mem_of_mem_erase hz)) with e | hm
      · exact absurd e hne
      · exact hm
section group
variable {C : Cx} {Q : XQ} {l : Env} {M J : Mem} {os : List Oper} {K : Nat → Prop} {n0 : Nat} {nd : List Nat} {plan : List (Nat × Nat)}
def ownOf (X : List Nat) (bs : Nat → Mem) : Mem := (X.map bs).flatten
def OwesO (C : Cx) (os : List Oper) (l : Env) (M J : Mem) (G : List Gw) (g : Gw) : Prop :=
  ∃ o, nth os g.i = some o ∧ ∀ (vs : Nat → Value) (bs : Nat → Mem) (R : Mem) (w : World), (∀ x ∈ M ++ (J ++ C.A), x ∈ R) → (∀ g' ∈ G, anc os.toArray os.toArray.size g.i g'.i = true → g'.φ (vs g'.i) (bs g'.i) R) →
    Asked os (gEnvO G vs ++ l) o ∧ OpL ⟨C.P, w, [], R, C.N⟩ o (gEnvO G vs ++ l) [] [] (fun l' M' J' => ∃ v, l' = (g.d, v) :: (gEnvO G vs ++ l) ∧ g.φ v M' (M' ++ (J' ++ R)))
theorem groupO_go {G : List Gw} (hmono : ∀ g ∈ G, GrowsO g.φ) (hd : (G.map (·.d)).Nodup) (hi : (G.map (·.i)).Nodup) (hob : ∀ g ∈ G, OwesO C os l M J G g) {A B : Array Bool} (hok : GOk os.toArray A (G.map (·.i)) B)
    (hfin : ∀ (vs : Nat → Value) (bs : Nat → Mem) Jn a w, (∀ g ∈ G, g.φ (vs g.i) (bs g.i) ((ownOf (G.map (·.i)) bs ++ M) ++ ((Jn ++ J) ++ C.A))) → Ag C.N (gEnvO G vs ++ l) a → St C (ownOf (G.map (·.i)) bs ++ M) (Jn ++ J) w → n0 ≤ w.heap.size → wpAnyS C.P os.toArray (noPanicX (lift C Q)) (Sk K) nd.contains plan.length B a w) :
    ∀ (n : Nat) (X : List Nat) (vs : Nat → Value) (bs : Nat → Mem) (Jn : Mem) (a : Act) (w : World), X.Nodup → (∀ i ∈ X, i ∈ G.map (·.i)) → n + X.length = G.length → Closed os.toArray (mark A X) →
      (∀ g ∈ G, g.i ∈ X → g.φ (vs g.i) (bs g.i) ((ownOf X bs ++ M) ++ ((Jn ++ J) ++ C.A))) → Ag C.N (gEnvO G vs ++ l) a → St C (ownOf X bs ++ M) (Jn ++ J) w → n0 ≤ w.heap.size →
      wpAnyS C.P os.toArray (noPanicX (lift C Q)) (Sk K) nd.contains (n + plan.length) (mark A X) a w := by
  intro n
  induction n with
  | zero =>
    intro X vs bs Jn a w hnd hX hlen hcl hφ ha hw hn
    have hall : ∀ i, i ∈ X ↔ i ∈ G.map (·.i) := fun i => ⟨hX i, nodup_all hnd hX (by simp; omega) i⟩
    have hperm : (ownOf X bs ++ M).Perm (ownOf (G.map (·.i)) bs ++ M) := List.Perm.append_right _ (List.Perm.flatten ((perm_of_nodup hnd hi hall).map bs))
    rw [Nat.zero_add, mark_eq hall, ← hok.mark]
    refine hfin vs bs Jn a w (fun g hg => hmono g hg _ _ _ _ (fun x hx => ?_) (hφ g hg ((hall _).2 (List.mem_map_of_mem (f := Gw.i) hg)))) ha (hw.perm hperm) hn
    rcases List.mem_append.1 hx with h | h
    · exact List.mem_append_left _ (hperm.mem_iff.1 h)
    · exact List.mem_append_right _ h
  | succ n ih =>
    intro X vs bs Jn a w hnd hX hlen hcl hφ ha hw hn
    have hmiss : ∃ k ∈ G.map (·.i), k ∉ X := by
      apply Classical.byContradiction
      intro hno
      have hs : ∀ k ∈ G.map (·.i), k ∈ X := fun k hk => Classical.byContradiction fun h => hno ⟨k, hk, h⟩
      have := nodup_le hi hs
      simp at this; omega
    obtain ⟨k, hkG, hkX⟩ := hmiss
    have hun : ∀ i ∈ G.map (·.i), A.getD i true = false := by
      have : ∀ {is A B}, GOk os.toArray A is B → ∀ i ∈ is, A.getD i true = false := by
        intro is A B h
        induction h with
        | nil => intro i hi; cases hi
        | @cons A B i r hr ho h ih =>
          intro k hk
          rcases List.mem_cons.1 hk with rfl | hk
          · exact ready_un hr
          · have h2 := ih k hk
            by_cases e : i = k
            · subst e; exact ready_un hr
            · rwa [getD_set_ne true e] at h2
      exact this hok
    have hkun : (mark A X).getD k true = false := mark_getD_f.2 ⟨hun k hkG, fun h => hkX h.1⟩
    rw [show n + 1 + plan.length = (n + plan.length) + 1 by omega]
    refine ⟨fun h0 => ?_, fun i hir => ?_⟩
    · obtain ⟨i, hir⟩ := hok.first (mark_size A X) (fun j hj => mark_mono hj) hkG hkun
      rw [h0] at hir; cases hir
    · have hiG : i ∈ G.map (·.i) := by
        apply Classical.byContradiction
        intro hno
        have h1 := mark_getD_f.1 (ready_un hir)
        have h2 := hok.outer k hkG i (ready_lt hir) h1.1 hno
        exact not_both hkun (anc_ready hcl h2 hir)
      obtain ⟨g, hg, rfl⟩ := List.mem_map.1 hiG
      have hiX : g.i ∉ X := fun h => (mark_getD_f.1 (ready_un hir)).2 ⟨h, getD_f_lt (hun _ hiG)⟩
      obtain ⟨o, hget, howe⟩ := hob g hg
      have hi' : os.toArray[g.i]? = some o := by rw [nth_eq] at hget; simpa using hget
      obtain ⟨hask, hop⟩ := howe vs bs ((ownOf X bs ++ M) ++ ((Jn ++ J) ++ C.A)) w (fun x hx => by simp only [List.mem_append] at hx ⊢; rcases hx with h | h | h <;> simp [h]) (fun g' hg' hanc => hφ g' hg' (by
        have h3 := anc_ready hcl hanc hir
        rcases mark_getD_t h3 with h4 | h4
        · exact (not_both (hun _ (List.mem_map_of_mem (f := Gw.i) hg')) h4).elim
        · exact h4))
      unfold wpOp
      simp only [hi']
      rw [if_pos (hask.wanted ha)]
      have hcal := hw.callee (Mc := []) (R := ownOf X bs ++ M) (.refl _)
      refine .inl (Oper.wp_mono ?_ (hop _ a w ha hcal.cx))
      rintro a' w' ⟨l', M', J', ha', hs', v, rfl, hφv⟩
      have hsz : w.heap.size ≤ w'.heap.size := hs'.size
      have hb := hw.back (Mc := []) (R := ownOf X bs ++ M) (.refl _) hs'.cx
      let bs' : Nat → Mem := fun k => if k = g.i then M' else bs k
      have hown : ownOf (X ++ [g.i]) bs' = ownOf X bs ++ M' := by
        have e1 : X.map bs' = X.map bs := List.map_congr_left fun x hx => by
          have : x ≠ g.i := fun e => hiX (e ▸ hx)
          simp [bs', this]
        simp [ownOf, List.map_append, e1, bs']
      have hperm : (M' ++ (ownOf X bs ++ M)).Perm (ownOf (X ++ [g.i]) bs' ++ M) := by
        rw [hown, ← List.append_assoc]
        exact List.Perm.append_right _ List.perm_append_comm
      have hfr2 : St C (ownOf (X ++ [g.i]) bs' ++ M) ((J' ++ Jn) ++ J) w' := (hb.perm hperm).drop (List.Sublist.refl _) fun x hx => by
        simp only [List.mem_append] at hx ⊢
        rcases hx with (h | h) | h <;> simp [h]
      refine ⟨fun _ b hb' hnk => hs'.frame b hb' (by simp), ?_⟩
      rw [← mark_snoc]
      have henv := gEnv_set (N := C.N) (G := toG G) (l := l) (vs := vs) (g := ⟨g.i, g.d, fun _ _ => True⟩) (a := a') (v := v) (List.mem_map_of_mem (f := fun g : Gw => (⟨g.i, g.d, fun _ _ => True⟩ : Gm)) hg) (by rw [toG_d]; exact hd) (by rw [toG_i]; exact hi) (by rw [toG_env]; exact ha')
      rw [toG_env] at henv
      refine ih (X ++ [g.i]) (fun k => if k = g.i then v else vs k) bs' (J' ++ Jn) a' w' ?_ ?_ (by simp; omega) ?_ ?_ henv hfr2 (Nat.le_trans hn hsz)
      · rw [List.nodup_append]; exact ⟨hnd, by simp, fun x hx y hy e => hiX (by simp at hy; subst hy; exact e ▸ hx)⟩
      · intro j hj
        rcases List.mem_append.1 hj with hj | hj
        · exact hX j hj
        · simp at hj; subst hj; exact hiG
      · rw [mark_snoc]; exact closed_set hcl hir
      · intro g' hg' hm
        rw [hown]
        by_cases e : g'.i = g.i
        · have : g' = g := gw_inj hi hg' hg e
          subst this
          simp only [if_true, bs']
          exact hmono g' hg' _ _ _ _ (fun x hx => by simp only [List.mem_append] at hx ⊢; rcases hx with h | h | (h | h) | (h | h) | h <;> simp [h]) hφv
        · simp only [e, if_false, bs']
          have hm' : g'.i ∈ X := by simpa [e] using hm
          exact hmono g' hg' _ _ _ _ (fun x hx => by simp only [List.mem_append] at hx ⊢; rcases hx with (h | h) | (h | h) | h <;> simp [h]) (hφ g' hg' hm')
theorem XK.groupO (G : List Gw) (hmono : ∀ g ∈ G, GrowsO g.φ) (hd : (G.map (·.d)).Nodup) (hi : (G.map (·.i)).Nodup) (hdN : ∀ g ∈ G, g.d < C.N) (hob : ∀ g ∈ G, OwesO C os l M J G g)
    (h : ∀ (vs : Nat → Value) (bs : Nat → Mem) Jn, (∀ g ∈ G, g.φ (vs g.i) (bs g.i) ((ownOf (G.map (·.i)) bs ++ M) ++ ((Jn ++ J) ++ C.A))) → XK C os Q K n0 nd plan (gEnvO G vs ++ l) (ownOf (G.map (·.i)) bs ++ M) (Jn ++ J)) : XK C os Q K n0 nd (enc (G.map (·.i)) ++ plan) l M J := by
  intro listed hcl hp a w ha hw hn
  obtain ⟨B, hok, hp2⟩ := enc_ok hp
  have hBcl : Closed os.toArray B := by
    have : ∀ {A is B}, GOk os.toArray A is B → Closed os.toArray A → Closed os.toArray B := by
      intro A is B h
      induction h with
      | nil => exact id
      | cons hr _ _ ih => exact fun hc => ih (closed_set hc hr)
    exact this hok hcl
  have hlen : (enc (G.map (·.i)) ++ plan).length = G.length + plan.length := by
    have : ∀ is : List Nat, (enc is).length = is.length := by
      intro is
      induction is with
      | nil => rfl
      | cons i r ih => cases r with
        | nil => rfl
        | cons j r => simp only [enc, List.length_cons] at ih ⊢; rw [ih]
    simp [this]
  rw [hlen]
  let vs : Nat → Value := fun k => match G.find? (fun g => g.i == k) with
    | some g => (a.tmps[g.d]?).getD undef
    | none => undef
  have hag : Ag C.N (gEnvO G vs ++ l) a := by
    refine ⟨ha.defers, ha.size, ?_⟩
    intro k u hk
    have key : ∀ G' : List Gw, (∀ g ∈ G', g ∈ G) → lk (gEnvO G' vs ++ l) k = some u → a.tmps[k]? = some u := by
      intro G'
      induction G' with
      | nil => intro _ h; exact ha.slot k u h
      | cons g G' ih =>
        intro hs h
        simp only [gEnvO, List.map_cons, List.cons_append, lk] at h
        by_cases e : g.d = k
        · subst e
          simp at h
          have hf : G.find? (fun x => x.i == g.i) = some g := by
            have hgG := hs g List.mem_cons_self
            cases hq : G.find? (fun x => x.i == g.i) with
            | none => have := List.find?_eq_none.1 hq g hgG; simp at this
            | some x =>
              have h1 := List.find?_some hq
              have h2 := List.mem_of_find?_eq_some hq
              rw [gw_inj hi h2 hgG (by simpa using h1)]
          have hlt : g.d < a.tmps.size := by rw [ha.size]; exact hdN g (hs g List.mem_cons_self)
          rw [← h]
          show a.tmps[g.d]? = some (vs g.i)
          simp only [vs, hf, Array.getElem?_eq_getElem hlt, Option.getD_some]
        · simp only [beq_ne e, cond_false] at h
          exact ih (fun x hx => hs x (List.mem_cons_of_mem _ hx)) h
    exact key G (fun _ h => h) hk
  exact groupO_go (n0 := n0) (K := K) hmono hd hi hob hok (fun vs bs Jn a w hφ ha hw hn => h vs bs Jn hφ B hBcl hp2 a w ha hw hn) G.length [] vs (fun _ => []) [] a w .nil (fun _ h => by cases h) (by simp) hcl (fun _ _ h => by cases h) hag hw hn
theorem XF.groupO (G : List Gw) (hmono : ∀ g ∈ G, GrowsO g.φ) (hd : (G.map (·.d)).Nodup) (hi : (G.map (·.i)).Nodup) (hdN : ∀ g ∈ G, g.d < C.N) (hob : ∀ g ∈ G, OwesO C os l M J G g)
    (h : ∀ (vs : Nat → Value) (bs : Nat → Mem) Jn, (∀ g ∈ G, g.φ (vs g.i) (bs g.i) ((ownOf (G.map (·.i)) bs ++ M) ++ ((Jn ++ J) ++ C.A))) → XF C os Q nd plan (gEnvO G vs ++ l) (ownOf (G.map (·.i)) bs ++ M) (Jn ++ J)) : XF C os Q nd (enc (G.map (·.i)) ++ plan) l M J := XK.groupO G hmono hd hi hdN hob h
end group
end Go.Px

