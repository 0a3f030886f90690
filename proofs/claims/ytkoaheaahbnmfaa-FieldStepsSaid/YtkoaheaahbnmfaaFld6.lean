/- The walks of package field: near, Inv, Root. -/
import Derived.Test.YtkoaheaahbnmfaaFld5
import Derived.Test.YtkoaheaahbnmfaaGrpO
set_option linter.unusedVariables false
set_option linter.unusedSimpArgs false
namespace Go.Proofs.Ytkoaheaahbnmfaa
open Go.Px
theorem ones_bit {n i : Nat} (h : i < n) : (2 ^ n - 1) / 2 ^ i % 2 = 1 := by
  have := Nat.testBit_two_pow_sub_one n i
  rw [Nat.testBit_eq_decide_div_mod_eq] at this
  simpa [h] using this
theorem prts_head {n : Nat} (h : 8 ≤ n) : (prts 8 32 (2 ^ n - 1) n).getD 0 0 = 255 := by
  rw [prts_get (by decide), prt, Nat.mul_zero, Nat.pow_zero, Nat.div_one]
  obtain ⟨m, rfl⟩ : ∃ m, n = m + 8 := ⟨n - 8, by omega⟩
  have h1 := Nat.two_pow_pos m
  have e : (2 ^ (m + 8) - 1) % 2 ^ (m + 8) = 2 ^ (m + 8) - 1 := Nat.mod_eq_of_lt (Nat.sub_lt (Nat.two_pow_pos _) (by decide))
  rw [e, Nat.pow_add]
  simp only [Nat.reducePow]
  omega
theorem bv_set0 {p : List Nat} (x : Nat) (h : 0 < p.length) : bv (p.set 0 x) + p.getD 0 0 = bv p + x := by
  cases p with
  | nil => simp at h
  | cons b r => simp [bv]; omega
theorem bv_prts_n (N n : Nat) (h : n ≤ 256) : bv (prts 8 32 N n) = N % 2 ^ n := by
  unfold prts prt
  rw [bv_digits, Nat.mod_eq_of_lt]
  exact Nat.lt_of_lt_of_le (Nat.mod_lt _ (Nat.two_pow_pos _)) (Nat.pow_le_pow_right (by decide) (by omega))

theorem near_spec (n d : Nat) (hn : 8 ≤ n) (hn2 : n ≤ 256) (hd : 1 < d) (hd2 : d ≤ 256) (A : Mem) : FnX Try.prog 38 [.int .i64 (n : Int), .int .u16 (d : Int)] [] A fun r M J => M = [] ∧ J = [] ∧ ∃ es : List Nat, r = .agg (nums .u8 es).toArray ∧ es.length = 32 ∧ (∀ y ∈ es, y < 256) ∧ bv es = 2 ^ n - d := by
  refine FnX.enter (N := 47) Try.func38 rfl rfl rfl fun w => ?_
  refine XC.keep (kp 0 rfl (kp 1 rfl kn)) ?_
  refine XC.reg ?_
  refine XL.lo rfl (l_alloc (cs := [.int .u8 0, .int .u8 0, .int .u8 0, .int .u8 0, .int .u8 0, .int .u8 0, .int .u8 0, .int .u8 0, .int .u8 0, .int .u8 0, .int .u8 0, .int .u8 0, .int .u8 0, .int .u8 0, .int .u8 0, .int .u8 0, .int .u8 0, .int .u8 0, .int .u8 0, .int .u8 0, .int .u8 0, .int .u8 0, .int .u8 0, .int .u8 0, .int .u8 0, .int .u8 0, .int .u8 0, .int .u8 0, .int .u8 0, .int .u8 0, .int .u8 0, .int .u8 0]) (by kernel_rfl) rfl fun b4 => ?_)
  refine XL.fin (kp 0 rfl (kp 1 rfl (kp 4 rfl kn))) ?_
  refine XC.reg ?_
  refine XL.lo rfl (l_alloc (cs := [.int .u8 0, .int .u8 0, .int .u8 0, .int .u8 0, .int .u8 0, .int .u8 0, .int .u8 0, .int .u8 0, .int .u8 0, .int .u8 0, .int .u8 0, .int .u8 0, .int .u8 0, .int .u8 0, .int .u8 0, .int .u8 0, .int .u8 0, .int .u8 0, .int .u8 0, .int .u8 0, .int .u8 0, .int .u8 0, .int .u8 0, .int .u8 0, .int .u8 0, .int .u8 0, .int .u8 0, .int .u8 0, .int .u8 0, .int .u8 0, .int .u8 0, .int .u8 0]) (by kernel_rfl) rfl fun b5 => ?_)
  refine XL.fin (kp 0 rfl (kp 1 rfl (kp 4 rfl (kp 5 rfl kn)))) ?_
  refine XC.seq ?_
  refine XC.reg ?_
  refine XL.q (q_move rfl) rfl ?_
  refine XL.q (q_move rfl) rfl ?_
  refine XL.fin (kp 1 rfl (kp 4 rfl (kp 5 rfl (kp 9 rfl (kp 10 rfl kn))))) ?_
  refine XC.block ?_
  refine XC.fit (M' := [(b5, blk (nums .u8 (prts 8 32 (2 ^ n - 1) 0)) 22), (b4, blk [.int .u8 0, .int .u8 0, .int .u8 0, .int .u8 0, .int .u8 0, .int .u8 0, .int .u8 0, .int .u8 0, .int .u8 0, .int .u8 0, .int .u8 0, .int .u8 0, .int .u8 0, .int .u8 0, .int .u8 0, .int .u8 0, .int .u8 0, .int .u8 0, .int .u8 0, .int .u8 0, .int .u8 0, .int .u8 0, .int .u8 0, .int .u8 0, .int .u8 0, .int .u8 0, .int .u8 0, .int .u8 0, .int .u8 0, .int .u8 0, .int .u8 0, .int .u8 0] 22)]) (Fit.eq (by rw [prts_zero]; rfl)) (fun _ h => h) ?_
  refine XC.loop (α := Nat) (fun i => [(1, .int .u16 (d : Int)), (4, .pointer (some ⟨b4, 0, none⟩)), (5, .pointer (some ⟨b5, 0, none⟩)), (9, .int .i64 (n : Int)), (10, .int .i64 (i : Int))]) (fun i => [(b5, blk (nums .u8 (prts 8 32 (2 ^ n - 1) i)) 22), (b4, blk [.int .u8 0, .int .u8 0, .int .u8 0, .int .u8 0, .int .u8 0, .int .u8 0, .int .u8 0, .int .u8 0, .int .u8 0, .int .u8 0, .int .u8 0, .int .u8 0, .int .u8 0, .int .u8 0, .int .u8 0, .int .u8 0, .int .u8 0, .int .u8 0, .int .u8 0, .int .u8 0, .int .u8 0, .int .u8 0, .int .u8 0, .int .u8 0, .int .u8 0, .int .u8 0, .int .u8 0, .int .u8 0, .int .u8 0, .int .u8 0, .int .u8 0, .int .u8 0] 22)]) (fun _ => []) (fun i => i ≤ n) (fun i => n - i) 0 (Nat.zero_le _) (kp 1 rfl (kp 4 rfl (kp 5 rfl (kp 9 rfl (kp 10 rfl kn))))) .rfl (fun _ h => h) ?_
  rintro i hi
  refine XC.reg ?_
  refine XL.q (q_bin rfl rfl rfl) rfl ?_
  refine XL.fin (kp 1 rfl (kp 4 rfl (kp 5 rfl (kp 9 rfl (kp 10 rfl (kp 11 rfl kn)))))) ?_
  refine XC.seq ?_
  refine XC.cond rfl (fun hc => ?_) (fun hc => ?_)
  ·
    have hlt : i < n := by simp at hc; omega
    have hps := prts_succ (w := 8) (n := 32) (N := 2 ^ n - 1) (i := i) (by decide) (by omega)
    have hpg := prts_get (w := 8) (n := 32) (N := 2 ^ n - 1) (i := i) (j := i / 8) (by omega)
    have hpl := prt_lt 8 (2 ^ n - 1) i (i / 8)
    rw [ones_bit hlt] at hps
    rw [← hpg] at hps hpl
    have hsm := shl_small (b := 1) (w := 8) (by decide) (Nat.mod_lt i (by decide : 0 < 8))
    have hmo : 1 <<< (i % 8) % 2 ^ IntKind.u8.bits = 1 <<< (i % 8) := Nat.mod_eq_of_lt hsm
    refine XC.skip ?_
    refine nx (kp 1 rfl (kp 4 rfl (kp 5 rfl (kp 9 rfl (kp 10 rfl kn))))) ?_
    refine XC.seq ?_
    refine XC.block ?_
    refine XC.reg ?_
    refine XL.q (q_move rfl) rfl ?_
    refine XL.q (q_assign rfl) rfl ?_
    refine XL.fin (kp 1 rfl (kp 4 rfl (kp 5 rfl (kp 6 rfl (kp 9 rfl (kp 10 rfl kn)))))) ?_
    refine XC.drawF1 [0, 1, 2, 3, 4, 5, 6, 7, 8] [(0, 0), (1, 0), (2, 0), (3, 1), (4, 0), (5, 0), (6, 0), (7, 0), (8, 0), (9, 2)] (by kernel_rfl) (by kernel_rfl) fun hs => ?_
    refine XF.q hs rfl (q_move rfl) rfl ?_
    refine XF.q hs rfl (q_quoD 8 rfl rfl rfl (by decide) (wrapI (by omega))) rfl ?_
    refine XF.q hs rfl (q_idxA (e := 5) (n := 32) (sz := 1) (i := i / 8) rfl rfl (by kernel_rfl) (by kernel_rfl) rfl (by omega)) rfl ?_
    refine XF.r hs rfl (q_ldN (i / 8) rfl (by kernel_rfl) At.mem (by omega) (by rw [prts_len]; omega)) rfl ?_
    refine XF.q hs rfl (q_move rfl) rfl ?_
    refine XF.q hs rfl (q_remD 8 rfl rfl rfl (by decide)) rfl ?_
    refine XF.q hs rfl (hmo ▸ q_shlN (a := 1) rfl (i % 8) rfl rfl rfl (by show _ ≤ 8; omega)) rfl ?_
    refine XF.q hs rfl (q_or rfl rfl rfl hpl hsm) rfl ?_
    refine XF.q hs rfl (q_idxA (e := 5) (n := 32) (sz := 1) (i := i / 8) rfl rfl (by kernel_rfl) (by kernel_rfl) rfl (by omega)) rfl ?_
    refine XF.tl rfl rfl rfl (l_stN (i / 8) rfl rfl (by kernel_rfl) (by omega) (by rw [prts_len]; omega) UpC.upd ?_)
    refine XF.nil ?_
    refine nb ?_
    refine nx (kp 1 rfl (kp 4 rfl (kp 5 rfl (kp 9 rfl (kp 10 rfl kn))))) ?_
    refine XC.reg1 ?_
    refine XL.q (q_num ((i + 1 : Nat) : Int) rfl rfl (add64 (by omega) (by omega) (by omega))) rfl ?_
    refine XL.q (q_move rfl) rfl ?_
    refine XL.nil ?_
    exact rn (i + 1) (by omega) (by omega) (kp 1 rfl (kp 4 rfl (kp 5 rfl (kp 9 rfl (kp 10 rfl kn))))) (Fit.eq (by rw [hps])) (fun _ h => h)
  ·
    have hlt : i = n := by simp at hc; omega
    subst hlt
    refine XC.exit ?_
    refine te ?_
    refine re ?_
    refine be rfl ?_
    refine nx (kp 1 rfl (kp 4 rfl (kp 5 rfl kn))) ?_
    have hhd := prts_head (n := i) (by omega)
    have hbn := bv_prts_n (2 ^ i - 1) i (by omega)
    have hpl := prts_len 8 32 (2 ^ i - 1) i
    have hpw : 256 ≤ 2 ^ i := (show 256 = 2 ^ 8 from rfl) ▸ Nat.pow_le_pow_right (by decide) (by omega)
    refine XC.reg ?_
    refine XL.q (q_move rfl) rfl ?_
    refine XL.q (q_subS 65536 (b := 1) rfl rfl rfl rfl rfl rfl (by omega) (by omega)) rfl ?_
    refine XL.q (q_assign rfl) rfl ?_
    refine XL.fin (kp 1 rfl (kp 4 rfl (kp 5 rfl kn))) ?_
    refine XC.seq ?_
    refine XC.reg ?_
    refine XL.q (q_assign rfl) rfl ?_
    refine XL.fin (kp 1 rfl (kp 4 rfl (kp 5 rfl (kp 7 rfl kn)))) ?_
    refine XC.block ?_
    refine XC.rounds 3 ?_
    refine XR.step ?_
    refine XC.seq ?_
    refine XC.reg ?_
    refine XL.q (q_move rfl) rfl ?_
    refine XL.q (q_cmp true rfl rfl (gtT (by omega))) rfl ?_
    refine XL.fin (kp 1 rfl (kp 4 rfl (kp 5 rfl (kp 7 rfl (kp 26 rfl kn))))) ?_
    refine XC.condT rfl ?_
    refine XC.skip ?_
    refine nx (kp 1 rfl (kp 4 rfl (kp 5 rfl (kp 7 rfl kn)))) ?_
    refine XC.seq ?_
    refine XC.block ?_
    refine XC.reg ?_
    refine XL.q (q_move rfl) rfl ?_
    refine XL.q (q_idxAN 0 (e := 5) (n := 32) (sz := 1) (i := 0) rfl rfl (by kernel_rfl) (by kernel_rfl) rfl (by decide) rfl) rfl ?_
    refine XL.q (hhd ▸ q_ldN 0 rfl (by kernel_rfl) At.mem rfl (by omega)) rfl ?_
    refine XL.q (q_convN (k' := .u16) 255 rfl (by kernel_rfl) (by decide)) rfl ?_
    refine XL.q (q_move rfl) rfl ?_
    refine XL.q (q_andD 8 256 rfl rfl rfl rfl rfl (by show _ < 65536; first | assumption | exact Nat.mod_lt _ (by decide) | omega) (by decide)) rfl ?_
    refine XL.q (q_subS 65536 (a := 255) rfl rfl rfl rfl rfl rfl (by decide) (by omega)) rfl ?_
    refine XL.q (q_assign rfl) rfl ?_
    refine XL.fin (kp 1 rfl (kp 4 rfl (kp 5 rfl (kp 7 rfl (kp 8 rfl kn))))) ?_
    refine XC.reg ?_
    refine XL.q (q_move rfl) rfl ?_
    refine XL.q (q_move rfl) rfl ?_
    refine XL.q (q_to8 rfl (by kernel_rfl)) rfl ?_
    refine XL.q (q_idxAN 0 (e := 5) (n := 32) (sz := 1) (i := 0) rfl rfl (by kernel_rfl) (by kernel_rfl) rfl (by decide) rfl) rfl ?_
    refine XL.lo rfl (l_stN 0 rfl rfl (by kernel_rfl) rfl (by omega) UpC.upd ?_)
    refine XL.fin (kp 1 rfl (kp 4 rfl (kp 5 rfl (kp 7 rfl (kp 8 rfl kn))))) ?_
    refine XC.reg ?_
    refine XL.q (q_move rfl) rfl ?_
    refine XL.q (q_shrD 8 256 rfl rfl rfl rfl (by decide)) rfl ?_
    refine XL.q (q_assign rfl) rfl ?_
    refine XL.fin (kp 1 rfl (kp 4 rfl (kp 5 rfl (kp 7 rfl (kp 8 rfl kn))))) ?_
    refine XC.reg ?_
    refine XL.q (q_move rfl) rfl ?_
    refine XL.q (q_cmp false rfl rfl (gtF (by omega))) rfl ?_
    refine XL.fin (kp 1 rfl (kp 4 rfl (kp 5 rfl (kp 7 rfl (kp 43 rfl kn))))) ?_
    refine XC.condF rfl ?_
    refine XC.skip ?_
    refine nb ?_
    refine nx (kp 1 rfl (kp 4 rfl (kp 5 rfl (kp 7 rfl kn)))) ?_
    refine XC.reg1 ?_
    refine XL.q (q_move rfl) rfl ?_
    refine XL.q (q_num (1 : Int) rfl rfl (add64 (by decide) (by decide) (by decide))) rfl ?_
    refine XL.q (q_assign rfl) rfl ?_
    refine XL.nil ?_
    refine un (kp 1 rfl (kp 4 rfl (kp 5 rfl (kp 7 rfl kn)))) ?_
    refine XR.step ?_
    refine XC.seq ?_
    refine XC.reg ?_
    refine XL.q (q_move rfl) rfl ?_
    refine XL.q (q_cmp false rfl rfl (gtF (by omega))) rfl ?_
    refine XL.fin (kp 1 rfl (kp 4 rfl (kp 5 rfl (kp 7 rfl (kp 26 rfl kn))))) ?_
    refine XC.condF rfl ?_
    refine XC.exit ?_
    refine te ?_
    refine ue ?_
    refine be rfl ?_
    refine nx (kp 4 rfl (kp 5 rfl kn)) ?_
    refine XC.reg ?_
    refine XL.q (q_loadW (n := 32) (cs := nums .u8 ((prts 8 32 (2 ^ i - 1) i).set 0 ((255 - (d - 1) % 256) % 256))) rfl (by kernel_rfl) At.mem (by rw [nums_len, List.length_set, hpl])) rfl ?_
    refine XL.lo rfl (l_storeW (vs := nums .u8 ((prts 8 32 (2 ^ i - 1) i).set 0 ((255 - (d - 1) % 256) % 256))) rfl rfl rfl (by rw [nums_len, List.length_set, hpl]; kernel_rfl) (by rw [nums_len, List.length_set, hpl]; rfl) nums_one UpC.upd ?_)
    refine XL.fin (kp 4 rfl kn) ?_
    refine XC.ret ?_
    refine ⟨_, [], [], resC rfl rfl (by kernel_rfl) At.mem (by rw [nums_len, List.length_set, hpl]), List.nil_sublist _, by simp, rfl, rfl, _, rfl, by rw [List.length_set, hpl], ?_, ?_⟩
    · intro y hy
      rcases List.mem_or_eq_of_mem_set hy with h | rfl
      · exact prts_lt _ _ y h
      · exact Nat.mod_lt _ (by decide)
    · have h0 := bv_set0 (p := prts 8 32 (2 ^ i - 1) i) ((255 - (d - 1) % 256) % 256) (by omega)
      rw [hhd, hbn, Nat.mod_eq_of_lt (a := 2 ^ i - 1) (by omega)] at h0
      omega

theorem finv_spec (v : Value) (x : Nat) (hx : Fe v x) (A : Mem) : FnX Try.prog 11 [v] [] A fun r M J => M = [] ∧ J = [] ∧ ∃ n, n + 1 = p25 - 1 ∧ Fe r (x ^ n % p25) := by
  have hx0 := hx
  obtain ⟨a, b, c, d, e, rfl, -⟩ := hx
  refine FnX.enter (N := 6) Try.func11 rfl rfl rfl fun w => ?_
  refine XC.keep (kp 0 rfl kn) ?_
  refine XC.reg ?_
  refine XL.lo rfl (l_box rfl rfl rfl fun b1 => ?_)
  refine XL.lo rfl (l_alloc (cs := [.int .u64 0, .int .u64 0, .int .u64 0, .int .u64 0, .int .u64 0]) (by kernel_rfl) rfl fun b2 => ?_)
  refine XL.fin (kp 1 rfl (kp 2 rfl kn)) ?_
  refine XC.drawF [0, 1, 2] [(0, 1), (1, 2), (2, 2), (3, 2)] (by kernel_rfl) (by kernel_rfl) fun hs => ?_
  refine XF.r hs rfl (q_loadW (n := 5) rfl (by kernel_rfl) (by first | exact At.mem | exact mA (by assumption)) (by rfl)) rfl ?_
  refine XF.call rfl (aS rfl (aS rfl a0)) (by kernel_rfl) (near_spec 255 21 (by decide) (by decide) (by decide) (by decide) _) rfl ?_
  rintro rn1 Mn Jn ⟨rfl, rfl, es, rfl, hel, he256, hbv⟩
  refine XF.call rfl (aS rfl (aS rfl a0)) (by kernel_rfl) (fpower_spec _ _ hx0 es hel he256 _) rfl ?_
  rintro r1 M1 J1 ⟨rfl, rfl, hr⟩
  have hbv1 : bv es + 1 = p25 - 1 := by rw [hbv]; decide
  have hr0 := hr
  obtain ⟨a1, b1, c1, d1, e1, rfl, -⟩ := hr
  refine XF.tl rfl rfl rfl (l_storeW rfl rfl Cel.cel (by kernel_rfl) (lnS (lnS (lnS (lnS (lnS (ln0)))))) (allS rfl (allS rfl (allS rfl (allS rfl (allS rfl (all0)))))) UpC.upd ?_)
  refine XF.fin (kp 2 rfl kn) ?_
  refine XC.ret ?_
  exact ⟨_, [], [], resC rfl rfl (by kernel_rfl) At.mem (by rfl), List.nil_sublist _, by simp, rfl, rfl, _, hbv1, hr0⟩

def rtp (x n : Nat) : Nat := x ^ n % p25
def rt1 (x : Nat) : Nat := rtp x (2 ^ 252 - 2)
def rt2 (x : Nat) : Nat := rt1 x * rtp 2 (2 ^ 253 - 5) % p25
theorem rtp_eq {x n m : Nat} (h : n = m) : x ^ n % p25 = rtp x m := by subst h; rfl
theorem rt1_eq {x n : Nat} (h : n = 2 ^ 252 - 2) : x ^ n % p25 = rt1 x := by unfold rt1; exact rtp_eq h
/-- What Root answers. -/
def Rt (r : Value) (x : Nat) : Prop := ∃ u b, r = .tuple #[u, .bool b] ∧ ((rt1 x * rt1 x % p25 = x ∧ b = true ∧ Fe u (rt1 x)) ∨ (rt1 x * rt1 x % p25 ≠ x ∧ rt2 x * rt2 x % p25 = x ∧ b = true ∧ Fe u (rt2 x)) ∨ (rt1 x * rt1 x % p25 ≠ x ∧ rt2 x * rt2 x % p25 ≠ x ∧ b = false ∧ Fe u 0))

theorem froot_spec (v : Value) (x : Nat) (hx : Fe v x) (A : Mem) : FnX Try.prog 35 [v] [] A fun r M J => M = [] ∧ J = [] ∧ Rt r x := by
  have hx0 := hx
  obtain ⟨a, b, c, d, e, rfl, -⟩ := hx
  refine FnX.enter (N := 24) Try.func35 rfl rfl rfl fun w => ?_
  refine XC.keep (kp 0 rfl kn) ?_
  refine XC.reg ?_
  refine XL.lo rfl (l_box rfl rfl rfl fun b1 => ?_)
  refine XL.lo rfl (l_alloc (cs := [.int .u64 0, .int .u64 0, .int .u64 0, .int .u64 0, .int .u64 0]) (by kernel_rfl) rfl fun b2 => ?_)
  refine XL.q (q_assign rfl) rfl ?_
  refine XL.fin (kp 1 rfl (kp 2 rfl kn)) ?_
  refine XC.drawF [0, 1, 2, 3] [(0, 1), (1, 3), (2, 3), (3, 4), (4, 2)] (by kernel_rfl) (by kernel_rfl) fun hs => ?_
  refine XF.r hs rfl (q_loadW (n := 5) rfl (by kernel_rfl) (by first | exact At.mem | exact mA (by assumption)) (by rfl)) rfl ?_
  refine XF.groupO [⟨1, 6, fun v B _ => B = [] ∧ ∃ es : List Nat, v = .agg (nums .u8 es).toArray ∧ es.length = 32 ∧ (∀ y ∈ es, y < 256) ∧ bv es = 2 ^ 252 - 2⟩, ⟨2, 7, fun v B _ => B = [] ∧ Fe v (rt1 x)⟩, ⟨3, 4, fun v B _ => ∃ b, v = .pointer (some ⟨b, 0, none⟩) ∧ B = [(b, blk [.int .u64 0, .int .u64 0, .int .u64 0, .int .u64 0, .int .u64 0] 25)]⟩]
    (allS (fun _ _ _ _ _ h => h) (allS (fun _ _ _ _ _ h => h) (allS (fun _ _ _ _ _ h => h) (all0)))) (show List.Nodup [6, 7, 4] by decide) (show List.Nodup [1, 2, 3] by decide) (allS (blt_lt rfl) (allS (blt_lt rfl) (allS (blt_lt rfl) (all0))))
    (allS ⟨_, rfl, fun vs bs R w hb ha => ⟨.inl rfl, ?_⟩⟩ (allS ⟨_, rfl, fun vs bs R w hb ha => ⟨.inl rfl, ?_⟩⟩ (allS ⟨_, rfl, fun vs bs R w hb ha => ⟨.inl rfl, ?_⟩⟩ (all0)))) ?_
  ·
    refine l_call0 (aS rfl (aS rfl a0)) (by kernel_rfl) (near_spec 252 2 (by decide) (by decide) (by decide) (by decide) _) rfl ?_
    rintro r M1 J1 ⟨rfl, rfl, hh⟩
    exact ⟨_, rfl, rfl, hh⟩
  ·
    have g1 := ha _ (List.mem_of_getElem? (i := 0) rfl) (by kernel_rfl)
    replace g1 : (fun v B _ => B = [] ∧ ∃ es : List Nat, v = .agg (nums .u8 es).toArray ∧ es.length = 32 ∧ (∀ y ∈ es, y < 256) ∧ bv es = 2 ^ 252 - 2) (vs 1) (bs 1) R := g1
    dsimp only at g1
    obtain ⟨-, es, hes, hel, he256, hbv⟩ := g1
    refine l_call0 (aS rfl (aS (by rw [← hes]; rfl) a0)) (by kernel_rfl) (fpower_spec _ _ hx0 es hel he256 _) rfl ?_
    rintro r M1 J1 ⟨rfl, rfl, hh⟩
    rw [rt1_eq hbv] at hh
    exact ⟨_, rfl, rfl, hh⟩
  ·
    exact l_alloc (cs := [.int .u64 0, .int .u64 0, .int .u64 0, .int .u64 0, .int .u64 0]) (by kernel_rfl) rfl fun b => ⟨_, rfl, b, rfl, rfl⟩
  intro vs bs Jn0 hφ
  have g1 := ofH hφ
  dsimp only at g1
  replace hφ := ofT hφ
  have g2 := ofH hφ
  dsimp only at g2
  replace hφ := ofT hφ
  have g3 := ofH hφ
  dsimp only at g3
  clear hφ
  dsimp only [gEnvO, ownOf, List.map, List.flatten, List.cons_append, List.nil_append]
  generalize bs 1 = B6 at *
  generalize bs 2 = B7 at *
  generalize bs 3 = B4 at *
  generalize vs 1 = u6 at *
  generalize vs 2 = u7 at *
  generalize vs 3 = u4 at *
  obtain ⟨rfl, -⟩ := g1
  obtain ⟨rfl, hr0⟩ := g2
  obtain ⟨b4, rfl, rfl⟩ := g3
  have hr := hr0
  obtain ⟨a1, b1, c1, d1, e1, rfl, -⟩ := hr
  dsimp only [List.append_eq, List.nil_append, List.cons_append]
  refine XF.tl rfl rfl rfl (l_storeW rfl rfl Cel.cel (by kernel_rfl) (lnS (lnS (lnS (lnS (lnS (ln0)))))) (allS rfl (allS rfl (allS rfl (allS rfl (allS rfl (all0)))))) UpC.upd ?_)
  refine XF.fin (kp 1 rfl (kp 2 rfl (kp 4 rfl kn))) ?_
  refine XC.seq ?_
  refine XC.drawF [0, 1, 2, 3] [(0, 1), (2, 1), (1, 2), (3, 2)] (by kernel_rfl) (by kernel_rfl) fun hs => ?_
  refine XF.r hs rfl (q_loadW (n := 5) rfl (by kernel_rfl) (by first | exact At.mem | exact mA (by assumption)) (by rfl)) rfl ?_
  refine XF.r hs rfl (q_loadW (n := 5) rfl (by kernel_rfl) (by first | exact At.mem | exact mA (by assumption)) (by rfl)) rfl ?_
  refine XF.call rfl (aS rfl a0) (by kernel_rfl) (fsquare_spec _ _ hr0 _) rfl ?_
  rintro r2 M2 J2 ⟨rfl, rfl, hr2⟩
  have hr20 := hr2
  obtain ⟨a2, b2, c2, d2, e2, rfl, -⟩ := hr2
  refine XF.callV rfl (aS rfl (aS rfl a0)) (by kernel_rfl) (fsame_spec _ _ _ _ hr20 hx0 _) rfl ?_
  refine XF.fin (kp 1 rfl (kp 2 rfl (kp 4 rfl (kp 11 rfl kn)))) ?_
  refine XC.cond rfl (fun hc => ?_) (fun hc => ?_)
  ·
    have h1 : rt1 x * rt1 x % p25 = x := by simpa using hc
    refine XC.reg ?_
    refine XL.q (q_loadW (n := 5) rfl (by kernel_rfl) (by first | exact At.mem | exact mA (by assumption)) (by rfl)) rfl ?_
    refine XL.lo rfl (l_storeW rfl rfl Cel.cel (by kernel_rfl) (lnS (lnS (lnS (lnS (lnS (ln0)))))) (allS rfl (allS rfl (allS rfl (allS rfl (allS rfl (all0)))))) UpC.upd ?_)
    refine XL.q (q_assign rfl) rfl ?_
    refine XL.fin (kp 2 rfl (kp 3 rfl kn)) ?_
    refine XC.ret ?_
    refine tr ?_
    exact ⟨_, [], [], resC1 rfl rfl rfl (by kernel_rfl) At.mem (by rfl), List.nil_sublist _, by simp, rfl, rfl, _, _, rfl, .inl ⟨h1, rfl, hr0⟩⟩
  ·
    have h1 : rt1 x * rt1 x % p25 ≠ x := by simpa using hc
    refine XC.skip ?_
    refine nx (kp 1 rfl (kp 2 rfl (kp 4 rfl kn))) ?_
    refine XC.drawF [0, 1, 2, 3, 4] [(0, 1), (1, 2), (2, 2), (3, 2), (4, 2), (5, 2)] (by kernel_rfl) (by kernel_rfl) fun hs => ?_
    refine XF.r hs rfl (q_loadW (n := 5) rfl (by kernel_rfl) (by first | exact At.mem | exact mA (by assumption)) (by rfl)) rfl ?_
    refine XF.call rfl (aS rfl a0) (by kernel_rfl) (fnum_spec 2 (by decide) _) rfl ?_
    rintro r3 M3 J3 ⟨rfl, rfl, hr3⟩
    refine XF.call rfl (aS rfl (aS rfl a0)) (by kernel_rfl) (near_spec 253 5 (by decide) (by decide) (by decide) (by decide) _) rfl ?_
    rintro rn2 Mn Jn ⟨rfl, rfl, es, rfl, hel, he256, hbv⟩
    refine XF.call rfl (aS rfl (aS rfl a0)) (by kernel_rfl) (fpower_spec _ _ hr3 es hel he256 _) rfl ?_
    rintro r4 M4 J4 ⟨rfl, rfl, hr4⟩
    rw [rtp_eq hbv] at hr4
    refine XF.call rfl (aS rfl (aS rfl a0)) (by kernel_rfl) (fmul_spec _ _ _ _ hr0 hr4 _) rfl ?_
    rintro r5 M5 J5 ⟨rfl, rfl, hr5⟩
    rw [← rt2.eq_1] at hr5
    have hr50 := hr5
    obtain ⟨a5, b5, c5, d5, e5, rfl, -⟩ := hr5
    refine XF.tl rfl rfl rfl (l_storeW rfl rfl Cel.cel (by kernel_rfl) (lnS (lnS (lnS (lnS (lnS (ln0)))))) (allS rfl (allS rfl (allS rfl (allS rfl (allS rfl (all0)))))) UpC.upd ?_)
    refine XF.fin (kp 1 rfl (kp 2 rfl (kp 4 rfl kn))) ?_
    refine XC.seq ?_
    refine XC.drawF [0, 1, 2, 3] [(0, 1), (2, 1), (1, 2), (3, 2)] (by kernel_rfl) (by kernel_rfl) fun hs => ?_
    refine XF.r hs rfl (q_loadW (n := 5) rfl (by kernel_rfl) (by first | exact At.mem | exact mA (by assumption)) (by rfl)) rfl ?_
    refine XF.r hs rfl (q_loadW (n := 5) rfl (by kernel_rfl) (by first | exact At.mem | exact mA (by assumption)) (by rfl)) rfl ?_
    refine XF.call rfl (aS rfl a0) (by kernel_rfl) (fsquare_spec _ _ hr50 _) rfl ?_
    rintro r6 M6 J6 ⟨rfl, rfl, hr6⟩
    have hr60 := hr6
    obtain ⟨a6, b6, c6, d6, e6, rfl, -⟩ := hr6
    refine XF.callV rfl (aS rfl (aS rfl a0)) (by kernel_rfl) (fsame_spec _ _ _ _ hr60 hx0 _) rfl ?_
    refine XF.fin (kp 2 rfl (kp 4 rfl (kp 21 rfl kn))) ?_
    refine XC.cond rfl (fun hc => ?_) (fun hc => ?_)
    ·
      have h2 : rt2 x * rt2 x % p25 = x := by simpa using hc
      refine XC.reg ?_
      refine XL.q (q_loadW (n := 5) rfl (by kernel_rfl) (by first | exact At.mem | exact mA (by assumption)) (by rfl)) rfl ?_
      refine XL.lo rfl (l_storeW rfl rfl Cel.cel (by kernel_rfl) (lnS (lnS (lnS (lnS (lnS (ln0)))))) (allS rfl (allS rfl (allS rfl (allS rfl (allS rfl (all0)))))) UpC.upd ?_)
      refine XL.q (q_assign rfl) rfl ?_
      refine XL.fin (kp 2 rfl (kp 3 rfl kn)) ?_
      refine XC.ret ?_
      refine tr ?_
      exact ⟨_, [], [], resC1 rfl rfl rfl (by kernel_rfl) At.mem (by rfl), List.nil_sublist _, by simp, rfl, rfl, _, _, rfl, .inr (.inl ⟨h1, h2, rfl, hr50⟩)⟩
    ·
      have h2 : rt2 x * rt2 x % p25 ≠ x := by simpa using hc
      refine XC.skip ?_
      refine nx (kp 2 rfl kn) ?_
      refine XC.reg ?_
      refine XL.q (q_build (place := fun i => some (i * 1, 1)) (z := [.int .u64 0, .int .u64 0, .int .u64 0, .int .u64 0, .int .u64 0]) (fun _ => by kernel_rfl) e0 bd0) rfl ?_
      refine XL.lo rfl (l_storeW rfl rfl Cel.cel (by kernel_rfl) (lnS (lnS (lnS (lnS (lnS (ln0)))))) (allS rfl (allS rfl (allS rfl (allS rfl (allS rfl (all0)))))) UpC.upd ?_)
      refine XL.q (q_assign rfl) rfl ?_
      refine XL.fin (kp 2 rfl (kp 3 rfl kn)) ?_
      refine XC.ret ?_
      exact ⟨_, [], [], resC1 rfl rfl rfl (by kernel_rfl) At.mem (by rfl), List.nil_sublist _, by simp, rfl, rfl, _, _, rfl, .inr (.inr ⟨h1, h2, rfl, fe_zero⟩)⟩
