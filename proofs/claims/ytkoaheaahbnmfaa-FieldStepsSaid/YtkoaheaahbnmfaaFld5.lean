/- The walks of package field: Power. -/
import Derived.Test.YtkoaheaahbnmfaaFld4
set_option linter.unusedVariables false
set_option linter.unusedSimpArgs false
namespace Go.Proofs.Ytkoaheaahbnmfaa
open Go.Px
/-- x to the power of the number N's bits from i on, modulo p. -/
def pw (x N i : Nat) : Nat := x ^ (N / 2 ^ i) % p25
theorem pw_step (x N i : Nat) : pw x N i = (if N / 2 ^ i % 2 = 1 then pw x N (i + 1) * pw x N (i + 1) % p25 * (x % p25) % p25 else pw x N (i + 1) * pw x N (i + 1) % p25) := by
  have h : N / 2 ^ i = 2 * (N / 2 ^ (i + 1)) + N / 2 ^ i % 2 := by
    rw [Nat.pow_succ, ← Nat.div_div_eq_div_mul]; omega
  unfold pw
  have hb : N / 2 ^ i % 2 = 0 ∨ N / 2 ^ i % 2 = 1 := by omega
  rcases hb with hb | hb
  · rw [if_neg (by omega)]
    conv => lhs; rw [h, hb, Nat.add_zero, Nat.two_mul, Nat.pow_add, Nat.mul_mod]
  · rw [if_pos hb]
    conv => lhs; rw [h, hb, Nat.two_mul, Nat.pow_add, Nat.pow_add, Nat.pow_one, Nat.mul_mod, Nat.mul_mod (x ^ _)]

theorem fpower_spec (v : Value) (x : Nat) (hx : Fe v x) (es : List Nat) (hes : es.length = 32) (he256 : ∀ y ∈ es, y < 256) (A : Mem) : FnX Try.prog 15 [v, .agg (nums .u8 es).toArray] [] A fun r M J => M = [] ∧ J = [] ∧ Fe r (x ^ bv es % p25) := by
  have hx0 := hx
  have hxl := hx.lt
  obtain ⟨a, b, c, d, e, rfl, -⟩ := hx
  refine FnX.enter (N := 27) Try.func15 rfl rfl rfl fun w => ?_
  refine XC.keep (kp 0 rfl (kp 1 rfl kn)) ?_
  refine XC.reg ?_
  refine XL.lo rfl (l_box rfl rfl rfl fun b2 => ?_)
  refine XL.lo rfl (l_box rfl rfl rfl fun b3 => ?_)
  refine XL.lo rfl (l_alloc (cs := [.int .u64 0, .int .u64 0, .int .u64 0, .int .u64 0, .int .u64 0]) (by kernel_rfl) rfl fun b4 => ?_)
  refine XL.fin (kp 2 rfl (kp 3 rfl (kp 4 rfl kn))) ?_
  refine XC.reg ?_
  refine XL.call (aS rfl a0) (by kernel_rfl) (fnum_spec 1 (by decide) _) rfl ?_
  rintro r1 M1 J1 ⟨rfl, rfl, hr1⟩
  have hr10 := hr1
  obtain ⟨o0, o1, o2, o3, o4, rfl, -⟩ := hr1
  refine XL.lo rfl (l_alloc (cs := [.int .u64 0, .int .u64 0, .int .u64 0, .int .u64 0, .int .u64 0]) (by kernel_rfl) rfl fun b5 => ?_)
  refine XL.lo rfl (l_storeW rfl rfl Cel.cel (by kernel_rfl) (lnS (lnS (lnS (lnS (lnS (ln0)))))) (allS rfl (allS rfl (allS rfl (allS rfl (allS rfl (all0)))))) UpC.upd ?_)
  refine XL.fin (kp 2 rfl (kp 3 rfl (kp 4 rfl (kp 5 rfl kn)))) ?_
  refine XC.seq ?_
  refine XC.reg ?_
  refine XL.q (q_assign rfl) rfl ?_
  refine XL.fin (kp 2 rfl (kp 3 rfl (kp 4 rfl (kp 5 rfl (kp 6 rfl kn))))) ?_
  refine XC.block ?_
  refine XC.loop (α := Nat × Nat × Nat × Nat × Nat × Nat) (fun y => [(2, .pointer (some ⟨b2, 0, none⟩)), (3, .pointer (some ⟨b3, 0, none⟩)), (4, .pointer (some ⟨b4, 0, none⟩)), (5, .pointer (some ⟨b5, 0, none⟩)), (6, .int .i64 ((y.1 : Int) - 1))]) (fun y => [(b5, blk [.int .u64 (y.2.1 : Int), .int .u64 (y.2.2.1 : Int), .int .u64 (y.2.2.2.1 : Int), .int .u64 (y.2.2.2.2.1 : Int), .int .u64 (y.2.2.2.2.2 : Int)] 25), (b4, blk [.int .u64 0, .int .u64 0, .int .u64 0, .int .u64 0, .int .u64 0] 25), (b3, blk (nums .u8 es) 22), (b2, blk [.int .u64 (a : Int), .int .u64 (b : Int), .int .u64 (c : Int), .int .u64 (d : Int), .int .u64 (e : Int)] 25)]) (fun _ => []) (fun y => y.1 ≤ 256 ∧ Fe (el y.2.1 y.2.2.1 y.2.2.2.1 y.2.2.2.2.1 y.2.2.2.2.2) (pw x (bv es) y.1)) (fun y => y.1) (256, o0, o1, o2, o3, o4) ⟨Nat.le_refl _, by rw [show pw x (bv es) 256 = 1 by unfold pw; rw [Nat.div_eq_of_lt (by have := bv_lt he256; rw [hes] at this; exact this)]; rfl]; exact hr10⟩ (kp 2 rfl (kp 3 rfl (kp 4 rfl (kp 5 rfl (kp 6 rfl kn))))) .rfl (fun _ h => h) ?_
  rintro ⟨j, o0, o1, o2, o3, o4⟩ ⟨hj, ho⟩
  dsimp only at hj ho ⊢
  refine XC.seq ?_
  refine XC.reg ?_
  refine XL.q (q_move rfl) rfl ?_
  refine XL.q (q_bin rfl rfl rfl) rfl ?_
  refine XL.fin (kp 2 rfl (kp 3 rfl (kp 4 rfl (kp 5 rfl (kp 6 rfl (kp 9 rfl kn)))))) ?_
  refine XC.cond rfl (fun hc => ?_) (fun hc => ?_)
  ·
    have hj0 : 0 < j := by simp at hc; omega
    obtain ⟨i, rfl⟩ : ∃ i, j = i + 1 := ⟨j - 1, by omega⟩
    have ei : ((i + 1 : Nat) : Int) - 1 = (i : Int) := by omega
    rw [ei]
    have hps := pw_step x (bv es) i
    have hbit := bv_bit he256 i
    rw [← Nat.shiftRight_eq_div_pow] at hbit
    have hpb : es.getD (i / 8) 0 < 256 := getD_lt he256 (by decide)
    have hsr := Nat.shiftRight_le (es.getD (i / 8) 0) (i % 8)
    have hbt : bv es / 2 ^ i % 2 < 2 := Nat.mod_lt _ (by decide)
    generalize bv es / 2 ^ i % 2 = bt at *
    refine XC.skip ?_
    refine nx (kp 2 rfl (kp 3 rfl (kp 4 rfl (kp 5 rfl (kp 6 rfl kn))))) ?_
    refine XC.seq ?_
    refine XC.block ?_
    refine XC.reg ?_
    refine XL.q (q_loadW (n := 5) rfl (by kernel_rfl) (by first | exact At.mem | exact mA (by assumption)) (by rfl)) rfl ?_
    refine XL.call (aS rfl a0) (by kernel_rfl) (fsquare_spec _ _ ho _) rfl ?_
    rintro r2 M2 J2 ⟨rfl, rfl, hr2⟩
    have hr20 := hr2
    obtain ⟨s0, s1, s2, s3, s4, rfl, -⟩ := hr2
    refine XL.lo rfl (l_storeW rfl rfl Cel.cel (by kernel_rfl) (lnS (lnS (lnS (lnS (lnS (ln0)))))) (allS rfl (allS rfl (allS rfl (allS rfl (allS rfl (all0)))))) UpC.upd ?_)
    refine XL.fin (kp 2 rfl (kp 3 rfl (kp 4 rfl (kp 5 rfl (kp 6 rfl kn))))) ?_
    refine XC.reg ?_
    refine XL.q (q_move rfl) rfl ?_
    refine XL.q (q_quoD 8 rfl rfl rfl (by decide) (wrapI (by omega))) rfl ?_
    refine XL.q (q_idxA (e := 5) (n := 32) (sz := 1) (i := i / 8) rfl rfl (by kernel_rfl) (by kernel_rfl) rfl (by omega)) rfl ?_
    refine XL.q (q_ldN (i / 8) rfl (by kernel_rfl) At.mem (by omega) (by omega)) rfl ?_
    refine XL.q (q_move rfl) rfl ?_
    refine XL.q (q_remD 8 rfl rfl rfl (by decide)) rfl ?_
    refine XL.q (q_shrN (i % 8) rfl rfl rfl (by show _ ≤ 8; omega)) rfl ?_
    refine XL.q (hbit ▸ q_andD 1 2 rfl rfl rfl rfl rfl (by show _ < 256; omega) (by decide)) rfl ?_
    refine XL.q (q_bin rfl rfl rfl) rfl ?_
    refine XL.fin (kp 2 rfl (kp 3 rfl (kp 4 rfl (kp 5 rfl (kp 6 rfl (kp 22 rfl kn)))))) ?_
    refine XC.cond rfl (fun hc => ?_) (fun hc => ?_)
    ·
      have hb1 : bt = 1 := by simp at hc; omega
      rw [if_pos hb1] at hps
      refine XC.reg1 ?_
      refine XL.q (q_loadW (n := 5) rfl (by kernel_rfl) (by first | exact At.mem | exact mA (by assumption)) (by rfl)) rfl ?_
      refine XL.q (q_loadW (n := 5) rfl (by kernel_rfl) (by first | exact At.mem | exact mA (by assumption)) (by rfl)) rfl ?_
      refine XL.call (aS rfl (aS rfl a0)) (by kernel_rfl) (fmul_spec _ _ _ _ hr20 hx0 _) rfl ?_
      rintro r3 M3 J3 ⟨rfl, rfl, hr3⟩
      rw [Nat.mod_eq_of_lt hxl] at hps
      rw [← hps] at hr3
      have hr30 := hr3
      obtain ⟨t0, t1, t2, t3, t4, rfl, -⟩ := hr3
      refine XL.lo rfl (l_storeW rfl rfl Cel.cel (by kernel_rfl) (lnS (lnS (lnS (lnS (lnS (ln0)))))) (allS rfl (allS rfl (allS rfl (allS rfl (allS rfl (all0)))))) UpC.upd ?_)
      refine XL.nil ?_
      refine nb ?_
      refine nx (kp 2 rfl (kp 3 rfl (kp 4 rfl (kp 5 rfl (kp 6 rfl kn))))) ?_
      refine XC.reg1 ?_
      refine XL.q (q_move rfl) rfl ?_
      refine XL.q (q_num ((i : Int) - 1) rfl rfl (sub64 rfl (by omega) (by omega))) rfl ?_
      refine XL.q (q_assign rfl) rfl ?_
      refine XL.nil ?_
      exact rn (i, t0, t1, t2, t3, t4) ⟨by dsimp only; omega, hr30⟩ (by dsimp only; omega) (kp 2 rfl (kp 3 rfl (kp 4 rfl (kp 5 rfl (kp 6 rfl kn))))) .rfl (fun _ h => h)
    ·
      have hb1 : ¬ bt = 1 := by simp at hc; omega
      rw [if_neg hb1] at hps
      refine XC.skip ?_
      refine nb ?_
      refine nx (kp 2 rfl (kp 3 rfl (kp 4 rfl (kp 5 rfl (kp 6 rfl kn))))) ?_
      refine XC.reg1 ?_
      refine XL.q (q_move rfl) rfl ?_
      refine XL.q (q_num ((i : Int) - 1) rfl rfl (sub64 rfl (by omega) (by omega))) rfl ?_
      refine XL.q (q_assign rfl) rfl ?_
      refine XL.nil ?_
      exact rn (i, s0, s1, s2, s3, s4) ⟨by dsimp only; omega, by dsimp only; rw [hps]; exact hr20⟩ (by dsimp only; omega) (kp 2 rfl (kp 3 rfl (kp 4 rfl (kp 5 rfl (kp 6 rfl kn))))) .rfl (fun _ h => h)
  ·
    have hj0 : j = 0 := by simp at hc; omega
    subst hj0
    refine XC.exit ?_
    refine te ?_
    refine re ?_
    refine be rfl ?_
    refine nx (kp 4 rfl (kp 5 rfl kn)) ?_
    refine XC.reg ?_
    refine XL.q (q_loadW (n := 5) rfl (by kernel_rfl) (by first | exact At.mem | exact mA (by assumption)) (by rfl)) rfl ?_
    refine XL.lo rfl (l_storeW rfl rfl Cel.cel (by kernel_rfl) (lnS (lnS (lnS (lnS (lnS (ln0)))))) (allS rfl (allS rfl (allS rfl (allS rfl (allS rfl (all0)))))) UpC.upd ?_)
    refine XL.fin (kp 4 rfl kn) ?_
    refine XC.ret ?_
    refine ⟨_, [], [], resC rfl rfl (by kernel_rfl) At.mem (by rfl), List.nil_sublist _, by simp, rfl, rfl, ?_⟩
    have : pw x (bv es) 0 = x ^ bv es % p25 := by unfold pw; rw [Nat.pow_zero, Nat.div_one]
    rw [← this]; exact ho
