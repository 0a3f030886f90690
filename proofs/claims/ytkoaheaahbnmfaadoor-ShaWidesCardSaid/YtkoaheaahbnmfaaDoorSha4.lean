/- The walks of pawlref02's prime, roots, turn. -/
import Derived.Test.YtkoaheaahbnmfaaDoorRNat
import Derived.Test.YtkoaheaahbnmfaaDoorRootL
set_option linter.unusedVariables false
set_option linter.unusedSimpArgs false
namespace Go.Proofs.YtkoaheaahbnmfaaDoor
open Go.Px

theorem prime_spec (n : Nat) (hn : n < 4611686018427387904) (A : Mem) : FnV Tryd.prog 21 [.int .i64 (n : Int)] A (.bool (isPr n)) := by
  refine FnX.enter (N := 15) Tryd.func21 rfl rfl rfl fun w => ?_
  refine XC.keep (kp 0 rfl kn) ?_
  refine XC.reg ?_
  refine XL.q (q_assign rfl) rfl ?_
  refine XL.fin (kp 0 rfl kn) ?_
  refine XC.seq ?_
  refine XC.reg ?_
  refine XL.q (q_assign rfl) rfl ?_
  refine XL.fin (kp 0 rfl (kp 3 rfl kn)) ?_
  refine XC.block ?_
  refine XC.loop (α := Nat) (fun i => [(0, .int .i64 (n : Int)), (3, .int .i64 (i : Int))]) (fun _ => []) (fun _ => []) (fun i => 2 ≤ i ∧ ∀ j, 2 ≤ j → j < i → n % j ≠ 0) (fun i => n - i) 2 ⟨Nat.le_refl _, fun j h1 h2 => by omega⟩ (kp 0 rfl (kp 3 rfl kn)) .rfl (fun _ h => h) ?_
  rintro i ⟨hi, hj⟩
  refine XC.seq ?_
  refine XC.reg ?_
  refine XL.q (q_move rfl) rfl ?_
  refine XL.q (q_move rfl) rfl ?_
  refine XL.q (q_bin rfl rfl rfl) rfl ?_
  refine XL.fin (kp 0 rfl (kp 3 rfl (kp 6 rfl kn))) ?_
  refine XC.cond rfl (fun hc => ?_) (fun hc => ?_)
  ·
    have hlt : i < n := by simp at hc; omega
    refine XC.skip ?_
    refine nx (kp 0 rfl (kp 3 rfl kn)) ?_
    refine XC.seq ?_
    refine XC.block ?_
    refine XC.reg ?_
    refine XL.q (q_move rfl) rfl ?_
    refine XL.q (q_move rfl) rfl ?_
    refine XL.q (q_remN rfl rfl (by omega)) rfl ?_
    refine XL.q (q_bin rfl rfl rfl) rfl ?_
    refine XL.fin (kp 0 rfl (kp 3 rfl (kp 12 rfl kn))) ?_
    refine XC.cond rfl (fun hc => ?_) (fun hc => ?_)
    ·
      have h0 : n % i = 0 := by simp at hc; omega
      refine XC.reg ?_
      refine XL.q (q_assign rfl) rfl ?_
      refine XL.fin (kp 2 rfl kn) ?_
      refine XC.ret ?_
      refine br ?_
      refine tr ?_
      refine rr ?_
      refine br ?_
      refine tr ?_
      exact ⟨_, [], [], res1 rfl rfl, List.nil_sublist _, by simp, by rw [isPr_no hi hlt h0], rfl, rfl⟩
    ·
      have h0 : n % i ≠ 0 := by simp at hc; omega
      refine XC.skip ?_
      refine nb ?_
      refine nx (kp 0 rfl (kp 3 rfl kn)) ?_
      refine XC.reg1 ?_
      refine XL.q (q_move rfl) rfl ?_
      refine XL.q (q_num ((i + 1 : Nat) : Int) rfl rfl (add64 (by omega) (by omega) (by omega))) rfl ?_
      refine XL.q (q_assign rfl) rfl ?_
      refine XL.nil ?_
      refine rn (i + 1) ⟨by omega, fun j h1 h2 => ?_⟩ (by omega) (kp 0 rfl (kp 3 rfl kn)) .rfl (fun _ h => h)
      by_cases hji : j = i
      · subst hji; exact h0
      · exact hj j h1 (by omega)
  ·
    have hlt : n ≤ i := by simp at hc; omega
    refine XC.exit ?_
    refine te ?_
    refine re ?_
    refine be rfl ?_
    refine nx (kp 0 rfl kn) ?_
    refine XC.reg ?_
    refine XL.q (q_move rfl) rfl ?_
    refine XL.q (q_bin rfl rfl rfl) rfl ?_
    refine XL.q (q_assign rfl) rfl ?_
    refine XL.fin (kp 2 rfl kn) ?_
    refine XC.ret ?_
    exact ⟨_, [], [], res1 rfl rfl, List.nil_sublist _, by simp, by rw [isPr_yes fun j h1 h2 => hj j h1 (by omega)]; congr 1; simp; omega, rfl, rfl⟩

theorem turn_spec (x n : Nat) (k : Int) (A : Mem) (hx : x < 4294967296) (hn : n < 32) (hk : k = n) : FnV Tryd.prog 19 [.int .u32 (x : Int), .int .i64 k] A (.int .u32 (rotr x n : Nat)) := by
  refine FnX.enter (N := 13) Tryd.func19 rfl rfl rfl fun w => ?_
  refine XC.keep (kp 0 rfl (kp 1 rfl kn)) ?_
  refine XC.reg ?_
  refine XL.q (q_assign rfl) rfl ?_
  refine XL.fin (kp 0 rfl (kp 1 rfl kn)) ?_
  refine XC.draw ([]) [] [(0, 0), (1, 0), (2, 0), (3, 0), (4, 0), (5, 0), (6, 0), (7, 0), (8, 0)] (by kernel_rfl) (by kernel_rfl) (by simp) fun hs => ?_
  refine XP.q hs rfl (q_move rfl) rfl ?_
  refine XP.q hs rfl (q_move rfl) rfl ?_
  refine XP.q hs rfl (q_shrN n rfl rfl hk (by show n ≤ 32; omega)) rfl ?_
  refine XP.q hs rfl (q_move rfl) rfl ?_
  refine XP.q hs rfl (q_move rfl) rfl ?_
  refine XP.q hs rfl (q_num ((32 - n : Nat) : Int) rfl rfl (sub64 (by omega) (by omega) (by omega))) rfl ?_
  refine XP.q hs rfl (q_shl32 (32 - n) rfl rfl rfl (by omega)) rfl ?_
  refine XP.q hs rfl (q_or32 rfl rfl (shr32 hx) mod32) rfl ?_
  refine XP.q hs rfl (q_assign rfl) rfl ?_
  refine XP.fin (kp 4 rfl kn) ?_
  refine XC.ret ?_
  exact ⟨_, [], [], res1 rfl rfl, List.nil_sublist _, by simp, rfl, rfl, rfl⟩

theorem roots_spec (many k : Nat) (hk1 : 1 ≤ k) (hk3 : k ≤ 3) (hm : many ≤ 64) (A : Mem) : FnX Tryd.prog 18 [.int .i64 (many : Int), .int .i64 (k : Int)] [] A fun r M J => J = [] ∧ Sl 1 r many (nums .u32 ((rl k 312).take many)) M := by
  refine FnX.enter (N := 62) Tryd.func18 rfl rfl rfl fun w => ?_
  refine XC.keep (kp 0 rfl (kp 1 rfl kn)) ?_
  refine XC.reg ?_
  refine XL.q (q_assign rfl) rfl ?_
  refine XL.fin (kp 0 rfl (kp 1 rfl kn)) ?_
  refine XC.reg ?_
  refine XL.q (q_assign rfl) rfl ?_
  refine XL.fin (kp 0 rfl (kp 1 rfl (kp 5 rfl kn))) ?_
  refine XC.seq ?_
  refine XC.reg ?_
  refine XL.q (q_assign rfl) rfl ?_
  refine XL.fin (kp 0 rfl (kp 1 rfl (kp 5 rfl (kp 6 rfl kn)))) ?_
  refine XC.block ?_
  refine XC.loop (α := Nat × Value × Mem) (fun x => [(0, .int .i64 (many : Int)), (1, .int .i64 (k : Int)), (5, x.2.1), (6, .int .i64 (x.1 : Int))]) (fun x => x.2.2) (fun _ => []) (fun x => 2 ≤ x.1 ∧ x.1 ≤ 312 ∧ (rl k x.1).length ≤ many ∧ Sl 1 x.2.1 (rl k x.1).length (nums .u32 (rl k x.1)) x.2.2) (fun x => 312 - x.1) (2, .slice none 0 0, []) ⟨Nat.le_refl _, by decide, Nat.zero_le _, Sl.nil⟩ (kp 0 rfl (kp 1 rfl (kp 5 rfl (kp 6 rfl kn)))) .rfl (fun _ h => h) ?_
  rintro ⟨p, lv, Bl⟩ ⟨hp2, hp, hlen, hsl⟩
  dsimp only at hp2 hp hlen hsl ⊢
  refine XC.seq ?_
  refine XC.reg ?_
  refine XL.q (q_move rfl) rfl ?_
  refine XL.q (q_lenV (hsl.rd fun _ h => h) rfl (by kernel_rfl)) rfl ?_
  refine XL.q (q_move rfl) rfl ?_
  refine XL.q (q_bin rfl rfl rfl) rfl ?_
  refine XL.fin (kp 0 rfl (kp 1 rfl (kp 5 rfl (kp 6 rfl (kp 16 rfl kn))))) ?_
  refine XC.cond rfl (fun hc => ?_) (fun hc => ?_)
  ·
    have hlt : (rl k p).length < many := by simp at hc; omega
    have hp312 : p < 312 := by
      rcases Nat.lt_or_ge p 312 with h | h
      · exact h
      · obtain rfl : p = 312 := by omega
        rw [rl_count] at hlt; omega
    refine XC.skip ?_
    refine nx (kp 0 rfl (kp 1 rfl (kp 5 rfl (kp 6 rfl kn)))) ?_
    refine XC.seq ?_
    refine XC.block ?_
    refine XC.seq ?_
    refine XC.reg ?_
    refine XL.q (q_move rfl) rfl ?_
    refine XL.cv (aS rfl a0) (by kernel_rfl) (prime_spec p (by omega) _) rfl ?_
    refine XL.q (q_not rfl) rfl ?_
    refine XL.fin (kp 0 rfl (kp 1 rfl (kp 5 rfl (kp 6 rfl (kp 21 rfl kn))))) ?_
    refine XC.cond rfl (fun hc => ?_) (fun hc => ?_)
    ·
      have hpr : isPr p = false := by simpa using hc
      refine XC.exit ?_
      refine te ?_
      refine be rfl ?_
      refine nx (kp 0 rfl (kp 1 rfl (kp 5 rfl (kp 6 rfl kn)))) ?_
      refine XC.reg1 ?_
      refine XL.q (q_move rfl) rfl ?_
      refine XL.q (q_num ((p + 1 : Nat) : Int) rfl rfl (add64 (by omega) (by omega) (by omega))) rfl ?_
      refine XL.q (q_assign rfl) rfl ?_
      refine XL.nil ?_
      refine rn (p + 1, lv, Bl) ⟨by dsimp only; omega, by dsimp only; omega, by dsimp only; rw [rl_no hpr]; exact hlen, by dsimp only; rw [rl_no hpr]; exact hsl⟩ (by dsimp only; omega) (kp 0 rfl (kp 1 rfl (kp 5 rfl (kp 6 rfl kn)))) .rfl (fun _ h => h)
    ·
      have hpr : isPr p = true := by simpa using hc
      refine XC.skip ?_
      refine nx (kp 0 rfl (kp 1 rfl (kp 5 rfl (kp 6 rfl kn)))) ?_
      refine XC.reg ?_
      refine XL.q (q_move rfl) rfl ?_
      refine XL.q (q_num ((k + 1 : Nat) : Int) rfl rfl (add64 (by omega) (by omega) (by omega))) rfl ?_
      refine XL.lo rfl (l_makeN (e := 36) (k := .u32) (by_ := 4) (k + 1) rfl rfl (by kernel_rfl) rfl rfl (by omega) (by omega) rfl fun bn => ?_)
      refine XL.q (q_assign rfl) rfl ?_
      refine XL.fin (kp 0 rfl (kp 1 rfl (kp 5 rfl (kp 6 rfl (kp 7 rfl kn))))) ?_
      refine XC.reg ?_
      refine XL.q (q_move rfl) rfl ?_
      refine XL.q (q_move rfl) rfl ?_
      refine XL.q (q_move rfl) rfl ?_
      refine XL.q (q_same (k' := .u32) rfl (by kernel_rfl) (by show _ < 2147483648; omega)) rfl ?_
      refine XL.q (q_idxS (i := k) (e := 36) (sz := 1) rfl rfl (by kernel_rfl) (by kernel_rfl) rfl (by omega)) rfl ?_
      refine XL.lo rfl (l_stN (ws := List.replicate (k + 1) 0) k rfl rfl (by kernel_rfl) (by omega) (by simp) UpC.upd ?_)
      have hnw : Rd [(bn, blk (nums .u32 ((List.replicate (k + 1) 0).set k p)) 36)] 1 (.slice (some ⟨bn, 0, none⟩) (k + 1) (k + 1)) ((List.replicate (k + 1) 0).set k p).length (nums .u32 ((List.replicate (k + 1) 0).set k p)) := rd_eq (Rd.whole (n := k + 1) (List.mem_singleton.2 rfl) (by simp)) (by simp) rfl
      have hnn : nv ((List.replicate (k + 1) 0).set k p) = p * xp k := by
        have := nv_set (ws := List.replicate (k + 1) 0) (j := k) (x := p) (by simp)
        rw [nv_repl] at this
        simp at this
        rw [this, Nat.mul_comm]
      have hn32 : w32 ((List.replicate (k + 1) 0).set k p) := (w32_repl _).set (by omega)
      have hnl : ((List.replicate (k + 1) 0).set k p).length ≤ 4 := by simp; omega
      generalize (List.replicate (k + 1) 0).set k p = nws at *
      generalize hsv : (Value.slice (some ⟨bn, 0, none⟩) (k + 1) (k + 1)) = nval at *
      refine XL.fin (kp 0 rfl (kp 1 rfl (kp 5 rfl (kp 6 rfl (kp 7 rfl kn))))) ?_
      refine XC.reg ?_
      refine XL.q (q_assign rfl) rfl ?_
      refine XL.fin (kp 0 rfl (kp 1 rfl (kp 5 rfl (kp 6 rfl (kp 7 rfl (kp 8 rfl kn)))))) ?_
      refine XC.seq ?_
      refine XC.reg ?_
      refine XL.q (q_assign rfl) rfl ?_
      refine XL.fin (kp 0 rfl (kp 1 rfl (kp 5 rfl (kp 6 rfl (kp 7 rfl (kp 8 rfl (kp 9 rfl kn))))))) ?_
      refine XC.block ?_
      refine XC.loop (α := Nat × Nat) (fun x => [(0, .int .i64 (many : Int)), (1, .int .i64 (k : Int)), (5, lv), (6, .int .i64 (p : Int)), (7, nval), (8, .int .u64 (x.2 : Int)), (9, .int .i64 ((x.1 : Int) - 1))]) (fun _ => (bn, blk (nums .u32 nws) 36) :: Bl) (fun _ => []) (fun x => x.1 ≤ 40 ∧ x.2 + 2 ^ x.1 ≤ 1099511627776 ∧ rootD k p x.1 x.2 = rootD k p 40 0) (fun x => x.1) (40, 0) ⟨by decide, by decide, rfl⟩ (kp 0 rfl (kp 1 rfl (kp 5 rfl (kp 6 rfl (kp 7 rfl (kp 8 rfl (kp 9 rfl kn))))))) .rfl (fun _ h => h) ?_
      rintro ⟨j, lo⟩ ⟨hj, hlo, hrt⟩
      dsimp only at hj hlo hrt ⊢
      refine XC.seq ?_
      refine XC.reg ?_
      refine XL.q (q_move rfl) rfl ?_
      refine XL.q (q_bin rfl rfl rfl) rfl ?_
      refine XL.fin (kp 0 rfl (kp 1 rfl (kp 5 rfl (kp 6 rfl (kp 7 rfl (kp 8 rfl (kp 9 rfl (kp 31 rfl kn)))))))) ?_
      refine XC.cond rfl (fun hc => ?_) (fun hc => ?_)
      ·
        have hj0 : 0 < j := by simp at hc; omega
        have hpw : 2 ^ j = 2 * 2 ^ (j - 1) := by rw [← Nat.pow_succ', show (j - 1).succ = j by omega]
        refine XC.skip ?_
        refine nx (kp 0 rfl (kp 1 rfl (kp 5 rfl (kp 6 rfl (kp 7 rfl (kp 8 rfl (kp 9 rfl kn))))))) ?_
        refine XC.seq ?_
        refine XC.block ?_
        refine XC.reg ?_
        refine XL.q (q_move rfl) rfl ?_
        refine XL.q (q_move rfl) rfl ?_
        refine XL.q (q_shlN (a := 1) (k := .u64) rfl (j - 1) rfl rfl (by omega) (by show _ ≤ 64; omega)) rfl ?_
        refine XL.q (q_num ((lo + 2 ^ (j - 1) : Nat) : Int) rfl rfl (addU (k := .u64) rfl _ (add_shl (by omega) (by rw [show j - 1 + 1 = j by omega]; exact hlo)))) rfl ?_
        refine XL.lo rfl (l_call (Mc := []) (R := _ :: Bl) (aS rfl a0) (by kernel_rfl) (.refl _) (small_spec (lo + 2 ^ (j - 1)) (by omega) _) rfl ?_)
        rintro xv Bx J1 ⟨rfl, xs, hxs, hx32, hxn, hxl⟩
        refine XL.q (q_assign rfl) rfl ?_
        refine XL.fin (kp 0 rfl (kp 1 rfl (kp 5 rfl (kp 6 rfl (kp 7 rfl (kp 8 rfl (kp 9 rfl (kp 10 rfl kn)))))))) ?_
        refine XC.reg ?_
        refine XL.q (q_move rfl) rfl ?_
        refine XL.q (q_assign rfl) rfl ?_
        refine XL.fin (kp 0 rfl (kp 1 rfl (kp 5 rfl (kp 6 rfl (kp 7 rfl (kp 8 rfl (kp 9 rfl (kp 10 rfl (kp 11 rfl kn))))))))) ?_
        refine XC.seq ?_
        refine XC.reg ?_
        refine XL.q (q_assign rfl) rfl ?_
        refine XL.fin (kp 0 rfl (kp 1 rfl (kp 5 rfl (kp 6 rfl (kp 7 rfl (kp 8 rfl (kp 9 rfl (kp 10 rfl (kp 11 rfl (kp 12 rfl kn)))))))))) ?_
        refine XC.block ?_
        refine XC.loop (α := Nat × Value × List Nat × Mem) (fun x => [(0, .int .i64 (many : Int)), (1, .int .i64 (k : Int)), (5, lv), (6, .int .i64 (p : Int)), (7, nval), (8, .int .u64 (lo : Int)), (9, .int .i64 ((j : Int) - 1)), (10, xv), (11, x.2.1), (12, .int .i64 (x.1 : Int))]) (fun x => x.2.2.2 ++ (Bx ++ ((bn, blk (nums .u32 nws) 36) :: Bl))) (fun _ => []) (fun x => 1 ≤ x.1 ∧ x.1 ≤ k ∧ Rw (x.2.2.2 ++ Bx) x.2.1 x.2.2.1 ∧ w32 x.2.2.1 ∧ nv x.2.2.1 = (lo + 2 ^ (j - 1)) ^ x.1 ∧ x.2.2.1.length ≤ 2 * x.1) (fun x => k - x.1) (1, xv, xs, []) ⟨Nat.le_refl _, by dsimp only; omega, hxs.rd (fun _ h => h), hx32, by rw [hxn, Nat.pow_one], hxl⟩ (kp 0 rfl (kp 1 rfl (kp 5 rfl (kp 6 rfl (kp 7 rfl (kp 8 rfl (kp 9 rfl (kp 10 rfl (kp 11 rfl (kp 12 rfl kn)))))))))) .rfl (fun _ h => h) ?_
        rintro ⟨i, yv, ys, By⟩ ⟨hi1, hik, hy, hy32, hyn, hyl⟩
        dsimp only at hi1 hik hy hy32 hyn hyl ⊢
        refine XC.seq ?_
        refine XC.reg ?_
        refine XL.q (q_move rfl) rfl ?_
        refine XL.q (q_move rfl) rfl ?_
        refine XL.q (q_bin rfl rfl rfl) rfl ?_
        refine XL.fin (kp 0 rfl (kp 1 rfl (kp 5 rfl (kp 6 rfl (kp 7 rfl (kp 8 rfl (kp 9 rfl (kp 10 rfl (kp 11 rfl (kp 12 rfl (kp 42 rfl kn))))))))))) ?_
        refine XC.cond rfl (fun hc => ?_) (fun hc => ?_)
        ·
          have hlt2 : i < k := by simp at hc; omega
          refine XC.skip ?_
          refine nx (kp 0 rfl (kp 1 rfl (kp 5 rfl (kp 6 rfl (kp 7 rfl (kp 8 rfl (kp 9 rfl (kp 10 rfl (kp 11 rfl (kp 12 rfl kn)))))))))) ?_
          refine XC.seq ?_
          refine XC.block ?_
          refine XC.reg1 ?_
          refine XL.q (q_move rfl) rfl ?_
          refine XL.q (q_move rfl) rfl ?_
          refine XL.lo rfl (l_call (Mc := []) (R := By ++ (Bx ++ (_ :: Bl))) (aS rfl (aS rfl a0)) (by kernel_rfl) (.refl _) (times_spec yv xv ys xs _ (hy.mono fun q hq => by rcases List.mem_append.1 hq with h | h <;> simp [h]) (hxs.rd fun _ h => by simp [h]) hy32 hx32 (by omega) (by omega)) rfl ?_)
          rintro zv Bz J2 ⟨rfl, zs, hzs, hz32, hzn, hzl⟩
          refine XL.q (q_assign rfl) rfl ?_
          refine XL.nil ?_
          refine nb ?_
          refine nx (kp 0 rfl (kp 1 rfl (kp 5 rfl (kp 6 rfl (kp 7 rfl (kp 8 rfl (kp 9 rfl (kp 10 rfl (kp 11 rfl (kp 12 rfl kn)))))))))) ?_
          refine XC.reg1 ?_
          refine XL.q (q_move rfl) rfl ?_
          refine XL.q (q_num ((i + 1 : Nat) : Int) rfl rfl (add64 (by omega) (by omega) (by omega))) rfl ?_
          refine XL.q (q_assign rfl) rfl ?_
          refine XL.nil ?_
          refine rn (i + 1, zv, zs, Bz) ⟨by dsimp only; omega, by dsimp only; omega, hzs.rd (fun _ h => by simp [h]), hz32, ?_, by dsimp only; omega⟩ (by dsimp only; omega) (kp 0 rfl (kp 1 rfl (kp 5 rfl (kp 6 rfl (kp 7 rfl (kp 8 rfl (kp 9 rfl (kp 10 rfl (kp 11 rfl (kp 12 rfl kn)))))))))) (Fit.sub (List.Sublist.append (List.Sublist.refl _) (List.sublist_append_right _ _))) (fun _ h => h)
          dsimp only
          rw [hzn, hyn, hxn, Nat.pow_succ]
        ·
          have hlt2 : i = k := by simp at hc; omega
          subst hlt2
          refine XC.exit ?_
          refine te ?_
          refine re ?_
          refine be rfl ?_
          refine nx (kp 0 rfl (kp 1 rfl (kp 5 rfl (kp 6 rfl (kp 7 rfl (kp 8 rfl (kp 9 rfl (kp 11 rfl kn)))))))) ?_
          refine XC.reg ?_
          refine XL.q (q_move rfl) rfl ?_
          refine XL.q (q_move rfl) rfl ?_
          refine XL.lo rfl (l_call (Mc := []) (R := By ++ (Bx ++ (_ :: Bl))) (aS rfl (aS rfl a0)) (by kernel_rfl) (.refl _) (cmp_spec yv nval ys nws _ (hy.mono fun q hq => by rcases List.mem_append.1 hq with h | h <;> simp [h]) (hnw.mono fun q hq => by simp at hq; subst hq; simp) hy32 hn32 (by omega) (by omega)) rfl ?_)
          rintro cv M2 J2 ⟨rfl, rfl, cc, rfl, hcl, hcg⟩
          rw [hyn, hnn] at hcl hcg
          refine XL.q (q_bin rfl rfl rfl) rfl ?_
          refine XL.fin (kp 0 rfl (kp 1 rfl (kp 5 rfl (kp 6 rfl (kp 7 rfl (kp 8 rfl (kp 9 rfl (kp 51 rfl kn)))))))) ?_
          refine XC.cond rfl (fun hc => ?_) (fun hc => ?_)
          ·
            have hle : (lo + 2 ^ (j - 1)) ^ i ≤ p * xp i := by simp at hc; omega
            refine XC.reg1 ?_
            refine XL.q (q_move rfl) rfl ?_
            refine XL.q (q_move rfl) rfl ?_
            refine XL.q (q_shlN (a := 1) (k := .u64) rfl (j - 1) rfl rfl (by omega) (by show _ ≤ 64; omega)) rfl ?_
            refine XL.q (q_num ((lo + 2 ^ (j - 1) : Nat) : Int) rfl rfl (addU (k := .u64) rfl _ (add_shl (by omega) (by rw [show j - 1 + 1 = j by omega]; exact hlo)))) rfl ?_
            refine XL.q (q_assign rfl) rfl ?_
            refine XL.nil ?_
            refine nb ?_
            refine nx (kp 0 rfl (kp 1 rfl (kp 5 rfl (kp 6 rfl (kp 7 rfl (kp 8 rfl (kp 9 rfl kn))))))) ?_
            refine XC.reg1 ?_
            refine XL.q (q_move rfl) rfl ?_
            refine XL.q (q_num (((j - 1 : Nat) : Int) - 1) rfl rfl (sub64 (by omega) (by omega) (by omega))) rfl ?_
            refine XL.q (q_assign rfl) rfl ?_
            refine XL.nil ?_
            refine rn (j - 1, lo + 2 ^ (j - 1)) ⟨by dsimp only; omega, ?_, ?_⟩ (by dsimp only; omega) (kp 0 rfl (kp 1 rfl (kp 5 rfl (kp 6 rfl (kp 7 rfl (kp 8 rfl (kp 9 rfl kn))))))) (Fit.sub ((List.sublist_append_right _ _).trans (List.sublist_append_right _ _))) (fun _ h => h)
            · dsimp only; omega
            · rw [← hrt]
              obtain ⟨j', rfl⟩ : ∃ j', j = j' + 1 := ⟨j - 1, by omega⟩
              simp only [Nat.add_sub_cancel] at hle ⊢
              rw [rootD, rootStep, if_pos hle]
          ·
            have hle : ¬ (lo + 2 ^ (j - 1)) ^ i ≤ p * xp i := by simp at hc; omega
            refine XC.skip ?_
            refine nb ?_
            refine nx (kp 0 rfl (kp 1 rfl (kp 5 rfl (kp 6 rfl (kp 7 rfl (kp 8 rfl (kp 9 rfl kn))))))) ?_
            refine XC.reg1 ?_
            refine XL.q (q_move rfl) rfl ?_
            refine XL.q (q_num (((j - 1 : Nat) : Int) - 1) rfl rfl (sub64 (by omega) (by omega) (by omega))) rfl ?_
            refine XL.q (q_assign rfl) rfl ?_
            refine XL.nil ?_
            refine rn (j - 1, lo) ⟨by dsimp only; omega, ?_, ?_⟩ (by dsimp only; omega) (kp 0 rfl (kp 1 rfl (kp 5 rfl (kp 6 rfl (kp 7 rfl (kp 8 rfl (kp 9 rfl kn))))))) (Fit.sub ((List.sublist_append_right _ _).trans (List.sublist_append_right _ _))) (fun _ h => h)
            · dsimp only; omega
            · rw [← hrt]
              obtain ⟨j', rfl⟩ : ∃ j', j = j' + 1 := ⟨j - 1, by omega⟩
              simp only [Nat.add_sub_cancel] at hle ⊢
              rw [rootD, rootStep, if_neg hle]
      ·
        have hj0 : j = 0 := by simp at hc; omega
        subst hj0
        refine XC.exit ?_
        refine te ?_
        refine re ?_
        refine be rfl ?_
        refine nx (kp 0 rfl (kp 1 rfl (kp 5 rfl (kp 6 rfl (kp 8 rfl kn))))) ?_
        refine XC.reg1 ?_
        refine XL.q (q_move rfl) rfl ?_
        refine XL.q (q_move rfl) rfl ?_
        refine XL.q (q_to32 rfl (by kernel_rfl)) rfl ?_
        refine XL.lo rfl (l_buildSlice (e := 36) (sz := 1) (z := [.int .u32 0]) (by kernel_rfl) (eS rfl e0) (bdS 0 1 rfl (by rfl) bd0) rfl fun b59 => ?_)
        refine XL.lo rfl (l_append (e := 36) (sz := 1) (by_ := 4) (m := 1) (B := Bl) (ys := nums .u32 [lo % 4294967296]) (M0 := [_, _]) rfl rfl (by kernel_rfl) rfl hsl (Rd.whole (n := 1) m0 (by rfl)) nums_one (List.perm_append_comm (l₁ := [_, _])) (by unfold maxLen; omega) (by omega) rfl fun lv2 Bl2 hsl2 => ?_)
        refine XL.q (q_assign rfl) rfl ?_
        refine XL.nil ?_
        refine nb ?_
        refine nx (kp 0 rfl (kp 1 rfl (kp 5 rfl (kp 6 rfl kn)))) ?_
        refine XC.reg1 ?_
        refine XL.q (q_move rfl) rfl ?_
        refine XL.q (q_num ((p + 1 : Nat) : Int) rfl rfl (add64 (by omega) (by omega) (by omega))) rfl ?_
        refine XL.q (q_assign rfl) rfl ?_
        refine XL.nil ?_
        refine rn (p + 1, lv2, Bl2) ⟨by dsimp only; omega, by dsimp only; omega, ?_, ?_⟩ (by dsimp only; omega) (kp 0 rfl (kp 1 rfl (kp 5 rfl (kp 6 rfl kn)))) (Fit.sub (List.sublist_append_left _ _)) (fun _ h => h)
        · dsimp only; rw [rl_yes hpr, List.length_append]; simp; omega
        · dsimp only
          rw [rl_yes hpr]
          exact sl_eq hsl2 (by rw [List.length_append]; simp) (by rw [← nums_append, root, ← hrt]; rfl)
  ·
    have hlt : (rl k p).length = many := by simp at hc; omega
    refine XC.exit ?_
    refine te ?_
    refine re ?_
    refine be rfl ?_
    refine nx (kp 5 rfl kn) ?_
    refine XC.reg ?_
    refine XL.q (q_move rfl) rfl ?_
    refine XL.q (q_assign rfl) rfl ?_
    refine XL.fin (kp 4 rfl kn) ?_
    refine XC.ret ?_
    refine ⟨_, Bl, [], res1 rfl rfl, List.Sublist.refl _, by simp, rfl, sl_eq hsl hlt (by rw [← hlt, rl_take hp])⟩
