/- Part 19 of the texts of this claim, one behind the other. -/
import Derived.Test.YtcfdeohjhhpmcaaDoorB18
set_option linter.unusedVariables false
set_option linter.unusedSimpArgs false
set_option linter.unusedVariables false
set_option linter.unusedSimpArgs false
namespace Go.Proofs.YtcfdeohjhhpmcaaDoor
open Go.Px

theorem out4_take (x : Nat) {j : Nat} (h : j < 4) : (out4 x).take (j + 1) = (out4 x).take j ++ [x >>> (24 - 8 * j) % 256] := by
  have : j = 0 ∨ j = 1 ∨ j = 2 ∨ j = 3 := by omega
  rcases this with rfl | rfl | rfl | rfl <;> rfl

set_option maxRecDepth 100000 in
theorem rsum_spec (mv : Value) (m : List Nat) (A : Mem) (hm : Rd A 1 mv m.length (nums .u8 m)) (hm256 : ∀ x ∈ m, x < 256) (hml : m.length ≤ 1073741824) :
    FnX Tryd.prog 31 [mv] [] A fun r M J => J = [] ∧ Sl 1 r 32 (nums .u8 (sha256 m)) M := by
  refine FnX.enter (N := 289) Tryd.func31 rfl rfl rfl fun w => ?_
  refine XC.keep (kp 0 rfl kn) ?_
  refine XC.reg ?_
  refine XL.q (q_assign rfl) rfl ?_
  refine XL.fin (kp 0 rfl kn) ?_
  refine XC.reg ?_
  refine XL.lo rfl (l_call (Mc := []) (R := []) (aS (v := .int .i64 ((64 : Nat) : Int)) rfl (aS (v := .int .i64 ((3 : Nat) : Int)) rfl a0)) (by kernel_rfl) (.refl _) (roots_spec 64 3 (by decide) (by decide) (by decide) _) rfl ?_)
  rintro kv Bk J1 ⟨rfl, hk⟩
  rw [roots_k] at hk
  refine XL.q (q_assign rfl) rfl ?_
  refine XL.fin (kp 0 rfl (kp 3 rfl kn)) ?_
  refine XC.reg ?_
  refine XL.lo rfl (l_call (Mc := []) (R := Bk ++ []) (aS (v := .int .i64 ((8 : Nat) : Int)) rfl (aS (v := .int .i64 ((2 : Nat) : Int)) rfl a0)) (by kernel_rfl) (.refl _) (roots_spec 8 2 (by decide) (by decide) (by decide) _) rfl ?_)
  rintro hv Bh J2 ⟨rfl, hh⟩
  rw [roots_h] at hh
  refine XL.q (q_assign rfl) rfl ?_
  refine XL.fin (kp 0 rfl (kp 3 rfl (kp 4 rfl kn))) ?_
  refine XC.reg ?_
  refine XL.q (q_assign rfl) rfl ?_
  refine XL.fin (kp 0 rfl (kp 3 rfl (kp 4 rfl (kp 5 rfl kn)))) ?_
  refine XC.reg ?_
  refine XL.q (q_move rfl) rfl ?_
  refine XL.q (q_move rfl) rfl ?_
  refine XL.lo rfl (l_append (e := 5) (sz := 1) (by_ := 1) (n := 0) (m := m.length) (B := []) (M0 := Bh ++ (Bk ++ [])) rfl rfl (by kernel_rfl) rfl Sl.nil (hm.mono fun _ h => mA h) nums_one (.refl _) (by unfold maxLen; omega) (by omega) rfl fun pv0 Bp0 hp0 => ?_)
  refine XL.q (q_assign rfl) rfl ?_
  refine XL.fin (kp 0 rfl (kp 3 rfl (kp 4 rfl (kp 5 rfl kn)))) ?_
  refine XC.reg ?_
  refine XL.q (q_move rfl) rfl ?_
  refine XL.lo rfl (l_buildSlice (e := 5) (sz := 1) (z := [.int .u8 0]) (by kernel_rfl) (eS rfl e0) (bdS 0 1 rfl (by rfl) bd0) rfl fun b39 => ?_)
  refine XL.lo rfl (l_append (e := 5) (sz := 1) (by_ := 1) (m := 1) (B := Bp0) (ys := nums .u8 [128]) (M0 := (b39, _) :: _) rfl rfl (by kernel_rfl) rfl hp0 (Rd.whole (n := 1) m0 (by rfl)) nums_one pkB (by unfold maxLen; omega) (by omega) rfl fun pv1 Bp1 hp1 => ?_)
  rw [List.append_nil]
  have hp1 : Sl 1 pv1 (m.length + 1) (nums .u8 (m ++ [128])) Bp1 := sl_eq hp1 (by omega) (by rw [nums_append]; rfl)
  refine XL.q (q_assign rfl) rfl ?_
  refine XL.fin (kp 0 rfl (kp 3 rfl (kp 4 rfl (kp 5 rfl kn)))) ?_
  refine XC.seq ?_
  refine XC.block ?_
  refine XC.loop (α := Nat × Value × Mem) (fun x => [(0, mv), (3, kv), (4, hv), (5, x.2.1)]) (fun x => x.2.2 ++ (Bh ++ Bk)) (fun _ => []) (fun x => x.1 ≤ zeros m.length ∧ Sl 1 x.2.1 (m.length + 1 + x.1) (nums .u8 (m ++ (128 :: List.replicate x.1 0))) x.2.2) (fun x => zeros m.length - x.1) (0, pv1, Bp1) ⟨Nat.zero_le _, hp1⟩ (kp 0 rfl (kp 3 rfl (kp 4 rfl (kp 5 rfl kn)))) (Fit.head1' (List.Sublist.refl _)) (fun _ h => h) ?_
  clear hp1 hp0
  rintro ⟨z, pv, Bp⟩ ⟨hz, hp⟩
  dsimp only at hz hp ⊢
  have hzz : zeros m.length = (119 - m.length % 64) % 64 := rfl
  refine XC.seq ?_
  refine XC.reg ?_
  refine XL.q (q_move rfl) rfl ?_
  refine XL.q (q_lenV (hp.rd fun _ h => h) rfl (by kernel_rfl)) rfl ?_
  refine XL.q (q_remN (b := 64) rfl rfl (by decide)) rfl ?_
  refine XL.q (q_bin rfl rfl rfl) rfl ?_
  refine XL.fin (kp 0 rfl (kp 3 rfl (kp 4 rfl (kp 5 rfl (kp 44 rfl kn))))) ?_
  refine XC.cond rfl (fun hc => ?_) (fun hc => ?_)
  ·
    have hlt : z < zeros m.length := by simp at hc; omega
    refine XC.skip ?_
    refine nx (kp 0 rfl (kp 3 rfl (kp 4 rfl (kp 5 rfl kn)))) ?_
    refine XC.block ?_
    refine XC.reg1 ?_
    refine XL.q (q_move rfl) rfl ?_
    refine XL.lo rfl (l_buildSlice (e := 5) (sz := 1) (z := [.int .u8 0]) (by kernel_rfl) (eS rfl e0) (bdS 0 1 rfl (by rfl) bd0) rfl fun b46 => ?_)
    refine XL.lo rfl (l_append (e := 5) (sz := 1) (by_ := 1) (m := 1) (B := Bp) (ys := nums .u8 [0]) (M0 := (b46, _) :: _) rfl rfl (by kernel_rfl) rfl hp (Rd.whole (n := 1) m0 (by rfl)) nums_one pkB (by unfold maxLen; omega) (by omega) rfl fun pv1 Bp1 hp1 => ?_)
    refine XL.q (q_assign rfl) rfl ?_
    refine XL.nil ?_
    refine nb ?_
    refine rn (z + 1, pv1, Bp1) ⟨by dsimp only; omega, sl_eq hp1 (by dsimp only; omega) ?_⟩ (by dsimp only; omega) (kp 0 rfl (kp 3 rfl (kp 4 rfl (kp 5 rfl kn)))) (Fit.head1' (List.Sublist.refl _)) (fun _ h => h)
    dsimp only
    rw [← nums_append, List.append_assoc, List.cons_append, ← List.replicate_succ']
  ·
    have hlt : z = zeros m.length := by simp at hc; omega
    subst hlt
    refine XC.exit ?_
    refine te ?_
    refine re ?_
    refine be rfl ?_
    refine nx (kp 0 rfl (kp 3 rfl (kp 4 rfl (kp 5 rfl kn)))) ?_
    refine XC.reg ?_
    refine XL.q (q_move rfl) rfl ?_
    refine XL.q (q_lenV hm rfl (by kernel_rfl)) rfl ?_
    refine XL.q (q_same (k' := .u64) rfl (by kernel_rfl) (by show _ < 9223372036854775808; omega)) rfl ?_
    refine XL.q (q_num ((8 * m.length : Nat) : Int) rfl rfl (mulU (k := .u64) (b := 8) rfl _ (by show m.length * 8 % 18446744073709551616 = 8 * m.length; omega))) rfl ?_
    refine XL.q (q_assign rfl) rfl ?_
    refine XL.fin (kp 3 rfl (kp 4 rfl (kp 5 rfl (kp 6 rfl kn)))) ?_
    refine XC.seq ?_
    refine XC.reg ?_
    refine XL.q (q_assign rfl) rfl ?_
    refine XL.fin (kp 3 rfl (kp 4 rfl (kp 5 rfl (kp 6 rfl (kp 7 rfl kn))))) ?_
    refine XC.block ?_
    refine XC.loop (α := Nat × Value × Mem) (fun x => [(3, kv), (4, hv), (5, x.2.1), (6, .int .u64 ((8 * m.length : Nat) : Int)), (7, .int .i64 (7 - (x.1 : Int)))]) (fun x => x.2.2 ++ (Bh ++ Bk)) (fun _ => []) (fun x => x.1 ≤ 8 ∧ Sl 1 x.2.1 (m.length + 1 + zeros m.length + x.1) (nums .u8 (m ++ (128 :: (List.replicate (zeros m.length) 0 ++ len8 m.length x.1)))) x.2.2) (fun x => 8 - x.1) (0, pv, Bp) ⟨Nat.zero_le _, sl_eq hp rfl (by simp [len8])⟩ (kp 3 rfl (kp 4 rfl (kp 5 rfl (kp 6 rfl (kp 7 rfl kn))))) .rfl (fun _ h => h) ?_
    clear hp
    rintro ⟨j, pv, Bp⟩ ⟨hj, hp⟩
    dsimp only at hj hp ⊢
    refine XC.seq ?_
    refine XC.reg ?_
    refine XL.q (q_move rfl) rfl ?_
    refine XL.q (q_bin rfl rfl rfl) rfl ?_
    refine XL.fin (kp 3 rfl (kp 4 rfl (kp 5 rfl (kp 6 rfl (kp 7 rfl (kp 53 rfl kn)))))) ?_
    refine XC.cond rfl (fun hc => ?_) (fun hc => ?_)
    ·
      have hlt : j < 8 := by simp at hc; omega
      refine XC.skip ?_
      refine nx (kp 3 rfl (kp 4 rfl (kp 5 rfl (kp 6 rfl (kp 7 rfl kn))))) ?_
      refine XC.seq ?_
      refine XC.block ?_
      refine XC.reg1 ?_
      refine XL.q (q_move rfl) rfl ?_
      refine XL.q (q_move rfl) rfl ?_
      refine XL.q (q_move rfl) rfl ?_
      refine XL.q (q_num ((56 - 8 * j : Nat) : Int) rfl rfl (mul64 (by omega) (by omega) (by omega))) rfl ?_
      refine XL.q (q_shrN (56 - 8 * j) rfl rfl rfl (by show _ ≤ 64; omega)) rfl ?_
      refine XL.q (q_to8 rfl (by kernel_rfl)) rfl ?_
      refine XL.lo rfl (l_buildSlice (e := 5) (sz := 1) (z := [.int .u8 0]) (by kernel_rfl) (eS rfl e0) (bdS 0 1 rfl (by rfl) bd0) rfl fun b62 => ?_)
      refine XL.lo rfl (l_append (e := 5) (sz := 1) (by_ := 1) (m := 1) (B := Bp) (ys := nums .u8 [(8 * m.length) >>> (56 - 8 * j) % 256]) (M0 := (b62, _) :: _) rfl rfl (by kernel_rfl) rfl hp (Rd.whole (n := 1) m0 (by rfl)) nums_one pkB (by unfold maxLen; omega) (by omega) rfl fun pv1 Bp1 hp1 => ?_)
      refine XL.q (q_assign rfl) rfl ?_
      refine XL.nil ?_
      refine nb ?_
      refine nx (kp 3 rfl (kp 4 rfl (kp 5 rfl (kp 6 rfl (kp 7 rfl kn))))) ?_
      refine XC.reg1 ?_
      refine XL.q (q_move rfl) rfl ?_
      refine XL.q (q_num (7 - ((j + 1 : Nat) : Int)) rfl rfl (sub64 (by omega) (by omega) (by omega))) rfl ?_
      refine XL.q (q_assign rfl) rfl ?_
      refine XL.nil ?_
      refine rn (j + 1, pv1, Bp1) ⟨by dsimp only; omega, sl_eq hp1 (by dsimp only; omega) ?_⟩ (by dsimp only; omega) (kp 3 rfl (kp 4 rfl (kp 5 rfl (kp 6 rfl (kp 7 rfl kn))))) (Fit.head1' (List.Sublist.refl _)) (fun _ h => h)
      dsimp only
      rw [← nums_append, List.append_assoc, List.cons_append, List.append_assoc, ← len8_succ]
    ·
      have hlt : j = 8 := by simp at hc; omega
      subst hlt
      refine XC.exit ?_
      refine te ?_
      refine re ?_
      refine be rfl ?_
      refine nx (kp 3 rfl (kp 4 rfl (kp 5 rfl kn))) ?_
      refine XC.seq ?_
      refine XC.reg ?_
      refine XL.q (q_assign rfl) rfl ?_
      refine XL.fin (kp 3 rfl (kp 4 rfl (kp 5 rfl (kp 8 rfl kn)))) ?_
      refine XC.block ?_
      obtain ⟨hq1, hq2, hq3⟩ := padded_len m
      have hp : Sl 1 pv (padded m).length (nums .u8 (padded m)) Bp := sl_eq hp (by simp [padded, len8]; omega) rfl
      have hpb := padded_lt hm256
      have hpg : ∀ j, (padded m).getD j 0 < 256 := fun j => getD_lt hpb (by decide)
      generalize hPP : padded m = PP at *
      refine XC.loop (α := Nat × Mem) (fun x => [(3, kv), (4, hv), (5, pv), (8, .int .i64 ((64 * x.1 : Nat) : Int))]) (fun x => Bp ++ (x.2 ++ Bk)) (fun _ => []) (fun x => x.1 ≤ PP.length / 64 ∧ Sl 1 hv 8 (nums .u32 (shaB kTab x.1 hFirst PP).list) x.2) (fun x => PP.length / 64 - x.1) (0, Bh) ⟨Nat.zero_le _, hh⟩ (kp 3 rfl (kp 4 rfl (kp 5 rfl (kp 8 rfl kn)))) .rfl (fun _ h => h) ?_
      clear hh
      rintro ⟨t, Bh⟩ ⟨ht, hh⟩
      dsimp only at ht hh ⊢
      refine XC.seq ?_
      refine XC.reg ?_
      refine XL.q (q_move rfl) rfl ?_
      refine XL.q (q_move rfl) rfl ?_
      refine XL.q (q_lenV (hp.rd fun _ h => h) rfl (by kernel_rfl)) rfl ?_
      refine XL.q (q_bin rfl rfl rfl) rfl ?_
      refine XL.fin (kp 3 rfl (kp 4 rfl (kp 5 rfl (kp 8 rfl (kp 67 rfl kn))))) ?_
      refine XC.cond rfl (fun hc => ?_) (fun hc => ?_)
      ·
        have hlt : t < PP.length / 64 := by simp at hc; omega
        have hpP : ∀ x ∈ (PP.drop (64 * t)).take 64, x < 256 := fun x hx => hpb x (List.mem_of_mem_drop (List.mem_of_mem_take hx))
        have hgP : ∀ k, k < 64 → ((PP.drop (64 * t)).take 64).getD k 0 = PP.getD (64 * t + k) 0 := fun k hk => blockP_get hk
        have hgb : ∀ k, ((PP.drop (64 * t)).take 64).getD k 0 < 256 := fun k => getD_lt hpP (by decide)
        refine XC.skip ?_
        refine nx (kp 3 rfl (kp 4 rfl (kp 5 rfl (kp 8 rfl kn)))) ?_
        refine XC.seq ?_
        refine XC.block ?_
        refine XC.reg ?_
        refine XL.q (q_assign rfl) rfl ?_
        refine XL.fin (kp 3 rfl (kp 4 rfl (kp 5 rfl (kp 8 rfl (kp 9 rfl kn))))) ?_
        refine XC.seq ?_
        refine XC.reg ?_
        refine XL.q (q_assign rfl) rfl ?_
        refine XL.fin (kp 3 rfl (kp 4 rfl (kp 5 rfl (kp 8 rfl (kp 9 rfl (kp 10 rfl kn)))))) ?_
        refine XC.block ?_
        generalize hP : (PP.drop (64 * t)).take 64 = P at *
        refine XC.loop (α := Nat × Value × Mem) (fun x => [(3, kv), (4, hv), (5, pv), (8, .int .i64 ((64 * t : Nat) : Int)), (9, x.2.1), (10, .int .i64 (x.1 : Int))]) (fun x => x.2.2 ++ (Bp ++ (Bh ++ Bk))) (fun _ => []) (fun x => x.1 ≤ 64 ∧ Sl 1 x.2.1 x.1 (nums .u32 (wAt P x.1)) x.2.2) (fun x => 64 - x.1) (0, .slice none 0 0, []) ⟨Nat.zero_le _, Sl.nil⟩ (kp 3 rfl (kp 4 rfl (kp 5 rfl (kp 8 rfl (kp 9 rfl (kp 10 rfl kn)))))) .rfl (fun _ h => h) ?_
        rintro ⟨i, wv, Bw⟩ ⟨hi, hw⟩
        dsimp only at hi hw ⊢
        have hwl := wAt_len P i
        have hwb : ∀ j, (wAt P i).getD j 0 < 4294967296 := fun j => getD_lt (wAt_lt hpP i) (by decide)
        refine XC.seq ?_
        refine XC.reg ?_
        refine XL.q (q_move rfl) rfl ?_
        refine XL.q (q_bin rfl rfl rfl) rfl ?_
        refine XL.fin (kp 3 rfl (kp 4 rfl (kp 5 rfl (kp 8 rfl (kp 9 rfl (kp 10 rfl (kp 71 rfl kn))))))) ?_
        refine XC.cond rfl (fun hc => ?_) (fun hc => ?_)
        ·
          have hi64 : i < 64 := by simp at hc; omega
          refine XC.skip ?_
          refine nx (kp 3 rfl (kp 4 rfl (kp 5 rfl (kp 8 rfl (kp 9 rfl (kp 10 rfl kn)))))) ?_
          refine XC.seq ?_
          refine XC.block ?_
          refine XC.seq ?_
          refine XC.reg ?_
          refine XL.q (q_move rfl) rfl ?_
          refine XL.q (q_bin rfl rfl rfl) rfl ?_
          refine XL.fin (kp 3 rfl (kp 4 rfl (kp 5 rfl (kp 8 rfl (kp 9 rfl (kp 10 rfl (kp 75 rfl kn))))))) ?_
          refine XC.cond rfl (fun hc => ?_) (fun hc => ?_)
          ·
            have hi16 : i < 16 := by simp at hc; omega
            refine XC.reg ?_
            refine XL.q (q_assign rfl) rfl ?_
            refine XL.fin (kp 3 rfl (kp 4 rfl (kp 5 rfl (kp 8 rfl (kp 9 rfl (kp 10 rfl (kp 11 rfl kn))))))) ?_
            refine XC.seq ?_
            refine XC.reg ?_
            refine XL.q (q_assign rfl) rfl ?_
            refine XL.fin (kp 3 rfl (kp 4 rfl (kp 5 rfl (kp 8 rfl (kp 9 rfl (kp 10 rfl (kp 11 rfl (kp 12 rfl kn)))))))) ?_
            refine XC.block ?_
            refine XC.loop (α := Nat) (fun j => [(3, kv), (4, hv), (5, pv), (8, .int .i64 ((64 * t : Nat) : Int)), (9, wv), (10, .int .i64 (i : Int)), (11, .int .u32 ((pw P i j : Nat) : Int)), (12, .int .i64 (j : Int))]) (fun _ => Bw ++ (Bp ++ (Bh ++ Bk))) (fun _ => []) (fun j => j ≤ 4) (fun j => 4 - j) 0 (Nat.zero_le _) (kp 3 rfl (kp 4 rfl (kp 5 rfl (kp 8 rfl (kp 9 rfl (kp 10 rfl (kp 11 rfl (kp 12 rfl kn)))))))) .rfl (fun _ h => h) ?_
            intro j hj
            refine XC.seq ?_
            refine XC.reg ?_
            refine XL.q (q_move rfl) rfl ?_
            refine XL.q (q_bin rfl rfl rfl) rfl ?_
            refine XL.fin (kp 3 rfl (kp 4 rfl (kp 5 rfl (kp 8 rfl (kp 9 rfl (kp 10 rfl (kp 11 rfl (kp 12 rfl (kp 77 rfl kn))))))))) ?_
            refine XC.cond rfl (fun hc => ?_) (fun hc => ?_)
            ·
              have hj4 : j < 4 := by simp at hc; omega
              have hx1 := pw_lt hgb i j
              have hx2 : 256 ^ j ≤ 256 ^ 3 := Nat.pow_le_pow_right (by decide) (by omega)
              have hx3 := hgb (4 * i + j)
              have hx4 := hgP (4 * i + j) (by omega)
              refine XC.skip ?_
              refine nx (kp 3 rfl (kp 4 rfl (kp 5 rfl (kp 8 rfl (kp 9 rfl (kp 10 rfl (kp 11 rfl (kp 12 rfl kn)))))))) ?_
              refine XC.seq ?_
              refine XC.block ?_
              refine XC.reg1 ?_
              refine XL.q (q_move rfl) rfl ?_
              refine XL.q (q_num ((pw P i j * 256 : Nat) : Int) rfl rfl (mulU (k := .u32) (b := 256) rfl _ (by show pw P i j * 256 % 4294967296 = pw P i j * 256; omega))) rfl ?_
              refine XL.q (q_move rfl) rfl ?_
              refine XL.q (q_move rfl) rfl ?_
              refine XL.q (q_move rfl) rfl ?_
              refine XL.q (q_num ((4 * i : Nat) : Int) rfl rfl (mul64 (by omega) (by omega) (by omega))) rfl ?_
              refine XL.q (q_num ((64 * t + 4 * i : Nat) : Int) rfl rfl (add64 (by omega) (by omega) (by omega))) rfl ?_
              refine XL.q (q_move rfl) rfl ?_
              refine XL.q (q_num ((64 * t + 4 * i + j : Nat) : Int) rfl rfl (add64 (by omega) (by omega) (by omega))) rfl ?_
              refine XL.q (q_atV (hp.rd fun _ h => h) rfl rfl (by kernel_rfl) (64 * t + 4 * i + j) rfl (by omega)) rfl ?_
              refine XL.q (q_ldVN (hp.rd fun _ h => by simp [h]) rfl (by kernel_rfl) (by omega)) rfl ?_
              rw [show PP.getD (64 * t + 4 * i + j) 0 = P.getD (4 * i + j) 0 from by rw [hx4, Nat.add_assoc]]
              refine XL.q (q_same (k' := .u32) rfl (by kernel_rfl) (by show _ < 2147483648; omega)) rfl ?_
              refine XL.q (q_num ((pw P i (j + 1) : Nat) : Int) rfl rfl (addU (k := .u32) rfl _ (by show (pw P i j * 256 + P.getD (4 * i + j) 0) % 4294967296 = pw P i j * 256 + P.getD (4 * i + j) 0; omega))) rfl ?_
              refine XL.q (q_assign rfl) rfl ?_
              refine XL.nil ?_
              refine nb ?_
              refine nx (kp 3 rfl (kp 4 rfl (kp 5 rfl (kp 8 rfl (kp 9 rfl (kp 10 rfl (kp 11 rfl (kp 12 rfl kn)))))))) ?_
              refine XC.reg1 ?_
              refine XL.q (q_move rfl) rfl ?_
              refine XL.q (q_num ((j + 1 : Nat) : Int) rfl rfl (add64 (by omega) (by omega) (by omega))) rfl ?_
              refine XL.q (q_assign rfl) rfl ?_
              refine XL.nil ?_
              refine rn (j + 1) (by omega) (by omega) (kp 3 rfl (kp 4 rfl (kp 5 rfl (kp 8 rfl (kp 9 rfl (kp 10 rfl (kp 11 rfl (kp 12 rfl kn)))))))) .rfl (fun _ h => h)
            ·
              have hj4 : j = 4 := by simp at hc; omega
              subst hj4
              rw [pw_four]
              have hwd := word_lt hpP i
              refine XC.exit ?_
              refine te ?_
              refine re ?_
              refine be rfl ?_
              refine nx (kp 3 rfl (kp 4 rfl (kp 5 rfl (kp 8 rfl (kp 9 rfl (kp 10 rfl (kp 11 rfl kn))))))) ?_
              refine XC.reg ?_
              refine XL.q (q_move rfl) rfl ?_
              refine XL.q (q_move rfl) rfl ?_
              refine XL.lo rfl (l_buildSlice (e := 49) (sz := 1) (z := [.int .u32 0]) (by kernel_rfl) (eS rfl e0) (bdS 0 1 rfl (by rfl) bd0) rfl fun b95 => ?_)
              refine XL.lo rfl (l_append (e := 49) (sz := 1) (by_ := 4) (m := 1) (B := Bw) (ys := nums .u32 [word P i]) (M0 := (b95, _) :: _) rfl rfl (by kernel_rfl) rfl hw (Rd.whole (n := 1) m0 (by rfl)) nums_one pkB (by unfold maxLen; omega) (by omega) rfl fun wv1 Bw1 hw1 => ?_)
              refine XL.q (q_assign rfl) rfl ?_
              refine XL.fin (kp 3 rfl (kp 4 rfl (kp 5 rfl (kp 8 rfl (kp 9 rfl (kp 10 rfl kn)))))) ?_
              refine XC.exit ?_
              refine te ?_
              refine be rfl ?_
              refine nx (kp 3 rfl (kp 4 rfl (kp 5 rfl (kp 8 rfl (kp 9 rfl (kp 10 rfl kn)))))) ?_
              refine XC.reg1 ?_
              refine XL.q (q_move rfl) rfl ?_
              refine XL.q (q_num ((i + 1 : Nat) : Int) rfl rfl (add64 (by omega) (by omega) (by omega))) rfl ?_
              refine XL.q (q_assign rfl) rfl ?_
              refine XL.nil ?_
              refine rn (i + 1, wv1, Bw1) ⟨by dsimp only; omega, sl_eq hw1 rfl (by dsimp only; rw [wAt_low hi16, nums_append])⟩ (by dsimp only; omega) (kp 3 rfl (kp 4 rfl (kp 5 rfl (kp 8 rfl (kp 9 rfl (kp 10 rfl kn)))))) (Fit.head1' (List.Sublist.refl _)) (fun _ h => h)
          ·
            have hi16 : 16 ≤ i := by simp at hc; omega
            refine XC.skip ?_
            refine nx (kp 3 rfl (kp 4 rfl (kp 5 rfl (kp 8 rfl (kp 9 rfl (kp 10 rfl kn)))))) ?_
            refine XC.draw (_) [0, 1, 2, 3, 4, 5, 6, 7, 8, 9, 10, 11, 12, 13, 14, 15, 16, 17, 18, 19, 20] [(0, 0), (1, 0), (2, 0), (3, 0), (4, 1), (6, 0), (7, 0), (8, 0), (9, 0), (10, 1), (13, 0), (14, 0), (15, 0), (16, 0), (17, 1), (18, 0), (5, 2), (11, 2), (12, 0), (19, 0), (20, 0)] (by kernel_rfl) (by kernel_rfl) (fun _ h => h) fun hs => ?_
            refine XP.q hs rfl (q_move rfl) rfl ?_
            refine XP.q hs rfl (q_move rfl) rfl ?_
            refine XP.q hs rfl (q_num ((i - 15 : Nat) : Int) rfl rfl (sub64 (by omega) (by omega) (by omega))) rfl ?_
            refine XP.q hs rfl (q_atV (hw.rd fun _ h => h) rfl rfl (by kernel_rfl) (i - 15) rfl (by omega)) rfl ?_
            refine XP.r hs rfl (q_ldVN (hw.rd fun _ h => by simp [h]) rfl (by kernel_rfl) (by omega)) rfl ?_
            refine XP.q hs rfl (q_move rfl) rfl ?_
            refine XP.q hs rfl (q_move rfl) rfl ?_
            refine XP.q hs rfl (q_num ((i - 15 : Nat) : Int) rfl rfl (sub64 (by omega) (by omega) (by omega))) rfl ?_
            refine XP.q hs rfl (q_atV (hw.rd fun _ h => h) rfl rfl (by kernel_rfl) (i - 15) rfl (by omega)) rfl ?_
            refine XP.r hs rfl (q_ldVN (hw.rd fun _ h => by simp [h]) rfl (by kernel_rfl) (by omega)) rfl ?_
            refine XP.q hs rfl (q_move rfl) rfl ?_
            refine XP.q hs rfl (q_move rfl) rfl ?_
            refine XP.q hs rfl (q_num ((i - 15 : Nat) : Int) rfl rfl (sub64 (by omega) (by omega) (by omega))) rfl ?_
            refine XP.q hs rfl (q_atV (hw.rd fun _ h => h) rfl rfl (by kernel_rfl) (i - 15) rfl (by omega)) rfl ?_
            refine XP.r hs rfl (q_ldVN (hw.rd fun _ h => by simp [h]) rfl (by kernel_rfl) (by omega)) rfl ?_
            refine XP.q hs rfl (q_shrN 3 rfl rfl rfl (by decide)) rfl ?_
            refine XP.lo rfl rfl (l_callV (aS rfl (aS rfl a0)) (by kernel_rfl) (turn_spec _ 7 _ _ (hwb _) (by decide) rfl) rfl ⟨fun _ h => h, ?_⟩)
            refine XP.lo rfl rfl (l_callV (aS rfl (aS rfl a0)) (by kernel_rfl) (turn_spec _ 18 _ _ (hwb _) (by decide) rfl) rfl ⟨fun _ h => h, ?_⟩)
            refine XP.q hs rfl (q_xor32 rfl rfl (rotr_lt (hwb _)) (rotr_lt (hwb _))) rfl ?_
            refine XP.q hs rfl (q_xor32 rfl rfl (xor32 (rotr_lt (hwb _)) (rotr_lt (hwb _))) (shr32 (hwb _))) rfl ?_
            refine XP.q hs rfl (q_assign rfl) rfl ?_
            refine XP.fin (kp 3 rfl (kp 4 rfl (kp 5 rfl (kp 8 rfl (kp 9 rfl (kp 10 rfl (kp 13 rfl kn))))))) ?_
            refine XC.draw (_) [0, 1, 2, 3, 4, 5, 6, 7, 8, 9, 10, 11, 12, 13, 14, 15, 16, 17, 18, 19, 20] [(0, 0), (1, 0), (2, 0), (3, 0), (4, 1), (6, 0), (7, 0), (8, 0), (9, 0), (10, 1), (13, 0), (14, 0), (15, 0), (16, 0), (17, 1), (18, 0), (5, 2), (11, 2), (12, 0), (19, 0), (20, 0)] (by kernel_rfl) (by kernel_rfl) (fun _ h => h) fun hs => ?_
            refine XP.q hs rfl (q_move rfl) rfl ?_
            refine XP.q hs rfl (q_move rfl) rfl ?_
            refine XP.q hs rfl (q_num ((i - 2 : Nat) : Int) rfl rfl (sub64 (by omega) (by omega) (by omega))) rfl ?_
            refine XP.q hs rfl (q_atV (hw.rd fun _ h => h) rfl rfl (by kernel_rfl) (i - 2) rfl (by omega)) rfl ?_
            refine XP.r hs rfl (q_ldVN (hw.rd fun _ h => by simp [h]) rfl (by kernel_rfl) (by omega)) rfl ?_
            refine XP.q hs rfl (q_move rfl) rfl ?_
            refine XP.q hs rfl (q_move rfl) rfl ?_
            refine XP.q hs rfl (q_num ((i - 2 : Nat) : Int) rfl rfl (sub64 (by omega) (by omega) (by omega))) rfl ?_
            refine XP.q hs rfl (q_atV (hw.rd fun _ h => h) rfl rfl (by kernel_rfl) (i - 2) rfl (by omega)) rfl ?_
            refine XP.r hs rfl (q_ldVN (hw.rd fun _ h => by simp [h]) rfl (by kernel_rfl) (by omega)) rfl ?_
            refine XP.q hs rfl (q_move rfl) rfl ?_
            refine XP.q hs rfl (q_move rfl) rfl ?_
            refine XP.q hs rfl (q_num ((i - 2 : Nat) : Int) rfl rfl (sub64 (by omega) (by omega) (by omega))) rfl ?_
            refine XP.q hs rfl (q_atV (hw.rd fun _ h => h) rfl rfl (by kernel_rfl) (i - 2) rfl (by omega)) rfl ?_
            refine XP.r hs rfl (q_ldVN (hw.rd fun _ h => by simp [h]) rfl (by kernel_rfl) (by omega)) rfl ?_
            refine XP.q hs rfl (q_shrN 10 rfl rfl rfl (by decide)) rfl ?_
            refine XP.lo rfl rfl (l_callV (aS rfl (aS rfl a0)) (by kernel_rfl) (turn_spec _ 17 _ _ (hwb _) (by decide) rfl) rfl ⟨fun _ h => h, ?_⟩)
            refine XP.lo rfl rfl (l_callV (aS rfl (aS rfl a0)) (by kernel_rfl) (turn_spec _ 19 _ _ (hwb _) (by decide) rfl) rfl ⟨fun _ h => h, ?_⟩)
            refine XP.q hs rfl (q_xor32 rfl rfl (rotr_lt (hwb _)) (rotr_lt (hwb _))) rfl ?_
            refine XP.q hs rfl (q_xor32 rfl rfl (xor32 (rotr_lt (hwb _)) (rotr_lt (hwb _))) (shr32 (hwb _))) rfl ?_
            refine XP.q hs rfl (q_assign rfl) rfl ?_
            refine XP.fin (kp 3 rfl (kp 4 rfl (kp 5 rfl (kp 8 rfl (kp 9 rfl (kp 10 rfl (kp 13 rfl (kp 14 rfl kn)))))))) ?_
            refine XC.draw1 (_) [0, 1, 2, 3, 4, 5, 6, 7, 8, 9, 10, 11, 12, 13, 14, 15, 18] [(0, 0), (1, 0), (2, 0), (3, 0), (4, 0), (5, 1), (6, 0), (7, 0), (8, 0), (9, 0), (10, 0), (11, 0), (12, 1), (13, 0), (14, 0), (15, 0), (16, 2), (17, 2), (18, 0)] (by kernel_rfl) (by kernel_rfl) (fun _ h => h) fun hs => ?_
            refine XP.q hs rfl (q_move rfl) rfl ?_
            refine XP.q hs rfl (q_move rfl) rfl ?_
            refine XP.q hs rfl (q_move rfl) rfl ?_
            refine XP.q hs rfl (q_num ((i - 16 : Nat) : Int) rfl rfl (sub64 (by omega) (by omega) (by omega))) rfl ?_
            refine XP.q hs rfl (q_atV (hw.rd fun _ h => h) rfl rfl (by kernel_rfl) (i - 16) rfl (by omega)) rfl ?_
            refine XP.r hs rfl (q_ldVN (hw.rd fun _ h => by simp [h]) rfl (by kernel_rfl) (by omega)) rfl ?_
            refine XP.q hs rfl (q_move rfl) rfl ?_
            refine XP.q hs rfl (q_add32 rfl rfl) rfl ?_
            refine XP.q hs rfl (q_move rfl) rfl ?_
            refine XP.q hs rfl (q_move rfl) rfl ?_
            refine XP.q hs rfl (q_num ((i - 7 : Nat) : Int) rfl rfl (sub64 (by omega) (by omega) (by omega))) rfl ?_
            refine XP.q hs rfl (q_atV (hw.rd fun _ h => h) rfl rfl (by kernel_rfl) (i - 7) rfl (by omega)) rfl ?_
            refine XP.r hs rfl (q_ldVN (hw.rd fun _ h => by simp [h]) rfl (by kernel_rfl) (by omega)) rfl ?_
            refine XP.q hs rfl (q_add32 rfl rfl) rfl ?_
            refine XP.q hs rfl (q_move rfl) rfl ?_
            refine XP.q hs rfl (q_add32 rfl rfl) rfl ?_
            refine XP.tl rfl rfl rfl (l_buildSlice (e := 49) (sz := 1) (z := [.int .u32 0]) (by kernel_rfl) (eS rfl e0) (bdS 0 1 rfl (by rfl) bd0) rfl fun b153 => ?_)
            refine XP.tl rfl rfl rfl (l_append (e := 49) (sz := 1) (by_ := 4) (m := 1) (B := Bw) (ys := nums .u32 [wnext (wAt P i) i]) (M0 := (b153, _) :: _) rfl rfl (by kernel_rfl) rfl hw (Rd.whole (n := 1) m0 (by rfl)) nums_one pkB (by unfold maxLen; omega) (by omega) rfl fun wv1 Bw1 hw1 => ?_)
            refine XP.q hs rfl (q_assign rfl) rfl ?_
            refine XP.nil ?_
            refine nb ?_
            refine nx (kp 3 rfl (kp 4 rfl (kp 5 rfl (kp 8 rfl (kp 9 rfl (kp 10 rfl kn)))))) ?_
            refine XC.reg1 ?_
            refine XL.q (q_move rfl) rfl ?_
            refine XL.q (q_num ((i + 1 : Nat) : Int) rfl rfl (add64 (by omega) (by omega) (by omega))) rfl ?_
            refine XL.q (q_assign rfl) rfl ?_
            refine XL.nil ?_
            have e : wnext (wAt P i) i = _ := rfl
            refine rn (i + 1, wv1, Bw1) ⟨by dsimp only; omega, sl_eq hw1 rfl (by dsimp only; rw [wAt_high hi16, nums_append])⟩ (by dsimp only; omega) (kp 3 rfl (kp 4 rfl (kp 5 rfl (kp 8 rfl (kp 9 rfl (kp 10 rfl kn)))))) (Fit.head1' (List.Sublist.refl _)) (fun _ h => h)
        ·
          have hi64 : i = 64 := by simp at hc; omega
          subst hi64
          refine XC.exit ?_
          refine te ?_
          refine re ?_
          refine be rfl ?_
          refine nx (kp 3 rfl (kp 4 rfl (kp 5 rfl (kp 8 rfl (kp 9 rfl kn))))) ?_
          refine XC.draw (_) [0, 1, 2, 3, 4, 5, 6, 7, 8, 9, 10, 11, 12, 13, 14, 15, 16, 17, 18, 19, 20, 21, 22, 23, 24, 25, 26, 27, 28, 29, 30, 31] [(0, 0), (1, 0), (2, 1), (3, 0), (4, 0), (5, 1), (6, 0), (7, 0), (8, 1), (9, 0), (10, 0), (11, 1), (12, 0), (13, 0), (14, 1), (15, 0), (16, 0), (17, 1), (18, 0), (19, 0), (20, 1), (21, 0), (22, 0), (23, 1), (24, 0), (25, 0), (26, 0), (27, 0), (28, 0), (29, 0), (30, 0), (31, 0)] (by kernel_rfl) (by kernel_rfl) (fun _ h => h) fun hs => ?_
          refine XP.q hs rfl (q_move rfl) rfl ?_
          refine XP.q hs rfl (q_atV (hh.rd fun _ h => h) rfl rfl (by kernel_rfl) 0 rfl (by decide)) rfl ?_
          refine XP.r hs rfl (q_ldVN (hh.rd fun _ h => by simp [h]) rfl (by kernel_rfl) (by decide)) rfl ?_
          refine XP.q hs rfl (q_move rfl) rfl ?_
          refine XP.q hs rfl (q_atV (hh.rd fun _ h => h) rfl rfl (by kernel_rfl) 1 rfl (by decide)) rfl ?_
          refine XP.r hs rfl (q_ldVN (hh.rd fun _ h => by simp [h]) rfl (by kernel_rfl) (by decide)) rfl ?_
          refine XP.q hs rfl (q_move rfl) rfl ?_
          refine XP.q hs rfl (q_atV (hh.rd fun _ h => h) rfl rfl (by kernel_rfl) 2 rfl (by decide)) rfl ?_
          refine XP.r hs rfl (q_ldVN (hh.rd fun _ h => by simp [h]) rfl (by kernel_rfl) (by decide)) rfl ?_
          refine XP.q hs rfl (q_move rfl) rfl ?_
          refine XP.q hs rfl (q_atV (hh.rd fun _ h => h) rfl rfl (by kernel_rfl) 3 rfl (by decide)) rfl ?_
          refine XP.r hs rfl (q_ldVN (hh.rd fun _ h => by simp [h]) rfl (by kernel_rfl) (by decide)) rfl ?_
          refine XP.q hs rfl (q_move rfl) rfl ?_
          refine XP.q hs rfl (q_atV (hh.rd fun _ h => h) rfl rfl (by kernel_rfl) 4 rfl (by decide)) rfl ?_
          refine XP.r hs rfl (q_ldVN (hh.rd fun _ h => by simp [h]) rfl (by kernel_rfl) (by decide)) rfl ?_
          refine XP.q hs rfl (q_move rfl) rfl ?_
          refine XP.q hs rfl (q_atV (hh.rd fun _ h => h) rfl rfl (by kernel_rfl) 5 rfl (by decide)) rfl ?_
          refine XP.r hs rfl (q_ldVN (hh.rd fun _ h => by simp [h]) rfl (by kernel_rfl) (by decide)) rfl ?_
          refine XP.q hs rfl (q_move rfl) rfl ?_
          refine XP.q hs rfl (q_atV (hh.rd fun _ h => h) rfl rfl (by kernel_rfl) 6 rfl (by decide)) rfl ?_
          refine XP.r hs rfl (q_ldVN (hh.rd fun _ h => by simp [h]) rfl (by kernel_rfl) (by decide)) rfl ?_
          refine XP.q hs rfl (q_move rfl) rfl ?_
          refine XP.q hs rfl (q_atV (hh.rd fun _ h => h) rfl rfl (by kernel_rfl) 7 rfl (by decide)) rfl ?_
          refine XP.r hs rfl (q_ldVN (hh.rd fun _ h => by simp [h]) rfl (by kernel_rfl) (by decide)) rfl ?_
          refine XP.q hs rfl (q_assign rfl) rfl ?_
          refine XP.q hs rfl (q_assign rfl) rfl ?_
          refine XP.q hs rfl (q_assign rfl) rfl ?_
          refine XP.q hs rfl (q_assign rfl) rfl ?_
          refine XP.q hs rfl (q_assign rfl) rfl ?_
          refine XP.q hs rfl (q_assign rfl) rfl ?_
          refine XP.q hs rfl (q_assign rfl) rfl ?_
          refine XP.q hs rfl (q_assign rfl) rfl ?_
          refine XP.fin (kp 3 rfl (kp 4 rfl (kp 5 rfl (kp 8 rfl (kp 9 rfl (kp 15 rfl (kp 16 rfl (kp 17 rfl (kp 18 rfl (kp 19 rfl (kp 20 rfl (kp 21 rfl (kp 22 rfl kn))))))))))))) ?_
          refine XC.seq ?_
          refine XC.reg ?_
          refine XL.q (q_assign rfl) rfl ?_
          refine XL.fin (kp 3 rfl (kp 4 rfl (kp 5 rfl (kp 8 rfl (kp 9 rfl (kp 15 rfl (kp 16 rfl (kp 17 rfl (kp 18 rfl (kp 19 rfl (kp 20 rfl (kp 21 rfl (kp 22 rfl (kp 23 rfl kn)))))))))))))) ?_
          refine XC.block ?_
          have hso : (shaB kTab t hFirst PP).ok := shaB_ok _ _ _ first_ok
          generalize hs0 : shaB kTab t hFirst PP = s at *
          generalize hW : wAt P 64 = W at *
          refine XC.loop (α := Nat × S8) (fun x => [(3, kv), (4, hv), (5, pv), (8, .int .i64 ((64 * t : Nat) : Int)), (9, wv), (15, .int .u32 ((x.2.a : Nat) : Int)), (16, .int .u32 ((x.2.b : Nat) : Int)), (17, .int .u32 ((x.2.c : Nat) : Int)), (18, .int .u32 ((x.2.d : Nat) : Int)), (19, .int .u32 ((x.2.e : Nat) : Int)), (20, .int .u32 ((x.2.f : Nat) : Int)), (21, .int .u32 ((x.2.g : Nat) : Int)), (22, .int .u32 ((x.2.h : Nat) : Int)), (23, .int .i64 (x.1 : Int))]) (fun _ => Bw ++ (Bp ++ (Bh ++ Bk))) (fun _ => []) (fun x => x.1 ≤ 64 ∧ x.2 = rounds kTab W s x.1) (fun x => 64 - x.1) (0, s) ⟨Nat.zero_le _, rfl⟩ (kp 3 rfl (kp 4 rfl (kp 5 rfl (kp 8 rfl (kp 9 rfl (kp 15 rfl (kp 16 rfl (kp 17 rfl (kp 18 rfl (kp 19 rfl (kp 20 rfl (kp 21 rfl (kp 22 rfl (kp 23 rfl kn)))))))))))))) .rfl (fun _ h => h) ?_
          rintro ⟨i, r⟩ ⟨hi, hr⟩
          dsimp only at hi hr ⊢
          have hro := hso.rounds kTab W i
          rw [← hr, S8.ok_iff] at hro
          obtain ⟨ra, rb, rc, rd, re', rf, rg, rh⟩ := hro
          refine XC.seq ?_
          refine XC.reg ?_
          refine XL.q (q_move rfl) rfl ?_
          refine XL.q (q_bin rfl rfl rfl) rfl ?_
          refine XL.fin (kp 3 rfl (kp 4 rfl (kp 5 rfl (kp 8 rfl (kp 9 rfl (kp 15 rfl (kp 16 rfl (kp 17 rfl (kp 18 rfl (kp 19 rfl (kp 20 rfl (kp 21 rfl (kp 22 rfl (kp 23 rfl (kp 180 rfl kn))))))))))))))) ?_
          refine XC.cond rfl (fun hc => ?_) (fun hc => ?_)
          ·
            have hlt3 : i < 64 := by simp at hc; omega
            refine XC.skip ?_
            refine nx (kp 3 rfl (kp 4 rfl (kp 5 rfl (kp 8 rfl (kp 9 rfl (kp 15 rfl (kp 16 rfl (kp 17 rfl (kp 18 rfl (kp 19 rfl (kp 20 rfl (kp 21 rfl (kp 22 rfl (kp 23 rfl kn)))))))))))))) ?_
            refine XC.seq ?_
            refine XC.block ?_
            refine XC.reg ?_
            refine XL.q (q_move rfl) rfl ?_
            refine XL.cv (aS rfl (aS rfl a0)) (by kernel_rfl) (turn_spec _ 6 _ _ re' (by decide) rfl) rfl ?_
            refine XL.q (q_move rfl) rfl ?_
            refine XL.cv (aS rfl (aS rfl a0)) (by kernel_rfl) (turn_spec _ 11 _ _ re' (by decide) rfl) rfl ?_
            refine XL.q (q_xor32 rfl rfl (rotr_lt re') (rotr_lt re')) rfl ?_
            refine XL.q (q_move rfl) rfl ?_
            refine XL.cv (aS rfl (aS rfl a0)) (by kernel_rfl) (turn_spec _ 25 _ _ re' (by decide) rfl) rfl ?_
            refine XL.q (q_xor32 rfl rfl (xor32 (rotr_lt re') (rotr_lt re')) (rotr_lt re')) rfl ?_
            refine XL.q (q_assign rfl) rfl ?_
            refine XL.fin (kp 3 rfl (kp 4 rfl (kp 5 rfl (kp 8 rfl (kp 9 rfl (kp 15 rfl (kp 16 rfl (kp 17 rfl (kp 18 rfl (kp 19 rfl (kp 20 rfl (kp 21 rfl (kp 22 rfl (kp 23 rfl (kp 24 rfl kn))))))))))))))) ?_
            refine XC.draw (_) [0, 1, 2, 3, 4, 5, 6, 7, 8, 9, 10, 11, 12, 13, 14, 15, 16, 17, 18, 19, 20, 21, 22] [(0, 0), (1, 0), (2, 0), (3, 0), (4, 0), (5, 0), (6, 0), (7, 0), (8, 0), (9, 0), (10, 0), (11, 0), (12, 0), (13, 0), (14, 0), (15, 1), (16, 0), (17, 0), (18, 0), (19, 0), (20, 1), (21, 0), (22, 0)] (by kernel_rfl) (by kernel_rfl) (fun _ h => h) fun hs => ?_
            refine XP.q hs rfl (q_move rfl) rfl ?_
            refine XP.q hs rfl (q_move rfl) rfl ?_
            refine XP.q hs rfl (q_add32 rfl rfl) rfl ?_
            refine XP.q hs rfl (q_move rfl) rfl ?_
            refine XP.q hs rfl (q_move rfl) rfl ?_
            refine XP.q hs rfl (q_and32 rfl rfl re' rf) rfl ?_
            refine XP.q hs rfl (q_move rfl) rfl ?_
            refine XP.q hs rfl (q_com32 rfl re') rfl ?_
            refine XP.q hs rfl (q_move rfl) rfl ?_
            refine XP.q hs rfl (q_and32 rfl rfl (xor32 (by decide) re') rg) rfl ?_
            refine XP.q hs rfl (q_xor32 rfl rfl (and32 re') (and32 (xor32 (by decide) re'))) rfl ?_
            refine XP.q hs rfl (q_add32 rfl rfl) rfl ?_
            refine XP.q hs rfl (q_move rfl) rfl ?_
            refine XP.q hs rfl (q_move rfl) rfl ?_
            refine XP.q hs rfl (q_atV (hk.rd fun _ h => h) rfl rfl (by kernel_rfl) i rfl hlt3) rfl ?_
            refine XP.r hs rfl (q_ldVN (hk.rd fun _ h => by simp [h]) rfl (by kernel_rfl) hlt3) rfl ?_
            refine XP.q hs rfl (q_add32 rfl rfl) rfl ?_
            refine XP.q hs rfl (q_move rfl) rfl ?_
            refine XP.q hs rfl (q_move rfl) rfl ?_
            refine XP.q hs rfl (q_atV (hw.rd fun _ h => h) rfl rfl (by kernel_rfl) i rfl hlt3) rfl ?_
            refine XP.r hs rfl (q_ldVN (hw.rd fun _ h => by simp [h]) rfl (by kernel_rfl) hlt3) rfl ?_
            refine XP.q hs rfl (q_add32 rfl rfl) rfl ?_
            refine XP.q hs rfl (q_assign rfl) rfl ?_
            refine XP.fin (kp 3 rfl (kp 4 rfl (kp 5 rfl (kp 8 rfl (kp 9 rfl (kp 15 rfl (kp 16 rfl (kp 17 rfl (kp 18 rfl (kp 19 rfl (kp 20 rfl (kp 21 rfl (kp 23 rfl (kp 25 rfl kn)))))))))))))) ?_
            refine XC.reg ?_
            refine XL.q (q_move rfl) rfl ?_
            refine XL.cv (aS rfl (aS rfl a0)) (by kernel_rfl) (turn_spec _ 2 _ _ ra (by decide) rfl) rfl ?_
            refine XL.q (q_move rfl) rfl ?_
            refine XL.cv (aS rfl (aS rfl a0)) (by kernel_rfl) (turn_spec _ 13 _ _ ra (by decide) rfl) rfl ?_
            refine XL.q (q_xor32 rfl rfl (rotr_lt ra) (rotr_lt ra)) rfl ?_
            refine XL.q (q_move rfl) rfl ?_
            refine XL.cv (aS rfl (aS rfl a0)) (by kernel_rfl) (turn_spec _ 22 _ _ ra (by decide) rfl) rfl ?_
            refine XL.q (q_xor32 rfl rfl (xor32 (rotr_lt ra) (rotr_lt ra)) (rotr_lt ra)) rfl ?_
            refine XL.q (q_assign rfl) rfl ?_
            refine XL.fin (kp 3 rfl (kp 4 rfl (kp 5 rfl (kp 8 rfl (kp 9 rfl (kp 15 rfl (kp 16 rfl (kp 17 rfl (kp 18 rfl (kp 19 rfl (kp 20 rfl (kp 21 rfl (kp 23 rfl (kp 25 rfl (kp 26 rfl kn))))))))))))))) ?_
            refine XC.reg ?_
            refine XL.q (q_move rfl) rfl ?_
            refine XL.q (q_move rfl) rfl ?_
            refine XL.q (q_move rfl) rfl ?_
            refine XL.q (q_and32 rfl rfl ra rb) rfl ?_
            refine XL.q (q_move rfl) rfl ?_
            refine XL.q (q_move rfl) rfl ?_
            refine XL.q (q_and32 rfl rfl ra rc) rfl ?_
            refine XL.q (q_xor32 rfl rfl (and32 ra) (and32 ra)) rfl ?_
            refine XL.q (q_move rfl) rfl ?_
            refine XL.q (q_move rfl) rfl ?_
            refine XL.q (q_and32 rfl rfl rb rc) rfl ?_
            refine XL.q (q_xor32 rfl rfl (xor32 (and32 ra) (and32 ra)) (and32 rb)) rfl ?_
            refine XL.q (q_add32 rfl rfl) rfl ?_
            refine XL.q (q_assign rfl) rfl ?_
            refine XL.fin (kp 3 rfl (kp 4 rfl (kp 5 rfl (kp 8 rfl (kp 9 rfl (kp 15 rfl (kp 16 rfl (kp 17 rfl (kp 18 rfl (kp 19 rfl (kp 20 rfl (kp 21 rfl (kp 23 rfl (kp 25 rfl (kp 27 rfl kn))))))))))))))) ?_
            refine XC.reg ?_
            refine XL.q (q_move rfl) rfl ?_
            refine XL.q (q_assign rfl) rfl ?_
            refine XL.fin (kp 3 rfl (kp 4 rfl (kp 5 rfl (kp 8 rfl (kp 9 rfl (kp 15 rfl (kp 16 rfl (kp 17 rfl (kp 18 rfl (kp 19 rfl (kp 20 rfl (kp 22 rfl (kp 23 rfl (kp 25 rfl (kp 27 rfl kn))))))))))))))) ?_
            refine XC.reg ?_
            refine XL.q (q_move rfl) rfl ?_
            refine XL.q (q_assign rfl) rfl ?_
            refine XL.fin (kp 3 rfl (kp 4 rfl (kp 5 rfl (kp 8 rfl (kp 9 rfl (kp 15 rfl (kp 16 rfl (kp 17 rfl (kp 18 rfl (kp 19 rfl (kp 21 rfl (kp 22 rfl (kp 23 rfl (kp 25 rfl (kp 27 rfl kn))))))))))))))) ?_
            refine XC.reg ?_
            refine XL.q (q_move rfl) rfl ?_
            refine XL.q (q_assign rfl) rfl ?_
            refine XL.fin (kp 3 rfl (kp 4 rfl (kp 5 rfl (kp 8 rfl (kp 9 rfl (kp 15 rfl (kp 16 rfl (kp 17 rfl (kp 18 rfl (kp 20 rfl (kp 21 rfl (kp 22 rfl (kp 23 rfl (kp 25 rfl (kp 27 rfl kn))))))))))))))) ?_
            refine XC.reg ?_
            refine XL.q (q_move rfl) rfl ?_
            refine XL.q (q_move rfl) rfl ?_
            refine XL.q (q_add32 rfl rfl) rfl ?_
            refine XL.q (q_assign rfl) rfl ?_
            refine XL.fin (kp 3 rfl (kp 4 rfl (kp 5 rfl (kp 8 rfl (kp 9 rfl (kp 15 rfl (kp 16 rfl (kp 17 rfl (kp 19 rfl (kp 20 rfl (kp 21 rfl (kp 22 rfl (kp 23 rfl (kp 25 rfl (kp 27 rfl kn))))))))))))))) ?_
            refine XC.reg ?_
            refine XL.q (q_move rfl) rfl ?_
            refine XL.q (q_assign rfl) rfl ?_
            refine XL.fin (kp 3 rfl (kp 4 rfl (kp 5 rfl (kp 8 rfl (kp 9 rfl (kp 15 rfl (kp 16 rfl (kp 18 rfl (kp 19 rfl (kp 20 rfl (kp 21 rfl (kp 22 rfl (kp 23 rfl (kp 25 rfl (kp 27 rfl kn))))))))))))))) ?_
            refine XC.reg ?_
            refine XL.q (q_move rfl) rfl ?_
            refine XL.q (q_assign rfl) rfl ?_
            refine XL.fin (kp 3 rfl (kp 4 rfl (kp 5 rfl (kp 8 rfl (kp 9 rfl (kp 15 rfl (kp 17 rfl (kp 18 rfl (kp 19 rfl (kp 20 rfl (kp 21 rfl (kp 22 rfl (kp 23 rfl (kp 25 rfl (kp 27 rfl kn))))))))))))))) ?_
            refine XC.reg ?_
            refine XL.q (q_move rfl) rfl ?_
            refine XL.q (q_assign rfl) rfl ?_
            refine XL.fin (kp 3 rfl (kp 4 rfl (kp 5 rfl (kp 8 rfl (kp 9 rfl (kp 16 rfl (kp 17 rfl (kp 18 rfl (kp 19 rfl (kp 20 rfl (kp 21 rfl (kp 22 rfl (kp 23 rfl (kp 25 rfl (kp 27 rfl kn))))))))))))))) ?_
            refine XC.reg1 ?_
            refine XL.q (q_move rfl) rfl ?_
            refine XL.q (q_move rfl) rfl ?_
            refine XL.q (q_num (((r.step (kTab.getD i 0) (W.getD i 0)).a : Nat) : Int) rfl rfl (addU (k := .u32) rfl _ (step_alt r _ _))) rfl ?_
            refine XL.q (q_assign rfl) rfl ?_
            refine XL.nil ?_
            refine nb ?_
            refine nx (kp 3 rfl (kp 4 rfl (kp 5 rfl (kp 8 rfl (kp 9 rfl (kp 15 rfl (kp 16 rfl (kp 17 rfl (kp 18 rfl (kp 19 rfl (kp 20 rfl (kp 21 rfl (kp 22 rfl (kp 23 rfl kn)))))))))))))) ?_
            refine XC.reg1 ?_
            refine XL.q (q_move rfl) rfl ?_
            refine XL.q (q_num ((i + 1 : Nat) : Int) rfl rfl (add64 (by omega) (by omega) (by omega))) rfl ?_
            refine XL.q (q_assign rfl) rfl ?_
            refine XL.nil ?_
            refine rn (i + 1, r.step (kTab.getD i 0) (W.getD i 0)) ⟨by dsimp only; omega, by dsimp only; rw [rounds, ← hr]⟩ (by dsimp only; omega) (kp 3 rfl (kp 4 rfl (kp 5 rfl (kp 8 rfl (kp 9 rfl (kp 15 rfl (kp 16 rfl (kp 17 rfl (kp 18 rfl (kp 19 rfl (kp 20 rfl (kp 21 rfl (kp 22 rfl (kp 23 rfl kn)))))))))))))) .rfl (fun _ h => h)
          ·
            have hlt3 : i = 64 := by simp at hc; omega
            subst hlt3
            refine XC.exit ?_
            refine te ?_
            refine re ?_
            refine be rfl ?_
            refine nx (kp 3 rfl (kp 4 rfl (kp 5 rfl (kp 8 rfl (kp 15 rfl (kp 16 rfl (kp 17 rfl (kp 18 rfl (kp 19 rfl (kp 20 rfl (kp 21 rfl (kp 22 rfl kn)))))))))))) ?_
            refine XC.reg ?_
            refine XL.q (q_move rfl) rfl ?_
            refine XL.q (q_move rfl) rfl ?_
            refine XL.q (q_move rfl) rfl ?_
            refine XL.q (q_move rfl) rfl ?_
            refine XL.q (q_move rfl) rfl ?_
            refine XL.q (q_move rfl) rfl ?_
            refine XL.q (q_move rfl) rfl ?_
            refine XL.q (q_move rfl) rfl ?_
            refine XL.lo rfl (l_buildSlice (e := 49) (sz := 1) (z := [.int .u32 0, .int .u32 0, .int .u32 0, .int .u32 0, .int .u32 0, .int .u32 0, .int .u32 0, .int .u32 0]) (by kernel_rfl) (eS rfl (eS rfl (eS rfl (eS rfl (eS rfl (eS rfl (eS rfl (eS rfl e0)))))))) (bdS 0 1 rfl (by rfl) (bdS 1 1 rfl (by rfl) (bdS 2 1 rfl (by rfl) (bdS 3 1 rfl (by rfl) (bdS 4 1 rfl (by rfl) (bdS 5 1 rfl (by rfl) (bdS 6 1 rfl (by rfl) (bdS 7 1 rfl (by rfl) bd0)))))))) rfl fun b254 => ?_)
            refine XL.q (q_assign rfl) rfl ?_
            refine XL.fin (kp 3 rfl (kp 4 rfl (kp 5 rfl (kp 8 rfl (kp 28 rfl kn))))) ?_
            refine XC.reg ?_
            refine XL.q (q_assign rfl) rfl ?_
            refine XL.fin (kp 3 rfl (kp 4 rfl (kp 5 rfl (kp 8 rfl (kp 28 rfl (kp 29 rfl kn)))))) ?_
            refine XC.block ?_
            have hpl : s.plus r = shaBlock kTab s P := by
              unfold shaBlock; rw [hr, ← hW]; rfl
            refine XC.loop (α := Nat × Mem) (fun x => [(3, kv), (4, hv), (5, pv), (8, .int .i64 ((64 * t : Nat) : Int)), (28, .slice (some ⟨b254, 0, none⟩) 8 8), (29, .int .i64 (x.1 : Int))]) (fun x => (b254, blk (nums .u32 r.list) 49) :: (Bp ++ (x.2 ++ Bk))) (fun _ => []) (fun x => x.1 ≤ 8 ∧ Sl 1 hv 8 (nums .u32 (plusAt s r x.1)) x.2) (fun x => 8 - x.1) (0, Bh) ⟨Nat.zero_le _, hh⟩ (kp 3 rfl (kp 4 rfl (kp 5 rfl (kp 8 rfl (kp 28 rfl (kp 29 rfl kn)))))) (Fit.sub (.cons_cons _ (List.sublist_append_right _ _))) (fun _ h => h) ?_
            rintro ⟨i, Bh⟩ ⟨hi, hh⟩
            dsimp only at hi hh ⊢
            refine XC.seq ?_
            refine XC.reg ?_
            refine XL.q (q_move rfl) rfl ?_
            refine XL.q (q_bin rfl rfl rfl) rfl ?_
            refine XL.fin (kp 3 rfl (kp 4 rfl (kp 5 rfl (kp 8 rfl (kp 28 rfl (kp 29 rfl (kp 256 rfl kn))))))) ?_
            refine XC.cond rfl (fun hc => ?_) (fun hc => ?_)
            ·
              have hlt4 : i < 8 := by simp at hc; omega
              refine XC.skip ?_
              refine nx (kp 3 rfl (kp 4 rfl (kp 5 rfl (kp 8 rfl (kp 28 rfl (kp 29 rfl kn)))))) ?_
              refine XC.seq ?_
              refine XC.block ?_
              refine XC.draw1 (_) [0, 1, 2, 3, 4, 5, 6, 7, 8, 9] [(0, 0), (1, 0), (2, 0), (3, 1), (4, 0), (5, 0), (6, 0), (7, 1), (8, 0), (9, 0), (10, 2)] (by kernel_rfl) (by kernel_rfl) (fun _ h => h) fun hs => ?_
              refine XP.q hs rfl (q_move rfl) rfl ?_
              refine XP.q hs rfl (q_move rfl) rfl ?_
              refine XP.q hs rfl (q_atV (hh.rd fun _ h => h) rfl rfl (by kernel_rfl) i rfl hlt4) rfl ?_
              refine XP.r hs rfl (q_ldVN (hh.rd fun _ h => by simp [h]) rfl (by kernel_rfl) hlt4) rfl ?_
              refine XP.q hs rfl (q_move rfl) rfl ?_
              refine XP.q hs rfl (q_move rfl) rfl ?_
              refine XP.q hs rfl (q_idxS (i := i) (e := 49) (sz := 1) rfl rfl (by kernel_rfl) (by kernel_rfl) rfl hlt4) rfl ?_
              refine XP.r hs rfl (q_ldN i rfl (by kernel_rfl) At.mem (by omega) (show i < 8 from hlt4)) rfl ?_
              refine XP.q hs rfl (q_add32 rfl rfl) rfl ?_
              refine XP.q hs rfl (q_atV (hh.rd fun _ h => h) rfl rfl (by kernel_rfl) i rfl hlt4) rfl ?_
              refine XP.tl rfl rfl rfl (l_stV (M0 := _ :: (Bp ++ Bk)) hh rfl rfl (by kernel_rfl) hlt4 (((List.perm_append_comm_assoc Bp Bh Bk).cons _).trans List.perm_middle.symm) fun Bh2 hh2 => ?_)
              refine XP.nil ?_
              refine nb ?_
              refine nx (kp 3 rfl (kp 4 rfl (kp 5 rfl (kp 8 rfl (kp 28 rfl (kp 29 rfl kn)))))) ?_
              refine XC.reg1 ?_
              refine XL.q (q_move rfl) rfl ?_
              refine XL.q (q_num ((i + 1 : Nat) : Int) rfl rfl (add64 (by omega) (by omega) (by omega))) rfl ?_
              refine XL.q (q_assign rfl) rfl ?_
              refine XL.nil ?_
              refine rn (i + 1, Bh2) ⟨by dsimp only; omega, sl_eq hh2 rfl (by dsimp only; rw [plusAt_get _ _ _ hlt4, plusAt_succ _ _ _ hlt4])⟩ (by dsimp only; omega) (kp 3 rfl (kp 4 rfl (kp 5 rfl (kp 8 rfl (kp 28 rfl (kp 29 rfl kn)))))) (Fit.perm (List.perm_middle.trans ((List.perm_append_comm_assoc Bh2 Bp Bk).cons _))) (fun _ h => h)
            ·
              have hlt4 : i = 8 := by simp at hc; omega
              subst hlt4
              refine XC.exit ?_
              refine te ?_
              refine re ?_
              refine be rfl ?_
              refine nb ?_
              refine nx (kp 3 rfl (kp 4 rfl (kp 5 rfl (kp 8 rfl kn)))) ?_
              refine XC.reg1 ?_
              refine XL.q (q_move rfl) rfl ?_
              refine XL.q (q_num ((64 * (t + 1) : Nat) : Int) rfl rfl (add64 (by omega) (by omega) (by omega))) rfl ?_
              refine XL.q (q_assign rfl) rfl ?_
              refine XL.nil ?_
              refine rn (t + 1, Bh) ⟨by dsimp only; omega, sl_eq hh rfl ?_⟩ (by dsimp only; omega) (kp 3 rfl (kp 4 rfl (kp 5 rfl (kp 8 rfl kn)))) (Fit.sub (.cons _ (List.Sublist.refl _))) (fun _ h => h)
              dsimp only
              rw [shaB_succ, hs0, hP, ← hpl]; rfl
      ·
        have hlt : t = PP.length / 64 := by simp at hc; omega
        subst hlt
        refine XC.exit ?_
        refine te ?_
        refine re ?_
        refine be rfl ?_
        refine nx (kp 4 rfl kn) ?_
        refine XC.reg ?_
        refine XL.q (q_assign rfl) rfl ?_
        refine XL.fin (kp 4 rfl (kp 30 rfl kn)) ?_
        refine XC.seq ?_
        refine XC.reg ?_
        refine XL.q (q_assign rfl) rfl ?_
        refine XL.fin (kp 4 rfl (kp 30 rfl (kp 31 rfl kn))) ?_
        refine XC.block ?_
        have hro : (shaB kTab (PP.length / 64) hFirst PP).ok := shaB_ok _ _ _ first_ok
        generalize hr : shaB kTab (PP.length / 64) hFirst PP = r at *
        refine XC.loop (α := Nat × Value × Mem) (fun x => [(4, hv), (30, x.2.1), (31, .int .i64 (x.1 : Int))]) (fun x => x.2.2 ++ (Bh ++ Bk)) (fun _ => []) (fun x => x.1 ≤ 8 ∧ Sl 1 x.2.1 (4 * x.1) (nums .u8 ((r.list.take x.1).flatMap out4)) x.2.2) (fun x => 8 - x.1) (0, .slice none 0 0, []) ⟨Nat.zero_le _, Sl.nil⟩ (kp 4 rfl (kp 30 rfl (kp 31 rfl kn))) (Fit.sub (List.sublist_append_right _ _)) (fun _ h => h) ?_
        rintro ⟨i, ov, Bo⟩ ⟨hi, ho⟩
        dsimp only at hi ho ⊢
        refine XC.seq ?_
        refine XC.reg ?_
        refine XL.q (q_move rfl) rfl ?_
        refine XL.q (q_bin rfl rfl rfl) rfl ?_
        refine XL.fin (kp 4 rfl (kp 30 rfl (kp 31 rfl (kp 270 rfl kn)))) ?_
        refine XC.cond rfl (fun hc => ?_) (fun hc => ?_)
        ·
          have hlt5 : i < 8 := by simp at hc; omega
          refine XC.skip ?_
          refine nx (kp 4 rfl (kp 30 rfl (kp 31 rfl kn))) ?_
          refine XC.seq ?_
          refine XC.block ?_
          refine XC.reg ?_
          refine XL.q (q_assign rfl) rfl ?_
          refine XL.fin (kp 4 rfl (kp 30 rfl (kp 31 rfl (kp 32 rfl kn)))) ?_
          refine XC.block ?_
          refine XC.loop (α := Nat × Value × Mem) (fun x => [(4, hv), (30, x.2.1), (31, .int .i64 (i : Int)), (32, .int .i64 (3 - (x.1 : Int)))]) (fun x => x.2.2 ++ (Bh ++ Bk)) (fun _ => []) (fun x => x.1 ≤ 4 ∧ Sl 1 x.2.1 (4 * i + x.1) (nums .u8 ((r.list.take i).flatMap out4 ++ (out4 (r.list.getD i 0)).take x.1)) x.2.2) (fun x => 4 - x.1) (0, ov, Bo) ⟨Nat.zero_le _, sl_eq ho rfl (by simp)⟩ (kp 4 rfl (kp 30 rfl (kp 31 rfl (kp 32 rfl kn)))) .rfl (fun _ h => h) ?_
          rintro ⟨j, ov, Bo⟩ ⟨hj, ho⟩
          dsimp only at hj ho ⊢
          refine XC.seq ?_
          refine XC.reg ?_
          refine XL.q (q_move rfl) rfl ?_
          refine XL.q (q_bin rfl rfl rfl) rfl ?_
          refine XL.fin (kp 4 rfl (kp 30 rfl (kp 31 rfl (kp 32 rfl (kp 274 rfl kn))))) ?_
          refine XC.cond rfl (fun hc => ?_) (fun hc => ?_)
          ·
            have hlt6 : j < 4 := by simp at hc; omega
            refine XC.skip ?_
            refine nx (kp 4 rfl (kp 30 rfl (kp 31 rfl (kp 32 rfl kn)))) ?_
            refine XC.seq ?_
            refine XC.block ?_
            refine XC.reg1 ?_
            refine XL.q (q_move rfl) rfl ?_
            refine XL.q (q_move rfl) rfl ?_
            refine XL.q (q_move rfl) rfl ?_
            refine XL.q (q_atV (hh.rd fun _ h => h) rfl rfl (by kernel_rfl) i rfl hlt5) rfl ?_
            refine XL.q (q_ldVN (hh.rd fun _ h => by simp [h]) rfl (by kernel_rfl) hlt5) rfl ?_
            refine XL.q (q_move rfl) rfl ?_
            refine XL.q (q_num ((24 - 8 * j : Nat) : Int) rfl rfl (mul64 (by omega) (by omega) (by omega))) rfl ?_
            refine XL.q (q_shrN (24 - 8 * j) rfl rfl rfl (by show _ ≤ 32; omega)) rfl ?_
            refine XL.q (q_to8 rfl (by kernel_rfl)) rfl ?_
            refine XL.lo rfl (l_buildSlice (e := 5) (sz := 1) (z := [.int .u8 0]) (by kernel_rfl) (eS rfl e0) (bdS 0 1 rfl (by rfl) bd0) rfl fun b286 => ?_)
            refine XL.lo rfl (l_append (e := 5) (sz := 1) (by_ := 1) (m := 1) (B := Bo) (ys := nums .u8 [(r.list.getD i 0) >>> (24 - 8 * j) % 256]) (M0 := (b286, _) :: _) rfl rfl (by kernel_rfl) rfl ho (Rd.whole (n := 1) m0 (by rfl)) nums_one pkB (by unfold maxLen; omega) (by omega) rfl fun ov1 Bo1 ho1 => ?_)
            refine XL.q (q_assign rfl) rfl ?_
            refine XL.nil ?_
            refine nb ?_
            refine nx (kp 4 rfl (kp 30 rfl (kp 31 rfl (kp 32 rfl kn)))) ?_
            refine XC.reg1 ?_
            refine XL.q (q_move rfl) rfl ?_
            refine XL.q (q_num (3 - ((j + 1 : Nat) : Int)) rfl rfl (sub64 (by omega) (by omega) (by omega))) rfl ?_
            refine XL.q (q_assign rfl) rfl ?_
            refine XL.nil ?_
            refine rn (j + 1, ov1, Bo1) ⟨by dsimp only; omega, sl_eq ho1 (by dsimp only; omega) (by dsimp only; rw [← nums_append, List.append_assoc, ← out4_take _ hlt6])⟩ (by dsimp only; omega) (kp 4 rfl (kp 30 rfl (kp 31 rfl (kp 32 rfl kn)))) (Fit.head1' (List.Sublist.refl _)) (fun _ h => h)
          ·
            have hlt6 : j = 4 := by simp at hc; omega
            subst hlt6
            refine XC.exit ?_
            refine te ?_
            refine re ?_
            refine be rfl ?_
            refine nb ?_
            refine nx (kp 4 rfl (kp 30 rfl (kp 31 rfl kn))) ?_
            refine XC.reg1 ?_
            refine XL.q (q_move rfl) rfl ?_
            refine XL.q (q_num ((i + 1 : Nat) : Int) rfl rfl (add64 (by omega) (by omega) (by omega))) rfl ?_
            refine XL.q (q_assign rfl) rfl ?_
            refine XL.nil ?_
            refine rn (i + 1, ov, Bo) ⟨by dsimp only; omega, sl_eq ho (by dsimp only; omega) ?_⟩ (by dsimp only; omega) (kp 4 rfl (kp 30 rfl (kp 31 rfl kn))) .rfl (fun _ h => h)
            dsimp only
            have e : r.list.take (i + 1) = r.list.take i ++ [r.list.getD i 0] := by
              rw [List.take_add_one, List.getElem?_eq_getElem (show i < r.list.length from hlt5), List.getD, List.getElem?_eq_getElem (show i < r.list.length from hlt5)]; rfl
            rw [e, List.flatMap_append]
            simp [out4]
        ·
          have hlt5 : i = 8 := by simp at hc; omega
          subst hlt5
          refine XC.exit ?_
          refine te ?_
          refine re ?_
          refine be rfl ?_
          refine nx (kp 30 rfl kn) ?_
          refine XC.reg ?_
          refine XL.q (q_move rfl) rfl ?_
          refine XL.q (q_assign rfl) rfl ?_
          refine XL.fin (kp 2 rfl kn) ?_
          refine XC.ret ?_
          refine ⟨_, Bo, [], res1 rfl rfl, List.sublist_append_left _ _, by simp, rfl, sl_eq ho rfl ?_⟩
          unfold sha256; rw [hPP, hr]; rfl

end Go.Proofs.YtcfdeohjhhpmcaaDoor
/- The walk of the law's wide. -/
set_option linter.unusedVariables false
set_option linter.unusedSimpArgs false
namespace Go.Proofs.YtcfdeohjhhpmcaaDoor
open Go.Px Go.Ed
theorem rlow_z {v : Value} {w : List Nat} (A : Mem) (h : By A v w) (hl : w.length ≤ 1000) : FnX Tryd.prog 32 [v] [] A fun r M J => M = [] ∧ Nf J r (bv w) ((w.length + 3) / 4) :=
  ((low_spec v w A h.rd h.lt (by omega)).frz0).mono fun r M J ⟨h1, h2⟩ => ⟨h1, h2.f⟩
theorem sl_to {v : Value} {n : Nat} {xs : List Value} {w : List Nat} {B : Mem} (h : Sl 1 v n xs B) (h1 : n = w.length) (h2 : xs = nums .u8 w) : Sl 1 v w.length (nums .u8 w) B := by subst h1; subst h2; exact h
theorem sx_to {v : Value} {n : Nat} {xs : List Value} {w : List Nat} {B : Mem} (h : Sx 1 v n xs B) (h1 : n = w.length) (h2 : xs = nums .u8 w) : Sx 1 v w.length (nums .u8 w) B := by subst h1; subst h2; exact h
theorem nv16 : nv (List.replicate 16 4294967295) = 13407807929942597099574024998205846127479365820592393377723561443721764030073546976801874298166903427690031858186486050853753882811946569946433649006084095 := by decide +kernel
theorem Nf.s16 {R : Mem} {v : Value} {x L : Nat} (h : Nf R v x L) (hx : x ≤ 13407807929942597099574024998205846127479365820592393377723561443721764030073546976801874298166903427690031858186486050853753882811946569946433649006084095) : Nf R v x 16 := by
  obtain ⟨ws, a, b, c, d, e⟩ := h.ex
  exact ⟨ws, a, b, c, d, nrm_len (b := List.replicate 16 4294967295) d (by intro x hx; rw [(List.mem_replicate.1 hx).2]; decide) (by rw [nv16, c]; exact hx)⟩

set_option maxRecDepth 100000 in
theorem rwide_z (S : ByteArray) (w0 : List Nat) (pv : Value) (ps : List (List Nat)) (A : Mem) (hS : S = txt w0) (h256 : ∀ x ∈ w0, x < 256) (hp : Parts A pv ps) (hl : w0.length + ps.flatten.length ≤ 1000000) (hcnt : ps.length ≤ 1000) : FnX Tryd.prog 9 [.string S, pv] [] A fun r M J => M = [] ∧ Nf J r (bv (wide (w0 ++ ps.flatten)) % lN) 8 := by
  obtain ⟨vs, hvs, hpv⟩ := hp.pv
  haveI := hvs.cel
  refine FnX.enterZ (N := 37) Tryd.func9 rfl rfl rfl fun w_ => ?_
  refine XC.keep (kp 0 rfl (kp 1 rfl kn)) ?_
  refine XC.reg ?_
  refine XL.q (q_assign rfl) rfl ?_
  refine XL.fin (kp 0 rfl (kp 1 rfl kn)) ?_
  refine XC.reg ?_
  refine XL.q (q_move rfl) rfl ?_
  refine XL.lo rfl (l_toBytesX (e := 5) rfl hS h256 (by kernel_rfl) (by kernel_rfl) (by kernel_rfl) (by unfold maxLen; omega) rfl fun v10 B10 hs10 => ?_)
  haveI := hs10.cel
  refine XL.q (q_assign rfl) rfl ?_
  refine XL.fin (kp 1 rfl (kp 5 rfl kn)) ?_
  refine XC.seq ?_
  refine XC.reg ?_
  refine XL.q (q_assign rfl) rfl ?_
  refine XL.fin (kp 1 rfl (kp 5 rfl (kp 6 rfl kn))) ?_
  refine XC.block ?_
  refine XC.fit (M' := B10) (Fit.eq (by simp)) (fun _ h => h) ?_
  refine XC.loop (α := Nat × Value × Mem) (fun y => [(1, pv), (5, y.2.1), (6, .int .i64 (y.1 : Int))]) (fun y => y.2.2) (fun _ => []) (fun y => y.1 ≤ ps.length ∧ Sx 1 y.2.1 (w0 ++ spre ps y.1).length (nums .u8 (w0 ++ spre ps y.1)) y.2.2) (fun y => ps.length - y.1) (0, v10, B10) ⟨Nat.zero_le _, sx_to hs10 (by simp [spre]) (by simp [spre])⟩ (kp 1 rfl (kp 5 rfl (kp 6 rfl kn))) .rfl (fun _ h => h) ?_
  rintro ⟨i, vm, Bm⟩ ⟨hi, hm⟩
  dsimp only at hi hm ⊢
  haveI := hm.cel
  refine XC.seq ?_
  refine XC.reg ?_
  refine XL.q (q_move rfl) rfl ?_
  refine XL.q (q_move rfl) rfl ?_
  refine XL.q (q_lenV2 (sz := 1) rfl (by kernel_rfl) hvs) rfl ?_
  refine XL.q (q_bin rfl rfl rfl) rfl ?_
  refine XL.fin (kp 1 rfl (kp 5 rfl (kp 6 rfl (kp 14 rfl kn)))) ?_
  refine XC.cond rfl (fun hc => ?_) (fun hc => ?_)
  ·
    have hlt : i < ps.length := by simp at hc; omega
    obtain ⟨hp256, u, hu, hur⟩ := hpv.2 i _ (List.getElem?_eq_getElem hlt)
    haveI := hur.cel
    have hsp := spre_succ (List.getElem?_eq_getElem hlt)
    have hsl := spre_le ps (i + 1)
    have hsl0 := congrArg List.length hsp
    rw [List.length_append] at hsl0
    have hwl : (w0 ++ spre ps i).length = w0.length + (spre ps i).length := List.length_append
    refine XC.skip ?_
    refine nx (kp 1 rfl (kp 5 rfl (kp 6 rfl kn))) ?_
    refine XC.seq ?_
    refine XC.block ?_
    refine XC.reg1 ?_
    refine XL.q (q_move rfl) rfl ?_
    refine XL.q (q_move rfl) rfl ?_
    refine XL.q (q_move rfl) rfl ?_
    refine XL.q (q_atV2 (sz := 1) (a := i) rfl rfl (by kernel_rfl) rfl hvs hlt) rfl ?_
    refine XL.q (q_ldV (j := i) (u := u) (hvs.mono SubC.sub) rfl (by kernel_rfl) hu) rfl ?_
    refine XL.lo rfl (l_appendX (e := 5) (sz := 1) (by_ := 1) rfl rfl (by kernel_rfl) rfl hm (hur.mono SubC.sub) nums_one PickC.perm (by unfold maxLen; omega) (by omega) rfl fun v22 B22 hs22 => ?_)
    haveI := hs22.cel
    refine XL.q (q_assign rfl) rfl ?_
    refine XL.nil ?_
    refine nb ?_
    refine nx (kp 1 rfl (kp 5 rfl (kp 6 rfl kn))) ?_
    refine XC.reg1 ?_
    refine XL.q (q_move rfl) rfl ?_
    refine XL.q (q_num ((i + 1 : Nat) : Int) rfl rfl (add64 (by omega) (by omega) (by omega))) rfl ?_
    refine XL.q (q_assign rfl) rfl ?_
    refine XL.nil ?_
    exact rn (i + 1, v22, B22) ⟨by dsimp only; omega, sx_to hs22 (by rw [hsp]; simp only [List.length_append]; omega) (by rw [hsp]; simp [nums])⟩ (by dsimp only; omega) (kp 1 rfl (kp 5 rfl (kp 6 rfl kn))) (Fit.eq (by simp)) (fun _ h => h)
  ·
    have hge : i = ps.length := by simp at hc; omega
    subst hge
    rw [spre_all] at hm
    have hwl : (w0 ++ ps.flatten).length = w0.length + ps.flatten.length := List.length_append
    have hm256 : ∀ x ∈ (w0 ++ ps.flatten), x < 256 := fun x hx => (List.mem_append.1 hx).elim (h256 x) (hpv.lt x)
    refine XC.exit ?_
    refine te ?_
    refine re ?_
    refine be rfl ?_
    refine nx (kp 5 rfl kn) ?_
    refine XC.reg ?_
    refine XL.lo rfl (l_buildSlice (e := 5) (sz := 1) (z := [.int .u8 0]) (by kernel_rfl) (eS rfl e0) (bdS 0 1 rfl (by rfl) bd0) rfl fun b23 => ?_)
    refine XL.q (q_move rfl) rfl ?_
    refine XL.lo rfl (l_append2 (e := 5) (sz := 1) (by_ := 1) rfl rfl (by kernel_rfl) rfl (Sl.fresh (n := 1) (sz := 1) (cs := [.int .u8 0]) (e := 5) (by rfl) (by decide)) (hm.rd SubC.sub) nums_one PickC.perm (by unfold maxLen; omega) (by omega) rfl fun v25 B25 hs25 => ?_)
    haveI := hs25.cel
    replace hs25 : Sl 1 v25 (0 :: (w0 ++ ps.flatten)).length (nums .u8 (0 :: (w0 ++ ps.flatten))) B25 := sl_to hs25 (by simp; omega) (by simp [nums])
    refine XL.call (aS rfl a0) (by kernel_rfl) (rsum_spec _ (0 :: (w0 ++ ps.flatten)) _ (hs25.rd SubC.sub) (fun x hx => (List.mem_cons.1 hx).elim (fun h => h ▸ by decide) (hm256 x)) (by simp only [List.length_cons]; omega)) rfl ?_
    rintro r26 M26 J26 ⟨rfl, hs26⟩
    haveI := hs26.cel
    refine XL.q (q_assign rfl) rfl ?_
    refine XL.fin (kp 5 rfl (kp 7 rfl kn)) ?_
    refine XC.reg ?_
    refine XL.lo rfl (l_buildSlice (e := 5) (sz := 1) (z := [.int .u8 0]) (by kernel_rfl) (eS rfl e0) (bdS 0 1 rfl (by rfl) bd0) rfl fun b27 => ?_)
    refine XL.q (q_move rfl) rfl ?_
    refine XL.lo rfl (l_append2 (e := 5) (sz := 1) (by_ := 1) rfl rfl (by kernel_rfl) rfl (Sl.fresh (n := 1) (sz := 1) (cs := [.int .u8 1]) (e := 5) (by rfl) (by decide)) (hm.rd SubC.sub) nums_one PickC.perm (by unfold maxLen; omega) (by omega) rfl fun v29 B29 hs29 => ?_)
    haveI := hs29.cel
    replace hs29 : Sl 1 v29 (1 :: (w0 ++ ps.flatten)).length (nums .u8 (1 :: (w0 ++ ps.flatten))) B29 := sl_to hs29 (by simp; omega) (by simp [nums])
    refine XL.call (aS rfl a0) (by kernel_rfl) (rsum_spec _ (1 :: (w0 ++ ps.flatten)) _ (hs29.rd SubC.sub) (fun x hx => (List.mem_cons.1 hx).elim (fun h => h ▸ by decide) (hm256 x)) (by simp only [List.length_cons]; omega)) rfl ?_
    rintro r30 M30 J30 ⟨rfl, hs30⟩
    haveI := hs30.cel
    refine XL.q (q_assign rfl) rfl ?_
    refine XL.fin (kp 7 rfl (kp 8 rfl kn)) ?_
    refine XC.reg ?_
    refine XL.q (q_move rfl) rfl ?_
    refine XL.q (q_move rfl) rfl ?_
    refine XL.lo rfl (l_append2 (e := 5) (sz := 1) (by_ := 1) rfl rfl (by kernel_rfl) rfl hs26 (hs30.rd SubC.sub) nums_one PickC.perm (by unfold maxLen; omega) (by omega) rfl fun v33 B33 hs33 => ?_)
    haveI := hs33.cel
    rw [← nums_append] at hs33
    replace hs33 : Sl 1 v33 64 (nums .u8 (wide (w0 ++ ps.flatten))) B33 := hs33
    refine XL.call (aS rfl a0) (by kernel_rfl) (rlow_z _ (sl_by hs33 (wide_len _).symm (wide_lt _) (by rw [wide_len]; decide) SubC.sub) (by rw [wide_len]; decide)) rfl ?_
    rintro r34 M34 J34 ⟨rfl, k34⟩
    rw [wide_len] at k34
    have h34 := k34.z (by decide)
    haveI := h34.cel
    refine XL.call a0 (by kernel_rfl) (rN_z _) rfl ?_
    rintro r35 M35 J35 ⟨rfl, h35⟩
    haveI := h35.cel
    refine XL.call (aS rfl (aS rfl a0)) (by kernel_rfl) (rMod_z _ _ _ _ _ (h34.mono SubC.sub) (h35.mono SubC.sub) lN_pos (by decide)) rfl ?_
    rintro r36 M36 J36 ⟨rfl, k36⟩
    haveI := (k36.z (by decide)).cel
    refine XL.q (q_assign rfl) rfl ?_
    refine XL.fin (kp 4 rfl kn) ?_
    refine XC.ret ?_
    exact ⟨_, [], [], res1 rfl rfl, Fit.sub (List.nil_sublist _), rfl, k36.mono SubC.sub⟩

end Go.Proofs.YtcfdeohjhhpmcaaDoor
