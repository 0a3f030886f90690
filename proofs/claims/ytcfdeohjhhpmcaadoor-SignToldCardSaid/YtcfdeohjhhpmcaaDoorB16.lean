/- Part 16 of the texts of this claim, one behind the other. -/
import Derived.Test.YtcfdeohjhhpmcaaDoorB15
set_option linter.unusedVariables false
set_option linter.unusedSimpArgs false
set_option linter.unusedVariables false
set_option linter.unusedSimpArgs false
namespace Go.Proofs.YtcfdeohjhhpmcaaDoor
open Go.Px
/-- A slice of bytes that reads. -/
abbrev Rb (R : Mem) (v : Value) (ws : List Nat) : Prop := Rd R 1 v ws.length (nums .u8 ws)
abbrev Sb (v : Value) (ws : List Nat) (B : Mem) : Prop := Sl 1 v ws.length (nums .u8 ws) B
theorem getD_repl (n j : Nat) : (List.replicate n 0).getD j 0 = 0 := by
  rw [List.getD, List.getElem?_replicate]; split <;> rfl
/-- What a number's function answers: words without noughts behind. -/
def Nn (r : Value) (M : Mem) (x L : Nat) : Prop := ∃ ws, Sw r ws M ∧ w32 ws ∧ nv ws = x ∧ nrm ws ∧ ws.length ≤ L
theorem Nn.of {v : Value} {ws : List Nat} {B : Mem} {x : Nat} (h : Sw v ws B) (h32 : w32 ws) (hx : nv ws = x) : Nn (vHi (tl ws ws.length) v) B x ws.length :=
  ⟨trim ws, Sw_trim h, trim_w32 h32, by rw [trim_nv, hx], trim_nrm ws, by rw [trim_len]; exact tl_le _ _⟩
theorem Nn.weak {v : Value} {B : Mem} {x L L' : Nat} (h : Nn v B x L) (hL : L ≤ L') : Nn v B x L' := by
  obtain ⟨ws, h1, h2, h3, h4, h5⟩ := h
  exact ⟨ws, h1, h2, h3, h4, by omega⟩

set_option maxRecDepth 100000 in
theorem low_spec (v : Value) (p : List Nat) (A : Mem) (h : Rb A v p) (hp : ∀ x ∈ p, x < 256) (hl : p.length ≤ 1073741824) : FnX Tryd.prog 32 [v] [] A fun r M J => J = [] ∧ Nn r M (bv p) ((p.length + 3) / 4) := by
  refine FnX.enter (N := 37) Tryd.func32 rfl rfl rfl fun w => ?_
  refine XC.keep (kp 0 rfl kn) ?_
  refine XC.reg ?_
  refine XL.q (q_assign rfl) rfl ?_
  refine XL.fin (kp 0 rfl kn) ?_
  refine XC.reg ?_
  refine XL.q (q_move rfl) rfl ?_
  refine XL.q (q_lenV2 (sz := 1) rfl (by kernel_rfl) (by first | assumption | exact Sl.rd (by assumption) (fun _ h => h) | exact By.rd (by assumption))) rfl ?_
  refine XL.q (q_addI (b := 3) rfl rfl rfl rfl (by omega)) rfl ?_
  refine XL.q (q_quoI (b := 4) rfl rfl rfl rfl (by omega) (by omega)) rfl ?_
  refine XL.lo rfl (l_makeV (e := 49) (k := .u32) (by_ := 4) rfl rfl (by kernel_rfl) rfl rfl (by omega) (by omega) rfl fun v9 B9 hs9 => ?_)
  refine XL.q (q_assign rfl) rfl ?_
  refine XL.fin (kp 0 rfl (kp 3 rfl kn)) ?_
  refine XC.seq ?_
  refine XC.reg ?_
  refine XL.q (q_assign rfl) rfl ?_
  refine XL.fin (kp 0 rfl (kp 3 rfl (kp 4 rfl kn))) ?_
  refine XC.block ?_
  refine XC.loop (α := Nat × List Nat × Mem) (fun x => [(0, v), (3, v9), (4, .int .i64 (x.1 : Int))]) (fun x => x.2.2) (fun _ => []) (fun x => x.1 ≤ p.length ∧ Sl 1 v9 ((p.length + 3) / 4) (nums .u32 x.2.1) x.2.2 ∧ x.2.1.length = (p.length + 3) / 4 ∧ w32 x.2.1 ∧ nv x.2.1 = bv (p.take x.1) ∧ x.2.1.getD (x.1 / 4) 0 < 256 ^ (x.1 % 4) ∧ ∀ j, x.1 / 4 < j → x.2.1.getD j 0 = 0) (fun x => p.length - x.1) (0, List.replicate ((p.length + 3) / 4) 0, B9) ⟨Nat.zero_le _, hs9, by simp, w32_repl _, by simp [nv_repl, bv], by rw [getD_repl]; exact Nat.pow_pos (by decide), fun j hj => getD_repl _ _⟩ (kp 0 rfl (kp 3 rfl (kp 4 rfl kn))) (Fit.eq (by simp)) (fun _ h => h) ?_
  clear hs9
  rintro ⟨i, ws, B⟩ ⟨hi, hsl, hwl, hw32, hnv, hz1, hz2⟩
  dsimp only at hi hsl hwl hw32 hnv hz1 hz2 ⊢
  refine XC.seq ?_
  refine XC.reg ?_
  refine XL.q (q_move rfl) rfl ?_
  refine XL.q (q_move rfl) rfl ?_
  refine XL.q (q_lenV2 (sz := 1) rfl (by kernel_rfl) (by first | assumption | exact Sl.rd (by assumption) (fun _ h => h) | exact By.rd (by assumption))) rfl ?_
  refine XL.q (q_bin rfl rfl rfl) rfl ?_
  refine XL.fin (kp 0 rfl (kp 3 rfl (kp 4 rfl (kp 13 rfl kn)))) ?_
  refine XC.cond rfl (fun hc => ?_) (fun hc => ?_)
  ·
    have hlt : i < p.length := by simp at hc; omega
    have g1 := getD_lt (i := i) hp (by decide)
    have g2 := hw32.get (i / 4)
    have g3 := low_step hlt (by omega) hw32 g1 hnv hz1 hz2
    have g4 : p.getD i 0 * 2 ^ (8 * (i % 4)) % 4294967296 < 4294967296 := Nat.mod_lt _ (by decide)
    refine XC.skip ?_
    refine nx (kp 0 rfl (kp 3 rfl (kp 4 rfl kn))) ?_
    refine XC.seq ?_
    refine XC.block ?_
    refine XC.drawF1 [0, 1, 2, 3, 4, 5, 6, 7, 8, 9, 10, 11, 12, 13, 14, 15, 16, 17, 18] [(0, 0), (1, 0), (2, 0), (3, 0), (4, 0), (5, 0), (6, 0), (7, 1), (8, 0), (9, 0), (10, 0), (11, 1), (12, 0), (13, 0), (14, 0), (15, 0), (16, 0), (17, 0), (18, 0), (19, 2)] (by kernel_rfl) (by kernel_rfl) fun hs => ?_
    refine XF.q hs rfl (q_move rfl) rfl ?_
    refine XF.q hs rfl (q_move rfl) rfl ?_
    refine XF.q hs rfl (q_quoI (b := 4) rfl rfl rfl rfl (by omega) (by omega)) rfl ?_
    refine XF.q hs rfl (q_move rfl) rfl ?_
    refine XF.q hs rfl (q_move rfl) rfl ?_
    refine XF.q hs rfl (q_quoI (b := 4) rfl rfl rfl rfl (by omega) (by omega)) rfl ?_
    refine XF.q hs rfl (q_atV2 (sz := 1) rfl rfl (by kernel_rfl) rfl (by first | assumption | exact Sl.rd (by assumption) (fun _ h => h) | exact By.rd (by assumption)) (by omega)) rfl ?_
    refine XF.r hs rfl (q_ldVN2 (k := .u32) rfl (by kernel_rfl) (by first | exact Rd.mono (by assumption) SubC.sub | exact Sl.rd (by assumption) SubC.sub | exact Rd.mono (By.rd (by assumption)) SubC.sub) (by omega)) rfl ?_
    refine XF.q hs rfl (q_move rfl) rfl ?_
    refine XF.q hs rfl (q_move rfl) rfl ?_
    refine XF.q hs rfl (q_atV2 (sz := 1) rfl rfl (by kernel_rfl) rfl (by first | assumption | exact Sl.rd (by assumption) (fun _ h => h) | exact By.rd (by assumption)) (by omega)) rfl ?_
    refine XF.r hs rfl (q_ldVN2 (k := .u8) rfl (by kernel_rfl) (by first | exact Rd.mono (by assumption) SubC.sub | exact Sl.rd (by assumption) SubC.sub | exact Rd.mono (By.rd (by assumption)) SubC.sub) (by omega)) rfl ?_
    refine XF.q hs rfl (q_same (k' := .u32) rfl (by kernel_rfl) (by show _ < 2147483648; omega)) rfl ?_
    refine XF.q hs rfl (q_move rfl) rfl ?_
    refine XF.q hs rfl (q_remI (b := 4) rfl rfl rfl rfl (by omega)) rfl ?_
    refine XF.q hs rfl (q_mulI (a := 8) rfl rfl rfl rfl (by omega)) rfl ?_
    refine XF.q hs rfl (q_shlI 4294967296 rfl rfl rfl rfl rfl rfl (by show _ ≤ 32; omega)) rfl ?_
    refine XF.q hs rfl (q_or rfl rfl rfl (by show _ < 4294967296; assumption) (by show _ < 4294967296; assumption)) rfl ?_
    refine XF.q hs rfl (q_atV2 (sz := 1) rfl rfl (by kernel_rfl) rfl (by first | assumption | exact Sl.rd (by assumption) (fun _ h => h) | exact By.rd (by assumption)) (by omega)) rfl ?_
    refine XF.tl rfl rfl rfl (l_stV2 rfl rfl rfl (by kernel_rfl) (by assumption) (by omega) PickC.perm fun Bs1 hst1 => ?_)
    refine XF.nil ?_
    refine nb ?_
    refine nx (kp 0 rfl (kp 3 rfl (kp 4 rfl kn))) ?_
    refine XC.reg1 ?_
    refine XL.q (q_move rfl) rfl ?_
    refine XL.q (q_addI (b := 1) rfl rfl rfl rfl (by omega)) rfl ?_
    refine XL.q (q_assign rfl) rfl ?_
    refine XL.nil ?_
    exact rn (i + 1, _, _) ⟨by dsimp only; omega, hst1, by simpa using hwl, g3.1, g3.2.1, g3.2.2.1, g3.2.2.2⟩ (by dsimp only; omega) (kp 0 rfl (kp 3 rfl (kp 4 rfl kn))) (Fit.eq (by simp)) (fun _ h => h)
  ·
    have hlt : i = p.length := by simp at hc; omega
    subst hlt
    rw [List.take_length] at hnv
    refine XC.exit ?_
    refine te ?_
    refine re ?_
    refine be rfl ?_
    refine nx (kp 3 rfl kn) ?_
    refine XC.reg ?_
    refine XL.q (q_move rfl) rfl ?_
    refine XL.callV (aS rfl a0) (by kernel_rfl) (trim_spec _ ws _ (rd_eq (hsl.rd SubC.sub) hwl.symm rfl) (by omega)) rfl ?_
    refine XL.q (q_assign rfl) rfl ?_
    refine XL.fin (kp 2 rfl kn) ?_
    refine XC.ret ?_
    exact ⟨_, _, [], res1 rfl rfl, List.Sublist.refl _, by simp, rfl, (Nn.of (sl_eq hsl hwl.symm rfl) hw32 hnv).weak (by omega)⟩

set_option maxRecDepth 100000 in
theorem rbytes_spec (v : Value) (ws : List Nat) (n : Nat) (A : Mem) (h : Rw A v ws) (h32 : w32 ws) (hl : ws.length ≤ 1073741824) (hn : n ≤ 1073741824) : FnX Tryd.prog 17 [v, .int .i64 (n : Int)] [] A fun r M J => J = [] ∧ Sb r (digs (nv ws) n) M := by
  refine FnX.enter (N := 35) Tryd.func17 rfl rfl rfl fun w => ?_
  refine XC.keep (kp 0 rfl (kp 1 rfl kn)) ?_
  refine XC.reg ?_
  refine XL.q (q_assign rfl) rfl ?_
  refine XL.fin (kp 0 rfl (kp 1 rfl kn)) ?_
  refine XC.reg ?_
  refine XL.q (q_move rfl) rfl ?_
  refine XL.lo rfl (l_makeV (e := 5) (k := .u8) (by_ := 1) rfl rfl (by kernel_rfl) rfl rfl (by omega) (by omega) rfl fun v8 B8 hs8 => ?_)
  refine XL.q (q_assign rfl) rfl ?_
  refine XL.fin (kp 0 rfl (kp 1 rfl (kp 5 rfl kn))) ?_
  refine XC.seq ?_
  refine XC.reg ?_
  refine XL.q (q_assign rfl) rfl ?_
  refine XL.fin (kp 0 rfl (kp 1 rfl (kp 5 rfl (kp 6 rfl kn)))) ?_
  refine XC.block ?_
  refine XC.loop (α := Nat × Mem) (fun x => [(0, v), (1, .int .i64 (n : Int)), (5, v8), (6, .int .i64 (x.1 : Int))]) (fun x => x.2) (fun _ => []) (fun x => x.1 ≤ n ∧ Sl 1 v8 n (nums .u8 (digs (nv ws) x.1 ++ List.replicate (n - x.1) 0)) x.2) (fun x => n - x.1) (0, B8) ⟨Nat.zero_le _, by simpa [digs] using hs8⟩ (kp 0 rfl (kp 1 rfl (kp 5 rfl (kp 6 rfl kn)))) (Fit.eq (by simp)) (fun _ h => h) ?_
  clear hs8
  rintro ⟨i, B⟩ ⟨hi, hsl⟩
  dsimp only at hi hsl ⊢
  refine XC.seq ?_
  by_cases hin : i < n
  ·
    by_cases hil : i / 4 < ws.length
    skip
    ·
      refine XC.reg ?_
      refine XL.q (q_move rfl) rfl ?_
      refine XL.q (q_move rfl) rfl ?_
      refine XL.q (q_cmp true rfl rfl (ltT (by omega))) rfl ?_
      refine XL.q (q_move rfl) rfl ?_
      refine XL.gy rfl rfl (OpQ.opL (q_move rfl) rfl ?_)
      refine XL.gy rfl rfl (OpQ.opL (q_quoI (b := 4) rfl rfl rfl rfl (by omega) (by omega)) rfl ?_)
      refine XL.gy rfl rfl (OpQ.opL (q_move rfl) rfl ?_)
      refine XL.gy rfl rfl (OpQ.opL (q_lenV2 (sz := 1) rfl (by kernel_rfl) (by first | assumption | exact Sl.rd (by assumption) (fun _ h => h) | exact By.rd (by assumption))) rfl ?_)
      refine XL.gy rfl rfl (OpQ.opL (q_cmp true rfl rfl (ltT (by omega))) rfl ?_)
      refine XL.q (q_pickT rfl rfl) rfl ?_
      refine XL.fin (kp 0 rfl (kp 1 rfl (kp 5 rfl (kp 6 rfl (kp 18 rfl kn))))) ?_
      refine XC.condT rfl ?_
      refine XC.skip ?_
      refine nx (kp 0 rfl (kp 1 rfl (kp 5 rfl (kp 6 rfl kn)))) ?_
      refine XC.seq ?_
      refine XC.block ?_
      refine XC.reg1 ?_
      refine XL.q (q_move rfl) rfl ?_
      refine XL.q (q_move rfl) rfl ?_
      refine XL.q (q_move rfl) rfl ?_
      refine XL.q (q_move rfl) rfl ?_
      refine XL.q (q_quoI (b := 4) rfl rfl rfl rfl (by omega) (by omega)) rfl ?_
      refine XL.q (q_atV2 (sz := 1) rfl rfl (by kernel_rfl) rfl (by first | assumption | exact Sl.rd (by assumption) (fun _ h => h) | exact By.rd (by assumption)) (by omega)) rfl ?_
      refine XL.q (q_ldVN2 (k := .u32) rfl (by kernel_rfl) (by first | exact Rd.mono (by assumption) SubC.sub | exact Sl.rd (by assumption) SubC.sub | exact Rd.mono (By.rd (by assumption)) SubC.sub) (by omega)) rfl ?_
      refine XL.q (q_move rfl) rfl ?_
      refine XL.q (q_remI (b := 4) rfl rfl rfl rfl (by omega)) rfl ?_
      refine XL.q (q_mulI (a := 8) rfl rfl rfl rfl (by omega)) rfl ?_
      refine XL.q (q_shrI rfl rfl rfl rfl (by show _ ≤ 32; omega)) rfl ?_
      refine XL.q (word_byte h32 i ▸ q_to8 rfl (by kernel_rfl)) rfl ?_
      refine XL.q (q_atV2 (sz := 1) rfl rfl (by kernel_rfl) rfl (by first | assumption | exact Sl.rd (by assumption) (fun _ h => h) | exact By.rd (by assumption)) (by omega)) rfl ?_
      refine XL.lo rfl (l_stV2 rfl rfl rfl (by kernel_rfl) (by assumption) (by omega) PickC.perm fun Bs1 hst1 => ?_)
      refine XL.nil ?_
      refine nb ?_
      refine nx (kp 0 rfl (kp 1 rfl (kp 5 rfl (kp 6 rfl kn)))) ?_
      refine XC.reg1 ?_
      refine XL.q (q_move rfl) rfl ?_
      refine XL.q (q_addI (b := 1) rfl rfl rfl rfl (by omega)) rfl ?_
      refine XL.q (q_assign rfl) rfl ?_
      refine XL.nil ?_
      rw [set_ext (digs_len _ _) hin, ← digs_succ] at hst1
      exact rn (i + 1, _) ⟨by dsimp only; omega, hst1⟩ (by dsimp only; omega) (kp 0 rfl (kp 1 rfl (kp 5 rfl (kp 6 rfl kn)))) (Fit.eq (by simp)) (fun _ h => h)
    ·
      refine XC.reg ?_
      refine XL.q (q_move rfl) rfl ?_
      refine XL.q (q_move rfl) rfl ?_
      refine XL.q (q_cmp true rfl rfl (ltT (by omega))) rfl ?_
      refine XL.q (q_move rfl) rfl ?_
      refine XL.gy rfl rfl (OpQ.opL (q_move rfl) rfl ?_)
      refine XL.gy rfl rfl (OpQ.opL (q_quoI (b := 4) rfl rfl rfl rfl (by omega) (by omega)) rfl ?_)
      refine XL.gy rfl rfl (OpQ.opL (q_move rfl) rfl ?_)
      refine XL.gy rfl rfl (OpQ.opL (q_lenV2 (sz := 1) rfl (by kernel_rfl) (by first | assumption | exact Sl.rd (by assumption) (fun _ h => h) | exact By.rd (by assumption))) rfl ?_)
      refine XL.gy rfl rfl (OpQ.opL (q_cmp false rfl rfl (ltF (by omega))) rfl ?_)
      refine XL.q (q_pickT rfl rfl) rfl ?_
      refine XL.fin (kp 0 rfl (kp 1 rfl (kp 5 rfl (kp 6 rfl (kp 18 rfl kn))))) ?_
      refine XC.condF rfl ?_
      refine XC.exit ?_
      refine te ?_
      refine re ?_
      refine be rfl ?_
      refine nx (kp 5 rfl kn) ?_
      refine XC.reg ?_
      refine XL.q (q_move rfl) rfl ?_
      refine XL.q (q_assign rfl) rfl ?_
      refine XL.fin (kp 4 rfl kn) ?_
      refine XC.ret ?_
      rw [← digs_zero (x := nv ws) (i := i) (by have := nv_lt h32; rw [xp_two] at this; rw [show (256 : Nat) ^ i = 2 ^ (8 * i) by rw [Nat.pow_mul]]; exact Nat.lt_of_lt_of_le this (Nat.pow_le_pow_right (by decide) (by omega))) n hi] at hsl
      exact ⟨_, _, [], res1 rfl rfl, List.Sublist.refl _, by simp, rfl, sl_eq hsl (by rw [digs_len]) rfl⟩
  ·
    refine XC.reg ?_
    refine XL.q (q_move rfl) rfl ?_
    refine XL.q (q_move rfl) rfl ?_
    refine XL.q (q_cmp false rfl rfl (ltF (by omega))) rfl ?_
    refine XL.q (q_move rfl) rfl ?_
    refine XL.gn rfl rfl rfl rfl ?_
    refine XL.gn rfl rfl rfl rfl ?_
    refine XL.gn rfl rfl rfl rfl ?_
    refine XL.gn rfl rfl rfl rfl ?_
    refine XL.gn rfl rfl rfl rfl ?_
    refine XL.q (q_pickF rfl rfl) rfl ?_
    refine XL.fin (kp 0 rfl (kp 1 rfl (kp 5 rfl (kp 6 rfl (kp 18 rfl kn))))) ?_
    refine XC.condF rfl ?_
    refine XC.exit ?_
    refine te ?_
    refine re ?_
    refine be rfl ?_
    refine nx (kp 5 rfl kn) ?_
    refine XC.reg ?_
    refine XL.q (q_move rfl) rfl ?_
    refine XL.q (q_assign rfl) rfl ?_
    refine XL.fin (kp 4 rfl kn) ?_
    refine XC.ret ?_
    obtain rfl : i = n := by omega
    rw [Nat.sub_self, List.replicate_zero, List.append_nil] at hsl
    exact ⟨_, _, [], res1 rfl rfl, List.Sublist.refl _, by simp, rfl, sl_eq hsl (by rw [digs_len]) rfl⟩

set_option maxRecDepth 100000 in
theorem bit_spec (v : Value) (ws : List Nat) (i : Nat) (A : Mem) (h : Rw A v ws) (h32 : w32 ws) (hl : ws.length ≤ 1073741824) (hi : i ≤ 1099511627776) : FnV Tryd.prog 35 [v, .int .i64 (i : Int)] A (.int .u32 ((nv ws / 2 ^ i % 2 : Nat) : Int)) := by
  refine FnX.enter (N := 19) Tryd.func35 rfl rfl rfl fun w => ?_
  refine XC.keep (kp 0 rfl (kp 1 rfl kn)) ?_
  refine XC.reg ?_
  refine XL.q (q_assign rfl) rfl ?_
  refine XL.fin (kp 0 rfl (kp 1 rfl kn)) ?_
  refine XC.seq ?_
  refine XC.reg ?_
  refine XL.q (q_move rfl) rfl ?_
  refine XL.q (q_quoI (b := 32) rfl rfl rfl rfl (by omega) (by omega)) rfl ?_
  refine XL.q (q_move rfl) rfl ?_
  refine XL.q (q_lenV2 (sz := 1) rfl (by kernel_rfl) (by first | assumption | exact Sl.rd (by assumption) (fun _ h => h) | exact By.rd (by assumption))) rfl ?_
  refine XL.q (q_bin rfl rfl rfl) rfl ?_
  refine XL.fin (kp 0 rfl (kp 1 rfl (kp 9 rfl kn))) ?_
  refine XC.cond rfl (fun hc => ?_) (fun hc => ?_)
  ·
    have hge : ws.length ≤ i / 32 := by simp at hc; omega
    refine XC.reg ?_
    refine XL.q (q_assign rfl) rfl ?_
    refine XL.fin (kp 4 rfl kn) ?_
    refine XC.ret ?_
    refine tr ?_
    exact ⟨_, [], [], res1 rfl rfl, List.nil_sublist _, by simp, by rw [nv_bit_high h32 hge]; rfl, rfl, rfl⟩
  ·
    have hlt : i / 32 < ws.length := by simp at hc; omega
    refine XC.skip ?_
    refine nx (kp 0 rfl (kp 1 rfl kn)) ?_
    refine XC.reg ?_
    refine XL.q (q_move rfl) rfl ?_
    refine XL.q (q_move rfl) rfl ?_
    refine XL.q (q_quoI (b := 32) rfl rfl rfl rfl (by omega) (by omega)) rfl ?_
    refine XL.q (q_atV2 (sz := 1) rfl rfl (by kernel_rfl) rfl (by first | assumption | exact Sl.rd (by assumption) (fun _ h => h) | exact By.rd (by assumption)) (by omega)) rfl ?_
    refine XL.q (q_ldVN2 (k := .u32) rfl (by kernel_rfl) (by first | exact Rd.mono (by assumption) SubC.sub | exact Sl.rd (by assumption) SubC.sub | exact Rd.mono (By.rd (by assumption)) SubC.sub) (by omega)) rfl ?_
    refine XL.q (q_move rfl) rfl ?_
    refine XL.q (q_remI (b := 32) rfl rfl rfl rfl (by omega)) rfl ?_
    refine XL.q (q_shrI rfl rfl rfl rfl (by show _ ≤ 32; omega)) rfl ?_
    refine XL.q (q_andD 1 2 rfl rfl rfl rfl rfl (by have := h32.get (i / 32); exact Nat.lt_of_le_of_lt (Nat.div_le_self _ _) this) (by decide)) rfl ?_
    refine XL.q (q_assign rfl) rfl ?_
    refine XL.fin (kp 4 rfl kn) ?_
    refine XC.ret ?_
    exact ⟨_, [], [], res1 rfl rfl, List.nil_sublist _, by simp, by rw [word_bit h32], rfl, rfl⟩

set_option maxRecDepth 100000 in
theorem len_spec (v : Value) (ws : List Nat) (A : Mem) (h : Rw A v ws) (h32 : w32 ws) (hl : ws.length ≤ 1073741824) : FnX Tryd.prog 38 [v] [] A fun r M J => M = [] ∧ J = [] ∧ ∃ n : Nat, r = .int .i64 (n : Int) ∧ n ≤ 32 * ws.length ∧ nv ws < 2 ^ n ∧ (0 < n → 2 ^ (n - 1) ≤ nv ws) := by
  refine FnX.enter (N := 19) Tryd.func38 rfl rfl rfl fun w => ?_
  refine XC.keep (kp 0 rfl kn) ?_
  refine XC.reg ?_
  refine XL.q (q_assign rfl) rfl ?_
  refine XL.fin (kp 0 rfl kn) ?_
  refine XC.reg ?_
  refine XL.q (q_move rfl) rfl ?_
  refine XL.q (q_lenV2 (sz := 1) rfl (by kernel_rfl) (by first | assumption | exact Sl.rd (by assumption) (fun _ h => h) | exact By.rd (by assumption))) rfl ?_
  refine XL.q (q_mulI (a := 32) rfl rfl rfl rfl (by omega)) rfl ?_
  refine XL.q (q_assign rfl) rfl ?_
  refine XL.fin (kp 0 rfl (kp 3 rfl kn)) ?_
  refine XC.seq ?_
  refine XC.block ?_
  refine XC.loop (α := Nat) (fun n => [(0, v), (3, .int .i64 (n : Int))]) (fun _ => []) (fun _ => []) (fun n => n ≤ 32 * ws.length ∧ nv ws < 2 ^ n) (fun n => n) (32 * ws.length) ⟨Nat.le_refl _, by have := nv_lt h32; rwa [xp_two] at this⟩ (kp 0 rfl (kp 3 rfl kn)) .rfl (fun _ h => h) ?_
  rintro n ⟨hn, hnv⟩
  refine XC.seq ?_
  by_cases hn0 : n = 0
  ·
    refine XC.reg ?_
    refine XL.q (q_move rfl) rfl ?_
    refine XL.q (q_cmp false rfl rfl (gtF (by omega))) rfl ?_
    refine XL.q (q_move rfl) rfl ?_
    refine XL.gn rfl rfl rfl rfl ?_
    refine XL.gn rfl rfl rfl rfl ?_
    refine XL.gn rfl rfl rfl rfl ?_
    refine XL.gn rfl rfl rfl rfl ?_
    refine XL.gn rfl rfl rfl rfl ?_
    refine XL.q (q_pickF rfl rfl) rfl ?_
    refine XL.fin (kp 0 rfl (kp 3 rfl (kp 15 rfl kn))) ?_
    refine XC.condF rfl ?_
    refine XC.exit ?_
    refine te ?_
    refine re ?_
    refine be rfl ?_
    refine nx (kp 3 rfl kn) ?_
    refine XC.reg ?_
    refine XL.q (q_move rfl) rfl ?_
    refine XL.q (q_assign rfl) rfl ?_
    refine XL.fin (kp 2 rfl kn) ?_
    refine XC.ret ?_
    exact ⟨_, [], [], res1 rfl rfl, List.nil_sublist _, by simp, rfl, rfl, _, rfl, by omega, hnv, fun h => absurd h (by omega)⟩
  ·
    refine XC.reg ?_
    refine XL.q (q_move rfl) rfl ?_
    refine XL.q (q_cmp true rfl rfl (gtT (by omega))) rfl ?_
    refine XL.q (q_move rfl) rfl ?_
    refine XL.gy rfl rfl (OpQ.opL (q_move rfl) rfl ?_)
    refine XL.gy rfl rfl (OpQ.opL (q_move rfl) rfl ?_)
    refine XL.gy rfl rfl (OpQ.opL (q_subI (b := 1) rfl rfl rfl rfl (by omega) (by omega)) rfl ?_)
    refine XL.callVg rfl rfl (aS rfl (aS rfl a0)) (by kernel_rfl) (bit_spec _ ws (n - 1) _ (h.mono fun _ h => mA h) h32 hl (by omega)) rfl ?_
    refine XL.gy rfl rfl (OpQ.opL (q_bin rfl rfl rfl) rfl ?_)
    refine XL.q (q_pickT rfl rfl) rfl ?_
    refine XL.fin (kp 0 rfl (kp 3 rfl (kp 15 rfl kn))) ?_
    refine XC.cond rfl (fun hc => ?_) (fun hc => ?_)
    ·
      have hb : nv ws / 2 ^ (n - 1) % 2 = 0 := Int.ofNat.inj (of_decide_eq_true hc)
      refine XC.skip ?_
      refine nx (kp 0 rfl (kp 3 rfl kn)) ?_
      refine XC.block ?_
      refine XC.reg1 ?_
      refine XL.q (q_move rfl) rfl ?_
      refine XL.q (q_subI (b := 1) rfl rfl rfl rfl (by omega) (by omega)) rfl ?_
      refine XL.q (q_assign rfl) rfl ?_
      refine XL.nil ?_
      refine nb ?_
      refine rn (n - 1) ⟨by omega, ?_⟩ (by omega) (kp 0 rfl (kp 3 rfl kn)) .rfl (fun _ h => h)
      have e : 2 ^ n = 2 ^ (n - 1) * 2 := by rw [← Nat.pow_succ]; congr 1; omega
      rw [e] at hnv
      have : nv ws / 2 ^ (n - 1) < 2 := Nat.div_lt_of_lt_mul hnv
      have h0 : nv ws / 2 ^ (n - 1) = 0 := by generalize nv ws / 2 ^ (n - 1) = q at *; omega
      exact (Nat.div_eq_zero_iff_lt (Nat.two_pow_pos _)).1 h0
    ·
      have hb : nv ws / 2 ^ (n - 1) % 2 ≠ 0 := fun h => of_decide_eq_false hc (congrArg Int.ofNat h)
      refine XC.exit ?_
      refine te ?_
      refine re ?_
      refine be rfl ?_
      refine nx (kp 3 rfl kn) ?_
      refine XC.reg ?_
      refine XL.q (q_move rfl) rfl ?_
      refine XL.q (q_assign rfl) rfl ?_
      refine XL.fin (kp 2 rfl kn) ?_
      refine XC.ret ?_
      refine ⟨_, [], [], res1 rfl rfl, List.nil_sublist _, by simp, rfl, rfl, _, rfl, by omega, hnv, fun _ => ?_⟩
      rcases Nat.lt_or_ge (nv ws) (2 ^ (n - 1)) with h1 | h1
      · rw [Nat.div_eq_of_lt h1] at hb; exact absurd rfl hb
      · exact h1

set_option maxRecDepth 100000 in
theorem plus_spec (va vb : Value) (a b : List Nat) (A : Mem) (ha : Rw A va a) (hb : Rw A vb b) (wa : w32 a) (wb : w32 b) (la : a.length ≤ 1073741824) (lb : b.length ≤ 1073741824) :
    FnX Tryd.prog 14 [va, vb] [] A fun r M J => J = [] ∧ Nn r M (nv a + nv b) (a.length + b.length + 1) := by
  refine FnX.enter (N := 55) Tryd.func14 rfl rfl rfl fun w => ?_
  refine XC.keep (kp 0 rfl (kp 1 rfl kn)) ?_
  refine XC.reg ?_
  refine XL.q (q_assign rfl) rfl ?_
  refine XL.fin (kp 0 rfl (kp 1 rfl kn)) ?_
  refine XC.reg ?_
  refine XL.q (q_assign rfl) rfl ?_
  refine XL.fin (kp 0 rfl (kp 1 rfl (kp 5 rfl kn))) ?_
  refine XC.reg ?_
  refine XL.q (q_assign rfl) rfl ?_
  refine XL.fin (kp 0 rfl (kp 1 rfl (kp 5 rfl (kp 6 rfl kn)))) ?_
  refine XC.seq ?_
  refine XC.reg ?_
  refine XL.q (q_assign rfl) rfl ?_
  refine XL.fin (kp 0 rfl (kp 1 rfl (kp 5 rfl (kp 6 rfl (kp 7 rfl kn))))) ?_
  refine XC.block ?_
  refine XC.loop (α := Nat × Nat × Value × List Nat × Mem) (fun x => [(0, va), (1, vb), (5, x.2.2.1), (6, .int .u64 (x.2.1 : Int)), (7, .int .i64 (x.1 : Int))]) (fun x => x.2.2.2.2) (fun _ => []) (fun x => (x.1 ≤ a.length ∨ x.1 ≤ b.length) ∧ x.2.1 ≤ 1 ∧ Sw x.2.2.1 x.2.2.2.1 x.2.2.2.2 ∧ w32 x.2.2.2.1 ∧ x.2.2.2.1.length = x.1 ∧ nv x.2.2.2.1 + xp x.1 * x.2.1 = nv (a.take x.1) + nv (b.take x.1)) (fun x => a.length + b.length - x.1) (0, 0, .slice none 0 0, [], []) ⟨.inl (Nat.zero_le _), by decide, Sl.nil, fun _ h => by simp at h, rfl, by simp [nv]⟩ (kp 0 rfl (kp 1 rfl (kp 5 rfl (kp 6 rfl (kp 7 rfl kn))))) .rfl (fun _ h => h) ?_
  rintro ⟨i, c, vo, o, B⟩ ⟨hi, hc1, hsl, ho32, hol, hinv⟩
  dsimp only at hi hc1 hsl ho32 hol hinv ⊢
  rw [show (Sw vo o B) = Sl 1 vo o.length (nums .u32 o) B from rfl, hol] at hsl
  have ga := wa.get i
  have gb := wb.get i
  refine XC.seq ?_
  by_cases h1 : i < a.length
  rotate_left
  by_cases h2 : i < b.length
  rotate_left
  rotate_left
  ·
    refine XC.reg ?_
    refine XL.q (q_move rfl) rfl ?_
    refine XL.q (q_move rfl) rfl ?_
    refine XL.q (q_lenV2 (sz := 1) rfl (by kernel_rfl) (by first | assumption | exact Sl.rd (by assumption) (fun _ h => h) | exact By.rd (by assumption))) rfl ?_
    refine XL.q (q_cmp true rfl rfl (ltT (by omega))) rfl ?_
    refine XL.q (q_move rfl) rfl ?_
    refine XL.gn rfl rfl rfl rfl ?_
    refine XL.gn rfl rfl rfl rfl ?_
    refine XL.gn rfl rfl rfl rfl ?_
    refine XL.gn rfl rfl rfl rfl ?_
    refine XL.q (q_pickT rfl rfl) rfl ?_
    refine XL.fin (kp 0 rfl (kp 1 rfl (kp 5 rfl (kp 6 rfl (kp 7 rfl (kp 17 rfl kn)))))) ?_
    refine XC.condT rfl ?_
    refine XC.skip ?_
    refine nx (kp 0 rfl (kp 1 rfl (kp 5 rfl (kp 6 rfl (kp 7 rfl kn))))) ?_
    refine XC.seq ?_
    refine XC.block ?_
    refine XC.join (α := Nat) (fun c => [(0, va), (1, vb), (5, vo), (6, .int .u64 (c : Int)), (7, .int .i64 (i : Int))]) (fun _ => B) (fun _ => []) (fun c1 => c1 = c + a.getD i 0) ?_ ?_
    ·
      refine XC.reg ?_
      refine XL.q (q_move rfl) rfl ?_
      refine XL.q (q_move rfl) rfl ?_
      refine XL.q (q_lenV2 (sz := 1) rfl (by kernel_rfl) (by first | assumption | exact Sl.rd (by assumption) (fun _ h => h) | exact By.rd (by assumption))) rfl ?_
      refine XL.q (q_bin rfl rfl rfl) rfl ?_
      refine XL.fin (kp 0 rfl (kp 1 rfl (kp 5 rfl (kp 6 rfl (kp 7 rfl (kp 23 rfl kn)))))) ?_
      refine XC.cond rfl (fun hc => ?_) (fun hc => ?_)
      ·
        have hA : i < a.length := by simp at hc; omega
        refine XC.reg1 ?_
        refine XL.q (q_move rfl) rfl ?_
        refine XL.q (q_move rfl) rfl ?_
        refine XL.q (q_move rfl) rfl ?_
        refine XL.q (q_atV2 (sz := 1) rfl rfl (by kernel_rfl) rfl (by first | assumption | exact Sl.rd (by assumption) (fun _ h => h) | exact By.rd (by assumption)) (by omega)) rfl ?_
        refine XL.q (q_ldVN2 (k := .u32) rfl (by kernel_rfl) (by first | exact Rd.mono (by assumption) SubC.sub | exact Sl.rd (by assumption) SubC.sub | exact Rd.mono (By.rd (by assumption)) SubC.sub) (by omega)) rfl ?_
        refine XL.q (q_same (k' := .u64) rfl (by kernel_rfl) (by show _ < 9223372036854775808; omega)) rfl ?_
        refine XL.q (q_addS 18446744073709551616 rfl rfl rfl rfl rfl rfl (by omega)) rfl ?_
        refine XL.q (q_assign rfl) rfl ?_
        refine XL.nil ?_
        exact jn _ rfl (kp 0 rfl (kp 1 rfl (kp 5 rfl (kp 6 rfl (kp 7 rfl kn))))) (Fit.eq (by simp)) (fun _ h => h)
      ·
        have hA : a.length ≤ i := by simp at hc; omega
        refine XC.skip ?_
        exact jn c (by rw [getD_high hA]; rfl) (kp 0 rfl (kp 1 rfl (kp 5 rfl (kp 6 rfl (kp 7 rfl kn))))) (Fit.eq (by simp)) (fun _ h => h)
    ·
      rintro c1 hc2
      refine XC.join (α := Nat) (fun c => [(0, va), (1, vb), (5, vo), (6, .int .u64 (c : Int)), (7, .int .i64 (i : Int))]) (fun _ => B) (fun _ => []) (fun c2 => c2 = c1 + b.getD i 0) ?_ ?_
      ·
        refine XC.reg ?_
        refine XL.q (q_move rfl) rfl ?_
        refine XL.q (q_move rfl) rfl ?_
        refine XL.q (q_lenV2 (sz := 1) rfl (by kernel_rfl) (by first | assumption | exact Sl.rd (by assumption) (fun _ h => h) | exact By.rd (by assumption))) rfl ?_
        refine XL.q (q_bin rfl rfl rfl) rfl ?_
        refine XL.fin (kp 0 rfl (kp 1 rfl (kp 5 rfl (kp 6 rfl (kp 7 rfl (kp 34 rfl kn)))))) ?_
        refine XC.cond rfl (fun hc => ?_) (fun hc => ?_)
        ·
          have hB : i < b.length := by simp at hc; omega
          refine XC.reg1 ?_
          refine XL.q (q_move rfl) rfl ?_
          refine XL.q (q_move rfl) rfl ?_
          refine XL.q (q_move rfl) rfl ?_
          refine XL.q (q_atV2 (sz := 1) rfl rfl (by kernel_rfl) rfl (by first | assumption | exact Sl.rd (by assumption) (fun _ h => h) | exact By.rd (by assumption)) (by omega)) rfl ?_
          refine XL.q (q_ldVN2 (k := .u32) rfl (by kernel_rfl) (by first | exact Rd.mono (by assumption) SubC.sub | exact Sl.rd (by assumption) SubC.sub | exact Rd.mono (By.rd (by assumption)) SubC.sub) (by omega)) rfl ?_
          refine XL.q (q_same (k' := .u64) rfl (by kernel_rfl) (by show _ < 9223372036854775808; omega)) rfl ?_
          refine XL.q (q_addS 18446744073709551616 rfl rfl rfl rfl rfl rfl (by omega)) rfl ?_
          refine XL.q (q_assign rfl) rfl ?_
          refine XL.nil ?_
          exact jn _ rfl (kp 0 rfl (kp 1 rfl (kp 5 rfl (kp 6 rfl (kp 7 rfl kn))))) (Fit.eq (by simp)) (fun _ h => h)
        ·
          have hB : b.length ≤ i := by simp at hc; omega
          refine XC.skip ?_
          exact jn c1 (by rw [getD_high hB]; rfl) (kp 0 rfl (kp 1 rfl (kp 5 rfl (kp 6 rfl (kp 7 rfl kn))))) (Fit.eq (by simp)) (fun _ h => h)
      ·
        rintro c2 hc3
        have hx : c2 = c + a.getD i 0 + b.getD i 0 := by omega
        refine XC.reg ?_
        refine XL.q (q_move rfl) rfl ?_
        refine XL.q (q_move rfl) rfl ?_
        refine XL.q (q_to32 rfl (by kernel_rfl)) rfl ?_
        refine XL.lo rfl (l_buildSlice (e := 49) (sz := 1) (z := [.int .u32 0]) (by kernel_rfl) (eS rfl e0) (bdS 0 1 rfl (by rfl) bd0) rfl fun b45 => ?_)
        refine XL.lo rfl (l_append2 (e := 49) (sz := 1) (by_ := 4) rfl rfl (by kernel_rfl) rfl (by first | assumption | exact Sl.nil) (Rd.whole (n := 1) At.mem (by rfl)) (by first | (simp [Value.oneCell']; done) | (intro c hc; simp only [List.mem_singleton] at hc; subst hc; first | exact Rd.one (by assumption) | exact Sl.one (by assumption))) PickC.perm (by unfold maxLen; omega) (by omega) rfl fun v46 B46 hs46 => ?_)
        refine XL.q (q_assign rfl) rfl ?_
        refine XL.fin (kp 0 rfl (kp 1 rfl (kp 5 rfl (kp 6 rfl (kp 7 rfl kn))))) ?_
        refine XC.reg1 ?_
        refine XL.q (q_move rfl) rfl ?_
        refine XL.q (q_shrD 32 4294967296 rfl rfl rfl rfl (by decide)) rfl ?_
        refine XL.q (q_assign rfl) rfl ?_
        refine XL.nil ?_
        refine nb ?_
        refine nx (kp 0 rfl (kp 1 rfl (kp 5 rfl (kp 6 rfl (kp 7 rfl kn))))) ?_
        refine XC.reg1 ?_
        refine XL.q (q_move rfl) rfl ?_
        refine XL.q (q_addI (b := 1) rfl rfl rfl rfl (by omega)) rfl ?_
        refine XL.q (q_assign rfl) rfl ?_
        refine XL.nil ?_
        exact rn (i + 1, c2 / 4294967296, v46, o ++ [c2 % 4294967296], B46) ⟨by dsimp only; omega, by dsimp only; omega, sl_eq hs46 (by simp [hol]) (by simp [nums]), ho32.app (by intro y hy; simp at hy; subst hy; exact Nat.mod_lt _ (by decide)), by simp [hol], plus_step hol hinv hx⟩ (by dsimp only; omega) (kp 0 rfl (kp 1 rfl (kp 5 rfl (kp 6 rfl (kp 7 rfl kn))))) (Fit.sub (by simp)) (fun _ h => h)
  ·
    refine XC.reg ?_
    refine XL.q (q_move rfl) rfl ?_
    refine XL.q (q_move rfl) rfl ?_
    refine XL.q (q_lenV2 (sz := 1) rfl (by kernel_rfl) (by first | assumption | exact Sl.rd (by assumption) (fun _ h => h) | exact By.rd (by assumption))) rfl ?_
    refine XL.q (q_cmp false rfl rfl (ltF (by omega))) rfl ?_
    refine XL.q (q_move rfl) rfl ?_
    refine XL.gy rfl rfl (OpQ.opL (q_move rfl) rfl ?_)
    refine XL.gy rfl rfl (OpQ.opL (q_move rfl) rfl ?_)
    refine XL.gy rfl rfl (OpQ.opL (q_lenV2 (sz := 1) rfl (by kernel_rfl) (by first | assumption | exact Sl.rd (by assumption) (fun _ h => h) | exact By.rd (by assumption))) rfl ?_)
    refine XL.gy rfl rfl (OpQ.opL (q_cmp true rfl rfl (ltT (by omega))) rfl ?_)
    refine XL.q (q_pickF rfl rfl) rfl ?_
    refine XL.fin (kp 0 rfl (kp 1 rfl (kp 5 rfl (kp 6 rfl (kp 7 rfl (kp 17 rfl kn)))))) ?_
    refine XC.condT rfl ?_
    refine XC.skip ?_
    refine nx (kp 0 rfl (kp 1 rfl (kp 5 rfl (kp 6 rfl (kp 7 rfl kn))))) ?_
    refine XC.seq ?_
    refine XC.block ?_
    refine XC.join (α := Nat) (fun c => [(0, va), (1, vb), (5, vo), (6, .int .u64 (c : Int)), (7, .int .i64 (i : Int))]) (fun _ => B) (fun _ => []) (fun c1 => c1 = c + a.getD i 0) ?_ ?_
    ·
      refine XC.reg ?_
      refine XL.q (q_move rfl) rfl ?_
      refine XL.q (q_move rfl) rfl ?_
      refine XL.q (q_lenV2 (sz := 1) rfl (by kernel_rfl) (by first | assumption | exact Sl.rd (by assumption) (fun _ h => h) | exact By.rd (by assumption))) rfl ?_
      refine XL.q (q_bin rfl rfl rfl) rfl ?_
      refine XL.fin (kp 0 rfl (kp 1 rfl (kp 5 rfl (kp 6 rfl (kp 7 rfl (kp 23 rfl kn)))))) ?_
      refine XC.cond rfl (fun hc => ?_) (fun hc => ?_)
      ·
        have hA : i < a.length := by simp at hc; omega
        refine XC.reg1 ?_
        refine XL.q (q_move rfl) rfl ?_
        refine XL.q (q_move rfl) rfl ?_
        refine XL.q (q_move rfl) rfl ?_
        refine XL.q (q_atV2 (sz := 1) rfl rfl (by kernel_rfl) rfl (by first | assumption | exact Sl.rd (by assumption) (fun _ h => h) | exact By.rd (by assumption)) (by omega)) rfl ?_
        refine XL.q (q_ldVN2 (k := .u32) rfl (by kernel_rfl) (by first | exact Rd.mono (by assumption) SubC.sub | exact Sl.rd (by assumption) SubC.sub | exact Rd.mono (By.rd (by assumption)) SubC.sub) (by omega)) rfl ?_
        refine XL.q (q_same (k' := .u64) rfl (by kernel_rfl) (by show _ < 9223372036854775808; omega)) rfl ?_
        refine XL.q (q_addS 18446744073709551616 rfl rfl rfl rfl rfl rfl (by omega)) rfl ?_
        refine XL.q (q_assign rfl) rfl ?_
        refine XL.nil ?_
        exact jn _ rfl (kp 0 rfl (kp 1 rfl (kp 5 rfl (kp 6 rfl (kp 7 rfl kn))))) (Fit.eq (by simp)) (fun _ h => h)
      ·
        have hA : a.length ≤ i := by simp at hc; omega
        refine XC.skip ?_
        exact jn c (by rw [getD_high hA]; rfl) (kp 0 rfl (kp 1 rfl (kp 5 rfl (kp 6 rfl (kp 7 rfl kn))))) (Fit.eq (by simp)) (fun _ h => h)
    ·
      rintro c1 hc2
      refine XC.join (α := Nat) (fun c => [(0, va), (1, vb), (5, vo), (6, .int .u64 (c : Int)), (7, .int .i64 (i : Int))]) (fun _ => B) (fun _ => []) (fun c2 => c2 = c1 + b.getD i 0) ?_ ?_
      ·
        refine XC.reg ?_
        refine XL.q (q_move rfl) rfl ?_
        refine XL.q (q_move rfl) rfl ?_
        refine XL.q (q_lenV2 (sz := 1) rfl (by kernel_rfl) (by first | assumption | exact Sl.rd (by assumption) (fun _ h => h) | exact By.rd (by assumption))) rfl ?_
        refine XL.q (q_bin rfl rfl rfl) rfl ?_
        refine XL.fin (kp 0 rfl (kp 1 rfl (kp 5 rfl (kp 6 rfl (kp 7 rfl (kp 34 rfl kn)))))) ?_
        refine XC.cond rfl (fun hc => ?_) (fun hc => ?_)
        ·
          have hB : i < b.length := by simp at hc; omega
          refine XC.reg1 ?_
          refine XL.q (q_move rfl) rfl ?_
          refine XL.q (q_move rfl) rfl ?_
          refine XL.q (q_move rfl) rfl ?_
          refine XL.q (q_atV2 (sz := 1) rfl rfl (by kernel_rfl) rfl (by first | assumption | exact Sl.rd (by assumption) (fun _ h => h) | exact By.rd (by assumption)) (by omega)) rfl ?_
          refine XL.q (q_ldVN2 (k := .u32) rfl (by kernel_rfl) (by first | exact Rd.mono (by assumption) SubC.sub | exact Sl.rd (by assumption) SubC.sub | exact Rd.mono (By.rd (by assumption)) SubC.sub) (by omega)) rfl ?_
          refine XL.q (q_same (k' := .u64) rfl (by kernel_rfl) (by show _ < 9223372036854775808; omega)) rfl ?_
          refine XL.q (q_addS 18446744073709551616 rfl rfl rfl rfl rfl rfl (by omega)) rfl ?_
          refine XL.q (q_assign rfl) rfl ?_
          refine XL.nil ?_
          exact jn _ rfl (kp 0 rfl (kp 1 rfl (kp 5 rfl (kp 6 rfl (kp 7 rfl kn))))) (Fit.eq (by simp)) (fun _ h => h)
        ·
          have hB : b.length ≤ i := by simp at hc; omega
          refine XC.skip ?_
          exact jn c1 (by rw [getD_high hB]; rfl) (kp 0 rfl (kp 1 rfl (kp 5 rfl (kp 6 rfl (kp 7 rfl kn))))) (Fit.eq (by simp)) (fun _ h => h)
      ·
        rintro c2 hc3
        have hx : c2 = c + a.getD i 0 + b.getD i 0 := by omega
        refine XC.reg ?_
        refine XL.q (q_move rfl) rfl ?_
        refine XL.q (q_move rfl) rfl ?_
        refine XL.q (q_to32 rfl (by kernel_rfl)) rfl ?_
        refine XL.lo rfl (l_buildSlice (e := 49) (sz := 1) (z := [.int .u32 0]) (by kernel_rfl) (eS rfl e0) (bdS 0 1 rfl (by rfl) bd0) rfl fun b45 => ?_)
        refine XL.lo rfl (l_append2 (e := 49) (sz := 1) (by_ := 4) rfl rfl (by kernel_rfl) rfl (by first | assumption | exact Sl.nil) (Rd.whole (n := 1) At.mem (by rfl)) (by first | (simp [Value.oneCell']; done) | (intro c hc; simp only [List.mem_singleton] at hc; subst hc; first | exact Rd.one (by assumption) | exact Sl.one (by assumption))) PickC.perm (by unfold maxLen; omega) (by omega) rfl fun v46 B46 hs46 => ?_)
        refine XL.q (q_assign rfl) rfl ?_
        refine XL.fin (kp 0 rfl (kp 1 rfl (kp 5 rfl (kp 6 rfl (kp 7 rfl kn))))) ?_
        refine XC.reg1 ?_
        refine XL.q (q_move rfl) rfl ?_
        refine XL.q (q_shrD 32 4294967296 rfl rfl rfl rfl (by decide)) rfl ?_
        refine XL.q (q_assign rfl) rfl ?_
        refine XL.nil ?_
        refine nb ?_
        refine nx (kp 0 rfl (kp 1 rfl (kp 5 rfl (kp 6 rfl (kp 7 rfl kn))))) ?_
        refine XC.reg1 ?_
        refine XL.q (q_move rfl) rfl ?_
        refine XL.q (q_addI (b := 1) rfl rfl rfl rfl (by omega)) rfl ?_
        refine XL.q (q_assign rfl) rfl ?_
        refine XL.nil ?_
        exact rn (i + 1, c2 / 4294967296, v46, o ++ [c2 % 4294967296], B46) ⟨by dsimp only; omega, by dsimp only; omega, sl_eq hs46 (by simp [hol]) (by simp [nums]), ho32.app (by intro y hy; simp at hy; subst hy; exact Nat.mod_lt _ (by decide)), by simp [hol], plus_step hol hinv hx⟩ (by dsimp only; omega) (kp 0 rfl (kp 1 rfl (kp 5 rfl (kp 6 rfl (kp 7 rfl kn))))) (Fit.sub (by simp)) (fun _ h => h)
  ·
    refine XC.reg ?_
    refine XL.q (q_move rfl) rfl ?_
    refine XL.q (q_move rfl) rfl ?_
    refine XL.q (q_lenV2 (sz := 1) rfl (by kernel_rfl) (by first | assumption | exact Sl.rd (by assumption) (fun _ h => h) | exact By.rd (by assumption))) rfl ?_
    refine XL.q (q_cmp false rfl rfl (ltF (by omega))) rfl ?_
    refine XL.q (q_move rfl) rfl ?_
    refine XL.gy rfl rfl (OpQ.opL (q_move rfl) rfl ?_)
    refine XL.gy rfl rfl (OpQ.opL (q_move rfl) rfl ?_)
    refine XL.gy rfl rfl (OpQ.opL (q_lenV2 (sz := 1) rfl (by kernel_rfl) (by first | assumption | exact Sl.rd (by assumption) (fun _ h => h) | exact By.rd (by assumption))) rfl ?_)
    refine XL.gy rfl rfl (OpQ.opL (q_cmp false rfl rfl (ltF (by omega))) rfl ?_)
    refine XL.q (q_pickF rfl rfl) rfl ?_
    refine XL.fin (kp 0 rfl (kp 1 rfl (kp 5 rfl (kp 6 rfl (kp 7 rfl (kp 17 rfl kn)))))) ?_
    refine XC.condF rfl ?_
    refine XC.exit ?_
    refine te ?_
    refine re ?_
    refine be rfl ?_
    refine nx (kp 5 rfl (kp 6 rfl kn)) ?_
    refine XC.reg ?_
    refine XL.q (q_move rfl) rfl ?_
    refine XL.q (q_move rfl) rfl ?_
    refine XL.q (q_to32 rfl (by kernel_rfl)) rfl ?_
    refine XL.lo rfl (l_buildSlice (e := 49) (sz := 1) (z := [.int .u32 0]) (by kernel_rfl) (eS rfl e0) (bdS 0 1 rfl (by rfl) bd0) rfl fun b52 => ?_)
    have hfin : nv (o ++ [c % 4294967296]) = nv a + nv b := by
      rw [nv_append, hol, Nat.mod_eq_of_lt (by omega)]
      rw [List.take_of_length_le (by omega), List.take_of_length_le (by omega)] at hinv
      simpa [nv] using hinv
    refine XL.lo rfl (l_append2 (e := 49) (sz := 1) (by_ := 4) rfl rfl (by kernel_rfl) rfl (by assumption) (Rd.whole (n := 1) At.mem (by rfl)) (by simp [Value.oneCell']) PickC.perm (by unfold maxLen; omega) (by omega) rfl fun v53 B53 hs53 => ?_)
    replace hs53 : Sw v53 (o ++ [c % 4294967296]) B53 := sl_eq hs53 (by simp [hol]) (by simp [nums])
    refine XL.callV (aS rfl a0) (by kernel_rfl) (trim_spec _ (o ++ [c % 4294967296]) _ (hs53.rd SubC.sub) (by simp [hol]; omega)) rfl ?_
    refine XL.q (q_assign rfl) rfl ?_
    refine XL.fin (kp 4 rfl kn) ?_
    refine XC.ret ?_
    exact ⟨_, _, [], res1 rfl rfl, List.sublist_append_left _ _, by simp, rfl, (Nn.of hs53 (ho32.app (by intro y hy; simp at hy; subst hy; exact Nat.mod_lt _ (by decide))) hfin).weak (by simp [hol]; omega)⟩

set_option maxRecDepth 100000 in
theorem less_spec (va vb : Value) (a b : List Nat) (A : Mem) (ha : Rw A va a) (hb : Rw A vb b) (wa : w32 a) (wb : w32 b) (la : a.length ≤ 1073741824) (lb : b.length ≤ 1073741824) (hle : nv b ≤ nv a) :
    FnX Tryd.prog 42 [va, vb] [] A fun r M J => J = [] ∧ Nn r M (nv a - nv b) a.length := by
  refine FnX.enter (N := 42) Tryd.func42 rfl rfl rfl fun w => ?_
  refine XC.keep (kp 0 rfl (kp 1 rfl kn)) ?_
  refine XC.reg ?_
  refine XL.q (q_assign rfl) rfl ?_
  refine XL.fin (kp 0 rfl (kp 1 rfl kn)) ?_
  refine XC.reg ?_
  refine XL.q (q_assign rfl) rfl ?_
  refine XL.fin (kp 0 rfl (kp 1 rfl (kp 5 rfl kn))) ?_
  refine XC.reg ?_
  refine XL.q (q_assign rfl) rfl ?_
  refine XL.fin (kp 0 rfl (kp 1 rfl (kp 5 rfl (kp 6 rfl kn)))) ?_
  refine XC.seq ?_
  refine XC.reg ?_
  refine XL.q (q_assign rfl) rfl ?_
  refine XL.fin (kp 0 rfl (kp 1 rfl (kp 5 rfl (kp 6 rfl (kp 7 rfl kn))))) ?_
  refine XC.block ?_
  refine XC.loop (α := Nat × Nat × Value × List Nat × Mem) (fun x => [(0, va), (1, vb), (5, x.2.2.1), (6, .int .u64 (x.2.1 : Int)), (7, .int .i64 (x.1 : Int))]) (fun x => x.2.2.2.2) (fun _ => []) (fun x => x.1 ≤ a.length ∧ x.2.1 ≤ 1 ∧ Sw x.2.2.1 x.2.2.2.1 x.2.2.2.2 ∧ w32 x.2.2.2.1 ∧ x.2.2.2.1.length = x.1 ∧ nv x.2.2.2.1 + nv (b.take x.1) = nv (a.take x.1) + xp x.1 * x.2.1) (fun x => a.length - x.1) (0, 0, .slice none 0 0, [], []) ⟨Nat.zero_le _, by decide, Sl.nil, fun _ h => by simp at h, rfl, by simp [nv]⟩ (kp 0 rfl (kp 1 rfl (kp 5 rfl (kp 6 rfl (kp 7 rfl kn))))) .rfl (fun _ h => h) ?_
  rintro ⟨i, c, vo, o, B⟩ ⟨hi, hc1, hsl, ho32, hol, hinv⟩
  dsimp only at hi hc1 hsl ho32 hol hinv ⊢
  have hsw := hsl
  rw [show (Sw vo o B) = Sl 1 vo o.length (nums .u32 o) B from rfl, hol] at hsl
  have ga := wa.get i
  have gb := wb.get i
  refine XC.seq ?_
  refine XC.reg ?_
  refine XL.q (q_move rfl) rfl ?_
  refine XL.q (q_move rfl) rfl ?_
  refine XL.q (q_lenV2 (sz := 1) rfl (by kernel_rfl) (by first | assumption | exact Sl.rd (by assumption) (fun _ h => h) | exact By.rd (by assumption))) rfl ?_
  refine XL.q (q_bin rfl rfl rfl) rfl ?_
  refine XL.fin (kp 0 rfl (kp 1 rfl (kp 5 rfl (kp 6 rfl (kp 7 rfl (kp 12 rfl kn)))))) ?_
  refine XC.cond rfl (fun hc => ?_) (fun hc => ?_)
  ·
    have hlt : i < a.length := by simp at hc; omega
    refine XC.skip ?_
    refine nx (kp 0 rfl (kp 1 rfl (kp 5 rfl (kp 6 rfl (kp 7 rfl kn))))) ?_
    refine XC.seq ?_
    refine XC.block ?_
    refine XC.reg ?_
    refine XL.q (q_move rfl) rfl ?_
    refine XL.q (q_move rfl) rfl ?_
    refine XL.q (q_atV2 (sz := 1) rfl rfl (by kernel_rfl) rfl (by first | assumption | exact Sl.rd (by assumption) (fun _ h => h) | exact By.rd (by assumption)) (by omega)) rfl ?_
    refine XL.q (q_ldVN2 (k := .u32) rfl (by kernel_rfl) (by first | exact Rd.mono (by assumption) SubC.sub | exact Sl.rd (by assumption) SubC.sub | exact Rd.mono (By.rd (by assumption)) SubC.sub) (by omega)) rfl ?_
    refine XL.q (q_same (k' := .u64) rfl (by kernel_rfl) (by show _ < 9223372036854775808; omega)) rfl ?_
    refine XL.q (q_move rfl) rfl ?_
    refine XL.q (q_subM 18446744073709551616 rfl rfl rfl rfl rfl rfl (by omega)) rfl ?_
    refine XL.q (q_assign rfl) rfl ?_
    refine XL.fin (kp 0 rfl (kp 1 rfl (kp 5 rfl (kp 7 rfl (kp 8 rfl kn))))) ?_
    refine XC.join (α := Nat) (fun x => [(0, va), (1, vb), (5, vo), (7, .int .i64 (i : Int)), (8, .int .u64 (x : Int))]) (fun _ => B) (fun _ => []) (fun x => x < 18446744073709551616 ∧ (x + b.getD i 0 + c) % 18446744073709551616 = a.getD i 0) ?_ ?_
    ·
      refine XC.reg ?_
      refine XL.q (q_move rfl) rfl ?_
      refine XL.q (q_move rfl) rfl ?_
      refine XL.q (q_lenV2 (sz := 1) rfl (by kernel_rfl) (by first | assumption | exact Sl.rd (by assumption) (fun _ h => h) | exact By.rd (by assumption))) rfl ?_
      refine XL.q (q_bin rfl rfl rfl) rfl ?_
      refine XL.fin (kp 0 rfl (kp 1 rfl (kp 5 rfl (kp 7 rfl (kp 8 rfl (kp 25 rfl kn)))))) ?_
      refine XC.cond rfl (fun hc => ?_) (fun hc => ?_)
      ·
        have hB : i < b.length := by simp at hc; omega
        refine XC.reg1 ?_
        refine XL.q (q_move rfl) rfl ?_
        refine XL.q (q_move rfl) rfl ?_
        refine XL.q (q_move rfl) rfl ?_
        refine XL.q (q_atV2 (sz := 1) rfl rfl (by kernel_rfl) rfl (by first | assumption | exact Sl.rd (by assumption) (fun _ h => h) | exact By.rd (by assumption)) (by omega)) rfl ?_
        refine XL.q (q_ldVN2 (k := .u32) rfl (by kernel_rfl) (by first | exact Rd.mono (by assumption) SubC.sub | exact Sl.rd (by assumption) SubC.sub | exact Rd.mono (By.rd (by assumption)) SubC.sub) (by omega)) rfl ?_
        refine XL.q (q_same (k' := .u64) rfl (by kernel_rfl) (by show _ < 9223372036854775808; omega)) rfl ?_
        refine XL.q (q_subM 18446744073709551616 rfl rfl rfl rfl rfl rfl (by omega)) rfl ?_
        refine XL.q (q_assign rfl) rfl ?_
        refine XL.nil ?_
        exact jn _ ⟨Nat.mod_lt _ (by decide), by omega⟩ (kp 0 rfl (kp 1 rfl (kp 5 rfl (kp 7 rfl (kp 8 rfl kn))))) (Fit.eq (by simp)) (fun _ h => h)
      ·
        have hB : b.length ≤ i := by simp at hc; omega
        refine XC.skip ?_
        exact jn _ ⟨Nat.mod_lt _ (by decide), by rw [getD_high hB]; omega⟩ (kp 0 rfl (kp 1 rfl (kp 5 rfl (kp 7 rfl (kp 8 rfl kn))))) (Fit.eq (by simp)) (fun _ h => h)
    ·
      rintro x ⟨hx1, hx2⟩
      refine XC.reg ?_
      refine XL.q (q_move rfl) rfl ?_
      refine XL.q (q_move rfl) rfl ?_
      refine XL.q (q_to32 rfl (by kernel_rfl)) rfl ?_
      refine XL.lo rfl (l_buildSlice (e := 49) (sz := 1) (z := [.int .u32 0]) (by kernel_rfl) (eS rfl e0) (bdS 0 1 rfl (by rfl) bd0) rfl fun b36 => ?_)
      refine XL.lo rfl (l_append2 (e := 49) (sz := 1) (by_ := 4) rfl rfl (by kernel_rfl) rfl (by first | assumption | exact Sl.nil) (Rd.whole (n := 1) At.mem (by rfl)) (by first | (simp [Value.oneCell']; done) | (intro c hc; simp only [List.mem_singleton] at hc; subst hc; first | exact Rd.one (by assumption) | exact Sl.one (by assumption))) PickC.perm (by unfold maxLen; omega) (by omega) rfl fun v37 B37 hs37 => ?_)
      refine XL.q (q_assign rfl) rfl ?_
      refine XL.fin (kp 0 rfl (kp 1 rfl (kp 5 rfl (kp 7 rfl (kp 8 rfl kn))))) ?_
      refine XC.reg1 ?_
      refine XL.q (q_move rfl) rfl ?_
      refine XL.q (q_shrD 63 9223372036854775808 rfl rfl rfl rfl (by decide)) rfl ?_
      refine XL.q (q_assign rfl) rfl ?_
      refine XL.nil ?_
      refine nb ?_
      refine nx (kp 0 rfl (kp 1 rfl (kp 5 rfl (kp 6 rfl (kp 7 rfl kn))))) ?_
      refine XC.reg1 ?_
      refine XL.q (q_move rfl) rfl ?_
      refine XL.q (q_addI (b := 1) rfl rfl rfl rfl (by omega)) rfl ?_
      refine XL.q (q_assign rfl) rfl ?_
      refine XL.nil ?_
      refine rn (i + 1, x / 9223372036854775808, v37, o ++ [x % 4294967296], B37) ⟨by dsimp only; omega, by dsimp only; omega, sl_eq hs37 (by simp [hol]) (by simp [nums]), ho32.app (by intro y hy; simp at hy; subst hy; exact Nat.mod_lt _ (by decide)), by simp [hol], less_next hol hinv (by dsimp only; omega)⟩ (by dsimp only; omega) (kp 0 rfl (kp 1 rfl (kp 5 rfl (kp 6 rfl (kp 7 rfl kn))))) (Fit.sub (by simp)) (fun _ h => h)
  ·
    have hlt : i = a.length := by simp at hc; omega
    subst hlt
    refine XC.exit ?_
    refine te ?_
    refine re ?_
    refine be rfl ?_
    refine nx (kp 5 rfl kn) ?_
    refine XC.reg ?_
    refine XL.q (q_move rfl) rfl ?_
    refine XL.callV (aS rfl a0) (by kernel_rfl) (trim_spec _ o _ (hsw.rd SubC.sub) (by omega)) rfl ?_
    refine XL.q (q_assign rfl) rfl ?_
    refine XL.fin (kp 4 rfl kn) ?_
    refine XC.ret ?_
    exact ⟨_, _, [], res1 rfl rfl, List.Sublist.refl _, by simp, rfl, (Nn.of hsw ho32 (less_end hol ho32 wa hinv hle)).weak (by omega)⟩

set_option maxRecDepth 100000 in
theorem down_spec (v : Value) (a : List Nat) (n : Nat) (A : Mem) (ha : Rw A v a) (wa : w32 a) (la : a.length ≤ 1073741824) (hn : n ≤ 1099511627776) :
    FnX Tryd.prog 83 [v, .int .i64 (n : Int)] [] A fun r M J => J = [] ∧ Nn r M (nv a / 2 ^ n) a.length := by
  refine FnX.enter (N := 45) Tryd.func83 rfl rfl rfl fun w => ?_
  refine XC.keep (kp 0 rfl (kp 1 rfl kn)) ?_
  refine XC.reg ?_
  refine XL.q (q_assign rfl) rfl ?_
  refine XL.fin (kp 0 rfl (kp 1 rfl kn)) ?_
  refine XC.reg ?_
  refine XL.q (q_assign rfl) rfl ?_
  refine XL.fin (kp 0 rfl (kp 1 rfl (kp 5 rfl kn))) ?_
  refine XC.seq ?_
  refine XC.reg ?_
  refine XL.q (q_move rfl) rfl ?_
  refine XL.q (q_quoI (b := 32) rfl rfl rfl rfl (by omega) (by omega)) rfl ?_
  refine XL.q (q_assign rfl) rfl ?_
  refine XL.fin (kp 0 rfl (kp 1 rfl (kp 5 rfl (kp 6 rfl kn)))) ?_
  refine XC.block ?_
  refine XC.loop (α := Nat × Value × Mem) (fun x => [(0, v), (1, .int .i64 (n : Int)), (5, x.2.1), (6, .int .i64 (x.1 : Int))]) (fun x => x.2.2) (fun _ => []) (fun x => n / 32 ≤ x.1 ∧ (x.1 ≤ a.length ∨ x.1 = n / 32) ∧ Sl 1 x.2.1 (x.1 - n / 32) (nums .u32 (wrds (nv a / 2 ^ n) (x.1 - n / 32))) x.2.2) (fun x => a.length - x.1) (n / 32, .slice none 0 0, []) ⟨Nat.le_refl _, .inr rfl, by dsimp only; rw [Nat.sub_self]; exact Sl.nil⟩ (kp 0 rfl (kp 1 rfl (kp 5 rfl (kp 6 rfl kn)))) .rfl (fun _ h => h) ?_
  rintro ⟨i, vo, B⟩ ⟨hi, hi2, hsl⟩
  dsimp only at hi hi2 hsl ⊢
  have ga := wa.get i
  have gb := wa.get (i + 1)
  refine XC.seq ?_
  refine XC.reg ?_
  refine XL.q (q_move rfl) rfl ?_
  refine XL.q (q_move rfl) rfl ?_
  refine XL.q (q_lenV2 (sz := 1) rfl (by kernel_rfl) (by first | assumption | exact Sl.rd (by assumption) (fun _ h => h) | exact By.rd (by assumption))) rfl ?_
  refine XL.q (q_bin rfl rfl rfl) rfl ?_
  refine XL.fin (kp 0 rfl (kp 1 rfl (kp 5 rfl (kp 6 rfl (kp 13 rfl kn))))) ?_
  refine XC.cond rfl (fun hc => ?_) (fun hc => ?_)
  ·
    have hlt : i < a.length := by simp at hc; omega
    refine XC.skip ?_
    refine nx (kp 0 rfl (kp 1 rfl (kp 5 rfl (kp 6 rfl kn)))) ?_
    refine XC.seq ?_
    refine XC.block ?_
    refine XC.reg ?_
    refine XL.q (q_move rfl) rfl ?_
    refine XL.q (q_move rfl) rfl ?_
    refine XL.q (q_atV2 (sz := 1) rfl rfl (by kernel_rfl) rfl (by first | assumption | exact Sl.rd (by assumption) (fun _ h => h) | exact By.rd (by assumption)) (by omega)) rfl ?_
    refine XL.q (q_ldVN2 (k := .u32) rfl (by kernel_rfl) (by first | exact Rd.mono (by assumption) SubC.sub | exact Sl.rd (by assumption) SubC.sub | exact Rd.mono (By.rd (by assumption)) SubC.sub) (by omega)) rfl ?_
    refine XL.q (q_same (k' := .u64) rfl (by kernel_rfl) (by show _ < 9223372036854775808; omega)) rfl ?_
    refine XL.q (q_assign rfl) rfl ?_
    refine XL.fin (kp 0 rfl (kp 1 rfl (kp 5 rfl (kp 6 rfl (kp 7 rfl kn))))) ?_
    refine XC.join (α := Nat) (fun x => [(0, v), (1, .int .i64 (n : Int)), (5, vo), (6, .int .i64 (i : Int)), (7, .int .u64 (x : Int))]) (fun _ => B) (fun _ => []) (fun x => x = (a.getD i 0 ||| a.getD (i + 1) 0 * 4294967296)) ?_ ?_
    ·
      refine XC.reg ?_
      refine XL.q (q_move rfl) rfl ?_
      refine XL.q (q_addI (b := 1) rfl rfl rfl rfl (by omega)) rfl ?_
      refine XL.q (q_move rfl) rfl ?_
      refine XL.q (q_lenV2 (sz := 1) rfl (by kernel_rfl) (by first | assumption | exact Sl.rd (by assumption) (fun _ h => h) | exact By.rd (by assumption))) rfl ?_
      refine XL.q (q_bin rfl rfl rfl) rfl ?_
      refine XL.fin (kp 0 rfl (kp 1 rfl (kp 5 rfl (kp 6 rfl (kp 7 rfl (kp 25 rfl kn)))))) ?_
      refine XC.cond rfl (fun hc => ?_) (fun hc => ?_)
      ·
        have hB : i + 1 < a.length := by simp at hc; omega
        refine XC.reg1 ?_
        refine XL.q (q_move rfl) rfl ?_
        refine XL.q (q_move rfl) rfl ?_
        refine XL.q (q_move rfl) rfl ?_
        refine XL.q (q_addI (b := 1) rfl rfl rfl rfl (by omega)) rfl ?_
        refine XL.q (q_atV2 (sz := 1) rfl rfl (by kernel_rfl) rfl (by first | assumption | exact Sl.rd (by assumption) (fun _ h => h) | exact By.rd (by assumption)) (by omega)) rfl ?_
        refine XL.q (q_ldVN2 (k := .u32) rfl (by kernel_rfl) (by first | exact Rd.mono (by assumption) SubC.sub | exact Sl.rd (by assumption) SubC.sub | exact Rd.mono (By.rd (by assumption)) SubC.sub) (by omega)) rfl ?_
        refine XL.q (q_same (k' := .u64) rfl (by kernel_rfl) (by show _ < 9223372036854775808; omega)) rfl ?_
        refine XL.q (q_shlD 32 4294967296 18446744073709551616 rfl rfl rfl rfl rfl rfl (by decide)) rfl ?_
        refine XL.q (q_or rfl rfl rfl (by show _ < 18446744073709551616; omega) (by show _ < 18446744073709551616; exact Nat.mod_lt _ (by decide))) rfl ?_
        refine XL.q (q_assign rfl) rfl ?_
        refine XL.nil ?_
        exact jn _ (by rw [Nat.mod_eq_of_lt (by omega)]) (kp 0 rfl (kp 1 rfl (kp 5 rfl (kp 6 rfl (kp 7 rfl kn))))) (Fit.eq (by simp)) (fun _ h => h)
      ·
        have hB : a.length ≤ i + 1 := by simp at hc; omega
        refine XC.skip ?_
        exact jn _ (by rw [getD_high (i := i + 1) hB, Nat.zero_mul, Nat.or_zero]) (kp 0 rfl (kp 1 rfl (kp 5 rfl (kp 6 rfl (kp 7 rfl kn))))) (Fit.eq (by simp)) (fun _ h => h)
    ·
      rintro x hx
      refine XC.reg1 ?_
      refine XL.q (q_move rfl) rfl ?_
      refine XL.q (q_move rfl) rfl ?_
      refine XL.q (q_move rfl) rfl ?_
      refine XL.q (q_remI (b := 32) rfl rfl rfl rfl (by omega)) rfl ?_
      refine XL.q (q_shrI rfl rfl rfl rfl (by show _ ≤ 64; omega)) rfl ?_
      refine XL.q (q_to32 rfl (by kernel_rfl)) rfl ?_
      refine XL.lo rfl (l_buildSlice (e := 49) (sz := 1) (z := [.int .u32 0]) (by kernel_rfl) (eS rfl e0) (bdS 0 1 rfl (by rfl) bd0) rfl fun b41 => ?_)
      refine XL.lo rfl (l_append2 (e := 49) (sz := 1) (by_ := 4) rfl rfl (by kernel_rfl) rfl (by first | assumption | exact Sl.nil) (Rd.whole (n := 1) At.mem (by rfl)) (by first | (simp [Value.oneCell']; done) | (intro c hc; simp only [List.mem_singleton] at hc; subst hc; first | exact Rd.one (by assumption) | exact Sl.one (by assumption))) PickC.perm (by unfold maxLen; omega) (by omega) rfl fun v42 B42 hs42 => ?_)
      refine XL.q (q_assign rfl) rfl ?_
      refine XL.nil ?_
      refine nb ?_
      refine nx (kp 0 rfl (kp 1 rfl (kp 5 rfl (kp 6 rfl kn)))) ?_
      refine XC.reg1 ?_
      refine XL.q (q_move rfl) rfl ?_
      refine XL.q (q_addI (b := 1) rfl rfl rfl rfl (by omega)) rfl ?_
      refine XL.q (q_assign rfl) rfl ?_
      refine XL.nil ?_
      rw [hx, down_word wa hi] at hs42
      refine rn (i + 1, v42, B42) ⟨by dsimp only; omega, .inl (by dsimp only; omega), sl_eq hs42 (by dsimp only; omega) ?_⟩ (by dsimp only; omega) (kp 0 rfl (kp 1 rfl (kp 5 rfl (kp 6 rfl kn)))) (Fit.sub (by simp)) (fun _ h => h)
      dsimp only
      rw [show i + 1 - n / 32 = (i - n / 32) + 1 by omega, wrds_succ, nums_append]
      rfl
  ·
    have hge : a.length ≤ i := by simp at hc; omega
    refine XC.exit ?_
    refine te ?_
    refine re ?_
    refine be rfl ?_
    refine nx (kp 5 rfl kn) ?_
    refine XC.reg ?_
    refine XL.q (q_move rfl) rfl ?_
    refine XL.callV (aS rfl a0) (by kernel_rfl) (trim_spec _ (wrds (nv a / 2 ^ n) (i - n / 32)) _ (rd_eq (hsl.rd SubC.sub) (wrds_len _ _).symm rfl) (by rw [wrds_len]; omega)) rfl ?_
    refine XL.q (q_assign rfl) rfl ?_
    refine XL.fin (kp 4 rfl kn) ?_
    refine XC.ret ?_
    refine ⟨_, _, [], res1 rfl rfl, List.Sublist.refl _, by simp, rfl, (Nn.of (sl_eq hsl (wrds_len _ _).symm rfl) (wrds_w32 _ _) ?_).weak (by rw [wrds_len]; omega)⟩
    rw [nv_wrds, Nat.mod_eq_of_lt]
    rw [xp_two, Nat.div_lt_iff_lt_mul (Nat.two_pow_pos _), ← Nat.pow_add]
    have h1 := nv_lt wa
    rw [xp_two] at h1
    exact Nat.lt_of_lt_of_le h1 (Nat.pow_le_pow_right (by decide) (by omega))

end Go.Proofs.YtcfdeohjhhpmcaaDoor
