/- The walks of the document's numbers (pawlref02): Trim, Small, Times, Cmp. -/
import Derived.Test.YtkoaheaahbnmfaaRows
import Derived.Test.YtkoaheaahbnmfaaNatL
set_option linter.unusedVariables false
set_option linter.unusedSimpArgs false
namespace Go.Proofs.Ytkoaheaahbnmfaa
open Go.Px

/-- A slice of words. -/
abbrev Rw (R : Mem) (v : Value) (ws : List Nat) : Prop := Rd R 1 v ws.length (nums .u32 ws)
abbrev Sw (v : Value) (ws : List Nat) (B : Mem) : Prop := Sl 1 v ws.length (nums .u32 ws) B
theorem Rw_trim {R : Mem} {v : Value} {ws : List Nat} (h : Rw R v ws) : Rw R (vHi (tl ws ws.length) v) (trim ws) :=
  rd_eq (h.hiV _ (tl_le ws _)) (trim_len ws).symm (by rw [Nat.mul_one, ← nums_take]; rfl)
theorem Sw_trim {v : Value} {ws : List Nat} {B : Mem} (h : Sw v ws B) : Sw (vHi (tl ws ws.length) v) (trim ws) B :=
  sl_eq (h.hiV _ (tl_le ws _)) (trim_len ws).symm (by rw [Nat.mul_one, ← nums_take]; rfl)

theorem trim_spec (v : Value) (ws : List Nat) (A : Mem) (h : Rw A v ws) (hl : ws.length ≤ 1099511627776) : FnV Try.prog 41 [v] A (vHi (tl ws ws.length) v) := by
  refine FnX.enter (N := 21) Try.func41 rfl rfl rfl fun w => ?_
  refine XC.keep (kp 0 rfl kn) ?_
  refine XC.reg ?_
  refine XL.q (q_assign rfl) rfl ?_
  refine XL.fin (kp 0 rfl kn) ?_
  refine XC.reg ?_
  refine XL.q (q_move rfl) rfl ?_
  refine XL.q (q_lenV h rfl (by kernel_rfl)) rfl ?_
  refine XL.q (q_assign rfl) rfl ?_
  refine XL.fin (kp 0 rfl (kp 3 rfl kn)) ?_
  refine XC.seq ?_
  refine XC.block ?_
  refine XC.loop (α := Nat) (fun n => [(0, v), (3, .int .i64 (n : Int))]) (fun _ => []) (fun _ => []) (fun n => n ≤ ws.length ∧ tl ws n = tl ws ws.length) (fun n => n) ws.length ⟨Nat.le_refl _, rfl⟩ (kp 0 rfl (kp 3 rfl kn)) .rfl (fun _ h => h) ?_
  rintro n ⟨hn, ht⟩
  refine XC.seq ?_
  by_cases hn0 : n = 0
  ·
    refine XC.reg ?_
    refine XL.q (q_move rfl) rfl ?_
    refine XL.q (q_cmp false rfl rfl (gtF (by omega))) rfl ?_
    refine XL.q (q_move rfl) rfl ?_
    refine XL.gn rfl rfl rfl rfl ?_
    refine XL.gn rfl rfl rfl rfl ?_
    refine XL.gn rfl rfl rfl rfl ?_
    refine XL.gn rfl rfl rfl rfl ?_
    refine XL.gn rfl rfl rfl rfl ?_
    refine XL.gn rfl rfl rfl rfl ?_
    refine XL.q (q_pickF rfl rfl) rfl ?_
    refine XL.fin (kp 0 rfl (kp 3 rfl (kp 15 rfl kn))) ?_
    refine XC.condF rfl ?_
    refine XC.exit ?_
    refine te ?_
    refine re ?_
    refine be rfl ?_
    refine nx (kp 0 rfl (kp 3 rfl kn)) ?_
    refine XC.reg ?_
    refine XL.q (q_move rfl) rfl ?_
    refine XL.q (q_move rfl) rfl ?_
    refine XL.q (q_hiV h rfl rfl (by kernel_rfl) n rfl hn) rfl ?_
    refine XL.q (q_assign rfl) rfl ?_
    refine XL.fin (kp 2 rfl kn) ?_
    refine XC.ret ?_
    exact ⟨_, [], [], res1 rfl rfl, List.nil_sublist _, by simp, by rw [← ht, hn0]; rfl, rfl, rfl⟩
  ·
    refine XC.reg ?_
    refine XL.q (q_move rfl) rfl ?_
    refine XL.q (q_cmp true rfl rfl (gtT (by omega))) rfl ?_
    refine XL.q (q_move rfl) rfl ?_
    refine XL.gy rfl rfl (OpQ.opL (q_move rfl) rfl ?_)
    refine XL.gy rfl rfl (OpQ.opL (q_move rfl) rfl ?_)
    refine XL.gy rfl rfl (OpQ.opL (q_num ((n - 1 : Nat) : Int) rfl rfl (sub64 (by omega) (by omega) (by omega))) rfl ?_)
    refine XL.gy rfl rfl (OpQ.opL (q_atV h rfl rfl (by kernel_rfl) (n - 1) rfl (by omega)) rfl ?_)
    refine XL.gy rfl rfl (OpQ.opL (q_ldVN (h.mono fun _ h => mA h) rfl (by kernel_rfl) (by omega)) rfl ?_)
    refine XL.gy rfl rfl (OpQ.opL (q_bin rfl rfl rfl) rfl ?_)
    refine XL.q (q_pickT rfl rfl) rfl ?_
    refine XL.fin (kp 0 rfl (kp 3 rfl (kp 15 rfl kn))) ?_
    refine XC.cond rfl (fun hc => ?_) (fun hc => ?_)
    ·
      have hz : ws.getD (n - 1) 0 = 0 := by simp at hc; simpa using hc
      refine XC.skip ?_
      refine nx (kp 0 rfl (kp 3 rfl kn)) ?_
      refine XC.block ?_
      refine XC.reg1 ?_
      refine XL.q (q_move rfl) rfl ?_
      refine XL.q (q_num ((n - 1 : Nat) : Int) rfl rfl (sub64 (by omega) (by omega) (by omega))) rfl ?_
      refine XL.q (q_assign rfl) rfl ?_
      refine XL.nil ?_
      refine nb ?_
      refine rn (n - 1) ⟨by omega, ?_⟩ (by omega) (kp 0 rfl (kp 3 rfl kn)) .rfl (fun _ h => h)
      obtain ⟨m, rfl⟩ : ∃ m, n = m + 1 := ⟨n - 1, by omega⟩
      rw [← ht, tl, if_pos (by simpa using hz), Nat.add_sub_cancel]
    ·
      have hz : ws.getD (n - 1) 0 ≠ 0 := by simp at hc; simpa using hc
      refine XC.exit ?_
      refine te ?_
      refine re ?_
      refine be rfl ?_
      refine nx (kp 0 rfl (kp 3 rfl kn)) ?_
      refine XC.reg ?_
      refine XL.q (q_move rfl) rfl ?_
      refine XL.q (q_move rfl) rfl ?_
      refine XL.q (q_hiV h rfl rfl (by kernel_rfl) n rfl hn) rfl ?_
      refine XL.q (q_assign rfl) rfl ?_
      refine XL.fin (kp 2 rfl kn) ?_
      refine XC.ret ?_
      exact ⟨_, [], [], res1 rfl rfl, List.nil_sublist _, by simp, by rw [← ht]; obtain ⟨m, rfl⟩ : ∃ m, n = m + 1 := ⟨n - 1, by omega⟩; rw [tl, if_neg (by simpa using hz)], rfl, rfl⟩

theorem small_spec (n : Nat) (hn : n < 18446744073709551616) (A : Mem) : FnX Try.prog 34 [.int .u64 (n : Int)] [] A fun r M J => J = [] ∧ ∃ ws, Sw r ws M ∧ w32 ws ∧ nv ws = n ∧ ws.length ≤ 2 := by
  refine FnX.enter (N := 10) Try.func34 rfl rfl rfl fun w => ?_
  refine XC.keep (kp 0 rfl kn) ?_
  refine XC.reg ?_
  refine XL.q (q_assign rfl) rfl ?_
  refine XL.fin (kp 0 rfl kn) ?_
  refine XC.reg ?_
  refine XL.q (q_move rfl) rfl ?_
  refine XL.q (q_to32 rfl (by kernel_rfl)) rfl ?_
  refine XL.q (q_move rfl) rfl ?_
  refine XL.q (q_shrN 32 rfl rfl rfl (by decide)) rfl ?_
  refine XL.q (q_to32 rfl (by kernel_rfl)) rfl ?_
  refine XL.lo rfl (l_buildSlice (e := 33) (sz := 1) (z := [.int .u32 0, .int .u32 0]) (by kernel_rfl) (eS rfl (eS rfl e0)) (bdS 0 1 rfl (by rfl) (bdS 1 1 rfl (by rfl) bd0)) rfl fun b8 => ?_)
  refine XL.cv (aS rfl a0) (by kernel_rfl) (trim_spec _ [n % 4294967296, n >>> 32 % 4294967296] _ (Rd.whole (n := 2) m0 (by rfl)) (by simp)) rfl ?_
  refine XL.q (q_assign rfl) rfl ?_
  refine XL.fin (kp 2 rfl kn) ?_
  refine XC.ret ?_
  refine ⟨_, [_], [], res1 rfl rfl, List.Sublist.refl _, by simp, rfl, trim [n % 4294967296, n >>> 32 % 4294967296], Sw_trim (Sl.fresh (b := b8) (n := 2) rfl (by decide)), trim_w32 ?_, ?_, ?_⟩
  · intro x hx
    simp only [List.mem_cons, List.not_mem_nil, or_false] at hx
    rcases hx with rfl | rfl <;> exact Nat.mod_lt _ (by decide)
  · rw [trim_nv, Nat.shiftRight_eq_div_pow, show (2 : Nat) ^ 32 = 4294967296 from rfl]
    simp only [nv]
    omega
  · rw [trim_len]
    exact tl_le _ _

theorem times_spec (va vb : Value) (a b : List Nat) (A : Mem) (ha : Rw A va a) (hb : Rw A vb b) (wa : w32 a) (wb : w32 b) (la : a.length ≤ 1073741824) (lb : b.length ≤ 1073741824) :
    FnX Try.prog 49 [va, vb] [] A fun r M J => J = [] ∧ ∃ ws, Sw r ws M ∧ w32 ws ∧ nv ws = nv a * nv b ∧ nrm ws ∧ ws.length ≤ a.length + b.length := by
  refine FnX.enter (N := 68) Try.func49 rfl rfl rfl fun w => ?_
  refine XC.keep (kp 0 rfl (kp 1 rfl kn)) ?_
  refine XC.reg ?_
  refine XL.q (q_assign rfl) rfl ?_
  refine XL.fin (kp 0 rfl (kp 1 rfl kn)) ?_
  refine XC.reg ?_
  refine XL.q (q_move rfl) rfl ?_
  refine XL.q (q_lenV ha rfl (by kernel_rfl)) rfl ?_
  refine XL.q (q_move rfl) rfl ?_
  refine XL.q (q_lenV hb rfl (by kernel_rfl)) rfl ?_
  refine XL.q (q_num ((a.length + b.length : Nat) : Int) rfl rfl (add64 (by omega) (by omega) (by omega))) rfl ?_
  refine XL.lo rfl (l_makeN (e := 33) (k := .u32) (by_ := 4) (a.length + b.length) rfl rfl (by kernel_rfl) rfl rfl (by omega) (by omega) rfl fun b15 => ?_)
  refine XL.q (q_assign rfl) rfl ?_
  refine XL.fin (kp 0 rfl (kp 1 rfl (kp 5 rfl kn))) ?_
  refine XC.seq ?_
  refine XC.reg ?_
  refine XL.q (q_assign rfl) rfl ?_
  refine XL.fin (kp 0 rfl (kp 1 rfl (kp 5 rfl (kp 6 rfl kn)))) ?_
  refine XC.block ?_
  have hsl0 : Sl 1 (.slice (some ⟨b15, 0, none⟩) (a.length + b.length) (a.length + b.length)) (a.length + b.length) (nums .u32 (List.replicate (a.length + b.length) 0)) [(b15, blk (nums .u32 (List.replicate (a.length + b.length) 0)) 33)] := Sl.fresh (by simp) (by unfold maxLen; omega)
  generalize hsv : (Value.slice (some ⟨b15, 0, none⟩) (a.length + b.length) (a.length + b.length)) = sv at *
  refine XC.loop (α := Nat × List Nat × Mem) (fun x => [(0, va), (1, vb), (5, sv), (6, .int .i64 (x.1 : Int))]) (fun x => x.2.2) (fun _ => []) (fun x => x.1 ≤ a.length ∧ Sl 1 sv (a.length + b.length) (nums .u32 x.2.1) x.2.2 ∧ x.2.1.length = a.length + b.length ∧ w32 x.2.1 ∧ nv x.2.1 = nv (a.take x.1) * nv b ∧ ∀ j, x.1 + b.length ≤ j → x.2.1.getD j 0 = 0) (fun x => a.length - x.1) (0, List.replicate (a.length + b.length) 0, _) ⟨Nat.zero_le _, hsl0, by simp, w32_repl _, by simp [nv_repl, nv], fun j hj => by simp [List.getD, List.getElem?_replicate]; split <;> rfl⟩ (kp 0 rfl (kp 1 rfl (kp 5 rfl (kp 6 rfl kn)))) .rfl (fun _ h => h) ?_
  clear hsl0
  rintro ⟨i, o0, B⟩ ⟨hi, hsl, hol, how, hon, hoz⟩
  dsimp only at hi hsl hol how hon hoz ⊢
  refine XC.seq ?_
  refine XC.reg ?_
  refine XL.q (q_move rfl) rfl ?_
  refine XL.q (q_move rfl) rfl ?_
  refine XL.q (q_lenV ha rfl (by kernel_rfl)) rfl ?_
  refine XL.q (q_bin rfl rfl rfl) rfl ?_
  refine XL.fin (kp 0 rfl (kp 1 rfl (kp 5 rfl (kp 6 rfl (kp 19 rfl kn))))) ?_
  refine XC.cond rfl (fun hc => ?_) (fun hc => ?_)
  ·
    have hlt : i < a.length := by simp at hc; omega
    refine XC.skip ?_
    refine nx (kp 0 rfl (kp 1 rfl (kp 5 rfl (kp 6 rfl kn)))) ?_
    refine XC.seq ?_
    refine XC.block ?_
    refine XC.reg ?_
    refine XL.q (q_assign rfl) rfl ?_
    refine XL.fin (kp 0 rfl (kp 1 rfl (kp 5 rfl (kp 6 rfl (kp 7 rfl kn))))) ?_
    refine XC.seq ?_
    refine XC.reg ?_
    refine XL.q (q_assign rfl) rfl ?_
    refine XL.fin (kp 0 rfl (kp 1 rfl (kp 5 rfl (kp 6 rfl (kp 7 rfl (kp 8 rfl kn)))))) ?_
    refine XC.block ?_
    refine XC.loop (α := Nat × Nat × List Nat × Mem) (fun x => [(0, va), (1, vb), (5, sv), (6, .int .i64 (i : Int)), (7, .int .u64 (x.2.1 : Int)), (8, .int .i64 (x.1 : Int))]) (fun x => x.2.2.2) (fun _ => []) (fun x => x.1 ≤ b.length ∧ x.2.1 < 4294967296 ∧ Sl 1 sv (a.length + b.length) (nums .u32 x.2.2.1) x.2.2.2 ∧ x.2.2.1.length = a.length + b.length ∧ w32 x.2.2.1 ∧ nv x.2.2.1 + x.2.1 * xp (i + x.1) = nv o0 + xp i * (a.getD i 0 * nv (b.take x.1)) ∧ ∀ j, i + b.length ≤ j → x.2.2.1.getD j 0 = 0) (fun x => b.length - x.1) (0, 0, o0, B) ⟨Nat.zero_le _, Nat.zero_lt_succ _, hsl, hol, how, by simp [nv], hoz⟩ (kp 0 rfl (kp 1 rfl (kp 5 rfl (kp 6 rfl (kp 7 rfl (kp 8 rfl kn)))))) .rfl (fun _ h => h) ?_
    clear hsl hol how hoz
    rintro ⟨k, c, os, B⟩ ⟨hk, hc32, hsl, hol, how, hinv, hoz⟩
    dsimp only at hk hc32 hsl hol how hinv hoz ⊢
    refine XC.seq ?_
    refine XC.reg ?_
    refine XL.q (q_move rfl) rfl ?_
    refine XL.q (q_move rfl) rfl ?_
    refine XL.q (q_lenV hb rfl (by kernel_rfl)) rfl ?_
    refine XL.q (q_bin rfl rfl rfl) rfl ?_
    refine XL.fin (kp 0 rfl (kp 1 rfl (kp 5 rfl (kp 6 rfl (kp 7 rfl (kp 8 rfl (kp 25 rfl kn))))))) ?_
    refine XC.cond rfl (fun hc => ?_) (fun hc => ?_)
    ·
      have hkt : k < b.length := by simp at hc; omega
      have g1 := wa.get i
      have g2 := wb.get k
      have g3 := how.get (i + k)
      have g4 : a.getD i 0 * b.getD k 0 ≤ 4294967295 * 4294967295 := Nat.mul_le_mul (by omega) (by omega)
      refine XC.skip ?_
      refine nx (kp 0 rfl (kp 1 rfl (kp 5 rfl (kp 6 rfl (kp 7 rfl (kp 8 rfl kn)))))) ?_
      refine XC.seq ?_
      refine XC.block ?_
      refine XC.draw (_) [0, 1, 2, 3, 4, 5, 6, 7, 8, 9, 10, 11, 12, 13, 14, 15, 16, 17, 18, 19, 20, 21] [(0, 0), (1, 0), (2, 0), (3, 1), (4, 0), (5, 0), (6, 0), (7, 0), (8, 1), (9, 0), (10, 0), (11, 0), (12, 0), (13, 0), (14, 0), (15, 0), (16, 1), (17, 0), (18, 0), (19, 0), (20, 0), (21, 0)] (by kernel_rfl) (by kernel_rfl) (fun _ h => h) fun hs => ?_
      refine XP.q hs rfl (q_move rfl) rfl ?_
      refine XP.q hs rfl (q_move rfl) rfl ?_
      refine XP.q hs rfl (q_atV ha rfl rfl (by kernel_rfl) i rfl hlt) rfl ?_
      refine XP.r hs rfl (q_ldVN (ha.mono fun _ h => mA h) rfl (by kernel_rfl) hlt) rfl ?_
      refine XP.q hs rfl (q_same (k' := .u64) rfl (by kernel_rfl) (by show _ < 9223372036854775808; omega)) rfl ?_
      refine XP.q hs rfl (q_move rfl) rfl ?_
      refine XP.q hs rfl (q_move rfl) rfl ?_
      refine XP.q hs rfl (q_atV hb rfl rfl (by kernel_rfl) k rfl hkt) rfl ?_
      refine XP.r hs rfl (q_ldVN (hb.mono fun _ h => mA h) rfl (by kernel_rfl) hkt) rfl ?_
      refine XP.q hs rfl (q_same (k' := .u64) rfl (by kernel_rfl) (by show _ < 9223372036854775808; omega)) rfl ?_
      refine XP.q hs rfl (q_num ((a.getD i 0 * b.getD k 0 : Nat) : Int) rfl rfl (mulU (k := .u64) rfl _ (Nat.mod_eq_of_lt (by show a.getD i 0 * b.getD k 0 < 18446744073709551616; omega)))) rfl ?_
      refine XP.q hs rfl (q_move rfl) rfl ?_
      refine XP.q hs rfl (q_move rfl) rfl ?_
      refine XP.q hs rfl (q_move rfl) rfl ?_
      refine XP.q hs rfl (q_num ((i + k : Nat) : Int) rfl rfl (add64 (by omega) (by omega) (by omega))) rfl ?_
      refine XP.q hs rfl (q_atV (hsl.rd fun _ h => h) rfl rfl (by kernel_rfl) (i + k) rfl (by omega)) rfl ?_
      refine XP.r hs rfl (q_ldVN (hsl.rd fun _ h => by simp [h]) rfl (by kernel_rfl) (by omega)) rfl ?_
      refine XP.q hs rfl (q_same (k' := .u64) rfl (by kernel_rfl) (by show _ < 9223372036854775808; omega)) rfl ?_
      refine XP.q hs rfl (q_num ((a.getD i 0 * b.getD k 0 + os.getD (i + k) 0 : Nat) : Int) rfl rfl (addU (k := .u64) rfl _ (Nat.mod_eq_of_lt (by show a.getD i 0 * b.getD k 0 + os.getD (i + k) 0 < 18446744073709551616; omega)))) rfl ?_
      refine XP.q hs rfl (q_move rfl) rfl ?_
      refine XP.q hs rfl (q_num ((a.getD i 0 * b.getD k 0 + os.getD (i + k) 0 + c : Nat) : Int) rfl rfl (addU (k := .u64) rfl _ (Nat.mod_eq_of_lt (by show a.getD i 0 * b.getD k 0 + os.getD (i + k) 0 + c < 18446744073709551616; omega)))) rfl ?_
      generalize hx : a.getD i 0 * b.getD k 0 + os.getD (i + k) 0 + c = x
      refine XP.q hs rfl (q_assign rfl) rfl ?_
      refine XP.fin (kp 0 rfl (kp 1 rfl (kp 5 rfl (kp 6 rfl (kp 8 rfl (kp 9 rfl kn)))))) ?_
      refine XC.reg ?_
      refine XL.q (q_move rfl) rfl ?_
      refine XL.q (q_move rfl) rfl ?_
      refine XL.q (q_move rfl) rfl ?_
      refine XL.q (q_num ((i + k : Nat) : Int) rfl rfl (add64 (by omega) (by omega) (by omega))) rfl ?_
      refine XL.q (q_move rfl) rfl ?_
      refine XL.q (q_to32 rfl (by kernel_rfl)) rfl ?_
      refine XL.q (q_atV (hsl.rd fun _ h => h) rfl rfl (by kernel_rfl) (i + k) rfl (by omega)) rfl ?_
      refine XL.lo rfl (l_stV (M0 := []) hsl rfl rfl (by kernel_rfl) (by omega) (by rw [List.append_nil]) fun B2 hsl2 => ?_)
      refine XL.fin (kp 0 rfl (kp 1 rfl (kp 5 rfl (kp 6 rfl (kp 8 rfl (kp 9 rfl kn)))))) ?_
      refine XC.reg1 ?_
      refine XL.q (q_move rfl) rfl ?_
      refine XL.q (q_shrN 32 rfl rfl rfl (by decide)) rfl ?_
      refine XL.q (q_assign rfl) rfl ?_
      refine XL.nil ?_
      refine nb ?_
      refine nx (kp 0 rfl (kp 1 rfl (kp 5 rfl (kp 6 rfl (kp 7 rfl (kp 8 rfl kn)))))) ?_
      refine XC.reg1 ?_
      refine XL.q (q_move rfl) rfl ?_
      refine XL.q (q_num ((k + 1 : Nat) : Int) rfl rfl (add64 (by omega) (by omega) (by omega))) rfl ?_
      refine XL.q (q_assign rfl) rfl ?_
      refine XL.nil ?_
      refine rn (k + 1, x >>> 32, _, B2) ⟨by dsimp only; omega, ?_, hsl2, by simpa using hol, how.set (Nat.mod_lt _ (by decide)), times_step hkt (by omega) hinv hx.symm, fun j hj => ?_⟩ (by dsimp only; omega) (kp 0 rfl (kp 1 rfl (kp 5 rfl (kp 6 rfl (kp 7 rfl (kp 8 rfl kn)))))) (Fit.eq (by simp)) (fun _ h => h)
      · dsimp only
        rw [Nat.shiftRight_eq_div_pow, show (2 : Nat) ^ 32 = 4294967296 from rfl]
        omega
      · have := hoz j hj
        dsimp only at hj ⊢
        simp only [List.getD] at this ⊢
        rw [List.getElem?_set_ne (by omega)]
        exact this
    ·
      have hkt : k = b.length := by simp at hc; omega
      subst hkt
      rw [List.take_length] at hinv
      refine XC.exit ?_
      refine te ?_
      refine re ?_
      refine be rfl ?_
      refine nx (kp 0 rfl (kp 1 rfl (kp 5 rfl (kp 6 rfl (kp 7 rfl kn))))) ?_
      refine XC.reg1 ?_
      refine XL.q (q_move rfl) rfl ?_
      refine XL.q (q_move rfl) rfl ?_
      refine XL.q (q_move rfl) rfl ?_
      refine XL.q (q_lenV hb rfl (by kernel_rfl)) rfl ?_
      refine XL.q (q_num ((i + b.length : Nat) : Int) rfl rfl (add64 (by omega) (by omega) (by omega))) rfl ?_
      refine XL.q (q_move rfl) rfl ?_
      refine XL.q (q_convN (k' := .u32) c rfl (by kernel_rfl) (by rw [wrap32, Nat.mod_eq_of_lt hc32])) rfl ?_
      refine XL.q (q_atV (hsl.rd fun _ h => h) rfl rfl (by kernel_rfl) (i + b.length) rfl (by omega)) rfl ?_
      refine XL.lo rfl (l_stV (M0 := []) hsl rfl rfl (by kernel_rfl) (by omega) (by rw [List.append_nil]) fun B2 hsl2 => ?_)
      refine XL.nil ?_
      refine nb ?_
      refine nx (kp 0 rfl (kp 1 rfl (kp 5 rfl (kp 6 rfl kn)))) ?_
      refine XC.reg1 ?_
      refine XL.q (q_move rfl) rfl ?_
      refine XL.q (q_num ((i + 1 : Nat) : Int) rfl rfl (add64 (by omega) (by omega) (by omega))) rfl ?_
      refine XL.q (q_assign rfl) rfl ?_
      refine XL.nil ?_
      refine rn (i + 1, _, B2) ⟨by dsimp only; omega, hsl2, by simpa using hol, how.set hc32, times_end hlt (by omega) hinv (hoz _ (Nat.le_refl _)) hon, fun j hj => ?_⟩ (by dsimp only; omega) (kp 0 rfl (kp 1 rfl (kp 5 rfl (kp 6 rfl kn)))) (Fit.eq (by simp)) (fun _ h => h)
      have := hoz j (by dsimp only at hj; omega)
      dsimp only at hj ⊢
      simp only [List.getD] at this ⊢
      rw [List.getElem?_set_ne (by omega)]
      exact this
  ·
    have hlt : i = a.length := by simp at hc; omega
    subst hlt
    rw [List.take_length] at hon
    refine XC.exit ?_
    refine te ?_
    refine re ?_
    refine be rfl ?_
    refine nx (kp 5 rfl kn) ?_
    refine XC.reg ?_
    refine XL.q (q_move rfl) rfl ?_
    rw [← hol] at hsl
    refine XL.cv (aS rfl a0) (by kernel_rfl) (trim_spec _ o0 _ (hsl.rd fun _ h => by simp [h]) (by omega)) rfl ?_
    refine XL.q (q_assign rfl) rfl ?_
    refine XL.fin (kp 4 rfl kn) ?_
    refine XC.ret ?_
    refine ⟨_, B, [], res1 rfl rfl, List.Sublist.refl _, by simp, rfl, trim o0, Sw_trim hsl, trim_w32 how, by rw [trim_nv, hon], trim_nrm _, ?_⟩
    rw [trim_len, ← hol]
    exact tl_le _ _

theorem drop_step {a b : List Nat} {j : Nat} (hj : 0 < j) (ha : j ≤ a.length) (hl : a.length = b.length) (h : a.drop j = b.drop j) (he : a.getD (j - 1) 0 = b.getD (j - 1) 0) : a.drop (j - 1) = b.drop (j - 1) := by
  rw [List.drop_eq_getElem_cons (show j - 1 < a.length by omega), List.drop_eq_getElem_cons (show j - 1 < b.length by omega), show j - 1 + 1 = j by omega, h]
  simp only [List.getD, List.getElem?_eq_getElem (show j - 1 < a.length by omega), List.getElem?_eq_getElem (show j - 1 < b.length by omega), Option.getD_some] at he
  rw [he]

theorem cmp_spec (va vb : Value) (a b : List Nat) (A : Mem) (ha : Rw A va a) (hb : Rw A vb b) (wa : w32 a) (wb : w32 b) (la : a.length ≤ 1073741824) (lb : b.length ≤ 1073741824) :
    FnX Try.prog 31 [va, vb] [] A fun r M J => M = [] ∧ J = [] ∧ ∃ c : Int, r = .int .i64 c ∧ (c < 0 ↔ nv a < nv b) ∧ (0 < c ↔ nv b < nv a) := by
  refine FnX.enter (N := 45) Try.func31 rfl rfl rfl fun w => ?_
  refine XC.keep (kp 0 rfl (kp 1 rfl kn)) ?_
  refine XC.reg ?_
  refine XL.q (q_assign rfl) rfl ?_
  refine XL.fin (kp 0 rfl (kp 1 rfl kn)) ?_
  refine XC.reg ?_
  refine XL.q (q_move rfl) rfl ?_
  refine XL.cv (aS rfl a0) (by kernel_rfl) (trim_spec _ a _ (ha.mono fun _ h => mA h) (by omega)) rfl ?_
  refine XL.q (q_assign rfl) rfl ?_
  refine XL.fin (kp 0 rfl (kp 1 rfl kn)) ?_
  refine XC.reg ?_
  refine XL.q (q_move rfl) rfl ?_
  refine XL.cv (aS rfl a0) (by kernel_rfl) (trim_spec _ b _ (hb.mono fun _ h => mA h) (by omega)) rfl ?_
  have ha2 := Rw_trim ha
  have hb2 := Rw_trim hb
  have wa2 := trim_w32 wa
  have wb2 := trim_w32 wb
  have nra := trim_nrm a
  have nrb := trim_nrm b
  have la2 : (trim a).length ≤ 1073741824 := by rw [trim_len]; have := tl_le a a.length; omega
  have lb2 : (trim b).length ≤ 1073741824 := by rw [trim_len]; have := tl_le b b.length; omega
  rw [← trim_nv a, ← trim_nv b]
  generalize vHi (tl a a.length) va = va2 at *
  generalize vHi (tl b b.length) vb = vb2 at *
  generalize trim a = a2 at *
  generalize trim b = b2 at *
  refine XL.q (q_assign rfl) rfl ?_
  refine XL.fin (kp 0 rfl (kp 1 rfl kn)) ?_
  refine XC.seq ?_
  refine XC.reg ?_
  refine XL.q (q_move rfl) rfl ?_
  refine XL.q (q_lenV ha2 rfl (by kernel_rfl)) rfl ?_
  refine XL.q (q_move rfl) rfl ?_
  refine XL.q (q_lenV hb2 rfl (by kernel_rfl)) rfl ?_
  refine XL.q (q_bin rfl rfl rfl) rfl ?_
  refine XL.fin (kp 0 rfl (kp 1 rfl (kp 14 rfl kn))) ?_
  refine XC.cond rfl (fun hc => ?_) (fun hc => ?_)
  ·
    have hne : a2.length ≠ b2.length := by simp at hc; omega
    refine XC.reg ?_
    refine XL.q (q_move rfl) rfl ?_
    refine XL.q (q_lenV ha2 rfl (by kernel_rfl)) rfl ?_
    refine XL.q (q_move rfl) rfl ?_
    refine XL.q (q_lenV hb2 rfl (by kernel_rfl)) rfl ?_
    refine XL.q (q_num ((a2.length : Int) - b2.length) rfl rfl (sub64 rfl (by omega) (by omega))) rfl ?_
    refine XL.q (q_assign rfl) rfl ?_
    refine XL.fin (kp 4 rfl kn) ?_
    refine XC.ret ?_
    refine tr ?_
    refine ⟨_, [], [], res1 rfl rfl, List.nil_sublist _, by simp, rfl, rfl, _, rfl, ?_⟩
    rcases Nat.lt_trichotomy a2.length b2.length with h | h | h
    · have := nv_lt_len wa2 nrb h
      constructor <;> constructor <;> intro h1 <;> omega
    · exact absurd h hne
    · have := nv_lt_len wb2 nra h
      constructor <;> constructor <;> intro h1 <;> omega
  ·
    have hne : a2.length = b2.length := by simp at hc; omega
    refine XC.skip ?_
    refine nx (kp 0 rfl (kp 1 rfl kn)) ?_
    refine XC.seq ?_
    refine XC.reg ?_
    refine XL.q (q_move rfl) rfl ?_
    refine XL.q (q_lenV ha2 rfl (by kernel_rfl)) rfl ?_
    refine XL.q (q_num ((a2.length : Int) - 1) rfl rfl (sub64 rfl (by omega) (by omega))) rfl ?_
    refine XL.q (q_assign rfl) rfl ?_
    refine XL.fin (kp 0 rfl (kp 1 rfl (kp 5 rfl kn))) ?_
    refine XC.block ?_
    refine XC.loop (α := Nat) (fun j => [(0, va2), (1, vb2), (5, .int .i64 ((j : Int) - 1))]) (fun _ => []) (fun _ => []) (fun j => j ≤ a2.length ∧ a2.drop j = b2.drop j) (fun j => j) a2.length ⟨Nat.le_refl _, by rw [List.drop_length, hne, List.drop_length]⟩ (kp 0 rfl (kp 1 rfl (kp 5 rfl kn))) .rfl (fun _ h => h) ?_
    rintro j ⟨hj, hd⟩
    refine XC.seq ?_
    refine XC.reg ?_
    refine XL.q (q_move rfl) rfl ?_
    refine XL.q (q_bin rfl rfl rfl) rfl ?_
    refine XL.fin (kp 0 rfl (kp 1 rfl (kp 5 rfl (kp 24 rfl kn)))) ?_
    refine XC.cond rfl (fun hc => ?_) (fun hc => ?_)
    ·
      have hj0 : 0 < j := by simp at hc; omega
      refine XC.skip ?_
      refine nx (kp 0 rfl (kp 1 rfl (kp 5 rfl kn))) ?_
      refine XC.seq ?_
      refine XC.block ?_
      refine XC.seq ?_
      refine XC.draw (_) [0, 1, 2, 3, 4, 5, 6, 7, 8] [(0, 0), (1, 0), (2, 0), (3, 1), (4, 0), (5, 0), (6, 0), (7, 1), (8, 0)] (by kernel_rfl) (by kernel_rfl) (fun _ h => h) fun hs => ?_
      refine XP.q hs rfl (q_move rfl) rfl ?_
      refine XP.q hs rfl (q_move rfl) rfl ?_
      refine XP.q hs rfl (q_atV ha2 rfl rfl (by kernel_rfl) (j - 1) (by omega) (by omega)) rfl ?_
      refine XP.r hs rfl (q_ldVN (ha2.mono fun _ h => mA h) rfl (by kernel_rfl) (by omega)) rfl ?_
      refine XP.q hs rfl (q_move rfl) rfl ?_
      refine XP.q hs rfl (q_move rfl) rfl ?_
      refine XP.q hs rfl (q_atV hb2 rfl rfl (by kernel_rfl) (j - 1) (by omega) (by omega)) rfl ?_
      refine XP.r hs rfl (q_ldVN (hb2.mono fun _ h => mA h) rfl (by kernel_rfl) (by omega)) rfl ?_
      refine XP.q hs rfl (q_bin rfl rfl rfl) rfl ?_
      refine XP.fin (kp 0 rfl (kp 1 rfl (kp 5 rfl (kp 35 rfl kn)))) ?_
      refine XC.cond rfl (fun hc => ?_) (fun hc => ?_)
      ·
        have hlt : a2.getD (j - 1) 0 < b2.getD (j - 1) 0 := by simp at hc ⊢; omega
        refine XC.reg ?_
        refine XL.q (q_assign rfl) rfl ?_
        refine XL.fin (kp 4 rfl kn) ?_
        refine XC.ret ?_
        refine tr ?_
        refine br ?_
        refine tr ?_
        refine rr ?_
        refine br ?_
        refine tr ?_
        refine ⟨_, [], [], res1 rfl rfl, List.nil_sublist _, by simp, rfl, rfl, -1, rfl, ?_⟩
        have := nv_lt_at wa2 (j := j - 1) (by omega) hne hlt (by rwa [show j - 1 + 1 = j by omega])
        constructor <;> constructor <;> intro h1 <;> omega
      ·
        have hge : ¬ a2.getD (j - 1) 0 < b2.getD (j - 1) 0 := by simp at hc ⊢; omega
        refine XC.skip ?_
        refine nx (kp 0 rfl (kp 1 rfl (kp 5 rfl kn))) ?_
        refine XC.draw (_) [0, 1, 2, 3, 4, 5, 6, 7, 8] [(0, 0), (1, 0), (2, 0), (3, 1), (4, 0), (5, 0), (6, 0), (7, 1), (8, 0)] (by kernel_rfl) (by kernel_rfl) (fun _ h => h) fun hs => ?_
        refine XP.q hs rfl (q_move rfl) rfl ?_
        refine XP.q hs rfl (q_move rfl) rfl ?_
        refine XP.q hs rfl (q_atV ha2 rfl rfl (by kernel_rfl) (j - 1) (by omega) (by omega)) rfl ?_
        refine XP.r hs rfl (q_ldVN (ha2.mono fun _ h => mA h) rfl (by kernel_rfl) (by omega)) rfl ?_
        refine XP.q hs rfl (q_move rfl) rfl ?_
        refine XP.q hs rfl (q_move rfl) rfl ?_
        refine XP.q hs rfl (q_atV hb2 rfl rfl (by kernel_rfl) (j - 1) (by omega) (by omega)) rfl ?_
        refine XP.r hs rfl (q_ldVN (hb2.mono fun _ h => mA h) rfl (by kernel_rfl) (by omega)) rfl ?_
        refine XP.q hs rfl (q_bin rfl rfl rfl) rfl ?_
        refine XP.fin (kp 0 rfl (kp 1 rfl (kp 5 rfl (kp 44 rfl kn)))) ?_
        refine XC.cond rfl (fun hc => ?_) (fun hc => ?_)
        ·
          have hlt : b2.getD (j - 1) 0 < a2.getD (j - 1) 0 := by simp at hc ⊢; omega
          refine XC.reg ?_
          refine XL.q (q_assign rfl) rfl ?_
          refine XL.fin (kp 4 rfl kn) ?_
          refine XC.ret ?_
          refine br ?_
          refine tr ?_
          refine rr ?_
          refine br ?_
          refine tr ?_
          refine ⟨_, [], [], res1 rfl rfl, List.nil_sublist _, by simp, rfl, rfl, 1, rfl, ?_⟩
          have := nv_lt_at wb2 (j := j - 1) (by omega) hne.symm hlt (by rw [show j - 1 + 1 = j by omega, hd])
          constructor <;> constructor <;> intro h1 <;> omega
        ·
          have hge2 : ¬ b2.getD (j - 1) 0 < a2.getD (j - 1) 0 := by simp at hc ⊢; omega
          refine XC.skip ?_
          refine nb ?_
          refine nx (kp 0 rfl (kp 1 rfl (kp 5 rfl kn))) ?_
          refine XC.reg1 ?_
          refine XL.q (q_move rfl) rfl ?_
          refine XL.q (q_num (((j - 1 : Nat) : Int) - 1) rfl rfl (sub64 (by omega) (by omega) (by omega))) rfl ?_
          refine XL.q (q_assign rfl) rfl ?_
          refine XL.nil ?_
          refine rn (j - 1) ⟨by omega, drop_step hj0 hj hne hd (by omega)⟩ (by omega) (kp 0 rfl (kp 1 rfl (kp 5 rfl kn))) .rfl (fun _ h => h)
    ·
      have hj0 : j = 0 := by simp at hc; omega
      subst hj0
      rw [List.drop_zero, List.drop_zero] at hd
      refine XC.exit ?_
      refine te ?_
      refine re ?_
      refine be rfl ?_
      refine nx kn ?_
      refine XC.reg ?_
      refine XL.q (q_assign rfl) rfl ?_
      refine XL.fin (kp 4 rfl kn) ?_
      refine XC.ret ?_
      refine ⟨_, [], [], res1 rfl rfl, List.nil_sublist _, by simp, rfl, rfl, 0, rfl, ?_⟩
      rw [hd]
      constructor <;> constructor <;> intro h1 <;> omega
