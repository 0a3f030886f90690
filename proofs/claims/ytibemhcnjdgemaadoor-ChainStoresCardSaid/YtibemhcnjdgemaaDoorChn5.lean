/- The walk of chain.Ahead. -/
import Derived.Test.YtibemhcnjdgemaaDoorChn4
set_option linter.unusedVariables false
set_option linter.unusedSimpArgs false
namespace Go.Proofs.YtibemhcnjdgemaaDoor
open Go.Px
theorem up2 {X J R A : Mem} (hR : ∀ x, x ∈ R → x ∈ A) : ∀ x, x ∈ J ++ R → x ∈ X ++ (J ++ A) := fun x hx => List.mem_append_right _ ((List.mem_append.1 hx).elim (fun h => List.mem_append_left _ h) (fun h => List.mem_append_right _ (hR x h)))
def rep {α : Type} (f : α → α) : Nat → α → α
  | 0, x => x
  | k + 1, x => f (rep f k x)
abbrev Ast := Ps × List Nat × Nat × List Skp
def aSt (of : List Nat) (x : Ast) : Ast := (stepS x.1 x.2.1, stepC x.1 x.2.1, x.2.2.1 + 1, putS x.2.2.2 ⟨of, x.2.2.1, stepK x.1 x.2.1⟩)
theorem rep_n (of : List Nat) (i : Nat) (x : Ast) : (rep (aSt of) i x).2.2.1 = x.2.2.1 + i := by
  induction i with
  | zero => rfl
  | succ i ih => show (rep (aSt of) i x).2.2.1 + 1 = _; rw [ih]; rfl
theorem rep_ts (of : List Nat) (i : Nat) (x : Ast) : (rep (aSt of) i x).1.ts.length ≤ x.1.ts.length + 3 * i := by
  induction i with
  | zero => exact Nat.le_refl _
  | succ i ih =>
    show (stepS (rep (aSt of) i x).1 (rep (aSt of) i x).2.1).ts.length ≤ _
    have := derS_len (rep (aSt of) i x).1 (rep (aSt of) i x).2.1 [] stepW 2
    unfold stepS
    simp at this
    omega
theorem rep_sk (of : List Nat) (i : Nat) (x : Ast) (h : x.2.2.2.length ≤ 1000) : (rep (aSt of) i x).2.2.2.length ≤ 1000 := by
  cases i with
  | zero => exact h
  | succ i => exact Nat.le_trans (putS_len _ _) (by decide)

set_option maxRecDepth 100000 in
theorem ahead_spec (pb sb : Nat) (s : Ps) (kv vof : Value) (key of : List Nat) (N n : Nat) (sks : List Skp) (R MP MS A : Mem) (hP : Prm pb s MP) (hS : Sto R sb sks MS) (hR : ∀ x, x ∈ R → x ∈ A) (hk : By R kv key) (hof : By R vof of) (hl : sks.length ≤ 1000) (hNn : N ≤ n) (h16 : n - N ≤ 16) (hn32 : n < 4294967296) (hn : s.ts.length ≤ 1000000) (hG : Glb A) : FnX Tryd.prog 16 [.pointer (some ⟨pb, 0, none⟩), .agg #[kv, .int .u32 ((N : Nat) : Int)], vof, .int .u32 ((n : Nat) : Int), .pointer (some ⟨sb, 0, none⟩)] (MP ++ MS) A fun q M J => ∃ MP' MS' kv', M = MP' ++ MS' ∧ q = .tuple #[.agg #[kv', .int .u32 (((rep (aSt of) (n - N) (s, key, N, sks)).2.2.1 : Nat) : Int)], .int .i64 0] ∧ Prm pb (rep (aSt of) (n - N) (s, key, N, sks)).1 MP' ∧ Sto (J ++ R) sb (rep (aSt of) (n - N) (s, key, N, sks)).2.2.2 MS' ∧ By (J ++ R) kv' (rep (aSt of) (n - N) (s, key, N, sks)).2.1 := by
  haveI := hk.cel
  haveI := hof.cel
  refine FnX.enterZ (N := 51) Tryd.func16 rfl rfl rfl fun w_ => ?_
  refine XC.keep (kp 0 rfl (kp 1 rfl (kp 2 rfl (kp 3 rfl (kp 4 rfl kn))))) ?_
  refine XC.reg ?_
  refine XL.lo rfl (l_box rfl (by first | exact Cel.cel | rfl) rfl fun b6 => ?_)
  refine XL.lo rfl (l_alloc (cs := [.slice none 0 0, .int .u32 0]) (by kernel_rfl) rfl fun b10 => ?_)
  refine XL.q (q_assign rfl) rfl ?_
  refine XL.fin (kp 0 rfl (kp 2 rfl (kp 3 rfl (kp 4 rfl (kp 6 rfl (kp 10 rfl kn)))))) ?_
  refine XC.seq ?_
  refine XC.block ?_
  refine XC.reg ?_
  refine XL.q (q_move rfl) rfl ?_
  refine XL.q (q_fieldAddrN 1 (off := 1) rfl (by kernel_rfl) rfl) rfl ?_
  refine XL.q (q_load rfl (by kernel_rfl) (by first | exact At.mem | exact mA (by assumption)) (by rfl)) rfl ?_
  refine XL.q (q_cmp false rfl rfl (ltF (by omega))) rfl ?_
  refine XL.q (q_assign rfl) rfl ?_
  refine XL.fin (kp 0 rfl (kp 2 rfl (kp 3 rfl (kp 4 rfl (kp 6 rfl (kp 10 rfl (kp 14 rfl kn))))))) ?_
  refine XC.condF rfl ?_
  refine XC.reg ?_
  refine XL.q (q_move rfl) rfl ?_
  refine XL.q (q_fieldAddrN 1 (off := 1) rfl (by kernel_rfl) rfl) rfl ?_
  refine XL.q (q_load rfl (by kernel_rfl) (by first | exact At.mem | exact mA (by assumption)) (by rfl)) rfl ?_
  refine XL.q (q_num (((n - N : Nat)) : Int) rfl rfl (by simp only [arith]; rw [wrap_u32 (by omega) (by omega)]; congr 2; omega)) rfl ?_
  refine XL.q (q_cmp false rfl rfl (gtF (by omega))) rfl ?_
  refine XL.q (q_assign rfl) rfl ?_
  refine XL.fin (kp 0 rfl (kp 2 rfl (kp 3 rfl (kp 4 rfl (kp 6 rfl (kp 10 rfl (kp 20 rfl kn))))))) ?_
  refine XC.condF rfl ?_
  refine XC.skip ?_
  refine nb ?_
  refine nx (kp 0 rfl (kp 2 rfl (kp 3 rfl (kp 4 rfl (kp 6 rfl (kp 10 rfl kn)))))) ?_
  refine XC.seq ?_
  refine XC.block ?_
  refine XC.loop (α := Nat × Mem × Mem × Value × Mem) (fun x => [(0, .pointer (some ⟨pb, 0, none⟩)), (2, vof), (3, .int .u32 ((n : Nat) : Int)), (4, .pointer (some ⟨sb, 0, none⟩)), (6, .pointer (some ⟨b6, 0, none⟩)), (10, .pointer (some ⟨b10, 0, none⟩))]) (fun x => x.2.1 ++ (x.2.2.1 ++ [(b6, blk [x.2.2.2.1, .int .u32 ((N + x.1 : Nat) : Int)] 27), (b10, blk [.slice none 0 0, .int .u32 0] 27)])) (fun x => x.2.2.2.2) (fun x => x.1 ≤ n - N ∧ Prm pb (rep (aSt of) x.1 (s, key, N, sks)).1 x.2.1 ∧ Sto (x.2.2.2.2 ++ R) sb (rep (aSt of) x.1 (s, key, N, sks)).2.2.2 x.2.2.1 ∧ By (x.2.2.2.2 ++ R) x.2.2.2.1 (rep (aSt of) x.1 (s, key, N, sks)).2.1) (fun x => n - N - x.1) ⟨0, MP, MS, kv, []⟩ ⟨Nat.zero_le _, hP, hS, hk⟩ (kp 0 rfl (kp 2 rfl (kp 3 rfl (kp 4 rfl (kp 6 rfl (kp 10 rfl kn)))))) (Fit.pick PickC.perm (Fit.pick PickC.perm (Fit.pick (B := [_]) PickC.perm (Fit.last PickC.perm)))) (fun _ h => by cases h) ?_
  rintro ⟨i, MPi, MSi, kvi, Ji⟩ ⟨hi, hPi, hSi, hki⟩
  dsimp only at hi hPi hSi hki ⊢
  haveI := hki.cel
  have hts := rep_ts of i (s, key, N, sks)
  have hsk := rep_sk of i (s, key, N, sks) hl
  dsimp only at hts hsk
  refine XC.seq ?_
  refine XC.reg ?_
  refine XL.q (q_fieldAddrN 1 (off := 1) rfl (by kernel_rfl) rfl) rfl ?_
  refine XL.q (q_load rfl (by kernel_rfl) (by first | exact At.mem | exact mA (by assumption)) (by rfl)) rfl ?_
  refine XL.q (q_move rfl) rfl ?_
  refine XL.q (q_bin rfl rfl rfl) rfl ?_
  refine XL.fin (kp 0 rfl (kp 2 rfl (kp 3 rfl (kp 4 rfl (kp 6 rfl (kp 10 rfl (kp 30 rfl kn))))))) ?_
  refine XC.cond rfl (fun hc => ?_) (fun hc => ?_)
  ·
    have hlt : i < n - N := by simp at hc; omega
    refine XC.skip ?_
    refine nx (kp 0 rfl (kp 2 rfl (kp 3 rfl (kp 4 rfl (kp 6 rfl (kp 10 rfl kn)))))) ?_
    refine XC.block ?_
    refine XC.reg ?_
    refine XL.q (q_assign rfl) rfl ?_
    refine XL.fin (kp 0 rfl (kp 2 rfl (kp 3 rfl (kp 4 rfl (kp 6 rfl (kp 10 rfl kn)))))) ?_
    refine XC.reg ?_
    refine XL.q (q_fieldAddrN 1 (off := 1) rfl (by kernel_rfl) rfl) rfl ?_
    refine XL.q (q_load rfl (by kernel_rfl) (by first | exact At.mem | exact mA (by assumption)) (by rfl)) rfl ?_
    refine XL.q (q_assign rfl) rfl ?_
    refine XL.fin (kp 0 rfl (kp 2 rfl (kp 3 rfl (kp 4 rfl (kp 6 rfl (kp 10 rfl (kp 13 rfl kn))))))) ?_
    refine XC.seq ?_
    refine XC.reg ?_
    refine XL.q (q_move rfl) rfl ?_
    refine XL.q (q_loadW (n := 2) rfl (by kernel_rfl) (by first | exact At.mem | exact mA (by assumption)) (by rfl)) rfl ?_
    refine XL.lo rfl (l_call (Mc := MPi) (R := _) (aS rfl (aS rfl a0)) (by kernel_rfl) PickC.perm (step_spec pb (rep (aSt of) i (s, key, N, sks)).1 kvi (rep (aSt of) i (s, key, N, sks)).2.1 (N + i) MPi _ hPi (hki.mono (up2 hR)) (by omega) hG.up) rfl ?_)
    rintro v36 M36 J36 ⟨v1, v2, rfl, hP36, hb1, hb2⟩
    haveI := hb1.cel
    haveI := hb2.cel
    rw [Nat.mod_eq_of_lt (show N + i + 1 < 4294967296 by omega), show N + i + 1 = N + (i + 1) from rfl]
    refine XL.q (q_move rfl) rfl ?_
    refine XL.q (q_x0 rfl) rfl ?_
    refine XL.q (q_x1 rfl) rfl ?_
    refine XL.q (q_assign rfl) rfl ?_
    refine XL.lo rfl (l_storeW rfl rfl Cel.cel (by kernel_rfl) (by rfl) (by intro c hc; simp only [List.mem_cons, List.not_mem_nil, or_false] at hc; rcases hc with rfl | rfl; exact hb2.one; rfl) UpC.upd ?_)
    refine XL.fin (kp 0 rfl (kp 2 rfl (kp 3 rfl (kp 4 rfl (kp 6 rfl (kp 10 rfl (kp 12 rfl (kp 13 rfl kn)))))))) ?_
    refine XC.reg ?_
    refine XL.q (q_fieldAddrN 1 (off := 1) rfl (by kernel_rfl) rfl) rfl ?_
    refine XL.q (q_load rfl (by kernel_rfl) (by first | exact At.mem | exact mA (by assumption)) (by rfl)) rfl ?_
    refine XL.q (q_move rfl) rfl ?_
    refine XL.q (q_cmp false rfl rfl (eqF (by omega))) rfl ?_
    refine XL.fin (kp 0 rfl (kp 2 rfl (kp 3 rfl (kp 4 rfl (kp 6 rfl (kp 10 rfl (kp 12 rfl (kp 13 rfl (kp 42 rfl kn))))))))) ?_
    refine XC.condF rfl ?_
    refine XC.skip ?_
    refine nx (kp 0 rfl (kp 2 rfl (kp 3 rfl (kp 4 rfl (kp 6 rfl (kp 10 rfl (kp 12 rfl (kp 13 rfl kn)))))))) ?_
    refine XC.reg1 ?_
    refine XL.q (q_move rfl) rfl ?_
    refine XL.q (q_move rfl) rfl ?_
    refine XL.q (q_move rfl) rfl ?_
    refine XL.q (q_move rfl) rfl ?_
    refine XL.q (q_build (place := fun x => #[(0, 1), (1, 1), (2, 1)][x]?) (z := [.slice none 0 0, .int .u32 0, .slice none 0 0]) (fun _ => by kernel_rfl) (eS rfl (eS rfl (eS rfl e0))) (bdS 0 1 rfl (by rfl) (bdS 1 1 rfl (by rfl) (bdS 2 1 rfl (by rfl) bd0)))) rfl ?_
    refine XL.lo rfl (l_call (Mc := MSi) (R := _) (aS rfl (aS rfl a0)) (by kernel_rfl) PickC.perm (put_spec sb vof v1 (rep (aSt of) i (s, key, N, sks)).2.2.2 of (stepK (rep (aSt of) i (s, key, N, sks)).1 (rep (aSt of) i (s, key, N, sks)).2.1) (N + i) ((J36 ++ Ji) ++ R) MSi _ (hSi.mono (fun x hx => by simp only [List.mem_append] at hx ⊢; rcases hx with h | h <;> simp [h])) (up2 hR) (by omega) (hof.mono (fun x hx => List.mem_append_right _ hx)) (hb1.mono (fun x hx => by simp [hx])) (by omega)) rfl ?_)
    rintro v49 M49 J49 ⟨rfl, hS49⟩
    refine XL.nil ?_
    refine nb ?_
    exact rn ⟨i + 1, M36, M49, v2, J49 ++ (J36 ++ Ji)⟩ ⟨by dsimp only; omega, hP36, (by have h := hS49; rw [← rep_n of i (s, key, N, sks)] at h; exact h.mono (fun x hx => by simp only [List.mem_append] at hx ⊢; rcases hx with h | h | h <;> simp [h]) : Sto ((J49 ++ (J36 ++ Ji)) ++ R) sb _ M49), hb2.mono (fun x hx => by simp [hx])⟩ (by dsimp only; omega) (kp 0 rfl (kp 2 rfl (kp 3 rfl (kp 4 rfl (kp 6 rfl (kp 10 rfl kn)))))) (Fit.pick PickC.perm (Fit.pick PickC.perm (Fit.pick (B := [_]) PickC.perm (Fit.last PickC.perm)))) (fun _ h => h)
  ·
    have hge : i = n - N := by simp at hc; omega
    subst hge
    refine XC.exit ?_
    refine te ?_
    refine re ?_
    refine be rfl ?_
    refine nx (kp 6 rfl (kp 10 rfl kn)) ?_
    refine XC.reg ?_
    refine XL.q (q_loadW (n := 2) rfl (by kernel_rfl) (by first | exact At.mem | exact mA (by assumption)) (by rfl)) rfl ?_
    refine XL.lo rfl (l_storeW rfl rfl Cel.cel (by kernel_rfl) (by rfl) (by intro c hc; simp only [List.mem_cons, List.not_mem_nil, or_false] at hc; rcases hc with rfl | rfl; exact hki.one; rfl) UpC.upd ?_)
    refine XL.q (q_assign rfl) rfl ?_
    refine XL.fin (kp 10 rfl (kp 11 rfl kn)) ?_
    refine XC.ret ?_
    refine ⟨_, MPi ++ MSi, [], resC1 (n := 2) rfl rfl rfl (by kernel_rfl) At.mem (by rfl), Fit.none (Fit.pick PickC.perm (Fit.last PickC.perm)), MPi, MSi, kvi, rfl, ?_, hPi, hSi, hki⟩
    rw [rep_n]

set_option maxRecDepth 100000 in
theorem ahead_used (pv sv kv vof : Value) (key of : List Nat) (N n : Nat) (A : Mem) (hk : By A kv key) (hof : By A vof of) (hNn : n < N) : FnV Tryd.prog 16 [pv, .agg #[kv, .int .u32 ((N : Nat) : Int)], vof, .int .u32 ((n : Nat) : Int), sv] A (.tuple #[.agg #[kv, .int .u32 ((N : Nat) : Int)], .int .i64 8]) := by
  haveI := hk.cel
  haveI := hof.cel
  refine FnX.enter (N := 51) Tryd.func16 rfl rfl rfl fun w => ?_
  refine XC.keep (kp 0 rfl (kp 1 rfl (kp 2 rfl (kp 3 rfl (kp 4 rfl kn))))) ?_
  refine XC.reg ?_
  refine XL.lo rfl (l_box rfl (by first | exact Cel.cel | rfl) rfl fun b6 => ?_)
  refine XL.lo rfl (l_alloc (cs := [.slice none 0 0, .int .u32 0]) (by kernel_rfl) rfl fun b10 => ?_)
  refine XL.q (q_assign rfl) rfl ?_
  refine XL.fin (kp 0 rfl (kp 2 rfl (kp 3 rfl (kp 4 rfl (kp 6 rfl (kp 10 rfl kn)))))) ?_
  refine XC.seq ?_
  refine XC.block ?_
  refine XC.reg ?_
  refine XL.q (q_move rfl) rfl ?_
  refine XL.q (q_fieldAddrN 1 (off := 1) rfl (by kernel_rfl) rfl) rfl ?_
  refine XL.q (q_load rfl (by kernel_rfl) (by first | exact At.mem | exact mA (by assumption)) (by rfl)) rfl ?_
  refine XL.q (q_cmp true rfl rfl (ltT (by omega))) rfl ?_
  refine XL.q (q_assign rfl) rfl ?_
  refine XL.fin (kp 0 rfl (kp 2 rfl (kp 3 rfl (kp 4 rfl (kp 6 rfl (kp 10 rfl (kp 14 rfl kn))))))) ?_
  refine XC.condT rfl ?_
  refine XC.reg ?_
  refine XL.q (q_loadW (n := 2) rfl (by kernel_rfl) (by first | exact At.mem | exact mA (by assumption)) (by rfl)) rfl ?_
  refine XL.lo rfl (l_storeW rfl rfl Cel.cel (by kernel_rfl) (by rfl) (by intro c hc; simp only [List.mem_cons, List.not_mem_nil, or_false] at hc; rcases hc with rfl | rfl; exact hk.one; rfl) UpC.upd ?_)
  refine XL.q (q_assign rfl) rfl ?_
  refine XL.fin (kp 10 rfl (kp 11 rfl kn)) ?_
  refine XC.ret ?_
  refine br ?_
  refine tr ?_
  exact ⟨_, [], [], resC1 (n := 2) rfl rfl rfl (by kernel_rfl) At.mem (by rfl), List.nil_sublist _, by simp, rfl, rfl, rfl⟩

set_option maxRecDepth 100000 in
theorem ahead_skip (pv sv kv vof : Value) (key of : List Nat) (N n : Nat) (A : Mem) (hk : By A kv key) (hof : By A vof of) (hNn : N ≤ n) (hn32 : n < 4294967296) (h16 : 16 < n - N) : FnV Tryd.prog 16 [pv, .agg #[kv, .int .u32 ((N : Nat) : Int)], vof, .int .u32 ((n : Nat) : Int), sv] A (.tuple #[.agg #[kv, .int .u32 ((N : Nat) : Int)], .int .i64 7]) := by
  haveI := hk.cel
  haveI := hof.cel
  refine FnX.enter (N := 51) Tryd.func16 rfl rfl rfl fun w => ?_
  refine XC.keep (kp 0 rfl (kp 1 rfl (kp 2 rfl (kp 3 rfl (kp 4 rfl kn))))) ?_
  refine XC.reg ?_
  refine XL.lo rfl (l_box rfl (by first | exact Cel.cel | rfl) rfl fun b6 => ?_)
  refine XL.lo rfl (l_alloc (cs := [.slice none 0 0, .int .u32 0]) (by kernel_rfl) rfl fun b10 => ?_)
  refine XL.q (q_assign rfl) rfl ?_
  refine XL.fin (kp 0 rfl (kp 2 rfl (kp 3 rfl (kp 4 rfl (kp 6 rfl (kp 10 rfl kn)))))) ?_
  refine XC.seq ?_
  refine XC.block ?_
  refine XC.reg ?_
  refine XL.q (q_move rfl) rfl ?_
  refine XL.q (q_fieldAddrN 1 (off := 1) rfl (by kernel_rfl) rfl) rfl ?_
  refine XL.q (q_load rfl (by kernel_rfl) (by first | exact At.mem | exact mA (by assumption)) (by rfl)) rfl ?_
  refine XL.q (q_cmp false rfl rfl (ltF (by omega))) rfl ?_
  refine XL.q (q_assign rfl) rfl ?_
  refine XL.fin (kp 0 rfl (kp 2 rfl (kp 3 rfl (kp 4 rfl (kp 6 rfl (kp 10 rfl (kp 14 rfl kn))))))) ?_
  refine XC.condF rfl ?_
  refine XC.reg ?_
  refine XL.q (q_move rfl) rfl ?_
  refine XL.q (q_fieldAddrN 1 (off := 1) rfl (by kernel_rfl) rfl) rfl ?_
  refine XL.q (q_load rfl (by kernel_rfl) (by first | exact At.mem | exact mA (by assumption)) (by rfl)) rfl ?_
  refine XL.q (q_num (((n - N : Nat)) : Int) rfl rfl (by simp only [arith]; rw [wrap_u32 (by omega) (by omega)]; congr 2; omega)) rfl ?_
  refine XL.q (q_cmp true rfl rfl (gtT (by omega))) rfl ?_
  refine XL.q (q_assign rfl) rfl ?_
  refine XL.fin (kp 0 rfl (kp 2 rfl (kp 3 rfl (kp 4 rfl (kp 6 rfl (kp 10 rfl (kp 20 rfl kn))))))) ?_
  refine XC.condT rfl ?_
  refine XC.reg ?_
  refine XL.q (q_loadW (n := 2) rfl (by kernel_rfl) (by first | exact At.mem | exact mA (by assumption)) (by rfl)) rfl ?_
  refine XL.lo rfl (l_storeW rfl rfl Cel.cel (by kernel_rfl) (by rfl) (by intro c hc; simp only [List.mem_cons, List.not_mem_nil, or_false] at hc; rcases hc with rfl | rfl; exact hk.one; rfl) UpC.upd ?_)
  refine XL.q (q_assign rfl) rfl ?_
  refine XL.fin (kp 10 rfl (kp 11 rfl kn)) ?_
  refine XC.ret ?_
  refine br ?_
  refine tr ?_
  exact ⟨_, [], [], resC1 (n := 2) rfl rfl rfl (by kernel_rfl) At.mem (by rfl), List.nil_sublist _, by simp, rfl, rfl, rfl⟩

set_option maxRecDepth 100000 in
theorem ahead_nil (sv kv vof : Value) (key of : List Nat) (N n : Nat) (A : Mem) (hk : By A kv key) (hof : By A vof of) (hNn : N < n) (hn32 : n < 4294967296) (h16 : n - N ≤ 16) : FnV Tryd.prog 16 [.pointer none, .agg #[kv, .int .u32 ((N : Nat) : Int)], vof, .int .u32 ((n : Nat) : Int), sv] A (.tuple #[.agg #[kv, .int .u32 ((N : Nat) : Int)], .int .i64 2]) := by
  haveI := hk.cel
  haveI := hof.cel
  refine FnX.enter (N := 51) Tryd.func16 rfl rfl rfl fun w => ?_
  refine XC.keep (kp 0 rfl (kp 1 rfl (kp 2 rfl (kp 3 rfl (kp 4 rfl kn))))) ?_
  refine XC.reg ?_
  refine XL.lo rfl (l_box rfl (by first | exact Cel.cel | rfl) rfl fun b6 => ?_)
  refine XL.lo rfl (l_alloc (cs := [.slice none 0 0, .int .u32 0]) (by kernel_rfl) rfl fun b10 => ?_)
  refine XL.q (q_assign rfl) rfl ?_
  refine XL.fin (kp 0 rfl (kp 2 rfl (kp 3 rfl (kp 4 rfl (kp 6 rfl (kp 10 rfl kn)))))) ?_
  refine XC.seq ?_
  refine XC.block ?_
  refine XC.reg ?_
  refine XL.q (q_move rfl) rfl ?_
  refine XL.q (q_fieldAddrN 1 (off := 1) rfl (by kernel_rfl) rfl) rfl ?_
  refine XL.q (q_load rfl (by kernel_rfl) (by first | exact At.mem | exact mA (by assumption)) (by rfl)) rfl ?_
  refine XL.q (q_cmp false rfl rfl (ltF (by omega))) rfl ?_
  refine XL.q (q_assign rfl) rfl ?_
  refine XL.fin (kp 0 rfl (kp 2 rfl (kp 3 rfl (kp 4 rfl (kp 6 rfl (kp 10 rfl (kp 14 rfl kn))))))) ?_
  refine XC.condF rfl ?_
  refine XC.reg ?_
  refine XL.q (q_move rfl) rfl ?_
  refine XL.q (q_fieldAddrN 1 (off := 1) rfl (by kernel_rfl) rfl) rfl ?_
  refine XL.q (q_load rfl (by kernel_rfl) (by first | exact At.mem | exact mA (by assumption)) (by rfl)) rfl ?_
  refine XL.q (q_num (((n - N : Nat)) : Int) rfl rfl (by simp only [arith]; rw [wrap_u32 (by omega) (by omega)]; congr 2; omega)) rfl ?_
  refine XL.q (q_cmp false rfl rfl (gtF (by omega))) rfl ?_
  refine XL.q (q_assign rfl) rfl ?_
  refine XL.fin (kp 0 rfl (kp 2 rfl (kp 3 rfl (kp 4 rfl (kp 6 rfl (kp 10 rfl (kp 20 rfl kn))))))) ?_
  refine XC.condF rfl ?_
  refine XC.skip ?_
  refine nb ?_
  refine nx (kp 0 rfl (kp 2 rfl (kp 3 rfl (kp 4 rfl (kp 6 rfl (kp 10 rfl kn)))))) ?_
  refine XC.seq ?_
  refine XC.block ?_
  refine XC.rounds 2 ?_
  refine XR.step ?_
  refine XC.seq ?_
  refine XC.reg ?_
  refine XL.q (q_fieldAddrN 1 (off := 1) rfl (by kernel_rfl) rfl) rfl ?_
  refine XL.q (q_load rfl (by kernel_rfl) (by first | exact At.mem | exact mA (by assumption)) (by rfl)) rfl ?_
  refine XL.q (q_move rfl) rfl ?_
  refine XL.q (q_cmp true rfl rfl (ltT (by omega))) rfl ?_
  refine XL.fin (kp 0 rfl (kp 2 rfl (kp 3 rfl (kp 4 rfl (kp 6 rfl (kp 10 rfl (kp 30 rfl kn))))))) ?_
  refine XC.condT rfl ?_
  refine XC.skip ?_
  refine nx (kp 0 rfl (kp 2 rfl (kp 3 rfl (kp 4 rfl (kp 6 rfl (kp 10 rfl kn)))))) ?_
  refine XC.block ?_
  refine XC.reg ?_
  refine XL.q (q_assign rfl) rfl ?_
  refine XL.fin (kp 0 rfl (kp 2 rfl (kp 3 rfl (kp 4 rfl (kp 6 rfl (kp 10 rfl kn)))))) ?_
  refine XC.reg ?_
  refine XL.q (q_fieldAddrN 1 (off := 1) rfl (by kernel_rfl) rfl) rfl ?_
  refine XL.q (q_load rfl (by kernel_rfl) (by first | exact At.mem | exact mA (by assumption)) (by rfl)) rfl ?_
  refine XL.q (q_assign rfl) rfl ?_
  refine XL.fin (kp 0 rfl (kp 2 rfl (kp 3 rfl (kp 4 rfl (kp 6 rfl (kp 10 rfl (kp 13 rfl kn))))))) ?_
  refine XC.seq ?_
  refine XC.reg ?_
  refine XL.q (q_move rfl) rfl ?_
  refine XL.q (q_loadW (n := 2) rfl (by kernel_rfl) (by first | exact At.mem | exact mA (by assumption)) (by rfl)) rfl ?_
  refine XL.callV (aS rfl (aS rfl a0)) (by kernel_rfl) (stepNil_spec kv key N _ (hk.mono SubC.sub)) rfl ?_
  refine XL.q (q_move rfl) rfl ?_
  refine XL.q (q_x0 rfl) rfl ?_
  refine XL.q (q_x1 rfl) rfl ?_
  refine XL.q (q_assign rfl) rfl ?_
  refine XL.lo rfl (l_storeW rfl rfl Cel.cel (by kernel_rfl) (by rfl) (by intro c hc; simp only [List.mem_cons, List.not_mem_nil, or_false] at hc; rcases hc with rfl | rfl; exact hk.one; rfl) UpC.upd ?_)
  refine XL.fin (kp 0 rfl (kp 2 rfl (kp 3 rfl (kp 4 rfl (kp 6 rfl (kp 10 rfl (kp 12 rfl (kp 13 rfl kn)))))))) ?_
  refine XC.reg ?_
  refine XL.q (q_fieldAddrN 1 (off := 1) rfl (by kernel_rfl) rfl) rfl ?_
  refine XL.q (q_load rfl (by kernel_rfl) (by first | exact At.mem | exact mA (by assumption)) (by rfl)) rfl ?_
  refine XL.q (q_move rfl) rfl ?_
  refine XL.q (q_cmp true rfl rfl (eqT rfl)) rfl ?_
  refine XL.fin (kp 0 rfl (kp 2 rfl (kp 3 rfl (kp 4 rfl (kp 6 rfl (kp 10 rfl (kp 12 rfl (kp 13 rfl (kp 42 rfl kn))))))))) ?_
  refine XC.condT rfl ?_
  refine XC.reg ?_
  refine XL.q (q_loadW (n := 2) rfl (by kernel_rfl) (by first | exact At.mem | exact mA (by assumption)) (by rfl)) rfl ?_
  refine XL.lo rfl (l_storeW rfl rfl Cel.cel (by kernel_rfl) (by rfl) (by intro c hc; simp only [List.mem_cons, List.not_mem_nil, or_false] at hc; rcases hc with rfl | rfl; exact hk.one; rfl) UpC.upd ?_)
  refine XL.q (q_assign rfl) rfl ?_
  refine XL.fin (kp 10 rfl (kp 11 rfl kn)) ?_
  refine XC.ret ?_
  refine tr ?_
  refine br ?_
  refine ur ?_
  refine br ?_
  refine tr ?_
  exact ⟨_, [], [], resC1 (n := 2) rfl rfl rfl (by kernel_rfl) At.mem (by rfl), List.nil_sublist _, by simp, rfl, rfl, rfl⟩
