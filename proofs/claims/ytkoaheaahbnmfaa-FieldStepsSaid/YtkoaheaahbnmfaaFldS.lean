/- The walk of pawllaw03.FieldSteps. -/
import Derived.Test.YtkoaheaahbnmfaaFldW
set_option linter.unusedVariables false
set_option linter.unusedSimpArgs false
namespace Go.Proofs.Ytkoaheaahbnmfaa
open Go.Px
/-- The elements and the numbers so far. -/
structure Stx where
  va : Value
  rows : List (List Value)
  Ba : Mem
  vx : Value
  vals : List Value
  Bx : Mem
  BX : Mem
  ns : List Nat
structure Okx (s : Stx) (m : Nat) : Prop where
  la : s.rows.length = m
  lx : s.vals.length = m
  ln : s.ns.length = m
  sa : Sl 5 s.va m s.rows.flatten s.Ba
  sx : Sl 1 s.vx m s.vals s.Bx
  l5 : ∀ r ∈ s.rows, r.length = 5
  at_ : ∀ j, j < m → ∃ r v ws, s.rows[j]? = some r ∧ Fe (.agg r.toArray) (s.ns.getD j 0) ∧ s.vals[j]? = some v ∧ Rw s.BX v ws ∧ w32 ws ∧ nv ws = s.ns.getD j 0 ∧ nrm ws
theorem Okx.snoc {s : Stx} {m : Nat} (h : Okx s m) {va' vx' v : Value} {B' Bx' M : Mem} {cells : List Value} {n : Nat} {ws : List Nat} (h1 : Sl 5 va' (m + 1) (s.rows.flatten ++ cells) B') (hc : cells.length = 5) (hf : Fe (.agg cells.toArray) n)
    (h2 : Sl 1 vx' (m + 1) (s.vals ++ [v]) Bx') (hr : Rw M v ws) (hw : w32 ws) (hv : nv ws = n) (hn : nrm ws) : Okx ⟨va', s.rows ++ [cells], B', vx', s.vals ++ [v], Bx', M ++ s.BX, s.ns ++ [n]⟩ (m + 1) where
  la := by simp [h.la]
  lx := by simp [h.lx]
  ln := by simp [h.ln]
  sa := by simpa using h1
  sx := h2
  l5 := by
    intro r hr
    rcases List.mem_append.1 hr with h3 | h3
    · exact h.l5 r h3
    · rw [List.mem_singleton.1 h3]; exact hc
  at_ := by
    intro j hj
    by_cases e : j < m
    · obtain ⟨r, u, us, k1, k2, k3, k4, k5, k6, k7⟩ := h.at_ j e
      have hg : (s.ns ++ [n]).getD j 0 = s.ns.getD j 0 := by simp only [List.getD]; rw [List.getElem?_append_left (by rw [h.ln]; exact e)]
      refine ⟨r, u, us, ?_, ?_, ?_, k4.mono fun _ h => List.mem_append_right _ h, k5, ?_, k7⟩
      · dsimp only; rw [List.getElem?_append_left (by rw [h.la]; exact e)]; exact k1
      · dsimp only; rw [hg]; exact k2
      · dsimp only; rw [List.getElem?_append_left (by rw [h.lx]; exact e)]; exact k3
      · dsimp only; rw [hg]; exact k6
    · obtain rfl : j = m := by omega
      have hg : (s.ns ++ [n]).getD j 0 = n := by simp only [List.getD]; rw [List.getElem?_append_right (by rw [h.ln]; omega), h.ln, Nat.sub_self]; rfl
      refine ⟨cells, v, ws, ?_, ?_, ?_, hr.mono fun _ h => List.mem_append_left _ h, hw, ?_, hn⟩
      · dsimp only; rw [List.getElem?_append_right (by rw [h.la]; omega), h.la, Nat.sub_self]; rfl
      · dsimp only; rw [hg]; exact hf
      · dsimp only; rw [List.getElem?_append_right (by rw [h.lx]; omega), h.lx, Nat.sub_self]; rfl
      · dsimp only; rw [hg]; exact hv
theorem two_at {r1 r2 : List Value} {v1 v2 : Value} {w1 w2 : List Nat} {n1 n2 : Nat} {BX : Mem} (h1 : Fe (.agg r1.toArray) n1) (h2 : Fe (.agg r2.toArray) n2) (k1 : Rw BX v1 w1) (k2 : Rw BX v2 w2) (a1 : w32 w1) (a2 : w32 w2) (b1 : nv w1 = n1) (b2 : nv w2 = n2) (c1 : nrm w1) (c2 : nrm w2) :
    ∀ j, j < 2 → ∃ r v ws, [r1, r2][j]? = some r ∧ Fe (.agg r.toArray) ([n1, n2].getD j 0) ∧ [v1, v2][j]? = some v ∧ Rw BX v ws ∧ w32 ws ∧ nv ws = [n1, n2].getD j 0 ∧ nrm ws := by
  intro j hj
  rcases (show j = 0 ∨ j = 1 by omega) with rfl | rfl
  · exact ⟨r1, v1, w1, rfl, h1, rfl, k1, a1, b1, c1⟩
  · exact ⟨r2, v2, w2, rfl, h2, rfl, k2, a2, b2, c2⟩

theorem fieldSteps_spec (p : List Nat) (pl : p.length = 32) (p256 : ∀ x ∈ p, x < 256) (q : List Nat) (ql : q.length = 32) (q256 : ∀ x ∈ q, x < 256) (ov : Value) (ops : List Nat) (A : Mem) (hops : Rb A ov ops) (ops256 : ∀ x ∈ ops, x < 256) (hol : ops.length ≤ maxLen) : FnV Try.prog 7 [.agg (nums .u8 p).toArray, .agg (nums .u8 q).toArray, ov] A (.bool true) := by
  refine FnX.enter (N := 167) Try.func7 rfl rfl rfl fun w => ?_
  refine XC.keep (kp 0 rfl (kp 1 rfl (kp 2 rfl kn))) ?_
  refine XC.reg ?_
  refine XL.lo rfl (l_box rfl rfl rfl fun b3 => ?_)
  refine XL.lo rfl (l_box rfl rfl rfl fun b4 => ?_)
  refine XL.q (q_assign rfl) rfl ?_
  refine XL.fin (kp 2 rfl (kp 3 rfl (kp 4 rfl kn))) ?_
  refine XC.seq ?_
  refine XC.reg ?_
  refine XL.callV a0 (by kernel_rfl) (awake_spec _) rfl ?_
  refine XL.q (q_not rfl) rfl ?_
  refine XL.q (q_move rfl) rfl ?_
  refine XL.gy rfl rfl (OpQ.opL (q_move rfl) rfl ?_)
  refine XL.gy rfl rfl (OpQ.opL (q_lenV2 (sz := 1) rfl (by kernel_rfl) (by first | assumption | exact Sl.rd (by assumption) (fun _ h => h))) rfl ?_)
  refine XL.gy rfl rfl (OpQ.opL (q_bin rfl rfl rfl) rfl ?_)
  refine XL.q (q_pickF rfl rfl) rfl ?_
  refine XL.fin (kp 2 rfl (kp 3 rfl (kp 4 rfl (kp 18 rfl kn)))) ?_
  refine XC.cond rfl (fun hc => ?_) (fun hc => ?_)
  ·
    refine XC.reg ?_
    refine XL.callV a0 (by kernel_rfl) (awake_spec _) rfl ?_
    refine XL.q (q_assign rfl) rfl ?_
    refine XL.fin (kp 6 rfl kn) ?_
    refine XC.ret ?_
    refine tr ?_
    exact ⟨_, [], [], res1 rfl rfl, List.nil_sublist _, by simp, rfl, rfl, rfl⟩
  ·
    have hle : ops.length ≤ 40 := by simp at hc; omega
    refine XC.skip ?_
    refine nx (kp 2 rfl (kp 3 rfl (kp 4 rfl kn))) ?_
    refine XC.drawF [0, 1, 2, 3, 4, 5] [(0, 0), (2, 0), (1, 2), (3, 2), (4, 2), (5, 0)] (by kernel_rfl) (by kernel_rfl) fun hs => ?_
    refine XF.q hs rfl (q_slArr (sz := 1) (e := 5) (n := 32) rfl (by kernel_rfl) (by kernel_rfl)) rfl ?_
    refine XF.q hs rfl (q_slArr (sz := 1) (e := 5) (n := 32) rfl (by kernel_rfl) (by kernel_rfl)) rfl ?_
    refine XF.call rfl (aS rfl a0) (by kernel_rfl) (fread_spec _ p _ (rd_eq (Rd.whole (n := 32) At.mem (by simp [pl])) pl.symm rfl) p256 (by omega)) rfl ?_
    rintro r21 M21 J21 ⟨rfl, rfl, hr21⟩
    have hr210 := hr21
    obtain ⟨a21, b21, c21, d21, e21, rfl, -⟩ := hr21
    refine XF.call rfl (aS rfl a0) (by kernel_rfl) (fread_spec _ q _ (rd_eq (Rd.whole (n := 32) At.mem (by simp [ql])) ql.symm rfl) q256 (by omega)) rfl ?_
    rintro r23 M23 J23 ⟨rfl, rfl, hr23⟩
    have hr230 := hr23
    obtain ⟨a23, b23, c23, d23, e23, rfl, -⟩ := hr23
    refine XF.lo rfl rfl fun _ => (l_buildSlice (e := 25) (sz := 5) (z := [.int .u64 0, .int .u64 0, .int .u64 0, .int .u64 0, .int .u64 0, .int .u64 0, .int .u64 0, .int .u64 0, .int .u64 0, .int .u64 0]) (by kernel_rfl) (eS rfl (eS rfl e0)) (bdS 0 5 rfl (by rfl) (bdS 5 5 rfl (by rfl) bd0)) rfl fun b24 => ?_)
    refine XF.q hs rfl (q_assign rfl) rfl ?_
    refine XF.fin (kp 2 rfl (kp 3 rfl (kp 4 rfl (kp 7 rfl kn)))) ?_
    refine XC.drawF [0, 1, 2, 3, 4, 5] [(0, 0), (2, 0), (1, 2), (3, 2), (4, 2), (5, 0)] (by kernel_rfl) (by kernel_rfl) fun hs => ?_
    refine XF.q hs rfl (q_slArr (sz := 1) (e := 5) (n := 32) rfl (by kernel_rfl) (by kernel_rfl)) rfl ?_
    refine XF.q hs rfl (q_slArr (sz := 1) (e := 5) (n := 32) rfl (by kernel_rfl) (by kernel_rfl)) rfl ?_
    refine XF.call rfl (aS rfl a0) (by kernel_rfl) (rof_spec _ p _ (rd_eq (Rd.whole (n := 32) At.mem (by simp [pl])) pl.symm rfl) p256 (by omega)) rfl ?_
    rintro r26 M26 J26 ⟨rfl, ws26, hs26, hw26, hv26, hn26⟩
    haveI := hs26.cel
    refine XF.call rfl (aS rfl a0) (by kernel_rfl) (rof_spec _ q _ (rd_eq (Rd.whole (n := 32) At.mem (by simp [ql])) ql.symm rfl) q256 (by omega)) rfl ?_
    rintro r28 M28 J28 ⟨rfl, ws28, hs28, hw28, hv28, hn28⟩
    haveI := hs28.cel
    refine XF.lo rfl rfl fun _ => (l_buildSlice (e := 29) (sz := 1) (z := [.slice none 0 0, .slice none 0 0]) (by kernel_rfl) (eS rfl (eS rfl e0)) (bdS 0 1 rfl (by rfl) (bdS 1 1 rfl (by rfl) bd0)) rfl fun b29 => ?_)
    refine XF.q hs rfl (q_assign rfl) rfl ?_
    refine XF.fin (kp 2 rfl (kp 7 rfl (kp 8 rfl kn))) ?_
    refine XC.seq ?_
    refine XC.reg ?_
    refine XL.q (q_assign rfl) rfl ?_
    refine XL.fin (kp 2 rfl (kp 7 rfl (kp 8 rfl (kp 9 rfl kn)))) ?_
    refine XC.block ?_
    refine XC.loop (α := Nat × Stx) (fun x => [(2, ov), (7, x.2.va), (8, x.2.vx), (9, .int .i64 (x.1 : Int))]) (fun x => x.2.Ba ++ (x.2.Bx ++ x.2.BX)) (fun _ => []) (fun x => x.1 ≤ ops.length ∧ Okx x.2 (x.1 + 2)) (fun x => ops.length - x.1)
      (0, ⟨.slice (some ⟨b24, 0, none⟩) 2 2, [[.int .u64 (a21 : Int), .int .u64 (b21 : Int), .int .u64 (c21 : Int), .int .u64 (d21 : Int), .int .u64 (e21 : Int)], [.int .u64 (a23 : Int), .int .u64 (b23 : Int), .int .u64 (c23 : Int), .int .u64 (d23 : Int), .int .u64 (e23 : Int)]], [(b24, blk [.int .u64 (a21 : Int), .int .u64 (b21 : Int), .int .u64 (c21 : Int), .int .u64 (d21 : Int), .int .u64 (e21 : Int), .int .u64 (a23 : Int), .int .u64 (b23 : Int), .int .u64 (c23 : Int), .int .u64 (d23 : Int), .int .u64 (e23 : Int)] 25)], .slice (some ⟨b29, 0, none⟩) 2 2, [r26, r28], [(b29, blk [r26, r28] 29)], M28 ++ M26, [rdN p, rdN q]⟩)
      ⟨Nat.zero_le _, rfl, rfl, rfl, Sl.fresh (by rfl) (by decide), Sl.fresh (by rfl) (by decide), (by intro r hr; simp only [List.mem_cons, List.not_mem_nil, or_false] at hr; rcases hr with rfl | rfl <;> rfl), two_at hr210 hr230 (Rd.mono hs26 SubC.sub) (Rd.mono hs28 SubC.sub) hw26 hw28 hv26 hv28 hn26 hn28⟩
      (kp 2 rfl (kp 7 rfl (kp 8 rfl (kp 9 rfl kn)))) (Fit.pick (B := [(b24, _)]) PickC.perm (Fit.pick (B := [(b29, _)]) PickC.perm (Fit.pick PickC.perm (Fit.last PickC.perm)))) (fun _ h => h) ?_
    rintro ⟨i, s⟩ ⟨hi, hok⟩
    dsimp only at hi hok ⊢
    have hsa := hok.sa
    have hsx := hok.sx
    refine XC.seq ?_
    refine XC.reg ?_
    refine XL.q (q_move rfl) rfl ?_
    refine XL.q (q_move rfl) rfl ?_
    refine XL.q (q_lenV2 (sz := 1) rfl (by kernel_rfl) (by first | assumption | exact Sl.rd (by assumption) (fun _ h => h))) rfl ?_
    refine XL.q (q_bin rfl rfl rfl) rfl ?_
    refine XL.fin (kp 2 rfl (kp 7 rfl (kp 8 rfl (kp 9 rfl (kp 33 rfl kn))))) ?_
    refine XC.cond rfl (fun hc => ?_) (fun hc => ?_)
    ·
      have hlt : i < ops.length := by simp at hc; omega
      have hg := getD_lt (i := i) ops256 (by decide)
      refine XC.skip ?_
      refine nx (kp 2 rfl (kp 7 rfl (kp 8 rfl (kp 9 rfl kn)))) ?_
      refine XC.seq ?_
      refine XC.block ?_
      refine XC.reg ?_
      refine XL.q (q_move rfl) rfl ?_
      refine XL.q (q_move rfl) rfl ?_
      refine XL.q (q_atV2 (sz := 1) rfl rfl (by kernel_rfl) rfl (by first | assumption | exact Sl.rd (by assumption) (fun _ h => h)) (by omega)) rfl ?_
      refine XL.q (q_ldVN2 (k := .u8) rfl (by kernel_rfl) (by first | exact Rd.mono (by assumption) SubC.sub | exact Sl.rd (by assumption) SubC.sub) (by omega)) rfl ?_
      refine XL.q (q_quoU (b := 4) (m := 256) rfl rfl rfl rfl rfl rfl (by omega) (by omega)) rfl ?_
      refine XL.q (q_same (k' := .i64) rfl (by kernel_rfl) (by show _ < 9223372036854775808; omega)) rfl ?_
      refine XL.q (q_move rfl) rfl ?_
      refine XL.q (q_lenV2 (sz := 5) rfl (by kernel_rfl) (by first | assumption | exact Sl.rd (by assumption) (fun _ h => h))) rfl ?_
      refine XL.q (q_remI rfl rfl rfl rfl (by omega)) rfl ?_
      have hj : ops.getD i 0 / 4 % (i + 2) < i + 2 := Nat.mod_lt _ (by omega)
      generalize ops.getD i 0 / 4 % (i + 2) = j at *
      refine XL.q (q_assign rfl) rfl ?_
      refine XL.fin (kp 2 rfl (kp 7 rfl (kp 8 rfl (kp 9 rfl (kp 10 rfl kn))))) ?_
      refine XC.reg ?_
      refine XL.q (q_move rfl) rfl ?_
      refine XL.q (q_move rfl) rfl ?_
      refine XL.q (q_atV2 (sz := 1) rfl rfl (by kernel_rfl) rfl (by first | assumption | exact Sl.rd (by assumption) (fun _ h => h)) (by omega)) rfl ?_
      refine XL.q (q_ldVN2 (k := .u8) rfl (by kernel_rfl) (by first | exact Rd.mono (by assumption) SubC.sub | exact Sl.rd (by assumption) SubC.sub) (by omega)) rfl ?_
      refine XL.q (q_quoU (b := 32) (m := 256) rfl rfl rfl rfl rfl rfl (by omega) (by omega)) rfl ?_
      refine XL.q (q_same (k' := .i64) rfl (by kernel_rfl) (by show _ < 9223372036854775808; omega)) rfl ?_
      refine XL.q (q_move rfl) rfl ?_
      refine XL.q (q_lenV2 (sz := 5) rfl (by kernel_rfl) (by first | assumption | exact Sl.rd (by assumption) (fun _ h => h))) rfl ?_
      refine XL.q (q_remI rfl rfl rfl rfl (by omega)) rfl ?_
      have hk : ops.getD i 0 / 32 % (i + 2) < i + 2 := Nat.mod_lt _ (by omega)
      generalize ops.getD i 0 / 32 % (i + 2) = k at *
      obtain ⟨rj, vj, wj, hrj, hfj, hvj, hwj, hw32j, hnvj, hnj⟩ := hok.at_ j hj
      obtain ⟨rk, vk, wk, hrk, hfk, hvk, hwk, hw32k, hnvk, hnk⟩ := hok.at_ k hk
      refine XL.q (q_assign rfl) rfl ?_
      refine XL.fin (kp 2 rfl (kp 7 rfl (kp 8 rfl (kp 9 rfl (kp 10 rfl (kp 11 rfl kn)))))) ?_
      refine XC.join (α := Stx) (fun s => [(2, ov), (7, s.va), (8, s.vx), (9, .int .i64 (i : Int))]) (fun s => s.Ba ++ (s.Bx ++ s.BX)) (fun _ => []) (fun s => Okx s (i + 2 + 1)) ?_ ?_
      ·
        refine XC.reg ?_
        refine XL.q (q_move rfl) rfl ?_
        refine XL.q (q_move rfl) rfl ?_
        refine XL.q (q_atV2 (sz := 1) rfl rfl (by kernel_rfl) rfl (by first | assumption | exact Sl.rd (by assumption) (fun _ h => h)) (by omega)) rfl ?_
        refine XL.q (q_ldVN2 (k := .u8) rfl (by kernel_rfl) (by first | exact Rd.mono (by assumption) SubC.sub | exact Sl.rd (by assumption) SubC.sub) (by omega)) rfl ?_
        refine XL.q (q_remI (b := 4) rfl rfl rfl rfl (by omega)) rfl ?_
        refine XL.fin (kp 2 rfl (kp 7 rfl (kp 8 rfl (kp 9 rfl (kp 10 rfl (kp 11 rfl (kp 58 rfl kn))))))) ?_
        refine XC.block ?_
        refine XC.reg ?_
        refine XL.q (q_bin rfl rfl rfl) rfl ?_
        refine XL.q (q_assign rfl) rfl ?_
        refine XL.fin (kp 2 rfl (kp 7 rfl (kp 8 rfl (kp 9 rfl (kp 10 rfl (kp 11 rfl (kp 58 rfl (kp 75 rfl kn)))))))) ?_
        refine XC.cond rfl (fun hc => ?_) (fun hc => ?_)
        ·
          refine XC.drawF [0, 1, 2, 3, 4, 5, 6, 7, 8, 9, 10, 12] [(0, 0), (1, 0), (2, 0), (3, 0), (4, 1), (5, 0), (6, 0), (7, 0), (8, 1), (9, 2), (10, 2), (11, 2), (12, 0)] (by kernel_rfl) (by kernel_rfl) fun hs => ?_
          refine XF.q hs rfl (q_move rfl) rfl ?_
          refine XF.q hs rfl (q_move rfl) rfl ?_
          refine XF.q hs rfl (q_move rfl) rfl ?_
          refine XF.q hs rfl (q_atV2 (sz := 5) rfl rfl (by kernel_rfl) rfl (by first | assumption | exact Sl.rd (by assumption) (fun _ h => h)) (by omega)) rfl ?_
          refine XF.r hs rfl (q_ldVR rfl (by kernel_rfl) (hsa.rd SubC.sub) hok.l5 (by decide) hrj) rfl ?_
          refine XF.q hs rfl (q_move rfl) rfl ?_
          refine XF.q hs rfl (q_move rfl) rfl ?_
          refine XF.q hs rfl (q_atV2 (sz := 5) rfl rfl (by kernel_rfl) rfl (by first | assumption | exact Sl.rd (by assumption) (fun _ h => h)) (by omega)) rfl ?_
          refine XF.r hs rfl (q_ldVR rfl (by kernel_rfl) (hsa.rd SubC.sub) hok.l5 (by decide) hrk) rfl ?_
          refine XF.call rfl (aS rfl (aS rfl a0)) (by kernel_rfl) (fadd_spec _ _ _ _ hfj hfk _) rfl ?_
          rintro r86 M86 J86 ⟨rfl, rfl, hr86⟩
          have hr860 := hr86
          obtain ⟨a86, b86, c86, d86, e86, rfl, -⟩ := hr86
          refine XF.lo rfl rfl fun _ => (l_buildSlice (e := 25) (sz := 5) (z := [.int .u64 0, .int .u64 0, .int .u64 0, .int .u64 0, .int .u64 0]) (by kernel_rfl) (eS rfl e0) (bdS 0 5 rfl (by rfl) bd0) rfl fun b87 => ?_)
          refine XF.tl rfl rfl rfl (l_append2 (e := 25) (sz := 5) (by_ := 40) rfl rfl (by kernel_rfl) rfl (by first | assumption | exact Sl.nil) (Rd.whole (n := 1) At.mem (by rfl)) (by first | (simp [Value.oneCell']; done) | (intro c hc; simp only [List.mem_singleton] at hc; subst hc; first | exact Rd.one (by assumption) | exact Sl.one (by assumption))) PickC.perm (by unfold maxLen; omega) (by omega) rfl fun v88 B88 hs88 => ?_)
          refine XF.q hs rfl (q_assign rfl) rfl ?_
          refine XF.fin (kp 2 rfl (kp 7 rfl (kp 8 rfl (kp 9 rfl (kp 10 rfl (kp 11 rfl kn)))))) ?_
          refine XC.drawF1 [0, 1, 2, 3, 4, 5, 6, 7, 8, 9, 10, 12] [(0, 0), (1, 0), (2, 0), (3, 0), (4, 1), (5, 0), (6, 0), (7, 0), (8, 1), (9, 2), (10, 2), (11, 2), (12, 0)] (by kernel_rfl) (by kernel_rfl) fun hs => ?_
          refine XF.q hs rfl (q_move rfl) rfl ?_
          refine XF.q hs rfl (q_move rfl) rfl ?_
          refine XF.q hs rfl (q_move rfl) rfl ?_
          refine XF.q hs rfl (q_atV2 (sz := 1) rfl rfl (by kernel_rfl) rfl (by first | assumption | exact Sl.rd (by assumption) (fun _ h => h)) (by omega)) rfl ?_
          refine XF.r hs rfl (q_ldV (hsx.rd SubC.sub) rfl (by kernel_rfl) hvj) rfl ?_
          refine XF.q hs rfl (q_move rfl) rfl ?_
          refine XF.q hs rfl (q_move rfl) rfl ?_
          refine XF.q hs rfl (q_atV2 (sz := 1) rfl rfl (by kernel_rfl) rfl (by first | assumption | exact Sl.rd (by assumption) (fun _ h => h)) (by omega)) rfl ?_
          refine XF.r hs rfl (q_ldV (hsx.rd SubC.sub) rfl (by kernel_rfl) hvk) rfl ?_
          refine XF.call rfl (aS rfl (aS rfl a0)) (by kernel_rfl) (radd_spec _ _ wj wk _ (Rd.mono hwj SubC.sub) (Rd.mono hwk SubC.sub) hw32j hw32k (by have := nrm_len8 hnj (by rw [hnvj]; exact Nat.lt_trans hfj.lt (by decide)); omega) (by have := nrm_len8 hnk (by rw [hnvk]; exact Nat.lt_trans hfk.lt (by decide)); omega)) rfl ?_
          rintro r98 M98 J98 ⟨rfl, ws98, hs98, hw98, hv98, hn98⟩
          haveI := hs98.cel
          refine XF.lo rfl rfl fun _ => (l_buildSlice (e := 29) (sz := 1) (z := [.slice none 0 0]) (by kernel_rfl) (eS rfl e0) (bdS 0 1 rfl (by rfl) bd0) rfl fun b99 => ?_)
          refine XF.tl rfl rfl rfl (l_append2 (e := 29) (sz := 1) (by_ := 24) rfl rfl (by kernel_rfl) rfl (by first | assumption | exact Sl.nil) (Rd.whole (n := 1) At.mem (by rfl)) (by first | (simp [Value.oneCell']; done) | (intro c hc; simp only [List.mem_singleton] at hc; subst hc; first | exact Rd.one (by assumption) | exact Sl.one (by assumption))) PickC.perm (by unfold maxLen; omega) (by omega) rfl fun v100 B100 hs100 => ?_)
          refine XF.q hs rfl (q_assign rfl) rfl ?_
          refine XF.nil ?_
          refine nb ?_
          exact jn ⟨v88, s.rows ++ [[.int .u64 (a86 : Int), .int .u64 (b86 : Int), .int .u64 (c86 : Int), .int .u64 (d86 : Int), .int .u64 (e86 : Int)]], B88, v100, s.vals ++ [r98], B100, M98 ++ s.BX, s.ns ++ [(s.ns.getD j 0 + s.ns.getD k 0) % p25]⟩ (hok.snoc hs88 rfl hr860 hs100 hs98 hw98 (by rw [hv98, hnvj, hnvk]) hn98) (kp 2 rfl (kp 7 rfl (kp 8 rfl (kp 9 rfl kn)))) (Fit.pick PickC.perm (Fit.pick PickC.perm (Fit.pick PickC.perm (Fit.last PickC.perm)))) (fun _ h => h)
        ·
          refine XC.reg ?_
          refine XL.q (q_bin rfl rfl rfl) rfl ?_
          refine XL.q (q_assign rfl) rfl ?_
          refine XL.fin (kp 2 rfl (kp 7 rfl (kp 8 rfl (kp 9 rfl (kp 10 rfl (kp 11 rfl (kp 58 rfl (kp 101 rfl kn)))))))) ?_
          refine XC.cond rfl (fun hc => ?_) (fun hc => ?_)
          ·
            refine XC.drawF [0, 1, 2, 3, 4, 5, 6, 7, 8, 9, 10, 12] [(0, 0), (1, 0), (2, 0), (3, 0), (4, 1), (5, 0), (6, 0), (7, 0), (8, 1), (9, 2), (10, 2), (11, 2), (12, 0)] (by kernel_rfl) (by kernel_rfl) fun hs => ?_
            refine XF.q hs rfl (q_move rfl) rfl ?_
            refine XF.q hs rfl (q_move rfl) rfl ?_
            refine XF.q hs rfl (q_move rfl) rfl ?_
            refine XF.q hs rfl (q_atV2 (sz := 5) rfl rfl (by kernel_rfl) rfl (by first | assumption | exact Sl.rd (by assumption) (fun _ h => h)) (by omega)) rfl ?_
            refine XF.r hs rfl (q_ldVR rfl (by kernel_rfl) (hsa.rd SubC.sub) hok.l5 (by decide) hrj) rfl ?_
            refine XF.q hs rfl (q_move rfl) rfl ?_
            refine XF.q hs rfl (q_move rfl) rfl ?_
            refine XF.q hs rfl (q_atV2 (sz := 5) rfl rfl (by kernel_rfl) rfl (by first | assumption | exact Sl.rd (by assumption) (fun _ h => h)) (by omega)) rfl ?_
            refine XF.r hs rfl (q_ldVR rfl (by kernel_rfl) (hsa.rd SubC.sub) hok.l5 (by decide) hrk) rfl ?_
            refine XF.call rfl (aS rfl (aS rfl a0)) (by kernel_rfl) (fsub_spec _ _ _ _ hfj hfk _) rfl ?_
            rintro r112 M112 J112 ⟨rfl, rfl, hr112⟩
            have hr1120 := hr112
            obtain ⟨a112, b112, c112, d112, e112, rfl, -⟩ := hr112
            refine XF.lo rfl rfl fun _ => (l_buildSlice (e := 25) (sz := 5) (z := [.int .u64 0, .int .u64 0, .int .u64 0, .int .u64 0, .int .u64 0]) (by kernel_rfl) (eS rfl e0) (bdS 0 5 rfl (by rfl) bd0) rfl fun b113 => ?_)
            refine XF.tl rfl rfl rfl (l_append2 (e := 25) (sz := 5) (by_ := 40) rfl rfl (by kernel_rfl) rfl (by first | assumption | exact Sl.nil) (Rd.whole (n := 1) At.mem (by rfl)) (by first | (simp [Value.oneCell']; done) | (intro c hc; simp only [List.mem_singleton] at hc; subst hc; first | exact Rd.one (by assumption) | exact Sl.one (by assumption))) PickC.perm (by unfold maxLen; omega) (by omega) rfl fun v114 B114 hs114 => ?_)
            refine XF.q hs rfl (q_assign rfl) rfl ?_
            refine XF.fin (kp 2 rfl (kp 7 rfl (kp 8 rfl (kp 9 rfl (kp 10 rfl (kp 11 rfl kn)))))) ?_
            refine XC.drawF1 [0, 1, 2, 3, 4, 5, 6, 7, 8, 9, 10, 12] [(0, 0), (1, 0), (2, 0), (3, 0), (4, 1), (5, 0), (6, 0), (7, 0), (8, 1), (9, 2), (10, 2), (11, 2), (12, 0)] (by kernel_rfl) (by kernel_rfl) fun hs => ?_
            refine XF.q hs rfl (q_move rfl) rfl ?_
            refine XF.q hs rfl (q_move rfl) rfl ?_
            refine XF.q hs rfl (q_move rfl) rfl ?_
            refine XF.q hs rfl (q_atV2 (sz := 1) rfl rfl (by kernel_rfl) rfl (by first | assumption | exact Sl.rd (by assumption) (fun _ h => h)) (by omega)) rfl ?_
            refine XF.r hs rfl (q_ldV (hsx.rd SubC.sub) rfl (by kernel_rfl) hvj) rfl ?_
            refine XF.q hs rfl (q_move rfl) rfl ?_
            refine XF.q hs rfl (q_move rfl) rfl ?_
            refine XF.q hs rfl (q_atV2 (sz := 1) rfl rfl (by kernel_rfl) rfl (by first | assumption | exact Sl.rd (by assumption) (fun _ h => h)) (by omega)) rfl ?_
            refine XF.r hs rfl (q_ldV (hsx.rd SubC.sub) rfl (by kernel_rfl) hvk) rfl ?_
            refine XF.call rfl (aS rfl (aS rfl a0)) (by kernel_rfl) (rsub_spec _ _ wj wk _ (Rd.mono hwj SubC.sub) (Rd.mono hwk SubC.sub) hw32j hw32k (by have := nrm_len8 hnj (by rw [hnvj]; exact Nat.lt_trans hfj.lt (by decide)); omega) (by have := nrm_len8 hnk (by rw [hnvk]; exact Nat.lt_trans hfk.lt (by decide)); omega) (by rw [hnvk]; have := hfk.lt; omega)) rfl ?_
            rintro r124 M124 J124 ⟨rfl, ws124, hs124, hw124, hv124, hn124⟩
            haveI := hs124.cel
            refine XF.lo rfl rfl fun _ => (l_buildSlice (e := 29) (sz := 1) (z := [.slice none 0 0]) (by kernel_rfl) (eS rfl e0) (bdS 0 1 rfl (by rfl) bd0) rfl fun b125 => ?_)
            refine XF.tl rfl rfl rfl (l_append2 (e := 29) (sz := 1) (by_ := 24) rfl rfl (by kernel_rfl) rfl (by first | assumption | exact Sl.nil) (Rd.whole (n := 1) At.mem (by rfl)) (by first | (simp [Value.oneCell']; done) | (intro c hc; simp only [List.mem_singleton] at hc; subst hc; first | exact Rd.one (by assumption) | exact Sl.one (by assumption))) PickC.perm (by unfold maxLen; omega) (by omega) rfl fun v126 B126 hs126 => ?_)
            refine XF.q hs rfl (q_assign rfl) rfl ?_
            refine XF.nil ?_
            refine nb ?_
            exact jn ⟨v114, s.rows ++ [[.int .u64 (a112 : Int), .int .u64 (b112 : Int), .int .u64 (c112 : Int), .int .u64 (d112 : Int), .int .u64 (e112 : Int)]], B114, v126, s.vals ++ [r124], B126, M124 ++ s.BX, s.ns ++ [(s.ns.getD j 0 + p25 - s.ns.getD k 0) % p25]⟩ (hok.snoc hs114 rfl hr1120 hs126 hs124 hw124 (by rw [hv124, hnvj, hnvk]) hn124) (kp 2 rfl (kp 7 rfl (kp 8 rfl (kp 9 rfl kn)))) (Fit.pick PickC.perm (Fit.pick PickC.perm (Fit.pick PickC.perm (Fit.last PickC.perm)))) (fun _ h => h)
          ·
            refine XC.reg ?_
            refine XL.q (q_bin rfl rfl rfl) rfl ?_
            refine XL.q (q_assign rfl) rfl ?_
            refine XL.fin (kp 2 rfl (kp 7 rfl (kp 8 rfl (kp 9 rfl (kp 10 rfl (kp 11 rfl (kp 127 rfl kn))))))) ?_
            refine XC.cond rfl (fun hc => ?_) (fun hc => ?_)
            ·
              refine XC.drawF [0, 1, 2, 3, 4, 5, 6, 7, 8, 9, 10, 12] [(0, 0), (1, 0), (2, 0), (3, 0), (4, 1), (5, 0), (6, 0), (7, 0), (8, 1), (9, 2), (10, 2), (11, 2), (12, 0)] (by kernel_rfl) (by kernel_rfl) fun hs => ?_
              refine XF.q hs rfl (q_move rfl) rfl ?_
              refine XF.q hs rfl (q_move rfl) rfl ?_
              refine XF.q hs rfl (q_move rfl) rfl ?_
              refine XF.q hs rfl (q_atV2 (sz := 5) rfl rfl (by kernel_rfl) rfl (by first | assumption | exact Sl.rd (by assumption) (fun _ h => h)) (by omega)) rfl ?_
              refine XF.r hs rfl (q_ldVR rfl (by kernel_rfl) (hsa.rd SubC.sub) hok.l5 (by decide) hrj) rfl ?_
              refine XF.q hs rfl (q_move rfl) rfl ?_
              refine XF.q hs rfl (q_move rfl) rfl ?_
              refine XF.q hs rfl (q_atV2 (sz := 5) rfl rfl (by kernel_rfl) rfl (by first | assumption | exact Sl.rd (by assumption) (fun _ h => h)) (by omega)) rfl ?_
              refine XF.r hs rfl (q_ldVR rfl (by kernel_rfl) (hsa.rd SubC.sub) hok.l5 (by decide) hrk) rfl ?_
              refine XF.call rfl (aS rfl (aS rfl a0)) (by kernel_rfl) (fmul_spec _ _ _ _ hfj hfk _) rfl ?_
              rintro r138 M138 J138 ⟨rfl, rfl, hr138⟩
              have hr1380 := hr138
              obtain ⟨a138, b138, c138, d138, e138, rfl, -⟩ := hr138
              refine XF.lo rfl rfl fun _ => (l_buildSlice (e := 25) (sz := 5) (z := [.int .u64 0, .int .u64 0, .int .u64 0, .int .u64 0, .int .u64 0]) (by kernel_rfl) (eS rfl e0) (bdS 0 5 rfl (by rfl) bd0) rfl fun b139 => ?_)
              refine XF.tl rfl rfl rfl (l_append2 (e := 25) (sz := 5) (by_ := 40) rfl rfl (by kernel_rfl) rfl (by first | assumption | exact Sl.nil) (Rd.whole (n := 1) At.mem (by rfl)) (by first | (simp [Value.oneCell']; done) | (intro c hc; simp only [List.mem_singleton] at hc; subst hc; first | exact Rd.one (by assumption) | exact Sl.one (by assumption))) PickC.perm (by unfold maxLen; omega) (by omega) rfl fun v140 B140 hs140 => ?_)
              refine XF.q hs rfl (q_assign rfl) rfl ?_
              refine XF.fin (kp 2 rfl (kp 7 rfl (kp 8 rfl (kp 9 rfl (kp 10 rfl (kp 11 rfl kn)))))) ?_
              refine XC.drawF1 [0, 1, 2, 3, 4, 5, 6, 7, 8, 9, 10, 12] [(0, 0), (1, 0), (2, 0), (3, 0), (4, 1), (5, 0), (6, 0), (7, 0), (8, 1), (9, 2), (10, 2), (11, 2), (12, 0)] (by kernel_rfl) (by kernel_rfl) fun hs => ?_
              refine XF.q hs rfl (q_move rfl) rfl ?_
              refine XF.q hs rfl (q_move rfl) rfl ?_
              refine XF.q hs rfl (q_move rfl) rfl ?_
              refine XF.q hs rfl (q_atV2 (sz := 1) rfl rfl (by kernel_rfl) rfl (by first | assumption | exact Sl.rd (by assumption) (fun _ h => h)) (by omega)) rfl ?_
              refine XF.r hs rfl (q_ldV (hsx.rd SubC.sub) rfl (by kernel_rfl) hvj) rfl ?_
              refine XF.q hs rfl (q_move rfl) rfl ?_
              refine XF.q hs rfl (q_move rfl) rfl ?_
              refine XF.q hs rfl (q_atV2 (sz := 1) rfl rfl (by kernel_rfl) rfl (by first | assumption | exact Sl.rd (by assumption) (fun _ h => h)) (by omega)) rfl ?_
              refine XF.r hs rfl (q_ldV (hsx.rd SubC.sub) rfl (by kernel_rfl) hvk) rfl ?_
              refine XF.call rfl (aS rfl (aS rfl a0)) (by kernel_rfl) (rmul_spec _ _ wj wk _ (Rd.mono hwj SubC.sub) (Rd.mono hwk SubC.sub) hw32j hw32k (by have := nrm_len8 hnj (by rw [hnvj]; exact Nat.lt_trans hfj.lt (by decide)); omega) (by have := nrm_len8 hnk (by rw [hnvk]; exact Nat.lt_trans hfk.lt (by decide)); omega)) rfl ?_
              rintro r150 M150 J150 ⟨rfl, ws150, hs150, hw150, hv150, hn150⟩
              haveI := hs150.cel
              refine XF.lo rfl rfl fun _ => (l_buildSlice (e := 29) (sz := 1) (z := [.slice none 0 0]) (by kernel_rfl) (eS rfl e0) (bdS 0 1 rfl (by rfl) bd0) rfl fun b151 => ?_)
              refine XF.tl rfl rfl rfl (l_append2 (e := 29) (sz := 1) (by_ := 24) rfl rfl (by kernel_rfl) rfl (by first | assumption | exact Sl.nil) (Rd.whole (n := 1) At.mem (by rfl)) (by first | (simp [Value.oneCell']; done) | (intro c hc; simp only [List.mem_singleton] at hc; subst hc; first | exact Rd.one (by assumption) | exact Sl.one (by assumption))) PickC.perm (by unfold maxLen; omega) (by omega) rfl fun v152 B152 hs152 => ?_)
              refine XF.q hs rfl (q_assign rfl) rfl ?_
              refine XF.nil ?_
              refine nb ?_
              exact jn ⟨v140, s.rows ++ [[.int .u64 (a138 : Int), .int .u64 (b138 : Int), .int .u64 (c138 : Int), .int .u64 (d138 : Int), .int .u64 (e138 : Int)]], B140, v152, s.vals ++ [r150], B152, M150 ++ s.BX, s.ns ++ [s.ns.getD j 0 * s.ns.getD k 0 % p25]⟩ (hok.snoc hs140 rfl hr1380 hs152 hs150 hw150 (by rw [hv150, hnvj, hnvk]) hn150) (kp 2 rfl (kp 7 rfl (kp 8 rfl (kp 9 rfl kn)))) (Fit.pick PickC.perm (Fit.pick PickC.perm (Fit.pick PickC.perm (Fit.last PickC.perm)))) (fun _ h => h)
            ·
              refine XC.reg ?_
              refine XL.q (q_move rfl) rfl ?_
              refine XL.q (q_move rfl) rfl ?_
              refine XL.q (q_move rfl) rfl ?_
              refine XL.q (q_atV2 (sz := 5) rfl rfl (by kernel_rfl) rfl (by first | assumption | exact Sl.rd (by assumption) (fun _ h => h)) (by omega)) rfl ?_
              refine XL.q (q_ldVR rfl (by kernel_rfl) (hsa.rd SubC.sub) hok.l5 (by decide) hrj) rfl ?_
              refine XL.call (aS rfl a0) (by kernel_rfl) (fneg_spec _ _ hfj _) rfl ?_
              rintro r64 M64 J64 ⟨rfl, rfl, hr64⟩
              have hr640 := hr64
              obtain ⟨a64, b64, c64, d64, e64, rfl, -⟩ := hr64
              refine XL.lo rfl (l_buildSlice (e := 25) (sz := 5) (z := [.int .u64 0, .int .u64 0, .int .u64 0, .int .u64 0, .int .u64 0]) (by kernel_rfl) (eS rfl e0) (bdS 0 5 rfl (by rfl) bd0) rfl fun b65 => ?_)
              refine XL.lo rfl (l_append2 (e := 25) (sz := 5) (by_ := 40) rfl rfl (by kernel_rfl) rfl (by first | assumption | exact Sl.nil) (Rd.whole (n := 1) At.mem (by rfl)) (by first | (simp [Value.oneCell']; done) | (intro c hc; simp only [List.mem_singleton] at hc; subst hc; first | exact Rd.one (by assumption) | exact Sl.one (by assumption))) PickC.perm (by unfold maxLen; omega) (by omega) rfl fun v66 B66 hs66 => ?_)
              refine XL.q (q_assign rfl) rfl ?_
              refine XL.fin (kp 2 rfl (kp 7 rfl (kp 8 rfl (kp 9 rfl (kp 10 rfl kn))))) ?_
              refine XC.reg1 ?_
              refine XL.q (q_move rfl) rfl ?_
              refine XL.q (q_move rfl) rfl ?_
              refine XL.q (q_move rfl) rfl ?_
              refine XL.q (q_atV2 (sz := 1) rfl rfl (by kernel_rfl) rfl (by first | assumption | exact Sl.rd (by assumption) (fun _ h => h)) (by omega)) rfl ?_
              refine XL.q (q_ldV (hsx.rd SubC.sub) rfl (by kernel_rfl) hvj) rfl ?_
              refine XL.call (aS rfl (aS rfl a0)) (by kernel_rfl) (rsub_spec _ _ [] wj _ Rd.nil (Rd.mono hwj SubC.sub) (fun _ h => by simp at h) hw32j (by decide) (by have := nrm_len8 hnj (by rw [hnvj]; exact Nat.lt_trans hfj.lt (by decide)); omega) (by rw [hnvj]; have := hfj.lt; omega)) rfl ?_
              rintro r72 M72 J72 ⟨rfl, ws72, hs72, hw72, hv72, hn72⟩
              haveI := hs72.cel
              refine XL.lo rfl (l_buildSlice (e := 29) (sz := 1) (z := [.slice none 0 0]) (by kernel_rfl) (eS rfl e0) (bdS 0 1 rfl (by rfl) bd0) rfl fun b73 => ?_)
              refine XL.lo rfl (l_append2 (e := 29) (sz := 1) (by_ := 24) rfl rfl (by kernel_rfl) rfl (by first | assumption | exact Sl.nil) (Rd.whole (n := 1) At.mem (by rfl)) (by first | (simp [Value.oneCell']; done) | (intro c hc; simp only [List.mem_singleton] at hc; subst hc; first | exact Rd.one (by assumption) | exact Sl.one (by assumption))) PickC.perm (by unfold maxLen; omega) (by omega) rfl fun v74 B74 hs74 => ?_)
              refine XL.q (q_assign rfl) rfl ?_
              refine XL.nil ?_
              refine nb ?_
              exact jn ⟨v66, s.rows ++ [[.int .u64 (a64 : Int), .int .u64 (b64 : Int), .int .u64 (c64 : Int), .int .u64 (d64 : Int), .int .u64 (e64 : Int)]], B66, v74, s.vals ++ [r72], B74, M72 ++ s.BX, s.ns ++ [(p25 - s.ns.getD j 0) % p25]⟩ (hok.snoc hs66 rfl hr640 hs74 hs72 hw72 (by rw [hv72, show nv [] = 0 from rfl, Nat.zero_add, hnvj]) hn72) (kp 2 rfl (kp 7 rfl (kp 8 rfl (kp 9 rfl kn)))) (Fit.pick PickC.perm (Fit.pick PickC.perm (Fit.pick PickC.perm (Fit.last PickC.perm)))) (fun _ h => h)
      ·
        clear hok hsa hsx
        rintro s hok
        have hsa := hok.sa
        have hsx := hok.sx
        obtain ⟨rj, vj, wj, hrj, hfj, hvj, hwj, hw32j, hnvj, hnj⟩ := hok.at_ (i + 2 + 1 - 1) (by omega)
        refine XC.drawF [0, 1, 2, 3, 4, 5, 6, 7, 8, 9, 10, 11, 12, 13] [(0, 0), (1, 0), (2, 0), (3, 0), (4, 0), (5, 1), (6, 0), (7, 0), (8, 0), (9, 0), (10, 0), (11, 1), (12, 2), (13, 0)] (by kernel_rfl) (by kernel_rfl) fun hs => ?_
        refine XF.q hs rfl (q_move rfl) rfl ?_
        refine XF.q hs rfl (q_move rfl) rfl ?_
        refine XF.q hs rfl (q_lenV2 (sz := 5) rfl (by kernel_rfl) (by first | assumption | exact Sl.rd (by assumption) (fun _ h => h))) rfl ?_
        refine XF.q hs rfl (q_subI (b := 1) rfl rfl rfl rfl (by omega) (by omega)) rfl ?_
        refine XF.q hs rfl (q_atV2 (sz := 5) rfl rfl (by kernel_rfl) rfl (by first | assumption | exact Sl.rd (by assumption) (fun _ h => h)) (by omega)) rfl ?_
        refine XF.r hs rfl (q_ldVR rfl (by kernel_rfl) (hsa.rd SubC.sub) hok.l5 (by decide) hrj) rfl ?_
        refine XF.q hs rfl (q_move rfl) rfl ?_
        refine XF.q hs rfl (q_move rfl) rfl ?_
        refine XF.q hs rfl (q_lenV2 (sz := 1) rfl (by kernel_rfl) (by first | assumption | exact Sl.rd (by assumption) (fun _ h => h))) rfl ?_
        refine XF.q hs rfl (q_subI (b := 1) rfl rfl rfl rfl (by omega) (by omega)) rfl ?_
        refine XF.q hs rfl (q_atV2 (sz := 1) rfl rfl (by kernel_rfl) rfl (by first | assumption | exact Sl.rd (by assumption) (fun _ h => h)) (by omega)) rfl ?_
        refine XF.r hs rfl (q_ldV (hsx.rd SubC.sub) rfl (by kernel_rfl) hvj) rfl ?_
        refine XF.callV rfl (aS rfl (aS rfl a0)) (by kernel_rfl) (isL_spec _ _ _ wj _ hfj (Rd.mono hwj SubC.sub) hw32j (by have := nrm_len8 hnj (by rw [hnvj]; exact Nat.lt_trans hfj.lt (by decide)); omega) hnvj) rfl ?_
        refine XF.q hs rfl (q_not rfl) rfl ?_
        refine XF.fin (kp 2 rfl (kp 7 rfl (kp 8 rfl (kp 9 rfl (kp 166 rfl kn))))) ?_
        refine XC.condF rfl ?_
        refine XC.skip ?_
        refine nb ?_
        refine nx (kp 2 rfl (kp 7 rfl (kp 8 rfl (kp 9 rfl kn)))) ?_
        refine XC.reg1 ?_
        refine XL.q (q_move rfl) rfl ?_
        refine XL.q (q_addI (b := 1) rfl rfl rfl rfl (by omega)) rfl ?_
        refine XL.q (q_assign rfl) rfl ?_
        refine XL.nil ?_
        exact rn (i + 1, s) ⟨by dsimp only; omega, hok⟩ (by dsimp only; omega) (kp 2 rfl (kp 7 rfl (kp 8 rfl (kp 9 rfl kn)))) .rfl (fun _ h => h)
    ·
      have hge : ops.length ≤ i := by simp at hc; omega
      refine XC.exit ?_
      refine te ?_
      refine re ?_
      refine be rfl ?_
      refine nx kn ?_
      refine XC.reg ?_
      refine XL.q (q_assign rfl) rfl ?_
      refine XL.fin (kp 6 rfl kn) ?_
      refine XC.ret ?_
      exact ⟨_, [], [], res1 rfl rfl, List.nil_sublist _, by simp, rfl, rfl, rfl⟩
