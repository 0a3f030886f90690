/- Part 18 of the texts of this claim, one behind the other. -/
import Derived.Test.YtcfdeohjhhpmcaaDoorB17
import Derived.Laws.IdiomCopy
set_option linter.unusedVariables false
set_option linter.unusedSimpArgs false
set_option linter.unusedVariables false
set_option linter.unusedSimpArgs false
namespace Go.Proofs.YtcfdeohjhhpmcaaDoor
open Go.Px Go.Ed
theorem enc_odd {x y : Nat} (h : x % 2 = 1) (hy : y < p25) : (digs y 32).set 31 ((digs y 32).getD 31 0 + 128) = encN x y := by
  rw [dg_prts hy]
  unfold encN
  rw [if_pos h, or_128 (top31 y)]
theorem enc_even {x y : Nat} (h : ¬ x % 2 = 1) (hy : y < p25) : digs y 32 = encN x y := by
  rw [dg_prts hy]
  unfold encN
  rw [if_neg h]
theorem encN_lt (x y : Nat) : ∀ z ∈ encN x y, z < 256 := by
  intro z hz
  unfold encN at hz
  split at hz
  · rcases List.mem_or_eq_of_mem_set hz with h | rfl
    · exact prts_lt _ _ z h
    · exact or128 (getD_lt (prts_lt _ _) (by decide))
  · exact prts_lt _ _ z hz

set_option maxRecDepth 100000 in
theorem rTold_z (vx vy vz : Value) (Q : Fin p25 × Fin p25) (A : Mem) (hP : T3 A vx vy vz Q) : FnX Tryd.prog 10 [.agg #[vx, vy, vz]] [] A fun r M J => J = [] ∧ Sl 1 r 32 (nums .u8 (encN Q.1.val Q.2.val)) M := by
  obtain ⟨X, Y, Z_, hx, hy, hz, q⟩ := hP.ex
  haveI := hP.c1
  haveI := hP.c2
  haveI := hP.c3
  obtain ⟨q1, q2⟩ := q.aff
  refine FnX.enter (N := 28) Tryd.func10 rfl rfl rfl fun w => ?_
  refine XC.keep (kp 0 rfl kn) ?_
  refine XC.reg ?_
  refine XL.lo rfl (l_box rfl (by first | exact Cel.cel | rfl) rfl fun b1 => ?_)
  refine XL.q (q_assign rfl) rfl ?_
  refine XL.fin (kp 1 rfl kn) ?_
  refine XC.reg ?_
  refine XL.q (q_fieldAddrN 2 (off := 2) rfl (by kernel_rfl) rfl) rfl ?_
  refine XL.q (q_load rfl (by kernel_rfl) (by first | exact At.mem | exact mA (by assumption)) (by rfl)) rfl ?_
  refine XL.call (aS rfl a0) (by kernel_rfl) (rinv_z _ (hz.mono SubC.sub)) rfl ?_
  rintro r8 M8 J8 ⟨rfl, k8⟩
  have h8 := k8.z (by decide)
  haveI := h8.cel
  refine XL.q (q_assign rfl) rfl ?_
  refine XL.fin (kp 1 rfl (kp 3 rfl kn)) ?_
  refine XC.reg ?_
  refine XL.q (q_fieldAddrN 0 (off := 0) rfl (by kernel_rfl) rfl) rfl ?_
  refine XL.q (q_load rfl (by kernel_rfl) (by first | exact At.mem | exact mA (by assumption)) (by rfl)) rfl ?_
  refine XL.q (q_move rfl) rfl ?_
  refine XL.call (aS rfl (aS rfl a0)) (by kernel_rfl) (rmul_z _ (hx.mono SubC.sub) (h8.mono SubC.sub)) rfl ?_
  rintro r12 M12 J12 ⟨rfl, k12⟩
  have h12 := k12.z (by decide)
  haveI := h12.cel
  rw [q1] at h12
  refine XL.q (q_assign rfl) rfl ?_
  refine XL.fin (kp 1 rfl (kp 3 rfl (kp 4 rfl kn))) ?_
  refine XC.reg ?_
  refine XL.q (q_fieldAddrN 1 (off := 1) rfl (by kernel_rfl) rfl) rfl ?_
  refine XL.q (q_load rfl (by kernel_rfl) (by first | exact At.mem | exact mA (by assumption)) (by rfl)) rfl ?_
  refine XL.q (q_move rfl) rfl ?_
  refine XL.call (aS rfl (aS rfl a0)) (by kernel_rfl) (rmul_z _ (hy.mono SubC.sub) (h8.mono SubC.sub)) rfl ?_
  rintro r16 M16 J16 ⟨rfl, k16⟩
  have h16 := k16.z (by decide)
  haveI := h16.cel
  rw [q2] at h16
  refine XL.call (aS rfl (aS rfl a0)) (by kernel_rfl) (rbytes_z 32 _ (h16.mono SubC.sub) (by decide)) rfl ?_
  rintro r17 M17 J17 ⟨rfl, hs17⟩
  haveI := hs17.cel
  have htp := top31 Q.2.val
  rw [← dg_prts Q.2.isLt] at htp
  refine XL.q (q_assign rfl) rfl ?_
  refine XL.fin (kp 4 rfl (kp 5 rfl kn)) ?_
  refine XC.seq ?_
  refine XC.reg ?_
  refine XL.q (q_move rfl) rfl ?_
  refine XL.callV (aS rfl (aS rfl a0)) (by kernel_rfl) (rbit_z 0 _ (h12.mono SubC.sub) (by decide)) rfl ?_
  rw [Nat.pow_zero, Nat.div_one]
  have hbt : Q.1.val % 2 < 2 := Nat.mod_lt _ (by decide)
  generalize hbe : Q.1.val % 2 = bt at *
  refine XL.q (q_cmp (decide (bt = 1)) rfl rfl (by rcases (show bt = 0 ∨ bt = 1 by omega) with h | h <;> subst h <;> rfl)) rfl ?_
  refine XL.fin (kp 5 rfl (kp 20 rfl kn)) ?_
  refine XC.cond rfl (fun hc => ?_) (fun hc => ?_)
  ·
    have hb1 : bt = 1 := by simpa using hc
    rw [hb1] at hbe
    refine XC.reg1 ?_
    refine XL.q (q_move rfl) rfl ?_
    refine XL.q (q_move rfl) rfl ?_
    refine XL.q (q_atV2 (sz := 1) (a := 31) rfl rfl (by kernel_rfl) rfl (hs17.rd (R := M17) fun _ h => h) (by decide)) rfl ?_
    refine XL.q (q_ldV (j := 31) (u := .int .u8 (((digs Q.2.val 32).getD 31 0 : Nat) : Int)) (hs17.rd SubC.sub) rfl (by kernel_rfl) (nums_get (by rw [digs_len]; decide))) rfl ?_
    refine XL.q (q_addS 256 (a := (digs Q.2.val 32).getD 31 0) (b := 128) rfl rfl rfl rfl rfl rfl (by omega)) rfl ?_
    refine XL.q (q_atV2 (sz := 1) (a := 31) rfl rfl (by kernel_rfl) rfl (hs17.rd (R := M17) fun _ h => h) (by decide)) rfl ?_
    refine XL.lo rfl (l_stV2 (a := 31) (u := (digs Q.2.val 32).getD 31 0 + 128) rfl rfl rfl (by kernel_rfl) hs17 (by decide) PickC.perm fun B9 hs9 => ?_)
    refine XL.fin (kp 5 rfl kn) ?_
    refine XC.reg ?_
    refine XL.q (q_move rfl) rfl ?_
    refine XL.q (q_assign rfl) rfl ?_
    refine XL.fin (kp 2 rfl kn) ?_
    refine XC.ret ?_
    exact ⟨_, B9, [], res1 rfl rfl, List.sublist_append_left _ _, by simp, rfl, by rw [enc_odd hbe Q.2.isLt] at hs9; exact hs9⟩
  ·
    have hb1 : ¬ bt = 1 := by simpa using hc
    rw [← hbe] at hb1
    refine XC.skip ?_
    refine nx (kp 5 rfl kn) ?_
    refine XC.reg ?_
    refine XL.q (q_move rfl) rfl ?_
    refine XL.q (q_assign rfl) rfl ?_
    refine XL.fin (kp 2 rfl kn) ?_
    refine XC.ret ?_
    exact ⟨_, M17, [], res1 rfl rfl, List.sublist_append_left _ _, by simp, rfl, by rw [enc_even hb1 Q.2.isLt] at hs17; exact hs17⟩

def xxL : Nat := 26187595835145689230469591415084376402084551887632582719101735842039498021991
def rtL : Nat := 42783823269122696939284341094755422415180979639778424813682678720006717057747
theorem rtL_eq : rtp xxL ((p25 + 3) / 2 ^ 3) = rtL := by
  rw [rtp_pm (by decide)]
  decide +kernel
theorem rtL_sq : fM rtL rtL = xxL := by decide +kernel
theorem sqL (n : Nat) (hn : n = p25 / 2 ^ 1) : xxL ^ n % p25 = 1 := by
  rw [pm_pow (by decide) 256 _ _ (by subst hn; decide)]
  subst hn
  decide +kernel
theorem rdn45 : rdN (digs s45 32) = s45 := by decide +kernel
theorem xx45L : fM (fS (fM s45 s45) 1) (fI (fA (fM dN (fM s45 s45)) 1)) = xxL := xx45
theorem neg45 : fS 0 rtL = bxN := by decide +kernel
theorem rd45 : encN bPt.1.val bPt.2.val = digs s45 32 := by
  rw [bx_val, by_val]
  decide +kernel
theorem b3_ : R3 bxN s45 1 bPt := ⟨FF.one, by
  show fF bxN = fF bxN * fF 1
  rw [show fF 1 = 1 from rfl]; grind, by
  show fF s45 = fF s45 * fF 1
  rw [show fF 1 = 1 from rfl]; grind, by decide, by decide, by decide⟩
theorem rsquare_z {v : Value} {x n : Nat} (A : Mem) (hx : Nf A v x 8) (hn : n = p25 / 2 ^ 1) : FnV Tryd.prog 67 [v] A (.bool (decide (x = 0 ∨ x ^ n % p25 = 1))) := by
  obtain ⟨a, a1, a2, rfl, a3, a4⟩ := hx.ex
  exact rsquare_spec v a A a1 a2 a3 (by omega) n hn
theorem rdN_ltp (w : List Nat) : rdN w < p25 := by
  unfold rdN
  split
  · exact Nat.mod_lt _ p25_pos
  · exact p25_pos
theorem rof_z {v : Value} {w : List Nat} (A : Mem) (h : By A v w) (hl : w.length ≤ 1000) : FnX Tryd.prog 66 [v] [] A fun r M J => M = [] ∧ Nf J r (rdN w) 8 :=
  ((rof_spec v w A h.rd h.lt (by have := h.len; omega)).frz0).mono fun r M J ⟨h1, h2⟩ => ⟨h1, h2.f (rdN_ltp _)⟩

set_option maxRecDepth 100000 in
theorem rroot_z (v : Value) (A : Mem) (hx : Nz A v xxL) : FnX Tryd.prog 68 [v] [] A fun r M J => M = [] ∧ Nz J r rtL := by
  haveI := hx.cel
  refine FnX.enterZ (N := 23) Tryd.func68 rfl rfl rfl fun w_ => ?_
  refine XC.keep (kp 0 rfl kn) ?_
  refine XC.reg ?_
  refine XL.q (q_assign rfl) rfl ?_
  refine XL.fin (kp 0 rfl kn) ?_
  refine XC.reg ?_
  refine XL.q (q_move rfl) rfl ?_
  refine XL.call a0 (by kernel_rfl) (rP_z _) rfl ?_
  rintro r5 M5 J5 ⟨rfl, h5⟩
  haveI := h5.cel
  refine XL.lo rfl (l_buildSlice (e := 49) (sz := 1) (z := [.int .u32 0]) (by kernel_rfl) (eS rfl e0) (bdS 0 1 rfl (by rfl) bd0) rfl fun b6 => ?_)
  refine XL.call (aS rfl (aS rfl a0)) (by kernel_rfl) (rplus_z _ (h5.mono SubC.sub) (Nz.lit [3] (x := 3) At.mem rfl (by unfold w32; decide) (by decide) rfl)) rfl ?_
  rintro r7 M7 J7 ⟨rfl, k7⟩
  have h7 := (k7.s (by decide)).z (by decide)
  haveI := h7.cel
  refine XL.call (aS rfl (aS rfl a0)) (by kernel_rfl) (rdown_z 3 _ (h7.mono SubC.sub) (by decide)) rfl ?_
  rintro r8 M8 J8 ⟨rfl, k8⟩
  have h8 := k8.z (by decide)
  haveI := h8.cel
  refine XL.call (aS rfl (aS rfl a0)) (by kernel_rfl) (rpow_z _ (hx.mono SubC.sub) (h8.mono SubC.sub)) rfl ?_
  rintro r9 M9 J9 ⟨rfl, k9⟩
  rw [rtL_eq] at k9
  have h9 := k9.z (by decide)
  haveI := h9.cel
  refine XL.q (q_assign rfl) rfl ?_
  refine XL.fin (kp 0 rfl (kp 3 rfl kn)) ?_
  refine XC.seq ?_
  refine XC.reg ?_
  refine XL.q (q_move rfl) rfl ?_
  refine XL.q (q_move rfl) rfl ?_
  refine XL.call (aS rfl (aS rfl a0)) (by kernel_rfl) (rmul_z _ (h9.mono SubC.sub) (h9.mono SubC.sub)) rfl ?_
  rintro r12 M12 J12 ⟨rfl, k12⟩
  have h12 := k12.z (by decide)
  haveI := h12.cel
  rw [rtL_sq] at h12
  refine XL.q (q_move rfl) rfl ?_
  refine XL.call (aS rfl (aS rfl a0)) (by kernel_rfl) (rcmp_z _ (h12.mono SubC.sub) (hx.mono SubC.sub)) rfl ?_
  rintro r14 M14 J14 ⟨rfl, rfl, c, rfl, hc1, hc2⟩
  obtain rfl : c = 0 := by omega
  refine XL.q (q_cmp false rfl rfl (neF rfl)) rfl ?_
  refine XL.fin (kp 3 rfl (kp 15 rfl kn)) ?_
  refine XC.condF rfl ?_
  refine XC.skip ?_
  refine nx (kp 3 rfl kn) ?_
  refine XC.reg ?_
  refine XL.q (q_move rfl) rfl ?_
  refine XL.q (q_assign rfl) rfl ?_
  refine XL.fin (kp 2 rfl kn) ?_
  refine XC.ret ?_
  exact ⟨_, [], [], res1 rfl rfl, Fit.sub (List.nil_sublist _), rfl, h9.mono SubC.sub⟩

theorem top45 : (digs s45 32).getD 31 0 < 128 := by decide +kernel
theorem odd_rtL : rtL / 2 ^ 0 % 2 = 1 := by decide +kernel
theorem even_bx : bxN / 2 ^ 0 % 2 = 0 := by decide +kernel
theorem rtL_lt : rtL < p25 := by decide +kernel

set_option maxRecDepth 100000 in
theorem rOn_z (v : Value) (A : Mem) (hv : By A v (digs s45 32)) : FnX Tryd.prog 40 [v] [] A fun r M J => M = [] ∧ ∃ vx vy vz, r = .tuple #[.agg #[vx, vy, vz], .bool true] ∧ T3 J vx vy vz bPt := by
  haveI := hv.cel
  obtain ⟨n, hn⟩ : ∃ n, n = p25 / 2 ^ 1 := ⟨_, rfl⟩
  refine FnX.enterZ (N := 65) Tryd.func40 rfl rfl rfl fun w_ => ?_
  refine XC.keep (kp 0 rfl kn) ?_
  refine XC.reg ?_
  refine XL.lo rfl (l_alloc (cs := [.slice none 0 0, .slice none 0 0, .slice none 0 0]) (by kernel_rfl) rfl fun b2 => ?_)
  refine XL.q (q_assign rfl) rfl ?_
  refine XL.fin (kp 0 rfl (kp 2 rfl kn)) ?_
  refine XC.seq ?_
  refine XC.reg ?_
  refine XL.q (q_move rfl) rfl ?_
  refine XL.q (q_lenV2 (sz := 1) rfl (by kernel_rfl) hv.rd) rfl ?_
  refine XL.q (q_cmp false rfl rfl (neF (by rw [digs_len]; rfl))) rfl ?_
  refine XL.fin (kp 0 rfl (kp 2 rfl (kp 12 rfl kn))) ?_
  refine XC.condF rfl ?_
  refine XC.skip ?_
  refine nx (kp 0 rfl (kp 2 rfl kn)) ?_
  refine XC.reg ?_
  refine XL.q (q_move rfl) rfl ?_
  refine XL.call (aS rfl a0) (by kernel_rfl) (rof_z _ (hv.mono SubC.sub) (by rw [digs_len]; decide)) rfl ?_
  rintro r15 M15 J15 ⟨rfl, k15⟩
  rw [rdn45] at k15
  have h15 := k15.z (by decide)
  haveI := h15.cel
  refine XL.q (q_assign rfl) rfl ?_
  refine XL.fin (kp 0 rfl (kp 2 rfl (kp 4 rfl kn))) ?_
  refine XC.reg ?_
  refine XL.q (q_move rfl) rfl ?_
  refine XL.q (q_move rfl) rfl ?_
  refine XL.call (aS rfl (aS rfl a0)) (by kernel_rfl) (rmul_z _ (h15.mono SubC.sub) (h15.mono SubC.sub)) rfl ?_
  rintro r18 M18 J18 ⟨rfl, k18⟩
  have h18 := k18.z (by decide)
  haveI := h18.cel
  refine XL.q (q_assign rfl) rfl ?_
  refine XL.fin (kp 0 rfl (kp 2 rfl (kp 4 rfl (kp 5 rfl kn)))) ?_
  refine XC.reg ?_
  refine XL.q (q_move rfl) rfl ?_
  refine XL.lo rfl (l_buildSlice (e := 49) (sz := 1) (z := [.int .u32 0]) (by kernel_rfl) (eS rfl e0) (bdS 0 1 rfl (by rfl) bd0) rfl fun b20 => ?_)
  refine XL.call (aS rfl (aS rfl a0)) (by kernel_rfl) (rsub_z _ (h18.mono SubC.sub) (Nz.lit [1] (x := 1) At.mem rfl (by unfold w32; decide) (by decide) rfl) (by decide)) rfl ?_
  rintro r21 M21 J21 ⟨rfl, k21⟩
  have h21 := k21.z (by decide)
  haveI := h21.cel
  refine XL.call a0 (by kernel_rfl) (rD_z _) rfl ?_
  rintro r22 M22 J22 ⟨rfl, h22⟩
  haveI := h22.cel
  refine XL.q (q_move rfl) rfl ?_
  refine XL.call (aS rfl (aS rfl a0)) (by kernel_rfl) (rmul_z _ (h22.mono SubC.sub) (h18.mono SubC.sub)) rfl ?_
  rintro r24 M24 J24 ⟨rfl, k24⟩
  have h24 := k24.z (by decide)
  haveI := h24.cel
  refine XL.lo rfl (l_buildSlice (e := 49) (sz := 1) (z := [.int .u32 0]) (by kernel_rfl) (eS rfl e0) (bdS 0 1 rfl (by rfl) bd0) rfl fun b25 => ?_)
  refine XL.call (aS rfl (aS rfl a0)) (by kernel_rfl) (radd_z _ (h24.mono SubC.sub) (Nz.lit [1] (x := 1) At.mem rfl (by unfold w32; decide) (by decide) rfl)) rfl ?_
  rintro r26 M26 J26 ⟨rfl, k26⟩
  have h26 := k26.z (by decide)
  haveI := h26.cel
  refine XL.call (aS rfl a0) (by kernel_rfl) (rinv_z _ (h26.mono SubC.sub)) rfl ?_
  rintro r27 M27 J27 ⟨rfl, k27⟩
  have h27 := k27.z (by decide)
  haveI := h27.cel
  refine XL.call (aS rfl (aS rfl a0)) (by kernel_rfl) (rmul_z _ (h21.mono SubC.sub) (h27.mono SubC.sub)) rfl ?_
  rintro r28 M28 J28 ⟨rfl, k28⟩
  rw [xx45L] at k28
  have h28 := k28.z (by decide)
  haveI := h28.cel
  refine XL.q (q_assign rfl) rfl ?_
  refine XL.fin (kp 0 rfl (kp 2 rfl (kp 4 rfl (kp 6 rfl kn)))) ?_
  refine XC.seq ?_
  refine XC.reg ?_
  refine XL.q (q_move rfl) rfl ?_
  refine XL.callV (aS rfl a0) (by kernel_rfl) (rsquare_z (n := n) _ (k28.mono SubC.sub) hn) rfl ?_
  rw [show decide (xxL = 0 ∨ xxL ^ n % p25 = 1) = true from decide_eq_true (.inr (sqL n hn))]
  refine XL.q (q_not rfl) rfl ?_
  refine XL.fin (kp 0 rfl (kp 2 rfl (kp 4 rfl (kp 6 rfl (kp 31 rfl kn))))) ?_
  refine XC.condF rfl ?_
  refine XC.skip ?_
  refine nx (kp 0 rfl (kp 2 rfl (kp 4 rfl (kp 6 rfl kn)))) ?_
  refine XC.reg ?_
  refine XL.q (q_move rfl) rfl ?_
  refine XL.call (aS rfl a0) (by kernel_rfl) (rroot_z _ _ (h28.mono SubC.sub)) rfl ?_
  rintro r34 M34 J34 ⟨rfl, h34⟩
  haveI := h34.cel
  refine XL.q (q_assign rfl) rfl ?_
  refine XL.fin (kp 0 rfl (kp 2 rfl (kp 4 rfl (kp 7 rfl kn)))) ?_
  refine XC.reg ?_
  refine XL.q (q_move rfl) rfl ?_
  refine XL.q (q_atV2 (sz := 1) (a := 31) rfl rfl (by kernel_rfl) rfl hv.rd (by rw [digs_len]; decide)) rfl ?_
  refine XL.q (q_ldV (j := 31) (u := .int .u8 (((digs s45 32).getD 31 0 : Nat) : Int)) (hv.rd.mono SubC.sub) rfl (by kernel_rfl) (nums_get (by rw [digs_len]; decide))) rfl ?_
  refine XL.q (q_cmp false rfl rfl (geF (by have := top45; omega))) rfl ?_
  refine XL.q (q_assign rfl) rfl ?_
  refine XL.fin (kp 0 rfl (kp 2 rfl (kp 4 rfl (kp 7 rfl (kp 8 rfl kn))))) ?_
  refine XC.seq ?_
  refine XC.reg ?_
  refine XL.q (q_move rfl) rfl ?_
  refine XL.callV (aS rfl (aS rfl a0)) (by kernel_rfl) (rbit_z 0 _ (h34.mono SubC.sub) (by decide)) rfl ?_
  rw [odd_rtL]
  refine XL.q (q_cmp true rfl rfl (eqT rfl)) rfl ?_
  refine XL.q (q_move rfl) rfl ?_
  refine XL.q (q_boolNeR true rfl rfl (by kernel_rfl) rfl) rfl ?_
  refine XL.fin (kp 0 rfl (kp 2 rfl (kp 4 rfl (kp 7 rfl (kp 8 rfl (kp 43 rfl kn)))))) ?_
  refine XC.condT rfl ?_
  refine XC.reg1 ?_
  refine XL.q (q_move rfl) rfl ?_
  refine XL.call (aS rfl (aS rfl a0)) (by kernel_rfl) (rsub_z _ Nz.nil (h34.mono SubC.sub) rtL_lt) rfl ?_
  rintro r45 M45 J45 ⟨rfl, k45⟩
  have h45 := k45.z (by decide)
  haveI := h45.cel
  rw [neg45] at h45
  refine XL.q (q_assign rfl) rfl ?_
  refine XL.fin (kp 0 rfl (kp 2 rfl (kp 4 rfl (kp 7 rfl (kp 8 rfl kn))))) ?_
  refine XC.reg ?_
  refine XL.q (q_move rfl) rfl ?_
  refine XL.q (q_move rfl) rfl ?_
  refine XL.lo rfl (l_buildSlice (e := 49) (sz := 1) (z := [.int .u32 0]) (by kernel_rfl) (eS rfl e0) (bdS 0 1 rfl (by rfl) bd0) rfl fun b48 => ?_)
  refine XL.q (q_build (place := fun x => #[(0, 1), (1, 1), (2, 1)][x]?) (z := [.slice none 0 0, .slice none 0 0, .slice none 0 0]) (fun _ => by kernel_rfl) (eS rfl (eS rfl (eS rfl e0))) (bdS 0 1 rfl (by rfl) (bdS 1 1 rfl (by rfl) (bdS 2 1 rfl (by rfl) bd0)))) rfl ?_
  refine XL.lo rfl (l_alloc (cs := [.slice none 0 0, .slice none 0 0, .slice none 0 0]) (by kernel_rfl) rfl fun b9 => ?_)
  refine XL.lo rfl (l_storeW (vs := [r45, r15, .slice (some ⟨b48, 0, none⟩) 1 1]) rfl rfl rfl (by kernel_rfl) (by rfl) (allS h45.one (allS h15.one (allS rfl all0))) UpC.upd ?_)
  refine XL.fin (kp 0 rfl (kp 2 rfl (kp 7 rfl (kp 8 rfl (kp 9 rfl kn))))) ?_
  refine XC.seq ?_
  refine XC.drawF [0, 1, 2, 3, 4, 5, 6, 7, 8, 9, 10, 11, 12] [(0, 0), (3, 0), (1, 2), (2, 0), (4, 0), (5, 0), (6, 1), (9, 0), (7, 3), (8, 3), (10, 4), (11, 0), (12, 0)] (by kernel_rfl) (by kernel_rfl) fun hs => ?_
  refine XF.q hs rfl (q_move rfl) rfl ?_
  refine XF.q hs rfl (q_move rfl) rfl ?_
  refine XF.callV rfl (aS rfl (aS rfl a0)) (by kernel_rfl) (rbit_z 0 _ (h45.mono SubC.sub) (by decide)) rfl ?_
  rw [even_bx]
  refine XF.q hs rfl (q_cmp false rfl rfl (eqF (by decide))) rfl ?_
  refine XF.q hs rfl (q_boolNeR false rfl rfl (by kernel_rfl) rfl) rfl ?_
  refine XF.q hs rfl (q_move rfl) rfl ?_
  refine XF.rg hs rfl rfl rfl rfl (q_loadW (n := 3) rfl (by kernel_rfl) (by first | exact At.mem | exact mA (by assumption)) (by rfl)) rfl ?_
  refine XF.qg hs rfl rfl rfl rfl (q_move rfl) rfl ?_
  refine XF.groupO [⟨7, 57, fun v B R => Sl 1 v 32 (nums .u8 (digs s45 32)) B ∧ ∀ x ∈ B, x ∈ R⟩, ⟨8, 58, fun v B _ => B = [] ∧ v = .string (txt (digs s45 32))⟩, ⟨10, 60, fun v B _ => B = [] ∧ v = .string (txt (digs s45 32))⟩]
    (allS (fun _ _ _ _ hR h => ⟨h.1, fun x hx => hR x (h.2 x hx)⟩) (allS (fun _ _ _ _ _ h => h) (allS (fun _ _ _ _ _ h => h) (all0)))) (show List.Nodup [57, 58, 60] by decide) (show List.Nodup [7, 8, 10] by decide) (allS (blt_lt rfl) (allS (blt_lt rfl) (allS (blt_lt rfl) (all0))))
    (allS ⟨_, rfl, fun vs bs R w hb ha => ⟨.inr ⟨_, _, _, _, rfl, rfl, rfl, rfl⟩, ?_⟩⟩ (allS ⟨_, rfl, fun vs bs R w hb ha => ⟨.inr ⟨_, _, _, _, rfl, rfl, rfl, rfl⟩, ?_⟩⟩ (allS ⟨_, rfl, fun vs bs R w hb ha => ⟨.inr ⟨_, _, _, _, rfl, rfl, rfl, rfl⟩, ?_⟩⟩ (all0)))) ?_
  ·
    refine l_call0 (aS rfl a0) (by kernel_rfl) (rTold_z _ _ _ bPt _ ⟨_, _, _, h45.mono fun x hx => hb _ (SubC.sub x hx), h15.mono fun x hx => hb _ (SubC.sub x hx), Nz.lit [1] (hb _ At.mem) rfl w32_1 (by decide) rfl, b3_⟩) rfl ?_
    rintro r M1 J1 ⟨rfl, hh⟩
    rw [rd45] at hh
    exact ⟨_, rfl, by simpa using hh, fun x hx => List.mem_append_left _ hx⟩
  ·
    have g7 := ha _ (List.mem_of_getElem? (i := 0) rfl) (by kernel_rfl)
    replace g7 : (fun v B R => Sl 1 v 32 (nums .u8 (digs s45 32)) B ∧ ∀ x ∈ B, x ∈ R) (vs 7) (bs 7) R := g7
    dsimp only at g7
    obtain ⟨k7, k7s⟩ := g7
    exact OpQ.opL (q_toStr2 rfl (by kernel_rfl) (k7.rd fun x hx => k7s x hx)) rfl ⟨_, rfl, rfl, rfl⟩
  ·
    exact OpQ.opL (q_toStr2 rfl (by kernel_rfl) (hv.rd.mono fun x hx => hb _ (SubC.sub x hx))) rfl ⟨_, rfl, rfl, rfl⟩
  intro vs bs Jn0 hφ
  have g7 := ofH hφ
  dsimp only at g7
  replace hφ := ofT hφ
  have g8 := ofH hφ
  dsimp only at g8
  replace hφ := ofT hφ
  have g10 := ofH hφ
  dsimp only at g10
  clear hφ
  dsimp only [gEnvO, ownOf, List.map, List.flatten, List.cons_append, List.nil_append]
  generalize bs 7 = B57 at *
  generalize bs 8 = B58 at *
  generalize bs 10 = B60 at *
  generalize vs 7 = u57 at *
  generalize vs 8 = u58 at *
  generalize vs 10 = u60 at *
  obtain ⟨k7, -⟩ := g7
  obtain ⟨rfl, rfl⟩ := g8
  obtain ⟨rfl, rfl⟩ := g10
  dsimp only [List.append_eq, List.nil_append, List.cons_append]
  refine XF.qg hs rfl rfl rfl rfl (q_sNe rfl rfl rfl rfl (digs_lt _ _) (digs_lt _ _)) rfl ?_
  rw [show (!decide (digs s45 32 = digs s45 32)) = false by simp]
  refine XF.q hs rfl (q_pickF rfl rfl) rfl ?_
  refine XF.fin (kp 2 rfl (kp 9 rfl (kp 62 rfl kn))) ?_
  refine XC.condF rfl ?_
  refine XC.skip ?_
  refine nx (kp 2 rfl (kp 9 rfl kn)) ?_
  refine XC.reg ?_
  refine XL.q (q_loadW (n := 3) rfl (by kernel_rfl) (by first | exact At.mem | exact mA (by assumption)) (by rfl)) rfl ?_
  refine XL.lo rfl (l_storeW (vs := [r45, r15, .slice (some ⟨b48, 0, none⟩) 1 1]) rfl rfl rfl (by kernel_rfl) (by rfl) (allS h45.one (allS h15.one (allS rfl all0))) UpC.upd ?_)
  refine XL.q (q_assign rfl) rfl ?_
  refine XL.fin (kp 2 rfl (kp 3 rfl kn)) ?_
  refine XC.ret ?_
  exact ⟨_, [], _, resC1 rfl rfl rfl (by kernel_rfl) At.mem (by rfl), Fit.eq (List.append_nil _).symm, rfl, _, _, _, rfl, _, _, _, h45.mono SubC.sub, h15.mono SubC.sub, Nz.lit [1] At.mem rfl w32_1 (by decide) rfl, b3_⟩

set_option maxRecDepth 100000 in
theorem rStart_z (A : Mem) : FnX Tryd.prog 12 [] [] A fun r M J => M = [] ∧ Tp J r bPt := by
  refine FnX.enterZ (N := 13) Tryd.func12 rfl rfl rfl fun w_ => ?_
  refine XC.keep kn ?_
  refine XC.reg ?_
  refine XL.lo rfl (l_alloc (cs := [.slice none 0 0, .slice none 0 0, .slice none 0 0]) (by kernel_rfl) rfl fun b0 => ?_)
  refine XL.fin (kp 0 rfl kn) ?_
  refine XC.reg ?_
  refine XL.lo rfl (l_buildSlice (e := 49) (sz := 1) (z := [.int .u32 0]) (by kernel_rfl) (eS rfl e0) (bdS 0 1 rfl (by rfl) bd0) rfl fun b4 => ?_)
  refine XL.lo rfl (l_buildSlice (e := 49) (sz := 1) (z := [.int .u32 0]) (by kernel_rfl) (eS rfl e0) (bdS 0 1 rfl (by rfl) bd0) rfl fun b5 => ?_)
  refine XL.call (aS rfl a0) (by kernel_rfl) (rinv_z _ (Nz.lit [5] (x := 5) At.mem rfl (by unfold w32; decide) (by decide) rfl)) rfl ?_
  rintro r6 M6 J6 ⟨rfl, k6⟩
  have h6 := k6.z (by decide)
  haveI := h6.cel
  refine XL.call (aS rfl (aS rfl a0)) (by kernel_rfl) (rmul_z _ (Nz.lit [4] (x := 4) At.mem rfl (by unfold w32; decide) (by decide) rfl) (h6.mono SubC.sub)) rfl ?_
  rintro r7 M7 J7 ⟨rfl, k7⟩
  have h7 := k7.z (by decide)
  haveI := h7.cel
  rw [s45_eq] at h7
  refine XL.call (aS rfl (aS rfl a0)) (by kernel_rfl) ((rbytes_z 32 _ (h7.mono SubC.sub) (by decide)).frz0) rfl ?_
  rintro r8 M8 J8 ⟨rfl, hs8⟩
  haveI := hs8.cel
  refine XL.call (aS rfl a0) (by kernel_rfl) (rOn_z _ _ (sl_by hs8 (digs_len _ _).symm (digs_lt _ _) (by rw [digs_len]; decide) SubC.sub)) rfl ?_
  rintro r9 M9 J9 ⟨rfl, sx, sy, sz, rfl, ht⟩
  haveI := ht.c1
  haveI := ht.c2
  haveI := ht.c3
  refine XL.q (q_move rfl) rfl ?_
  refine XL.q (q_x0 rfl) rfl ?_
  refine XL.q (q_x1 rfl) rfl ?_
  refine XL.lo rfl (l_alloc (cs := [.slice none 0 0, .slice none 0 0, .slice none 0 0]) (by kernel_rfl) rfl fun b1 => ?_)
  refine XL.lo rfl (l_storeW (vs := [sx, sy, sz]) rfl rfl rfl (by kernel_rfl) (by rfl) ht.ones UpC.upd ?_)
  refine XL.q (q_assign rfl) rfl ?_
  refine XL.fin (kp 0 rfl (kp 1 rfl kn)) ?_
  refine XC.reg ?_
  refine XL.q (q_loadW (n := 3) rfl (by kernel_rfl) (by first | exact At.mem | exact mA (by assumption)) (by rfl)) rfl ?_
  refine XL.lo rfl (l_storeW (vs := [sx, sy, sz]) rfl rfl rfl (by kernel_rfl) (by rfl) ht.ones UpC.upd ?_)
  refine XL.fin (kp 0 rfl kn) ?_
  refine XC.ret ?_
  refine ⟨_, [], _, resC rfl rfl (by kernel_rfl) At.mem (by rfl), Fit.eq (List.append_nil _).symm, rfl, _, _, _, rfl, ht.mono SubC.sub⟩

set_option maxRecDepth 100000 in
theorem rN_z (A : Mem) : FnX Tryd.prog 16 [] [] A fun r M J => M = [] ∧ Nz J r lN := by
  refine FnX.enterZ (N := 2) Tryd.func16 rfl rfl rfl fun w_ => ?_
  refine XC.keep kn ?_
  refine XC.reg ?_
  refine XL.q (q_assign rfl) rfl ?_
  refine XL.fin kn ?_
  refine XC.reg ?_
  refine XL.lo rfl (l_buildSlice (e := 49) (sz := 1) (z := [.int .u32 0, .int .u32 0, .int .u32 0, .int .u32 0, .int .u32 0, .int .u32 0, .int .u32 0, .int .u32 0]) (by kernel_rfl) (eS rfl (eS rfl (eS rfl (eS rfl (eS rfl (eS rfl (eS rfl (eS rfl e0)))))))) (bdS 0 1 rfl (by rfl) (bdS 1 1 rfl (by rfl) (bdS 2 1 rfl (by rfl) (bdS 3 1 rfl (by rfl) (bdS 4 1 rfl (by rfl) (bdS 5 1 rfl (by rfl) (bdS 6 1 rfl (by rfl) (bdS 7 1 rfl (by rfl) bd0)))))))) rfl fun b1 => ?_)
  refine XL.q (q_assign rfl) rfl ?_
  refine XL.fin (kp 0 rfl kn) ?_
  refine XC.ret ?_
  exact ⟨_, [], _, res1 rfl rfl, Fit.eq (List.append_nil _).symm, rfl, Nz.lit ordW At.mem rfl ord_32 (by decide) ord_nv⟩

theorem rmod_step {q b m : Nat} (hm : 0 < m) (hb : b < 2) : (2 * q + b) % m = if m ≤ q % m + q % m + b then q % m + q % m + b - m else q % m + q % m + b := by
  have h1 := Nat.mod_lt q hm
  have e : (2 * q + b) % m = (q % m + q % m + b) % m := by
    rw [Nat.two_mul, Nat.add_mod (q + q) b m, Nat.add_mod q q m, Nat.add_mod (q % m + q % m) b m]
  rw [e]
  generalize q % m = s at *
  split
  · rename_i h
    rw [Nat.mod_eq_sub_mod h, Nat.mod_eq_of_lt (by omega)]
  · rename_i h
    rw [Nat.mod_eq_of_lt (by omega)]
theorem rmod_bit (x m i : Nat) (hm : 0 < m) : x / 2 ^ i % m = if m ≤ x / 2 ^ (i + 1) % m + x / 2 ^ (i + 1) % m + x / 2 ^ i % 2 then x / 2 ^ (i + 1) % m + x / 2 ^ (i + 1) % m + x / 2 ^ i % 2 - m else x / 2 ^ (i + 1) % m + x / 2 ^ (i + 1) % m + x / 2 ^ i % 2 := by
  have h : x / 2 ^ i = 2 * (x / 2 ^ (i + 1)) + x / 2 ^ i % 2 := by
    rw [Nat.pow_succ, ← Nat.div_div_eq_div_mul]; omega
  have hb : x / 2 ^ i % 2 < 2 := Nat.mod_lt _ (by decide)
  generalize x / 2 ^ i % 2 = b at *
  rw [h]
  exact rmod_step hm hb
theorem cmp_ge0 {k : IntKind} (c : Int) : arith .geq k c 0 = some (.bool (decide (0 ≤ c))) := by
  by_cases h : 0 ≤ c
  · rw [decide_eq_true h]; exact geT h
  · rw [decide_eq_false h]; exact geF (by omega)
theorem Nf.nil {R : Mem} {L : Nat} : Nf R (.slice none 0 0) 0 L := ⟨[], Rd.nil, (fun x hx => by cases hx), rfl, (fun k h => by simp at h), Nat.zero_le _⟩

set_option maxRecDepth 100000 in
theorem rMod_z (va vm : Value) (x m : Nat) (A : Mem) (hx : Nz A va x) (hm : Nz A vm m) (hm0 : 0 < m) (hm1 : m ≤ 28948022309329048855892746252171976963317496166410141009864396001978282409984) : FnX Tryd.prog 13 [va, vm] [] A fun r M J => M = [] ∧ Nf J r (x % m) 8 := by
  haveI := hx.cel
  haveI := hm.cel
  refine FnX.enterZ (N := 32) Tryd.func13 rfl rfl rfl fun w_ => ?_
  refine XC.keep (kp 0 rfl (kp 1 rfl kn)) ?_
  refine XC.reg ?_
  refine XL.q (q_assign rfl) rfl ?_
  refine XL.fin (kp 0 rfl (kp 1 rfl kn)) ?_
  refine XC.reg ?_
  refine XL.q (q_assign rfl) rfl ?_
  refine XL.fin (kp 0 rfl (kp 1 rfl (kp 5 rfl kn))) ?_
  refine XC.seq ?_
  refine XC.reg ?_
  refine XL.q (q_move rfl) rfl ?_
  refine XL.call (aS rfl a0) (by kernel_rfl) (rlen_z _ (hx.mono SubC.sub)) rfl ?_
  rintro r8 M8 J8 ⟨rfl, rfl, L, rfl, hL1, hL2⟩
  refine XL.q (q_num ((L : Int) - 1) rfl rfl (sub64 rfl (by omega) (by omega))) rfl ?_
  refine XL.q (q_assign rfl) rfl ?_
  refine XL.fin (kp 0 rfl (kp 1 rfl (kp 5 rfl (kp 6 rfl kn)))) ?_
  refine XC.block ?_
  refine XC.loop (α := Nat × Value × Mem) (fun y => [(0, va), (1, vm), (5, y.2.1), (6, .int .i64 ((y.1 : Int) - 1))]) (fun y => []) (fun y => y.2.2) (fun y => y.1 ≤ L ∧ Nf y.2.2 y.2.1 (x / 2 ^ y.1 % m) 8) (fun y => y.1) (L, .slice none 0 0, _) ⟨Nat.le_refl _, by rw [Nat.div_eq_of_lt hL2, Nat.zero_mod]; exact Nf.nil⟩ (kp 0 rfl (kp 1 rfl (kp 5 rfl (kp 6 rfl kn)))) .rfl (fun _ h => h) ?_
  rintro ⟨j, vr, Jj⟩ ⟨hj, hr⟩
  dsimp only at hj hr ⊢
  have hrz := hr.z (by decide)
  haveI := hrz.cel
  refine XC.seq ?_
  refine XC.reg ?_
  refine XL.q (q_move rfl) rfl ?_
  refine XL.q (q_bin rfl rfl rfl) rfl ?_
  refine XL.fin (kp 0 rfl (kp 1 rfl (kp 5 rfl (kp 6 rfl (kp 11 rfl kn))))) ?_
  refine XC.cond rfl (fun hc => ?_) (fun hc => ?_)
  ·
    have hj0 : 0 < j := by simp at hc; omega
    obtain ⟨i, rfl⟩ : ∃ i, j = i + 1 := ⟨j - 1, by omega⟩
    rw [show (((i + 1 : Nat) : Int) - 1) = (i : Int) by omega]
    have hst := rmod_bit x m i hm0
    have hlt := Nat.mod_lt (x / 2 ^ (i + 1)) hm0
    have hbt : x / 2 ^ i % 2 < 2 := Nat.mod_lt _ (by decide)
    generalize hbe : x / 2 ^ i % 2 = bt at *
    generalize x / 2 ^ (i + 1) % m = q at *
    refine XC.skip ?_
    refine nx (kp 0 rfl (kp 1 rfl (kp 5 rfl (kp 6 rfl kn)))) ?_
    refine XC.seq ?_
    refine XC.block ?_
    refine XC.reg ?_
    refine XL.q (q_move rfl) rfl ?_
    refine XL.q (q_move rfl) rfl ?_
    refine XL.call (aS rfl (aS rfl a0)) (by kernel_rfl) (rplus_z _ (hrz.mono SubC.sub) (hrz.mono SubC.sub)) rfl ?_
    rintro r16 M16 J16 ⟨rfl, k16⟩
    have h16 := (k16.s (by omega)).z (by decide)
    haveI := h16.cel
    refine XL.q (q_assign rfl) rfl ?_
    refine XL.fin (kp 0 rfl (kp 1 rfl (kp 5 rfl (kp 6 rfl kn)))) ?_
    refine XC.seq ?_
    refine XC.reg ?_
    refine XL.q (q_move rfl) rfl ?_
    refine XL.q (q_move rfl) rfl ?_
    refine XL.callV (aS rfl (aS rfl a0)) (by kernel_rfl) (rbit_z i _ (hx.mono SubC.sub) (by omega)) rfl ?_
    rw [hbe]
    refine XL.q (q_cmp (decide (bt = 1)) rfl rfl (by rcases (show bt = 0 ∨ bt = 1 by omega) with h | h <;> subst h <;> rfl)) rfl ?_
    refine XL.fin (kp 0 rfl (kp 1 rfl (kp 5 rfl (kp 6 rfl (kp 20 rfl kn))))) ?_
    refine XC.cond rfl (fun hc => ?_) (fun hc => ?_)
    ·
      obtain rfl : bt = 1 := by simpa using hc
      refine XC.reg1 ?_
      refine XL.q (q_move rfl) rfl ?_
      refine XL.lo rfl (l_buildSlice (e := 49) (sz := 1) (z := [.int .u32 0]) (by kernel_rfl) (eS rfl e0) (bdS 0 1 rfl (by rfl) bd0) rfl fun b22 => ?_)
      refine XL.call (aS rfl (aS rfl a0)) (by kernel_rfl) (rplus_z _ (h16.mono SubC.sub) (Nz.lit [1] (x := 1) At.mem rfl (by unfold w32; decide) (by decide) rfl)) rfl ?_
      rintro r23 M23 J23 ⟨rfl, k23⟩
      have h23 := (k23.s (by omega)).z (by decide)
      haveI := h23.cel
      refine XL.q (q_assign rfl) rfl ?_
      refine XL.fin (kp 0 rfl (kp 1 rfl (kp 5 rfl (kp 6 rfl kn)))) ?_
      refine XC.reg ?_
      refine XL.q (q_move rfl) rfl ?_
      refine XL.q (q_move rfl) rfl ?_
      refine XL.call (aS rfl (aS rfl a0)) (by kernel_rfl) (rcmp_z _ (h23.mono SubC.sub) (hm.mono SubC.sub)) rfl ?_
      rintro r26 M26 J26 ⟨rfl, rfl, c, rfl, hc1, hc2⟩
      refine XL.q (q_cmp (decide (0 ≤ c)) rfl rfl (cmp_ge0 c)) rfl ?_
      refine XL.fin (kp 0 rfl (kp 1 rfl (kp 5 rfl (kp 6 rfl (kp 27 rfl kn))))) ?_
      refine XC.cond rfl (fun hc => ?_) (fun hc => ?_)
      ·
        have hge : m ≤ q + q + 1 := by have h0 : 0 ≤ c := of_decide_eq_true hc; omega
        rw [if_pos hge] at hst
        refine XC.reg1 ?_
        refine XL.q (q_move rfl) rfl ?_
        refine XL.q (q_move rfl) rfl ?_
        refine XL.call (aS rfl (aS rfl a0)) (by kernel_rfl) (rless_z _ (h23.mono SubC.sub) (hm.mono SubC.sub) hge) rfl ?_
        rintro r30 M30 J30 ⟨rfl, k30⟩
        refine XL.q (q_assign rfl) rfl ?_
        refine XL.nil ?_
        refine nb ?_
        refine nx (kp 0 rfl (kp 1 rfl (kp 5 rfl (kp 6 rfl kn)))) ?_
        refine XC.reg1 ?_
        refine XL.q (q_move rfl) rfl ?_
        refine XL.q (q_num ((i : Int) - 1) rfl rfl (sub64 rfl (by omega) (by omega))) rfl ?_
        refine XL.q (q_assign rfl) rfl ?_
        refine XL.nil ?_
        exact rn (i, r30, _) ⟨by dsimp only; omega, by dsimp only; rw [hst]; exact (k30.s (by omega)).mono SubC.sub⟩ (by dsimp only; omega) (kp 0 rfl (kp 1 rfl (kp 5 rfl (kp 6 rfl kn)))) (Fit.sub (List.nil_sublist _)) (fun _ h => h)
      ·
        have hge : ¬ m ≤ q + q + 1 := by have h0 : ¬ 0 ≤ c := of_decide_eq_false hc; omega
        rw [if_neg hge] at hst
        refine XC.skip ?_
        refine nb ?_
        refine nx (kp 0 rfl (kp 1 rfl (kp 5 rfl (kp 6 rfl kn)))) ?_
        refine XC.reg1 ?_
        refine XL.q (q_move rfl) rfl ?_
        refine XL.q (q_num ((i : Int) - 1) rfl rfl (sub64 rfl (by omega) (by omega))) rfl ?_
        refine XL.q (q_assign rfl) rfl ?_
        refine XL.nil ?_
        exact rn (i, r23, _) ⟨by dsimp only; omega, by dsimp only; rw [hst]; exact (k23.s (by omega)).mono SubC.sub⟩ (by dsimp only; omega) (kp 0 rfl (kp 1 rfl (kp 5 rfl (kp 6 rfl kn)))) (Fit.sub (List.nil_sublist _)) (fun _ h => h)
    ·
      have hb0 : bt = 0 := by have h9 : ¬ bt = 1 := of_decide_eq_false hc; omega
      subst hb0
      rw [Nat.add_zero] at hst
      refine XC.skip ?_
      refine nx (kp 0 rfl (kp 1 rfl (kp 5 rfl (kp 6 rfl kn)))) ?_
      refine XC.reg ?_
      refine XL.q (q_move rfl) rfl ?_
      refine XL.q (q_move rfl) rfl ?_
      refine XL.call (aS rfl (aS rfl a0)) (by kernel_rfl) (rcmp_z _ (h16.mono SubC.sub) (hm.mono SubC.sub)) rfl ?_
      rintro r26 M26 J26 ⟨rfl, rfl, c, rfl, hc1, hc2⟩
      refine XL.q (q_cmp (decide (0 ≤ c)) rfl rfl (cmp_ge0 c)) rfl ?_
      refine XL.fin (kp 0 rfl (kp 1 rfl (kp 5 rfl (kp 6 rfl (kp 27 rfl kn))))) ?_
      refine XC.cond rfl (fun hc => ?_) (fun hc => ?_)
      ·
        have hge : m ≤ q + q := by have h0 : 0 ≤ c := of_decide_eq_true hc; omega
        rw [if_pos hge] at hst
        refine XC.reg1 ?_
        refine XL.q (q_move rfl) rfl ?_
        refine XL.q (q_move rfl) rfl ?_
        refine XL.call (aS rfl (aS rfl a0)) (by kernel_rfl) (rless_z _ (h16.mono SubC.sub) (hm.mono SubC.sub) hge) rfl ?_
        rintro r30 M30 J30 ⟨rfl, k30⟩
        refine XL.q (q_assign rfl) rfl ?_
        refine XL.nil ?_
        refine nb ?_
        refine nx (kp 0 rfl (kp 1 rfl (kp 5 rfl (kp 6 rfl kn)))) ?_
        refine XC.reg1 ?_
        refine XL.q (q_move rfl) rfl ?_
        refine XL.q (q_num ((i : Int) - 1) rfl rfl (sub64 rfl (by omega) (by omega))) rfl ?_
        refine XL.q (q_assign rfl) rfl ?_
        refine XL.nil ?_
        exact rn (i, r30, _) ⟨by dsimp only; omega, by dsimp only; rw [hst]; exact (k30.s (by omega)).mono SubC.sub⟩ (by dsimp only; omega) (kp 0 rfl (kp 1 rfl (kp 5 rfl (kp 6 rfl kn)))) (Fit.sub (List.nil_sublist _)) (fun _ h => h)
      ·
        have hge : ¬ m ≤ q + q := by have h0 : ¬ 0 ≤ c := of_decide_eq_false hc; omega
        rw [if_neg hge] at hst
        refine XC.skip ?_
        refine nb ?_
        refine nx (kp 0 rfl (kp 1 rfl (kp 5 rfl (kp 6 rfl kn)))) ?_
        refine XC.reg1 ?_
        refine XL.q (q_move rfl) rfl ?_
        refine XL.q (q_num ((i : Int) - 1) rfl rfl (sub64 rfl (by omega) (by omega))) rfl ?_
        refine XL.q (q_assign rfl) rfl ?_
        refine XL.nil ?_
        exact rn (i, r16, _) ⟨by dsimp only; omega, by dsimp only; rw [hst]; exact (k16.s (by omega)).mono SubC.sub⟩ (by dsimp only; omega) (kp 0 rfl (kp 1 rfl (kp 5 rfl (kp 6 rfl kn)))) (Fit.sub (List.nil_sublist _)) (fun _ h => h)
  ·
    have hj0 : j = 0 := by simp at hc; omega
    subst hj0
    rw [Nat.pow_zero, Nat.div_one] at hr
    refine XC.exit ?_
    refine te ?_
    refine re ?_
    refine be rfl ?_
    refine nx (kp 5 rfl kn) ?_
    refine XC.reg ?_
    refine XL.q (q_move rfl) rfl ?_
    refine XL.q (q_assign rfl) rfl ?_
    refine XL.fin (kp 4 rfl kn) ?_
    refine XC.ret ?_
    exact ⟨_, [], [], res1 rfl rfl, Fit.sub (List.nil_sublist _), rfl, hr.mono SubC.sub⟩

end Go.Proofs.YtcfdeohjhhpmcaaDoor
/-
  Slices that came of a string: appended to in place, or anew.
-/
set_option linter.unusedVariables false
set_option linter.unusedSimpArgs false
namespace Go.Px
open Go
theorem setCell_row (w : World) (b j : Nat) (cur : Array Value) (e : TypeId) (fr : Nat × Nat) (v : Value) (hg : w.heap[b]? = some (.cells cur e fr)) : w.setCell ⟨b, j, none⟩ v = w.setRow b (cur.setIfInBounds j v) := by
  have hlt := (Array.getElem?_eq_some_iff.1 hg).1
  unfold World.setCell World.setRow
  congr 1
  apply Array.ext_getElem?
  intro i
  rw [Array.getElem?_modify, Array.getElem?_modify]
  by_cases h : b = i
  · subst h; rw [hg]; simp
  · simp [h]
theorem setCells_row (b : Nat) (e : TypeId) (fr : Nat × Nat) : ∀ (vs : List Value) (o : Nat) (cur : List Value) (w : World), w.heap[b]? = some (.cells cur.toArray e fr) → o + vs.length ≤ cur.length → w.setCells b o vs = w.setRow b (cur.take o ++ vs ++ cur.drop (o + vs.length)).toArray
  | [], o, cur, w, hg, _ => by
    rw [List.append_nil, List.length_nil, Nat.add_zero, List.take_append_drop]
    exact (setRow_self w b cur.toArray e fr hg).symm
  | v :: r, o, cur, w, hg, hl => by
    simp only [List.length_cons] at hl
    rw [World.setCells, setCell_row w b o cur.toArray e fr v hg, List.setIfInBounds_toArray]
    have h2 := setRow_heap w b cur.toArray (cur.set o v).toArray e fr hg
    rw [setCells_row b e fr r (o + 1) (cur.set o v) _ h2 (by simp; omega), setRow_setRow]
    congr 1
    congr 1
    have e1 : (cur.set o v).take (o + 1) = cur.take o ++ [v] := by
      rw [List.take_add_one, List.getElem?_set_self (by omega), List.take_set_of_le (Nat.le_refl _)]; rfl
    have e2 : (cur.set o v).drop (o + 1 + r.length) = cur.drop (o + (v :: r).length) := by
      rw [List.drop_set_of_lt (by omega), List.length_cons]; congr 1; omega
    rw [e1, e2]; simp
/-- A slice of which the array came of a string. -/
def Sm (sz : Nat) (v : Value) (n : Nat) (xs : List Value) (B : Mem) : Prop :=
  ∃ (b o cap : Nat) (cs : List Value) (e : TypeId) (fr : Nat × Nat), v = .slice (some ⟨b, o, none⟩) n cap ∧ B = [(b, .cells cs.toArray e fr)] ∧ cs.length ≤ fr.1 ∧ n ≤ cap ∧ cap ≤ maxLen ∧ o + cap * sz ≤ cs.length ∧ xs.length = n * sz ∧ (∀ j u, xs[j]? = some u → cs[o + j]? = some u)
def Sx (sz : Nat) (v : Value) (n : Nat) (xs : List Value) (B : Mem) : Prop := Sl sz v n xs B ∨ Sm sz v n xs B
theorem Sm.rd {R B : Mem} {sz : Nat} {v : Value} {n : Nat} {xs : List Value} (h : Sm sz v n xs B) (hR : ∀ x, x ∈ B → x ∈ R) : Rd R sz v n xs := by
  obtain ⟨b, o, cap, cs, e, fr, rfl, rfl, h0, h1, h2, h3, h4, h5⟩ := h
  exact ⟨_, _, rfl, h4, h1, .inr ⟨b, o, cs, e, fr, rfl, hR _ (List.mem_singleton.2 rfl), h5⟩⟩
theorem Sx.rd {R B : Mem} {sz : Nat} {v : Value} {n : Nat} {xs : List Value} (h : Sx sz v n xs B) (hR : ∀ x, x ∈ B → x ∈ R) : Rd R sz v n xs := h.elim (fun h => h.rd hR) (fun h => h.rd hR)
theorem Sx.cel {B : Mem} {sz : Nat} {v : Value} {n : Nat} {xs : List Value} (h : Sx sz v n xs B) : Cel v [v] := (h.rd (R := B) fun _ h => h).cel
section
variable {C : Cx} {l : Env} {M J : Mem} {K : Env → Mem → Mem → Prop} {d : Nat} {s t e ty : TypeId} {pos : String} {af : Array Edge} {g : Option (Nat × Bool)} {x y : Operand} {ws : List Nat} {S : ByteArray}
theorem l_appendM {sz by_ n m : Nat} {v u : Value} {xs ys : List Value} {B M0 : Mem} (hx : ev l x = some v) (hy : ev l y = some u) (ht : elemT C.P t = some (e, sz, by_)) (hsz : Nat.blt 0 sz = true)
    (hs : Sm sz v n xs B) (hr : Rd (M ++ (J ++ C.A)) sz u m ys) (h1c : ∀ c ∈ ys, c.oneCell' = true) (hM : M.Perm (B ++ M0)) (hmax : n + m ≤ maxLen) (hbytes : (n + m) * by_ ≤ 140737488355328) (hd : Nat.blt d C.N = true)
    (k : ∀ v' B', Sx sz v' (n + m) (xs ++ ys) B' → K ((d, v') :: l) (B' ++ M0) J) :
    OpL C ⟨some d, .call { callee := .builtin .append, args := #[x, y], argTypes := #[t, t] }, ty, pos, af, g⟩ l M J K := by
  obtain ⟨b, o, cap, cs, e', fr, rfl, rfl, h0, h1, h2, h3, h4, h5⟩ := hs
  by_cases hroom : n + m ≤ cap
  · intro Qp a w ha hw
    obtain ⟨i, z, hu, hi, hz, hzs, his, hib⟩ := elemT_spec ht
    have hru := hr
    obtain ⟨pu, cu, rfl, hul, huc, hub⟩ := hr
    subst his; subst hib
    by_cases hm : m = 0
    · subst hm
      have hys : ys = [] := List.eq_nil_of_length_eq_zero (by simpa using hul)
      subst hys
      have hf := first_rd (P := C.P) (m := 0) (c2 := cu) hru hw.fx
      have hexec : (execOp a.eval ⟨some d, .call { callee := .builtin .append, args := #[x, y], argTypes := #[t, t] }, ty, pos, af, g⟩).run C.P w = .ok (.value (.slice (some ⟨b, o, none⟩) n cap)) w := by
        simp [execOp, resolve, invoke, builtin, ha.ev hx, ha.ev hy, Builtin.append_, run_underlying hu, sizeOf, typeInfo, hi, Builtin.lenOf, hf, storeCells, h1]
      unfold Oper.wp
      rw [hexec]
      exact ⟨_, _, J, ha.put (blt_lt hd) _, hw.perm hM, k _ _ (.inr ⟨b, o, cap, cs, e', fr, rfl, rfl, h0, h1, h2, h3, by simpa using h4, by simpa using h5⟩)⟩
    · obtain ⟨bu, ou, csu, eu, fru, rfl, hbu, hxu⟩ : ∃ (b o : Nat) (cs : List Value) (e : TypeId) (fr : Nat × Nat), pu = some ⟨b, o, none⟩ ∧ (b, Obj.cells cs.toArray e fr) ∈ M ++ (J ++ C.A) ∧ ∀ j u, ys[j]? = some u → cs[o + j]? = some u := by
        rcases hub with h | h
        · exact absurd h hm
        · exact h
      have hnews : ∀ j u, ys[j]? = some u → w.cell? ((⟨bu, ou, none⟩ : Addr).add j) = some u := fun j u hj => by rw [Addr.add_mid, cell_fx hw.fx hbu]; simpa using hxu j u hj
      have hb : w.heap[b]? = some (.cells cs.toArray e' fr) := hw.fx b _ (List.mem_append_left _ (hM.mem_iff.2 (List.mem_cons_self)))
      have hfc := run_firstCells_some (P := C.P) w i.size m ⟨bu, ou, none⟩ m cu ys hul hnews
      have hfit : o + n * i.size + ys.length ≤ cs.length := by
        have : n * i.size + ys.length ≤ cap * i.size := by rw [hul, ← Nat.add_mul]; exact Nat.mul_le_mul_right _ hroom
        omega
      have hst := run_storeCells_cells (P := C.P) b (o + n * i.size) ys 0 w (fun j hj => by rw [cell_of_row w b _ cs.toArray e' fr hb]; simp; omega) (fun j hj => by simp [World.frozen?, hb]; omega) h1c
      simp only [Nat.add_zero] at hst
      rw [setCells_row b e' fr ys (o + n * i.size) cs w hb hfit] at hst
      have hexec : (execOp a.eval ⟨some d, .call { callee := .builtin .append, args := #[x, y], argTypes := #[t, t] }, ty, pos, af, g⟩).run C.P w = .ok (.value (.slice (some ⟨b, o, none⟩) (n + m) cap)) (w.setRow b (cs.take (o + n * i.size) ++ ys ++ cs.drop (o + n * i.size + ys.length)).toArray) := by
        simp [execOp, resolve, invoke, builtin, ha.ev hx, ha.ev hy, Builtin.append_, run_underlying hu, sizeOf, typeInfo, hi, Builtin.lenOf, hroom, hfc, Addr.add_mid, hst]
      unfold Oper.wp
      rw [hexec]
      refine ⟨_, [(b, Obj.cells (cs.take (o + n * i.size) ++ ys ++ cs.drop (o + n * i.size + ys.length)).toArray e' fr)] ++ M0, J, ha.put (blt_lt hd) _, (hw.perm hM).setRow (M' := [(b, Obj.cells (cs.take (o + n * i.size) ++ ys ++ cs.drop (o + n * i.size + ys.length)).toArray e' fr)] ++ M0) (cur := cs.toArray) (cs := (cs.take (o + n * i.size) ++ ys ++ cs.drop (o + n * i.size + ys.length)).toArray) (b := b) (e := e') (fr := fr) Upd.hd, k _ _ (.inr ⟨b, o, cap, _, e', fr, rfl, rfl, ?_, hroom, h2, ?_, ?_, ?_⟩)⟩
      · simp only [List.length_append, List.length_take, List.length_drop]; omega
      · simp only [List.length_append, List.length_take, List.length_drop]; omega
      · simp [h4, hul, Nat.add_mul]
      · intro j q hj
        by_cases hjx : j < xs.length
        · rw [List.getElem?_append_left hjx] at hj
          rw [List.append_assoc, List.getElem?_append_left (by simp; omega), List.getElem?_take_of_lt (by omega)]
          exact h5 j q hj
        · rw [List.getElem?_append_right (by omega)] at hj
          have hlt := (List.getElem?_eq_some_iff.1 hj).1
          have hln : (cs.take (o + n * i.size)).length = o + n * i.size := by simp; omega
          rw [List.append_assoc, List.getElem?_append_right (by omega), List.getElem?_append_left (by omega), hln, ← hj]
          congr 1
          omega
  · intro Qp a w ha hw
    obtain ⟨i, z, hu, hi, hz, hzs, his, hib⟩ := elemT_spec ht
    obtain ⟨pu, cu, rfl, hul, huc, hub⟩ := hr
    subst his; subst hib
    have hm : m ≠ 0 := by omega
    obtain ⟨bu, ou, csu, eu, fru, rfl, hbu, hxu⟩ : ∃ (b o : Nat) (cs : List Value) (e : TypeId) (fr : Nat × Nat), pu = some ⟨b, o, none⟩ ∧ (b, Obj.cells cs.toArray e fr) ∈ M ++ (J ++ C.A) ∧ ∀ j u, ys[j]? = some u → cs[o + j]? = some u := by
      rcases hub with h | h
      · exact absurd h hm
      · exact h
    have hnews : ∀ j u, ys[j]? = some u → w.cell? ((⟨bu, ou, none⟩ : Addr).add j) = some u := fun j u hj => by rw [Addr.add_mid, cell_fx hw.fx hbu]; simpa using hxu j u hj
    have hb : w.heap[b]? = some (.cells cs.toArray e' fr) := hw.fx b _ (List.mem_append_left _ (hM.mem_iff.2 (List.mem_cons_self)))
    have hge := grownCap_ge w (n + m) cap e
    have hcm : grownCap w (n + m) cap e ≤ maxLen := grownCap_le_maxLen w (n + m) cap e hmax
    have hsmall : n + m ≤ 9223372036854775807 := by simp only [maxLen] at hmax; omega
    have hrg := run_append_grow (P := C.P) w t ty e i z hu hi hz ⟨b, o, none⟩ n cap xs h4 (fun j q hj => by rw [Addr.add_mid, cell_of_row w b _ cs.toArray e' fr hb]; simpa using h5 j q hj) ⟨bu, ou, none⟩ m cu ys hul hnews (by omega) (by omega) (growslice_fits (by omega) hbytes)
    have hexec : (execOp a.eval ⟨some d, .call { callee := .builtin .append, args := #[x, y], argTypes := #[t, t] }, ty, pos, af, g⟩).run C.P w = .ok (.value (.slice (some ⟨w.heap.size, 0, none⟩) (n + m) (grownCap w (n + m) cap e))) (w.drew.alloc (.cells (xs.toArray ++ ys.toArray ++ Builtin.zeroCells z.cells (grownCap w (n + m) cap e - (n + m))) e (0, 0))) := by
      simp [execOp, resolve, invoke, builtin, ha.ev hx, ha.ev hy, hrg]
    unfold Oper.wp
    rw [hexec]
    have hsl : Sl i.size (.slice (some ⟨w.heap.size, 0, none⟩) (n + m) (grownCap w (n + m) cap e)) (n + m) (xs ++ ys) [(w.heap.size, .cells (xs.toArray ++ ys.toArray ++ Builtin.zeroCells z.cells (grownCap w (n + m) cap e - (n + m))) e (0, 0))] := by
      refine .inr ⟨w.heap.size, 0, _, (xs.toArray ++ ys.toArray ++ Builtin.zeroCells z.cells (grownCap w (n + m) cap e - (n + m))).toList, e, rfl, by simp [blk], hge, hcm, ?_, ?_, ?_⟩
      · simp only [Array.length_toList, Array.size_append, List.size_toArray, size_zeroCells, hzs, h4, hul, ← Nat.add_mul, Nat.zero_add]
        refine Nat.mul_le_mul_right _ ?_
        omega
      · simp [h4, hul, Nat.add_mul]
      · intro j u hj
        have hlt : j < (xs ++ ys).length := (List.getElem?_eq_some_iff.1 hj).1
        rw [Nat.zero_add]
        simp only [Array.toList_append, List.append_assoc]
        rw [← List.append_assoc, List.getElem?_append_left (by simpa using hlt)]
        exact hj
    generalize (Obj.cells (xs.toArray ++ ys.toArray ++ Builtin.zeroCells z.cells (grownCap w (n + m) cap e - (n + m))) e (0, 0)) = O at hsl ⊢
    have h2 : St C ((w.heap.size, O) :: M) J (w.drew.alloc O) := St.alloc (w := w.drew) hw.drew O
    have h3 := h2.perm (M' := (w.heap.size, O) :: ([(b, .cells cs.toArray e' fr)] ++ M0)) (List.Perm.cons _ hM)
    exact ⟨_, [(w.heap.size, O)] ++ M0, J, ha.put (blt_lt hd) _, h3.drop (List.Sublist.cons_cons _ (List.sublist_append_right _ M0)) (fun _ h => h), k _ _ (.inl hsl)⟩
theorem l_appendX {sz by_ n m : Nat} {v u : Value} {xs ys : List Value} {B M0 : Mem} (hx : ev l x = some v) (hy : ev l y = some u) (ht : elemT C.P t = some (e, sz, by_)) (hsz : Nat.blt 0 sz = true)
    (hs : Sx sz v n xs B) (hr : Rd (M ++ (J ++ C.A)) sz u m ys) (h1c : ∀ c ∈ ys, c.oneCell' = true) (hM : M.Perm (B ++ M0)) (hmax : n + m ≤ maxLen) (hbytes : (n + m) * by_ ≤ 140737488355328) (hd : Nat.blt d C.N = true)
    (k : ∀ v' B', Sx sz v' (n + m) (xs ++ ys) B' → K ((d, v') :: l) (B' ++ M0) J) :
    OpL C ⟨some d, .call { callee := .builtin .append, args := #[x, y], argTypes := #[t, t] }, ty, pos, af, g⟩ l M J K := by
  rcases hs with hs | hs
  · exact l_append hx hy ht hsz hs hr h1c hM hmax hbytes hd fun v' B' h => k v' B' (.inl h)
  · exact l_appendM hx hy ht hsz hs hr h1c hM hmax hbytes hd k
theorem l_toBytesX (hx : ev l x = some (.string S)) (hS : S = txt ws) (h256 : ∀ x ∈ ws, x < 256) (hs : C.P.underlying s = some .string) (ht : C.P.underlying t = some (.slice e)) (he : C.P.underlying e = some (.int .u8)) (hl : ws.length ≤ maxLen) (hd : Nat.blt d C.N = true)
    (k : ∀ v B, Sx 1 v ws.length (nums .u8 ws) B → K ((d, v) :: l) (B ++ M) J) : OpL C ⟨some d, .convert s t x, ty, pos, af, g⟩ l M J K := by
  subst hS
  intro Qp a w ha hw
  unfold Oper.wp
  simp only [execOp, ha.ev hx, Sem.run_bind, Lib.run_convert_string_bytes w s t e (txt ws) hs ht he, Result.andThen_ok, Sem.run_pure]
  have hsz : (txt ws).size = ws.length := txt_size' ws
  have e1 : Lib.bytesWorld w e (txt ws) = w.drew.alloc (.cells (Lib.bytesCells w e (txt ws)) e ((Lib.bytesCells w e (txt ws)).size, (Lib.bytesCells w e (txt ws)).size + 1)) := by
    have hh : (Lib.bytesWorld w e (txt ws)).heap = (w.drew.alloc (.cells (Lib.bytesCells w e (txt ws)) e ((Lib.bytesCells w e (txt ws)).size, (Lib.bytesCells w e (txt ws)).size + 1))).heap := by
      apply Array.ext_getElem?
      intro i
      rcases Nat.lt_trichotomy i w.heap.size with h | h | h
      · rw [Lib.bytesWorld_at_old w e _ i h]; simp [World.alloc, World.drew, Array.getElem?_push, -World.alloc_eq, -World.drew_eq]; omega
      · subst h; rw [Lib.bytesWorld_at_new]; simp [World.alloc, World.drew, -World.alloc_eq, -World.drew_eq]
      · rw [Array.getElem?_eq_none (by rw [Lib.bytesWorld_size]; omega), Array.getElem?_eq_none (by simp [World.alloc, World.drew, -World.alloc_eq, -World.drew_eq]; omega)]
    have : Lib.bytesWorld w e (txt ws) = { w.drew with heap := (Lib.bytesWorld w e (txt ws)).heap } := rfl
    rw [this, hh]; rfl
  rw [e1]
  have hg : ws.length ≤ grownCap w (txt ws).size 0 e := hsz ▸ grownCap_ge w (txt ws).size 0 e
  have hc : grownCap w (txt ws).size 0 e ≤ maxLen := grownCap_le_maxLen w (txt ws).size 0 e (by rw [hsz]; exact hl)
  have hcs : (Lib.bytesCells w e (txt ws)).size = grownCap w (txt ws).size 0 e := by
    have hg2 : (txt ws).size ≤ grownCap w (txt ws).size 0 e := grownCap_ge w (txt ws).size 0 e
    unfold Lib.bytesCells
    simp
    omega
  refine ⟨_, _, J, ha.put (blt_lt hd) _, hw.drew.alloc _, k _ [(_, _)] (.inr ⟨w.heap.size, 0, grownCap w (txt ws).size 0 e, (Lib.bytesCells w e (txt ws)).toList, e, _, by rw [hsz], rfl, by simp, hg, hc, by simp [hcs], by simp, fun j u hj => ?_⟩)⟩
  have hjl : j < ws.length := by have := (List.getElem?_eq_some_iff.1 hj).1; simpa using this
  rw [nums_get hjl] at hj
  cases hj
  have h1 := getD_lt (i := j) h256 (by decide)
  rw [Nat.zero_add, Array.getElem?_toList]
  unfold Lib.bytesCells
  rw [Array.getElem?_append_left (by simpa [txt] using hjl)]
  simp [txt, hjl, List.getD]
  have : ws[j]?.getD 0 < 256 := h1
  rw [List.getElem?_eq_getElem hjl] at this
  simp at this
  omega
end
end Go.Px

/- The walks of pawlref02's prime, roots, turn. -/
set_option linter.unusedVariables false
set_option linter.unusedSimpArgs false
namespace Go.Proofs.YtcfdeohjhhpmcaaDoor
open Go.Px

set_option maxRecDepth 100000 in
theorem prime_spec (n : Nat) (hn : n < 4611686018427387904) (A : Mem) : FnV Tryd.prog 82 [.int .i64 (n : Int)] A (.bool (isPr n)) := by
  refine FnX.enter (N := 15) Tryd.func82 rfl rfl rfl fun w => ?_
  refine XC.keep (kp 0 rfl kn) ?_
  refine XC.reg ?_
  refine XL.q (q_assign rfl) rfl ?_
  refine XL.fin (kp 0 rfl kn) ?_
  refine XC.seq ?_
  refine XC.reg ?_
  refine XL.q (q_assign rfl) rfl ?_
  refine XL.fin (kp 0 rfl (kp 3 rfl kn)) ?_
  refine XC.block ?_
  refine XC.loop (α := Nat) (fun i => [(0, .int .i64 (n : Int)), (3, .int .i64 (i : Int))]) (fun _ => []) (fun _ => []) (fun i => 2 ≤ i ∧ ∀ j, 2 ≤ j → j < i → n % j ≠ 0) (fun i => n - i) 2 ⟨Nat.le_refl _, fun j h1 h2 => by omega⟩ (kp 0 rfl (kp 3 rfl kn)) .rfl (fun _ h => h) ?_
  rintro i ⟨hi, hj⟩
  refine XC.seq ?_
  refine XC.reg ?_
  refine XL.q (q_move rfl) rfl ?_
  refine XL.q (q_move rfl) rfl ?_
  refine XL.q (q_bin rfl rfl rfl) rfl ?_
  refine XL.fin (kp 0 rfl (kp 3 rfl (kp 6 rfl kn))) ?_
  refine XC.cond rfl (fun hc => ?_) (fun hc => ?_)
  ·
    have hlt : i < n := by simp at hc; omega
    refine XC.skip ?_
    refine nx (kp 0 rfl (kp 3 rfl kn)) ?_
    refine XC.seq ?_
    refine XC.block ?_
    refine XC.reg ?_
    refine XL.q (q_move rfl) rfl ?_
    refine XL.q (q_move rfl) rfl ?_
    refine XL.q (q_remN rfl rfl (by omega)) rfl ?_
    refine XL.q (q_bin rfl rfl rfl) rfl ?_
    refine XL.fin (kp 0 rfl (kp 3 rfl (kp 12 rfl kn))) ?_
    refine XC.cond rfl (fun hc => ?_) (fun hc => ?_)
    ·
      have h0 : n % i = 0 := by simp at hc; omega
      refine XC.reg ?_
      refine XL.q (q_assign rfl) rfl ?_
      refine XL.fin (kp 2 rfl kn) ?_
      refine XC.ret ?_
      refine br ?_
      refine tr ?_
      refine rr ?_
      refine br ?_
      refine tr ?_
      exact ⟨_, [], [], res1 rfl rfl, List.nil_sublist _, by simp, by rw [isPr_no hi hlt h0], rfl, rfl⟩
    ·
      have h0 : n % i ≠ 0 := by simp at hc; omega
      refine XC.skip ?_
      refine nb ?_
      refine nx (kp 0 rfl (kp 3 rfl kn)) ?_
      refine XC.reg1 ?_
      refine XL.q (q_move rfl) rfl ?_
      refine XL.q (q_num ((i + 1 : Nat) : Int) rfl rfl (add64 (by omega) (by omega) (by omega))) rfl ?_
      refine XL.q (q_assign rfl) rfl ?_
      refine XL.nil ?_
      refine rn (i + 1) ⟨by omega, fun j h1 h2 => ?_⟩ (by omega) (kp 0 rfl (kp 3 rfl kn)) .rfl (fun _ h => h)
      by_cases hji : j = i
      · subst hji; exact h0
      · exact hj j h1 (by omega)
  ·
    have hlt : n ≤ i := by simp at hc; omega
    refine XC.exit ?_
    refine te ?_
    refine re ?_
    refine be rfl ?_
    refine nx (kp 0 rfl kn) ?_
    refine XC.reg ?_
    refine XL.q (q_move rfl) rfl ?_
    refine XL.q (q_bin rfl rfl rfl) rfl ?_
    refine XL.q (q_assign rfl) rfl ?_
    refine XL.fin (kp 2 rfl kn) ?_
    refine XC.ret ?_
    exact ⟨_, [], [], res1 rfl rfl, List.nil_sublist _, by simp, by rw [isPr_yes fun j h1 h2 => hj j h1 (by omega)]; congr 1; simp; omega, rfl, rfl⟩

set_option maxRecDepth 100000 in
theorem turn_spec (x n : Nat) (k : Int) (A : Mem) (hx : x < 4294967296) (hn : n < 32) (hk : k = n) : FnV Tryd.prog 59 [.int .u32 (x : Int), .int .i64 k] A (.int .u32 (rotr x n : Nat)) := by
  refine FnX.enter (N := 13) Tryd.func59 rfl rfl rfl fun w => ?_
  refine XC.keep (kp 0 rfl (kp 1 rfl kn)) ?_
  refine XC.reg ?_
  refine XL.q (q_assign rfl) rfl ?_
  refine XL.fin (kp 0 rfl (kp 1 rfl kn)) ?_
  refine XC.draw ([]) [] [(0, 0), (1, 0), (2, 0), (3, 0), (4, 0), (5, 0), (6, 0), (7, 0), (8, 0)] (by kernel_rfl) (by kernel_rfl) (by simp) fun hs => ?_
  refine XP.q hs rfl (q_move rfl) rfl ?_
  refine XP.q hs rfl (q_move rfl) rfl ?_
  refine XP.q hs rfl (q_shrN n rfl rfl hk (by show n ≤ 32; omega)) rfl ?_
  refine XP.q hs rfl (q_move rfl) rfl ?_
  refine XP.q hs rfl (q_move rfl) rfl ?_
  refine XP.q hs rfl (q_num ((32 - n : Nat) : Int) rfl rfl (sub64 (by omega) (by omega) (by omega))) rfl ?_
  refine XP.q hs rfl (q_shl32 (32 - n) rfl rfl rfl (by omega)) rfl ?_
  refine XP.q hs rfl (q_or32 rfl rfl (shr32 hx) mod32) rfl ?_
  refine XP.q hs rfl (q_assign rfl) rfl ?_
  refine XP.fin (kp 4 rfl kn) ?_
  refine XC.ret ?_
  exact ⟨_, [], [], res1 rfl rfl, List.nil_sublist _, by simp, rfl, rfl, rfl⟩

set_option maxRecDepth 100000 in
theorem roots_spec (many k : Nat) (hk1 : 1 ≤ k) (hk3 : k ≤ 3) (hm : many ≤ 64) (A : Mem) : FnX Tryd.prog 58 [.int .i64 (many : Int), .int .i64 (k : Int)] [] A fun r M J => J = [] ∧ Sl 1 r many (nums .u32 ((rl k 312).take many)) M := by
  refine FnX.enter (N := 62) Tryd.func58 rfl rfl rfl fun w => ?_
  refine XC.keep (kp 0 rfl (kp 1 rfl kn)) ?_
  refine XC.reg ?_
  refine XL.q (q_assign rfl) rfl ?_
  refine XL.fin (kp 0 rfl (kp 1 rfl kn)) ?_
  refine XC.reg ?_
  refine XL.q (q_assign rfl) rfl ?_
  refine XL.fin (kp 0 rfl (kp 1 rfl (kp 5 rfl kn))) ?_
  refine XC.seq ?_
  refine XC.reg ?_
  refine XL.q (q_assign rfl) rfl ?_
  refine XL.fin (kp 0 rfl (kp 1 rfl (kp 5 rfl (kp 6 rfl kn)))) ?_
  refine XC.block ?_
  refine XC.loop (α := Nat × Value × Mem) (fun x => [(0, .int .i64 (many : Int)), (1, .int .i64 (k : Int)), (5, x.2.1), (6, .int .i64 (x.1 : Int))]) (fun x => x.2.2) (fun _ => []) (fun x => 2 ≤ x.1 ∧ x.1 ≤ 312 ∧ (rl k x.1).length ≤ many ∧ Sl 1 x.2.1 (rl k x.1).length (nums .u32 (rl k x.1)) x.2.2) (fun x => 312 - x.1) (2, .slice none 0 0, []) ⟨Nat.le_refl _, by decide, Nat.zero_le _, Sl.nil⟩ (kp 0 rfl (kp 1 rfl (kp 5 rfl (kp 6 rfl kn)))) .rfl (fun _ h => h) ?_
  rintro ⟨p, lv, Bl⟩ ⟨hp2, hp, hlen, hsl⟩
  dsimp only at hp2 hp hlen hsl ⊢
  refine XC.seq ?_
  refine XC.reg ?_
  refine XL.q (q_move rfl) rfl ?_
  refine XL.q (q_lenV (hsl.rd fun _ h => h) rfl (by kernel_rfl)) rfl ?_
  refine XL.q (q_move rfl) rfl ?_
  refine XL.q (q_bin rfl rfl rfl) rfl ?_
  refine XL.fin (kp 0 rfl (kp 1 rfl (kp 5 rfl (kp 6 rfl (kp 16 rfl kn))))) ?_
  refine XC.cond rfl (fun hc => ?_) (fun hc => ?_)
  ·
    have hlt : (rl k p).length < many := by simp at hc; omega
    have hp312 : p < 312 := by
      rcases Nat.lt_or_ge p 312 with h | h
      · exact h
      · obtain rfl : p = 312 := by omega
        rw [rl_count] at hlt; omega
    refine XC.skip ?_
    refine nx (kp 0 rfl (kp 1 rfl (kp 5 rfl (kp 6 rfl kn)))) ?_
    refine XC.seq ?_
    refine XC.block ?_
    refine XC.seq ?_
    refine XC.reg ?_
    refine XL.q (q_move rfl) rfl ?_
    refine XL.cv (aS rfl a0) (by kernel_rfl) (prime_spec p (by omega) _) rfl ?_
    refine XL.q (q_not rfl) rfl ?_
    refine XL.fin (kp 0 rfl (kp 1 rfl (kp 5 rfl (kp 6 rfl (kp 21 rfl kn))))) ?_
    refine XC.cond rfl (fun hc => ?_) (fun hc => ?_)
    ·
      have hpr : isPr p = false := by simpa using hc
      refine XC.exit ?_
      refine te ?_
      refine be rfl ?_
      refine nx (kp 0 rfl (kp 1 rfl (kp 5 rfl (kp 6 rfl kn)))) ?_
      refine XC.reg1 ?_
      refine XL.q (q_move rfl) rfl ?_
      refine XL.q (q_num ((p + 1 : Nat) : Int) rfl rfl (add64 (by omega) (by omega) (by omega))) rfl ?_
      refine XL.q (q_assign rfl) rfl ?_
      refine XL.nil ?_
      refine rn (p + 1, lv, Bl) ⟨by dsimp only; omega, by dsimp only; omega, by dsimp only; rw [rl_no hpr]; exact hlen, by dsimp only; rw [rl_no hpr]; exact hsl⟩ (by dsimp only; omega) (kp 0 rfl (kp 1 rfl (kp 5 rfl (kp 6 rfl kn)))) .rfl (fun _ h => h)
    ·
      have hpr : isPr p = true := by simpa using hc
      refine XC.skip ?_
      refine nx (kp 0 rfl (kp 1 rfl (kp 5 rfl (kp 6 rfl kn)))) ?_
      refine XC.reg ?_
      refine XL.q (q_move rfl) rfl ?_
      refine XL.q (q_num ((k + 1 : Nat) : Int) rfl rfl (add64 (by omega) (by omega) (by omega))) rfl ?_
      refine XL.lo rfl (l_makeN (e := 49) (k := .u32) (by_ := 4) (k + 1) rfl rfl (by kernel_rfl) rfl rfl (by omega) (by omega) rfl fun bn => ?_)
      refine XL.q (q_assign rfl) rfl ?_
      refine XL.fin (kp 0 rfl (kp 1 rfl (kp 5 rfl (kp 6 rfl (kp 7 rfl kn))))) ?_
      refine XC.reg ?_
      refine XL.q (q_move rfl) rfl ?_
      refine XL.q (q_move rfl) rfl ?_
      refine XL.q (q_move rfl) rfl ?_
      refine XL.q (q_same (k' := .u32) rfl (by kernel_rfl) (by show _ < 2147483648; omega)) rfl ?_
      refine XL.q (q_idxS (i := k) (e := 49) (sz := 1) rfl rfl (by kernel_rfl) (by kernel_rfl) rfl (by omega)) rfl ?_
      refine XL.lo rfl (l_stN (ws := List.replicate (k + 1) 0) k rfl rfl (by kernel_rfl) (by omega) (by simp) UpC.upd ?_)
      have hnw : Rd [(bn, blk (nums .u32 ((List.replicate (k + 1) 0).set k p)) 49)] 1 (.slice (some ⟨bn, 0, none⟩) (k + 1) (k + 1)) ((List.replicate (k + 1) 0).set k p).length (nums .u32 ((List.replicate (k + 1) 0).set k p)) := rd_eq (Rd.whole (n := k + 1) (List.mem_singleton.2 rfl) (by simp)) (by simp) rfl
      have hnn : nv ((List.replicate (k + 1) 0).set k p) = p * xp k := by
        have := nv_set (ws := List.replicate (k + 1) 0) (j := k) (x := p) (by simp)
        rw [nv_repl] at this
        simp at this
        rw [this, Nat.mul_comm]
      have hn32 : w32 ((List.replicate (k + 1) 0).set k p) := (w32_repl _).set (by omega)
      have hnl : ((List.replicate (k + 1) 0).set k p).length ≤ 4 := by simp; omega
      generalize (List.replicate (k + 1) 0).set k p = nws at *
      generalize hsv : (Value.slice (some ⟨bn, 0, none⟩) (k + 1) (k + 1)) = nval at *
      refine XL.fin (kp 0 rfl (kp 1 rfl (kp 5 rfl (kp 6 rfl (kp 7 rfl kn))))) ?_
      refine XC.reg ?_
      refine XL.q (q_assign rfl) rfl ?_
      refine XL.fin (kp 0 rfl (kp 1 rfl (kp 5 rfl (kp 6 rfl (kp 7 rfl (kp 8 rfl kn)))))) ?_
      refine XC.seq ?_
      refine XC.reg ?_
      refine XL.q (q_assign rfl) rfl ?_
      refine XL.fin (kp 0 rfl (kp 1 rfl (kp 5 rfl (kp 6 rfl (kp 7 rfl (kp 8 rfl (kp 9 rfl kn))))))) ?_
      refine XC.block ?_
      refine XC.loop (α := Nat × Nat) (fun x => [(0, .int .i64 (many : Int)), (1, .int .i64 (k : Int)), (5, lv), (6, .int .i64 (p : Int)), (7, nval), (8, .int .u64 (x.2 : Int)), (9, .int .i64 ((x.1 : Int) - 1))]) (fun _ => (bn, blk (nums .u32 nws) 49) :: Bl) (fun _ => []) (fun x => x.1 ≤ 40 ∧ x.2 + 2 ^ x.1 ≤ 1099511627776 ∧ rootD k p x.1 x.2 = rootD k p 40 0) (fun x => x.1) (40, 0) ⟨by decide, by decide, rfl⟩ (kp 0 rfl (kp 1 rfl (kp 5 rfl (kp 6 rfl (kp 7 rfl (kp 8 rfl (kp 9 rfl kn))))))) .rfl (fun _ h => h) ?_
      rintro ⟨j, lo⟩ ⟨hj, hlo, hrt⟩
      dsimp only at hj hlo hrt ⊢
      refine XC.seq ?_
      refine XC.reg ?_
      refine XL.q (q_move rfl) rfl ?_
      refine XL.q (q_bin rfl rfl rfl) rfl ?_
      refine XL.fin (kp 0 rfl (kp 1 rfl (kp 5 rfl (kp 6 rfl (kp 7 rfl (kp 8 rfl (kp 9 rfl (kp 31 rfl kn)))))))) ?_
      refine XC.cond rfl (fun hc => ?_) (fun hc => ?_)
      ·
        have hj0 : 0 < j := by simp at hc; omega
        have hpw : 2 ^ j = 2 * 2 ^ (j - 1) := by rw [← Nat.pow_succ', show (j - 1).succ = j by omega]
        refine XC.skip ?_
        refine nx (kp 0 rfl (kp 1 rfl (kp 5 rfl (kp 6 rfl (kp 7 rfl (kp 8 rfl (kp 9 rfl kn))))))) ?_
        refine XC.seq ?_
        refine XC.block ?_
        refine XC.reg ?_
        refine XL.q (q_move rfl) rfl ?_
        refine XL.q (q_move rfl) rfl ?_
        refine XL.q (q_shlN (a := 1) (k := .u64) rfl (j - 1) rfl rfl (by omega) (by show _ ≤ 64; omega)) rfl ?_
        refine XL.q (q_num ((lo + 2 ^ (j - 1) : Nat) : Int) rfl rfl (addU (k := .u64) rfl _ (add_shl (by omega) (by rw [show j - 1 + 1 = j by omega]; exact hlo)))) rfl ?_
        refine XL.lo rfl (l_call (Mc := []) (R := _ :: Bl) (aS rfl a0) (by kernel_rfl) (.refl _) (small_spec (lo + 2 ^ (j - 1)) (by omega) _) rfl ?_)
        rintro xv Bx J1 ⟨rfl, xs, hxs, hx32, hxn, hxl⟩
        refine XL.q (q_assign rfl) rfl ?_
        refine XL.fin (kp 0 rfl (kp 1 rfl (kp 5 rfl (kp 6 rfl (kp 7 rfl (kp 8 rfl (kp 9 rfl (kp 10 rfl kn)))))))) ?_
        refine XC.reg ?_
        refine XL.q (q_move rfl) rfl ?_
        refine XL.q (q_assign rfl) rfl ?_
        refine XL.fin (kp 0 rfl (kp 1 rfl (kp 5 rfl (kp 6 rfl (kp 7 rfl (kp 8 rfl (kp 9 rfl (kp 10 rfl (kp 11 rfl kn))))))))) ?_
        refine XC.seq ?_
        refine XC.reg ?_
        refine XL.q (q_assign rfl) rfl ?_
        refine XL.fin (kp 0 rfl (kp 1 rfl (kp 5 rfl (kp 6 rfl (kp 7 rfl (kp 8 rfl (kp 9 rfl (kp 10 rfl (kp 11 rfl (kp 12 rfl kn)))))))))) ?_
        refine XC.block ?_
        refine XC.loop (α := Nat × Value × List Nat × Mem) (fun x => [(0, .int .i64 (many : Int)), (1, .int .i64 (k : Int)), (5, lv), (6, .int .i64 (p : Int)), (7, nval), (8, .int .u64 (lo : Int)), (9, .int .i64 ((j : Int) - 1)), (10, xv), (11, x.2.1), (12, .int .i64 (x.1 : Int))]) (fun x => x.2.2.2 ++ (Bx ++ ((bn, blk (nums .u32 nws) 49) :: Bl))) (fun _ => []) (fun x => 1 ≤ x.1 ∧ x.1 ≤ k ∧ Rw (x.2.2.2 ++ Bx) x.2.1 x.2.2.1 ∧ w32 x.2.2.1 ∧ nv x.2.2.1 = (lo + 2 ^ (j - 1)) ^ x.1 ∧ x.2.2.1.length ≤ 2 * x.1) (fun x => k - x.1) (1, xv, xs, []) ⟨Nat.le_refl _, by dsimp only; omega, hxs.rd (fun _ h => h), hx32, by rw [hxn, Nat.pow_one], hxl⟩ (kp 0 rfl (kp 1 rfl (kp 5 rfl (kp 6 rfl (kp 7 rfl (kp 8 rfl (kp 9 rfl (kp 10 rfl (kp 11 rfl (kp 12 rfl kn)))))))))) .rfl (fun _ h => h) ?_
        rintro ⟨i, yv, ys, By⟩ ⟨hi1, hik, hy, hy32, hyn, hyl⟩
        dsimp only at hi1 hik hy hy32 hyn hyl ⊢
        refine XC.seq ?_
        refine XC.reg ?_
        refine XL.q (q_move rfl) rfl ?_
        refine XL.q (q_move rfl) rfl ?_
        refine XL.q (q_bin rfl rfl rfl) rfl ?_
        refine XL.fin (kp 0 rfl (kp 1 rfl (kp 5 rfl (kp 6 rfl (kp 7 rfl (kp 8 rfl (kp 9 rfl (kp 10 rfl (kp 11 rfl (kp 12 rfl (kp 42 rfl kn))))))))))) ?_
        refine XC.cond rfl (fun hc => ?_) (fun hc => ?_)
        ·
          have hlt2 : i < k := by simp at hc; omega
          refine XC.skip ?_
          refine nx (kp 0 rfl (kp 1 rfl (kp 5 rfl (kp 6 rfl (kp 7 rfl (kp 8 rfl (kp 9 rfl (kp 10 rfl (kp 11 rfl (kp 12 rfl kn)))))))))) ?_
          refine XC.seq ?_
          refine XC.block ?_
          refine XC.reg1 ?_
          refine XL.q (q_move rfl) rfl ?_
          refine XL.q (q_move rfl) rfl ?_
          refine XL.lo rfl (l_call (Mc := []) (R := By ++ (Bx ++ (_ :: Bl))) (aS rfl (aS rfl a0)) (by kernel_rfl) (.refl _) (times_spec yv xv ys xs _ (hy.mono fun q hq => by rcases List.mem_append.1 hq with h | h <;> simp [h]) (hxs.rd fun _ h => by simp [h]) hy32 hx32 (by omega) (by omega)) rfl ?_)
          rintro zv Bz J2 ⟨rfl, zs, hzs, hz32, hzn, hzl⟩
          refine XL.q (q_assign rfl) rfl ?_
          refine XL.nil ?_
          refine nb ?_
          refine nx (kp 0 rfl (kp 1 rfl (kp 5 rfl (kp 6 rfl (kp 7 rfl (kp 8 rfl (kp 9 rfl (kp 10 rfl (kp 11 rfl (kp 12 rfl kn)))))))))) ?_
          refine XC.reg1 ?_
          refine XL.q (q_move rfl) rfl ?_
          refine XL.q (q_num ((i + 1 : Nat) : Int) rfl rfl (add64 (by omega) (by omega) (by omega))) rfl ?_
          refine XL.q (q_assign rfl) rfl ?_
          refine XL.nil ?_
          refine rn (i + 1, zv, zs, Bz) ⟨by dsimp only; omega, by dsimp only; omega, hzs.rd (fun _ h => by simp [h]), hz32, ?_, by dsimp only; omega⟩ (by dsimp only; omega) (kp 0 rfl (kp 1 rfl (kp 5 rfl (kp 6 rfl (kp 7 rfl (kp 8 rfl (kp 9 rfl (kp 10 rfl (kp 11 rfl (kp 12 rfl kn)))))))))) (Fit.sub (List.Sublist.append (List.Sublist.refl _) (List.sublist_append_right _ _))) (fun _ h => h)
          dsimp only
          rw [hzn, hyn, hxn, Nat.pow_succ]
        ·
          have hlt2 : i = k := by simp at hc; omega
          subst hlt2
          refine XC.exit ?_
          refine te ?_
          refine re ?_
          refine be rfl ?_
          refine nx (kp 0 rfl (kp 1 rfl (kp 5 rfl (kp 6 rfl (kp 7 rfl (kp 8 rfl (kp 9 rfl (kp 11 rfl kn)))))))) ?_
          refine XC.reg ?_
          refine XL.q (q_move rfl) rfl ?_
          refine XL.q (q_move rfl) rfl ?_
          refine XL.lo rfl (l_call (Mc := []) (R := By ++ (Bx ++ (_ :: Bl))) (aS rfl (aS rfl a0)) (by kernel_rfl) (.refl _) (cmp_spec yv nval ys nws _ (hy.mono fun q hq => by rcases List.mem_append.1 hq with h | h <;> simp [h]) (hnw.mono fun q hq => by simp at hq; subst hq; simp) hy32 hn32 (by omega) (by omega)) rfl ?_)
          rintro cv M2 J2 ⟨rfl, rfl, cc, rfl, hcl, hcg⟩
          rw [hyn, hnn] at hcl hcg
          refine XL.q (q_bin rfl rfl rfl) rfl ?_
          refine XL.fin (kp 0 rfl (kp 1 rfl (kp 5 rfl (kp 6 rfl (kp 7 rfl (kp 8 rfl (kp 9 rfl (kp 51 rfl kn)))))))) ?_
          refine XC.cond rfl (fun hc => ?_) (fun hc => ?_)
          ·
            have hle : (lo + 2 ^ (j - 1)) ^ i ≤ p * xp i := by simp at hc; omega
            refine XC.reg1 ?_
            refine XL.q (q_move rfl) rfl ?_
            refine XL.q (q_move rfl) rfl ?_
            refine XL.q (q_shlN (a := 1) (k := .u64) rfl (j - 1) rfl rfl (by omega) (by show _ ≤ 64; omega)) rfl ?_
            refine XL.q (q_num ((lo + 2 ^ (j - 1) : Nat) : Int) rfl rfl (addU (k := .u64) rfl _ (add_shl (by omega) (by rw [show j - 1 + 1 = j by omega]; exact hlo)))) rfl ?_
            refine XL.q (q_assign rfl) rfl ?_
            refine XL.nil ?_
            refine nb ?_
            refine nx (kp 0 rfl (kp 1 rfl (kp 5 rfl (kp 6 rfl (kp 7 rfl (kp 8 rfl (kp 9 rfl kn))))))) ?_
            refine XC.reg1 ?_
            refine XL.q (q_move rfl) rfl ?_
            refine XL.q (q_num (((j - 1 : Nat) : Int) - 1) rfl rfl (sub64 (by omega) (by omega) (by omega))) rfl ?_
            refine XL.q (q_assign rfl) rfl ?_
            refine XL.nil ?_
            refine rn (j - 1, lo + 2 ^ (j - 1)) ⟨by dsimp only; omega, ?_, ?_⟩ (by dsimp only; omega) (kp 0 rfl (kp 1 rfl (kp 5 rfl (kp 6 rfl (kp 7 rfl (kp 8 rfl (kp 9 rfl kn))))))) (Fit.sub ((List.sublist_append_right _ _).trans (List.sublist_append_right _ _))) (fun _ h => h)
            · dsimp only; omega
            · rw [← hrt]
              obtain ⟨j', rfl⟩ : ∃ j', j = j' + 1 := ⟨j - 1, by omega⟩
              simp only [Nat.add_sub_cancel] at hle ⊢
              rw [rootD, rootStep, if_pos hle]
          ·
            have hle : ¬ (lo + 2 ^ (j - 1)) ^ i ≤ p * xp i := by simp at hc; omega
            refine XC.skip ?_
            refine nb ?_
            refine nx (kp 0 rfl (kp 1 rfl (kp 5 rfl (kp 6 rfl (kp 7 rfl (kp 8 rfl (kp 9 rfl kn))))))) ?_
            refine XC.reg1 ?_
            refine XL.q (q_move rfl) rfl ?_
            refine XL.q (q_num (((j - 1 : Nat) : Int) - 1) rfl rfl (sub64 (by omega) (by omega) (by omega))) rfl ?_
            refine XL.q (q_assign rfl) rfl ?_
            refine XL.nil ?_
            refine rn (j - 1, lo) ⟨by dsimp only; omega, ?_, ?_⟩ (by dsimp only; omega) (kp 0 rfl (kp 1 rfl (kp 5 rfl (kp 6 rfl (kp 7 rfl (kp 8 rfl (kp 9 rfl kn))))))) (Fit.sub ((List.sublist_append_right _ _).trans (List.sublist_append_right _ _))) (fun _ h => h)
            · dsimp only; omega
            · rw [← hrt]
              obtain ⟨j', rfl⟩ : ∃ j', j = j' + 1 := ⟨j - 1, by omega⟩
              simp only [Nat.add_sub_cancel] at hle ⊢
              rw [rootD, rootStep, if_neg hle]
      ·
        have hj0 : j = 0 := by simp at hc; omega
        subst hj0
        refine XC.exit ?_
        refine te ?_
        refine re ?_
        refine be rfl ?_
        refine nx (kp 0 rfl (kp 1 rfl (kp 5 rfl (kp 6 rfl (kp 8 rfl kn))))) ?_
        refine XC.reg1 ?_
        refine XL.q (q_move rfl) rfl ?_
        refine XL.q (q_move rfl) rfl ?_
        refine XL.q (q_to32 rfl (by kernel_rfl)) rfl ?_
        refine XL.lo rfl (l_buildSlice (e := 49) (sz := 1) (z := [.int .u32 0]) (by kernel_rfl) (eS rfl e0) (bdS 0 1 rfl (by rfl) bd0) rfl fun b59 => ?_)
        refine XL.lo rfl (l_append (e := 49) (sz := 1) (by_ := 4) (m := 1) (B := Bl) (ys := nums .u32 [lo % 4294967296]) (M0 := [_, _]) rfl rfl (by kernel_rfl) rfl hsl (Rd.whole (n := 1) m0 (by rfl)) nums_one (List.perm_append_comm (l₁ := [_, _])) (by unfold maxLen; omega) (by omega) rfl fun lv2 Bl2 hsl2 => ?_)
        refine XL.q (q_assign rfl) rfl ?_
        refine XL.nil ?_
        refine nb ?_
        refine nx (kp 0 rfl (kp 1 rfl (kp 5 rfl (kp 6 rfl kn)))) ?_
        refine XC.reg1 ?_
        refine XL.q (q_move rfl) rfl ?_
        refine XL.q (q_num ((p + 1 : Nat) : Int) rfl rfl (add64 (by omega) (by omega) (by omega))) rfl ?_
        refine XL.q (q_assign rfl) rfl ?_
        refine XL.nil ?_
        refine rn (p + 1, lv2, Bl2) ⟨by dsimp only; omega, by dsimp only; omega, ?_, ?_⟩ (by dsimp only; omega) (kp 0 rfl (kp 1 rfl (kp 5 rfl (kp 6 rfl kn)))) (Fit.sub (List.sublist_append_left _ _)) (fun _ h => h)
        · dsimp only; rw [rl_yes hpr, List.length_append]; simp; omega
        · dsimp only
          rw [rl_yes hpr]
          exact sl_eq hsl2 (by rw [List.length_append]; simp) (by rw [← nums_append, root, ← hrt]; rfl)
  ·
    have hlt : (rl k p).length = many := by simp at hc; omega
    refine XC.exit ?_
    refine te ?_
    refine re ?_
    refine be rfl ?_
    refine nx (kp 5 rfl kn) ?_
    refine XC.reg ?_
    refine XL.q (q_move rfl) rfl ?_
    refine XL.q (q_assign rfl) rfl ?_
    refine XL.fin (kp 4 rfl kn) ?_
    refine XC.ret ?_
    refine ⟨_, Bl, [], res1 rfl rfl, List.Sublist.refl _, by simp, rfl, sl_eq hsl hlt (by rw [← hlt, rl_take hp])⟩

end Go.Proofs.YtcfdeohjhhpmcaaDoor
