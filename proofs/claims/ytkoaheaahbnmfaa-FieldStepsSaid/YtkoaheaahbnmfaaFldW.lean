/- The walks of the laws of pawllaw03. -/
import Derived.Test.YtkoaheaahbnmfaaRN3
import Derived.Test.YtkoaheaahbnmfaaFldR
set_option linter.unusedVariables false
set_option linter.unusedSimpArgs false
namespace Go.Proofs.Ytkoaheaahbnmfaa
open Go.Px
theorem inv_law {x n : Nat} (hx : ¬ p25 ∣ x) (hn : n + 1 = p25 - 1) : x ^ n % p25 * x % p25 = 1 := by
  have h := fermat1 pr25 hx
  rw [Nat.mod_mul_mod, ← Nat.pow_succ, Nat.succ_eq_add_one, hn]
  exact h

theorem awake_spec (A : Mem) : FnV Try.prog 13 [] A (.bool true) := by
  refine FnX.enter (N := 28) Try.func13 rfl rfl rfl fun w => ?_
  refine XC.keep kn ?_
  refine XC.reg ?_
  refine XL.q (q_assign rfl) rfl ?_
  refine XL.fin kn ?_
  refine XC.reg ?_
  refine XL.call (aS rfl a0) (by kernel_rfl) (fnum_spec 1 (by decide) _) rfl ?_
  rintro r2 M2 J2 ⟨rfl, rfl, hr2⟩
  have hr20 := hr2
  obtain ⟨a2, b2, c2, d2, e2, rfl, -⟩ := hr2
  refine XL.call (aS rfl a0) (by kernel_rfl) (fneg_spec _ _ hr20 _) rfl ?_
  rintro r3 M3 J3 ⟨rfl, rfl, hr3⟩
  have hr30 := hr3
  obtain ⟨a3, b3, c3, d3, e3, rfl, -⟩ := hr3
  refine XL.call (aS rfl a0) (by kernel_rfl) (fbytes_spec _ _ hr30 _) rfl ?_
  rintro r4 M4 J4 ⟨rfl, hs4⟩
  refine XL.q (q_assign rfl) rfl ?_
  refine XL.fin (kp 1 rfl kn) ?_
  refine XC.reg ?_
  refine XL.call (aS rfl a0) (by kernel_rfl) (fnum_spec 2 (by decide) _) rfl ?_
  rintro r5 M5 J5 ⟨rfl, rfl, hr5⟩
  have hr50 := hr5
  obtain ⟨a5, b5, c5, d5, e5, rfl, -⟩ := hr5
  refine XL.call (aS rfl a0) (by kernel_rfl) (finv_spec _ _ hr50 _) rfl ?_
  rintro r6 M6 J6 ⟨rfl, rfl, n6, hn6, hr6⟩
  have hr60 := hr6
  obtain ⟨a6, b6, c6, d6, e6, rfl, -⟩ := hr6
  refine XL.call (aS rfl a0) (by kernel_rfl) (fnum_spec 2 (by decide) _) rfl ?_
  rintro r7 M7 J7 ⟨rfl, rfl, hr7⟩
  have hr70 := hr7
  obtain ⟨a7, b7, c7, d7, e7, rfl, -⟩ := hr7
  refine XL.call (aS rfl (aS rfl a0)) (by kernel_rfl) (fmul_spec _ _ _ _ hr60 hr70 _) rfl ?_
  rintro r8 M8 J8 ⟨rfl, rfl, hr8⟩
  have hr80 := hr8
  obtain ⟨a8, b8, c8, d8, e8, rfl, -⟩ := hr8
  rw [inv_law (by decide) hn6] at hr80
  refine XL.call (aS rfl a0) (by kernel_rfl) (fnum_spec 1 (by decide) _) rfl ?_
  rintro r9 M9 J9 ⟨rfl, rfl, hr9⟩
  have hr90 := hr9
  obtain ⟨a9, b9, c9, d9, e9, rfl, -⟩ := hr9
  refine XL.callV (aS rfl (aS rfl a0)) (by kernel_rfl) (fsame_spec _ _ _ _ hr80 hr90 _) rfl ?_
  refine XL.q (q_move rfl) rfl ?_
  refine XL.gy rfl rfl (OpQ.opL (q_move rfl) rfl ?_)
  refine XL.gy rfl rfl (OpQ.opL (q_lenV2 (sz := 1) rfl (by kernel_rfl) (by first | assumption | exact Sl.rd (by assumption) (fun _ h => h))) rfl ?_)
  refine XL.gy rfl rfl (OpQ.opL (q_cmp true rfl rfl (eqT (by decide))) rfl ?_)
  refine XL.q (q_pickT rfl rfl) rfl ?_
  refine XL.q (q_move rfl) rfl ?_
  refine XL.gy rfl rfl (OpQ.opL (q_move rfl) rfl ?_)
  refine XL.gy rfl rfl (OpQ.opL (q_atV2 (sz := 1) (a := 0) rfl rfl (by kernel_rfl) rfl (by first | assumption | exact Sl.rd (by assumption) (fun _ h => h)) (by omega)) rfl ?_)
  refine XL.gy rfl rfl (OpQ.opL (q_ldVN2 (k := .u8) rfl (by kernel_rfl) (by first | exact Rd.mono (by assumption) SubC.sub | exact Sl.rd (by assumption) SubC.sub) (by omega)) rfl ?_)
  refine XL.gy rfl rfl (OpQ.opL (q_cmp true rfl rfl (eqT (by decide))) rfl ?_)
  refine XL.q (q_pickT rfl rfl) rfl ?_
  refine XL.q (q_move rfl) rfl ?_
  refine XL.gy rfl rfl (OpQ.opL (q_move rfl) rfl ?_)
  refine XL.gy rfl rfl (OpQ.opL (q_atV2 (sz := 1) (a := 31) rfl rfl (by kernel_rfl) rfl (by first | assumption | exact Sl.rd (by assumption) (fun _ h => h)) (by omega)) rfl ?_)
  refine XL.gy rfl rfl (OpQ.opL (q_ldVN2 (k := .u8) rfl (by kernel_rfl) (by first | exact Rd.mono (by assumption) SubC.sub | exact Sl.rd (by assumption) SubC.sub) (by omega)) rfl ?_)
  refine XL.gy rfl rfl (OpQ.opL (q_cmp true rfl rfl (eqT (by decide))) rfl ?_)
  refine XL.q (q_pickT rfl rfl) rfl ?_
  refine XL.q (q_assign rfl) rfl ?_
  refine XL.fin (kp 0 rfl kn) ?_
  refine XC.ret ?_
  exact ⟨_, [], [], res1 rfl rfl, List.nil_sublist _, by simp, rfl, rfl, rfl⟩

theorem num_spec (v : Value) (x : Nat) (hx : Fe v x) (A : Mem) : FnX Try.prog 39 [v] [] A fun r M J => J = [] ∧ Nn r M x 8 := by
  have hx0 := hx
  obtain ⟨a, b, c, d, e, rfl, -⟩ := hx
  refine FnX.enter (N := 6) Try.func39 rfl rfl rfl fun w => ?_
  refine XC.keep (kp 0 rfl kn) ?_
  refine XC.reg ?_
  refine XL.lo rfl (l_box rfl rfl rfl fun b1 => ?_)
  refine XL.q (q_assign rfl) rfl ?_
  refine XL.fin (kp 1 rfl kn) ?_
  refine XC.reg ?_
  refine XL.q (q_loadW (n := 5) rfl (by kernel_rfl) (by first | exact At.mem | exact mA (by assumption)) (by rfl)) rfl ?_
  refine XL.call (aS rfl a0) (by kernel_rfl) (fbytes_spec _ _ hx0 _) rfl ?_
  rintro r4 M4 J4 ⟨rfl, hs4⟩
  refine XL.call (aS rfl a0) (by kernel_rfl) (low_spec _ (prts 8 32 x 255) _ (rd_eq (hs4.rd SubC.sub) (prts_len _ _ _ _).symm rfl) (prts_lt _ _) (by rw [prts_len]; decide)) rfl ?_
  rintro r5 M5 J5 ⟨rfl, ws, hs5, hw5, hv5, hn5, hl5⟩
  rw [bv_prts, Nat.mod_eq_of_lt (Nat.lt_trans hx0.lt (by decide))] at hv5
  rw [prts_len] at hl5
  refine XL.q (q_assign rfl) rfl ?_
  refine XL.fin (kp 2 rfl kn) ?_
  refine XC.ret ?_
  exact ⟨_, M5, [], res1 rfl rfl, List.sublist_append_left _ _, by simp, rfl, ws, hs5, hw5, hv5, hn5, hl5⟩

theorem is_spec (v u : Value) (x : Nat) (ws : List Nat) (A : Mem) (hx : Fe v x) (hu : Rw A u ws) (hw : w32 ws) (hl : ws.length ≤ 1000) : FnV Try.prog 14 [v, u] A (.bool (decide (x = nv ws))) := by
  have hx0 := hx
  obtain ⟨a, b, c₀, d, e, rfl, -⟩ := hx
  refine FnX.enter (N := 10) Try.func14 rfl rfl rfl fun w => ?_
  refine XC.keep (kp 0 rfl (kp 1 rfl kn)) ?_
  refine XC.reg ?_
  refine XL.lo rfl (l_box rfl rfl rfl fun b2 => ?_)
  refine XL.q (q_assign rfl) rfl ?_
  refine XL.fin (kp 1 rfl (kp 2 rfl kn)) ?_
  refine XC.reg ?_
  refine XL.q (q_loadW (n := 5) rfl (by kernel_rfl) (by first | exact At.mem | exact mA (by assumption)) (by rfl)) rfl ?_
  refine XL.call (aS rfl a0) (by kernel_rfl) (num_spec _ _ hx0 _) rfl ?_
  rintro r6 M6 J6 ⟨rfl, ns, hs6, hw6, hv6, hn6, hl6⟩
  refine XL.q (q_move rfl) rfl ?_
  refine XL.call (aS rfl (aS rfl a0)) (by kernel_rfl) (cmp_spec _ _ ns ws _ (hs6.rd SubC.sub) (Rd.mono hu SubC.sub) hw6 hw (by omega) (by omega)) rfl ?_
  rintro r8 M8 J8 ⟨rfl, rfl, c, rfl, hc1, hc2⟩
  rw [hv6] at hc1 hc2
  refine XL.q (q_cmp (decide (x = nv ws)) rfl rfl (by rw [← decide_eq_decide.2 (show (c = 0) ↔ (x = nv ws) from ⟨fun h => by omega, fun h => by omega⟩)]; rfl)) rfl ?_
  refine XL.q (q_assign rfl) rfl ?_
  refine XL.fin (kp 4 rfl kn) ?_
  refine XC.ret ?_
  exact ⟨_, [], [], res1 rfl rfl, List.nil_sublist _, by simp, rfl, rfl, rfl⟩

theorem isT_spec (v u : Value) (x : Nat) (ws : List Nat) (A : Mem) (hx : Fe v x) (hu : Rw A u ws) (hw : w32 ws) (hn : nrm ws) (h : nv ws = x) : FnV Try.prog 14 [v, u] A (.bool true) := by
  have := is_spec v u x ws A hx hu hw (by have := nrm_len8 hn (by rw [h]; exact Nat.lt_trans hx.lt (by decide)); omega)
  rwa [decide_eq_true h.symm] at this
theorem rdN_lt (p : List Nat) : rdN p < p25 := by
  unfold rdN; split
  · exact Nat.mod_lt _ (by decide)
  · decide

theorem fieldSums_spec (p : List Nat) (pl : p.length = 32) (p256 : ∀ x ∈ p, x < 256) (q : List Nat) (ql : q.length = 32) (q256 : ∀ x ∈ q, x < 256) (A : Mem) : FnV Try.prog 5 [.agg (nums .u8 p).toArray, .agg (nums .u8 q).toArray] A (.bool true) := by
  refine FnX.enter (N := 53) Try.func5 rfl rfl rfl fun w => ?_
  refine XC.keep (kp 0 rfl (kp 1 rfl kn)) ?_
  refine XC.reg ?_
  refine XL.lo rfl (l_box rfl rfl rfl fun b2 => ?_)
  refine XL.lo rfl (l_box rfl rfl rfl fun b3 => ?_)
  refine XL.q (q_assign rfl) rfl ?_
  refine XL.fin (kp 2 rfl (kp 3 rfl kn)) ?_
  refine XC.reg ?_
  refine XL.q (q_slArr (sz := 1) (e := 5) (n := 32) rfl (by kernel_rfl) (by kernel_rfl)) rfl ?_
  refine XL.call (aS rfl a0) (by kernel_rfl) (fread_spec _ p _ (rd_eq (Rd.whole (n := 32) At.mem (by simp [pl])) pl.symm rfl) p256 (by omega)) rfl ?_
  rintro r10 M10 J10 ⟨rfl, rfl, hr10⟩
  have hr100 := hr10
  obtain ⟨a10, b10, c10, d10, e10, rfl, -⟩ := hr10
  refine XL.lo rfl (l_alloc (cs := [.int .u64 0, .int .u64 0, .int .u64 0, .int .u64 0, .int .u64 0]) (by kernel_rfl) rfl fun b5 => ?_)
  refine XL.lo rfl (l_storeW rfl rfl Cel.cel (by kernel_rfl) (lnS (lnS (lnS (lnS (lnS (ln0)))))) (allS rfl (allS rfl (allS rfl (allS rfl (allS rfl (all0)))))) UpC.upd ?_)
  refine XL.fin (kp 2 rfl (kp 3 rfl (kp 5 rfl kn))) ?_
  refine XC.reg ?_
  refine XL.q (q_slArr (sz := 1) (e := 5) (n := 32) rfl (by kernel_rfl) (by kernel_rfl)) rfl ?_
  refine XL.call (aS rfl a0) (by kernel_rfl) (fread_spec _ q _ (rd_eq (Rd.whole (n := 32) At.mem (by simp [ql])) ql.symm rfl) q256 (by omega)) rfl ?_
  rintro r12 M12 J12 ⟨rfl, rfl, hr12⟩
  have hr120 := hr12
  obtain ⟨a12, b12, c12, d12, e12, rfl, -⟩ := hr12
  refine XL.lo rfl (l_alloc (cs := [.int .u64 0, .int .u64 0, .int .u64 0, .int .u64 0, .int .u64 0]) (by kernel_rfl) rfl fun b6 => ?_)
  refine XL.lo rfl (l_storeW rfl rfl Cel.cel (by kernel_rfl) (lnS (lnS (lnS (lnS (lnS (ln0)))))) (allS rfl (allS rfl (allS rfl (allS rfl (allS rfl (all0)))))) UpC.upd ?_)
  refine XL.fin (kp 2 rfl (kp 3 rfl (kp 5 rfl (kp 6 rfl kn)))) ?_
  refine XC.reg ?_
  refine XL.q (q_slArr (sz := 1) (e := 5) (n := 32) rfl (by kernel_rfl) (by kernel_rfl)) rfl ?_
  refine XL.call (aS rfl a0) (by kernel_rfl) (rof_spec _ p _ (rd_eq (Rd.whole (n := 32) At.mem (by simp [pl])) pl.symm rfl) p256 (by omega)) rfl ?_
  rintro r14 M14 J14 ⟨rfl, ws14, hs14, hw14, hv14, hn14⟩
  refine XL.q (q_assign rfl) rfl ?_
  refine XL.fin (kp 3 rfl (kp 5 rfl (kp 6 rfl (kp 7 rfl kn)))) ?_
  refine XC.reg ?_
  refine XL.q (q_slArr (sz := 1) (e := 5) (n := 32) rfl (by kernel_rfl) (by kernel_rfl)) rfl ?_
  refine XL.call (aS rfl a0) (by kernel_rfl) (rof_spec _ q _ (rd_eq (Rd.whole (n := 32) At.mem (by simp [ql])) ql.symm rfl) q256 (by omega)) rfl ?_
  rintro r16 M16 J16 ⟨rfl, ws16, hs16, hw16, hv16, hn16⟩
  refine XL.q (q_assign rfl) rfl ?_
  refine XL.fin (kp 5 rfl (kp 6 rfl (kp 7 rfl (kp 8 rfl kn)))) ?_
  refine XC.reg ?_
  refine XL.callV a0 (by kernel_rfl) (awake_spec _) rfl ?_
  refine XL.q (q_move rfl) rfl ?_
  refine XL.gy rfl rfl (OpQ.opL (q_loadW (n := 5) rfl (by kernel_rfl) (by first | exact At.mem | exact mA (by assumption)) (by rfl)) rfl ?_)
  refine XL.gy rfl rfl (OpQ.opL (q_loadW (n := 5) rfl (by kernel_rfl) (by first | exact At.mem | exact mA (by assumption)) (by rfl)) rfl ?_)
  refine XL.callg rfl rfl (aS rfl (aS rfl a0)) (by kernel_rfl) (fadd_spec _ _ _ _ hr100 hr120 _) rfl ?_
  rintro r21 M21 J21 ⟨rfl, rfl, hr21⟩
  have hr210 := hr21
  obtain ⟨a21, b21, c21, d21, e21, rfl, -⟩ := hr21
  refine XL.gy rfl rfl (OpQ.opL (q_move rfl) rfl ?_)
  refine XL.gy rfl rfl (OpQ.opL (q_move rfl) rfl ?_)
  refine XL.callg rfl rfl (aS rfl (aS rfl a0)) (by kernel_rfl) (radd_spec _ _ ws14 ws16 _ (Rd.mono hs14 SubC.sub) (Rd.mono hs16 SubC.sub) hw14 hw16 (by have := nrm_len8 hn14 (by rw [hv14]; exact Nat.lt_trans (rdN_lt _) (by decide)); omega) (by have := nrm_len8 hn16 (by rw [hv16]; exact Nat.lt_trans (rdN_lt _) (by decide)); omega)) rfl ?_
  rintro r24 M24 J24 ⟨rfl, ws24, hs24, hw24, hv24, hn24⟩
  refine XL.callVg rfl rfl (aS rfl (aS rfl a0)) (by kernel_rfl) (isT_spec _ _ _ ws24 _ hr210 (Rd.mono hs24 SubC.sub) hw24 hn24 (by rw [hv24, hv14, hv16])) rfl ?_
  refine XL.q (q_pickT rfl rfl) rfl ?_
  refine XL.q (q_move rfl) rfl ?_
  refine XL.gy rfl rfl (OpQ.opL (q_loadW (n := 5) rfl (by kernel_rfl) (by first | exact At.mem | exact mA (by assumption)) (by rfl)) rfl ?_)
  refine XL.gy rfl rfl (OpQ.opL (q_loadW (n := 5) rfl (by kernel_rfl) (by first | exact At.mem | exact mA (by assumption)) (by rfl)) rfl ?_)
  refine XL.callg rfl rfl (aS rfl (aS rfl a0)) (by kernel_rfl) (fsub_spec _ _ _ _ hr100 hr120 _) rfl ?_
  rintro r30 M30 J30 ⟨rfl, rfl, hr30⟩
  have hr300 := hr30
  obtain ⟨a30, b30, c30, d30, e30, rfl, -⟩ := hr30
  refine XL.gy rfl rfl (OpQ.opL (q_move rfl) rfl ?_)
  refine XL.gy rfl rfl (OpQ.opL (q_move rfl) rfl ?_)
  refine XL.callg rfl rfl (aS rfl (aS rfl a0)) (by kernel_rfl) (rsub_spec _ _ ws14 ws16 _ (Rd.mono hs14 SubC.sub) (Rd.mono hs16 SubC.sub) hw14 hw16 (by have := nrm_len8 hn14 (by rw [hv14]; exact Nat.lt_trans (rdN_lt _) (by decide)); omega) (by have := nrm_len8 hn16 (by rw [hv16]; exact Nat.lt_trans (rdN_lt _) (by decide)); omega) (by rw [hv16]; have := rdN_lt q; omega)) rfl ?_
  rintro r33 M33 J33 ⟨rfl, ws33, hs33, hw33, hv33, hn33⟩
  refine XL.callVg rfl rfl (aS rfl (aS rfl a0)) (by kernel_rfl) (isT_spec _ _ _ ws33 _ hr300 (Rd.mono hs33 SubC.sub) hw33 hn33 (by rw [hv33, hv14, hv16])) rfl ?_
  refine XL.q (q_pickT rfl rfl) rfl ?_
  refine XL.q (q_move rfl) rfl ?_
  refine XL.gy rfl rfl (OpQ.opL (q_loadW (n := 5) rfl (by kernel_rfl) (by first | exact At.mem | exact mA (by assumption)) (by rfl)) rfl ?_)
  refine XL.callg rfl rfl (aS rfl a0) (by kernel_rfl) (fneg_spec _ _ hr100 _) rfl ?_
  rintro r38 M38 J38 ⟨rfl, rfl, hr38⟩
  have hr380 := hr38
  obtain ⟨a38, b38, c38, d38, e38, rfl, -⟩ := hr38
  refine XL.gy rfl rfl (OpQ.opL (q_move rfl) rfl ?_)
  refine XL.callg rfl rfl (aS rfl (aS rfl a0)) (by kernel_rfl) (rsub_spec _ _ [] ws14 _ Rd.nil (Rd.mono hs14 SubC.sub) (fun _ h => by simp at h) hw14 (by decide) (by have := nrm_len8 hn14 (by rw [hv14]; exact Nat.lt_trans (rdN_lt _) (by decide)); omega) (by rw [hv14]; have := rdN_lt p; omega)) rfl ?_
  rintro r40 M40 J40 ⟨rfl, ws40, hs40, hw40, hv40, hn40⟩
  refine XL.callVg rfl rfl (aS rfl (aS rfl a0)) (by kernel_rfl) (isT_spec _ _ _ ws40 _ hr380 (Rd.mono hs40 SubC.sub) hw40 hn40 (by rw [hv40, hv14, show nv [] = 0 from rfl, Nat.zero_add])) rfl ?_
  refine XL.q (q_pickT rfl rfl) rfl ?_
  refine XL.q (q_move rfl) rfl ?_
  refine XL.gy rfl rfl (OpQ.opL (q_loadW (n := 5) rfl (by kernel_rfl) (by first | exact At.mem | exact mA (by assumption)) (by rfl)) rfl ?_)
  refine XL.gy rfl rfl (OpQ.opL (q_loadW (n := 5) rfl (by kernel_rfl) (by first | exact At.mem | exact mA (by assumption)) (by rfl)) rfl ?_)
  refine XL.callVg rfl rfl (aS rfl (aS rfl a0)) (by kernel_rfl) (fsame_spec _ _ _ _ hr100 hr120 _) rfl ?_
  refine XL.gy rfl rfl (OpQ.opL (q_move rfl) rfl ?_)
  refine XL.gy rfl rfl (OpQ.opL (q_move rfl) rfl ?_)
  refine XL.callg rfl rfl (aS rfl (aS rfl a0)) (by kernel_rfl) (cmp_spec _ _ ws14 ws16 _ (Rd.mono hs14 SubC.sub) (Rd.mono hs16 SubC.sub) hw14 hw16 (Nat.le_trans (by have := nrm_len8 hn14 (by rw [hv14]; exact Nat.lt_trans (rdN_lt _) (by decide)); omega) (by decide)) (Nat.le_trans (by have := nrm_len8 hn16 (by rw [hv16]; exact Nat.lt_trans (rdN_lt _) (by decide)); omega) (by decide))) rfl ?_
  rintro r49 M49 J49 ⟨rfl, rfl, c, rfl, hc1, hc2⟩
  rw [hv14, hv16] at hc1 hc2
  refine XL.gy rfl rfl (OpQ.opL (q_cmp (decide (rdN p = rdN q)) rfl rfl (by rw [← decide_eq_decide.2 (show (c = 0) ↔ (rdN p = rdN q) from ⟨fun h => by omega, fun h => by omega⟩)]; rfl)) rfl ?_)
  refine XL.gy rfl rfl (OpQ.opL (q_boolEqR true rfl rfl (by kernel_rfl) (by simp)) rfl ?_)
  refine XL.q (q_pickT rfl rfl) rfl ?_
  refine XL.q (q_assign rfl) rfl ?_
  refine XL.fin (kp 4 rfl kn) ?_
  refine XC.ret ?_
  exact ⟨_, [], [], res1 rfl rfl, List.nil_sublist _, by simp, rfl, rfl, rfl⟩

theorem isL_spec (v u : Value) (x : Nat) (ws : List Nat) (A : Mem) (hx : Fe v x) (hu : Rw A u ws) (hw : w32 ws) (hl : ws.length ≤ 1000) (h : nv ws = x) : FnV Try.prog 14 [v, u] A (.bool true) := by
  have := is_spec v u x ws A hx hu hw hl
  rwa [decide_eq_true h.symm] at this
theorem sameT_spec (v u : Value) (x y : Nat) (A : Mem) (hx : Fe v x) (hy : Fe u y) (h : x = y) : FnV Try.prog 19 [v, u] A (.bool true) := by
  have := fsame_spec v u x y hx hy A
  rwa [decide_eq_true h] at this
theorem prts_digs {x : Nat} (h : x < p25) : prts 8 32 x 255 = digs x 32 := by
  unfold prts digs
  apply List.map_congr_left
  intro j _
  rw [prt, Nat.mod_eq_of_lt (Nat.lt_trans h (by decide)), Nat.pow_mul]
theorem rdN_prts {x : Nat} (h : x < p25) : rdN (prts 8 32 x 255) = x := by
  rw [rdN, if_pos (prts_len _ _ _ _), bv_prts, show (2 : Nat) ^ 255 = 57896044618658097711785492504343953926634992332820282019728792003956564819968 from rfl, Nat.mod_mod, Nat.mod_eq_of_lt (Nat.lt_trans h (by decide)), Nat.mod_eq_of_lt h]
theorem half : 2 * (p25 / 2 ^ 1) = p25 - 1 := by decide
theorem sub_neg {u y : Nat} (hy : y < p25) : (u + p25 - (p25 - y) % p25) % p25 = (u + y) % p25 := by unfold p25 at *; omega

theorem fieldReads_spec (pv : Value) (p : List Nat) (all : List Nat) (alll : all.length = 32) (all256 : ∀ x ∈ all, x < 256) (A : Mem) (hp : Rb A pv p) (hp256 : ∀ x ∈ p, x < 256) (hpl : p.length ≤ maxLen) : FnV Try.prog 4 [pv, .agg (nums .u8 all).toArray] A (.bool true) := by
  refine FnX.enter (N := 63) Try.func4 rfl rfl rfl fun w => ?_
  refine XC.keep (kp 0 rfl (kp 1 rfl kn)) ?_
  refine XC.reg ?_
  refine XL.lo rfl (l_box rfl rfl rfl fun b3 => ?_)
  refine XL.q (q_assign rfl) rfl ?_
  refine XL.fin (kp 0 rfl (kp 3 rfl kn)) ?_
  refine XC.seq ?_
  refine XC.reg ?_
  refine XL.callV a0 (by kernel_rfl) (awake_spec _) rfl ?_
  refine XL.q (q_not rfl) rfl ?_
  refine XL.q (q_move rfl) rfl ?_
  refine XL.gy rfl rfl (OpQ.opL (q_move rfl) rfl ?_)
  refine XL.gy rfl rfl (OpQ.opL (q_lenV2 (sz := 1) rfl (by kernel_rfl) (by first | assumption | exact Sl.rd (by assumption) (fun _ h => h))) rfl ?_)
  refine XL.gy rfl rfl (OpQ.opL (q_bin rfl rfl rfl) rfl ?_)
  refine XL.q (q_pickF rfl rfl) rfl ?_
  refine XL.fin (kp 0 rfl (kp 3 rfl (kp 14 rfl kn))) ?_
  refine XC.cond rfl (fun hc => ?_) (fun hc => ?_)
  ·
    refine XC.reg ?_
    refine XL.callV a0 (by kernel_rfl) (awake_spec _) rfl ?_
    refine XL.q (q_assign rfl) rfl ?_
    refine XL.fin (kp 4 rfl kn) ?_
    refine XC.ret ?_
    refine tr ?_
    exact ⟨_, [], [], res1 rfl rfl, List.nil_sublist _, by simp, rfl, rfl, rfl⟩
  ·
    have hle : p.length ≤ 100 := by simp at hc; omega
    refine XC.skip ?_
    refine nx (kp 0 rfl (kp 3 rfl kn)) ?_
    refine XC.reg ?_
    refine XL.q (q_slArr (sz := 1) (e := 5) (n := 32) rfl (by kernel_rfl) (by kernel_rfl)) rfl ?_
    refine XL.call (aS rfl a0) (by kernel_rfl) (rof_spec _ all _ (rd_eq (Rd.whole (n := 32) At.mem (by simp [alll])) alll.symm rfl) all256 (by omega)) rfl ?_
    rintro r17 M17 J17 ⟨rfl, ws17, hs17, hw17, hv17, hn17⟩
    refine XL.q (q_assign rfl) rfl ?_
    refine XL.fin (kp 0 rfl (kp 3 rfl (kp 5 rfl kn))) ?_
    refine XC.reg ?_
    refine XL.q (q_slArr (sz := 1) (e := 5) (n := 32) rfl (by kernel_rfl) (by kernel_rfl)) rfl ?_
    refine XL.call (aS rfl a0) (by kernel_rfl) (fread_spec _ all _ (rd_eq (Rd.whole (n := 32) At.mem (by simp [alll])) alll.symm rfl) all256 (by omega)) rfl ?_
    rintro r19 M19 J19 ⟨rfl, rfl, hr19⟩
    have hr190 := hr19
    obtain ⟨a19, b19, c19, d19, e19, rfl, -⟩ := hr19
    refine XL.lo rfl (l_alloc (cs := [.int .u64 0, .int .u64 0, .int .u64 0, .int .u64 0, .int .u64 0]) (by kernel_rfl) rfl fun b6 => ?_)
    refine XL.lo rfl (l_storeW rfl rfl Cel.cel (by kernel_rfl) (lnS (lnS (lnS (lnS (lnS (ln0)))))) (allS rfl (allS rfl (allS rfl (allS rfl (allS rfl (all0)))))) UpC.upd ?_)
    refine XL.fin (kp 0 rfl (kp 5 rfl (kp 6 rfl kn))) ?_
    refine XC.reg ?_
    refine XL.q (q_move rfl) rfl ?_
    refine XL.call (aS rfl a0) (by kernel_rfl) (fread_spec _ p _ (Rd.mono hp SubC.sub) hp256 (by omega)) rfl ?_
    rintro r21 M21 J21 ⟨rfl, rfl, hr21⟩
    have hr210 := hr21
    obtain ⟨a21, b21, c21, d21, e21, rfl, -⟩ := hr21
    refine XL.lo rfl (l_alloc (cs := [.int .u64 0, .int .u64 0, .int .u64 0, .int .u64 0, .int .u64 0]) (by kernel_rfl) rfl fun b7 => ?_)
    refine XL.lo rfl (l_storeW rfl rfl Cel.cel (by kernel_rfl) (lnS (lnS (lnS (lnS (lnS (ln0)))))) (allS rfl (allS rfl (allS rfl (allS rfl (allS rfl (all0)))))) UpC.upd ?_)
    refine XL.fin (kp 0 rfl (kp 5 rfl (kp 6 rfl (kp 7 rfl kn)))) ?_
    refine XC.drawF [0, 1, 2, 3, 4, 5, 6, 7, 8, 9, 10, 11, 12, 13, 14, 15, 16, 17, 18, 19, 20, 21, 22, 23, 24, 25, 26, 27, 28, 29, 30, 31, 32, 33, 34, 35, 36, 37, 38, 39, 40, 41] [(0, 1), (1, 0), (2, 2), (3, 0), (4, 1), (5, 0), (6, 2), (7, 2), (8, 0), (9, 0), (10, 1), (13, 0), (11, 2), (12, 1), (14, 2), (15, 1), (16, 0), (17, 0), (18, 0), (19, 1), (22, 0), (20, 2), (21, 2), (23, 2), (24, 0), (25, 0), (26, 1), (28, 0), (27, 2), (29, 2), (30, 0), (31, 0), (32, 0), (33, 0), (34, 1), (36, 0), (37, 0), (38, 0), (35, 2), (39, 0), (40, 0), (41, 0)] (by kernel_rfl) (by kernel_rfl) fun hs => ?_
    refine XF.r hs rfl (q_loadW (n := 5) rfl (by kernel_rfl) (by first | exact At.mem | exact mA (by assumption)) (by rfl)) rfl ?_
    refine XF.q hs rfl (q_move rfl) rfl ?_
    refine XF.callV rfl (aS rfl (aS rfl a0)) (by kernel_rfl) (isT_spec _ _ _ ws17 _ hr190 (Rd.mono hs17 SubC.sub) hw17 hn17 (by rw [hv17])) rfl ?_
    refine XF.q hs rfl (q_move rfl) rfl ?_
    refine XF.rg hs rfl rfl rfl rfl (q_loadW (n := 5) rfl (by kernel_rfl) (by first | exact At.mem | exact mA (by assumption)) (by rfl)) rfl ?_
    refine XF.qg hs rfl rfl rfl rfl (q_move rfl) rfl ?_
    refine XF.callg rfl rfl rfl rfl (aS rfl a0) (by kernel_rfl) (rof_spec _ p _ (Rd.mono hp SubC.sub) hp256 (by omega)) rfl ?_
    rintro r28 M28 J28 ⟨rfl, ws28, hs28, hw28, hv28, hn28⟩
    refine XF.callVg rfl rfl rfl rfl (aS rfl (aS rfl a0)) (by kernel_rfl) (isT_spec _ _ _ ws28 _ hr210 (Rd.mono hs28 SubC.sub) hw28 hn28 (by rw [hv28])) rfl ?_
    refine XF.q hs rfl (q_pickT rfl rfl) rfl ?_
    refine XF.q hs rfl (q_move rfl) rfl ?_
    refine XF.rg hs rfl rfl rfl rfl (q_loadW (n := 5) rfl (by kernel_rfl) (by first | exact At.mem | exact mA (by assumption)) (by rfl)) rfl ?_
    refine XF.qg hs rfl rfl rfl rfl (q_move rfl) rfl ?_
    refine XF.callg rfl rfl rfl rfl (aS rfl a0) (by kernel_rfl) (fbytes_spec _ _ hr190 _) rfl ?_
    rintro r33 M33 J33 ⟨rfl, hs33⟩
    refine XF.rg hs rfl rfl rfl rfl (q_toStr2 rfl (by kernel_rfl) (by first | exact Rd.mono (by assumption) SubC.sub | exact Sl.rd (by assumption) SubC.sub)) rfl ?_
    refine XF.callg rfl rfl rfl rfl (aS rfl (aS rfl a0)) (by kernel_rfl) (rbytes_spec _ ws17 32 _ (Rd.mono hs17 SubC.sub) hw17 (Nat.le_trans (by have := nrm_len8 hn17 (by rw [hv17]; exact Nat.lt_trans (rdN_lt _) (by decide)); omega) (by decide)) (by decide)) rfl ?_
    rintro r36 M36 J36 ⟨rfl, hs36⟩
    refine XF.rg hs rfl rfl rfl rfl (q_toStr2 rfl (by kernel_rfl) (by first | exact Rd.mono (by assumption) SubC.sub | exact Sl.rd (by assumption) SubC.sub)) rfl ?_
    refine XF.qg hs rfl rfl rfl rfl (q_strEqT rfl rfl (by rw [hv17, prts_digs (rdN_lt _)])) rfl ?_
    refine XF.q hs rfl (q_pickT rfl rfl) rfl ?_
    refine XF.q hs rfl (q_move rfl) rfl ?_
    refine XF.rg hs rfl rfl rfl rfl (q_loadW (n := 5) rfl (by kernel_rfl) (by first | exact At.mem | exact mA (by assumption)) (by rfl)) rfl ?_
    refine XF.qg hs rfl rfl rfl rfl (q_move rfl) rfl ?_
    refine XF.callg rfl rfl rfl rfl (aS rfl a0) (by kernel_rfl) (fbytes_spec _ _ hr190 _) rfl ?_
    rintro r42 M42 J42 ⟨rfl, hs42⟩
    refine XF.callg rfl rfl rfl rfl (aS rfl a0) (by kernel_rfl) (fread_spec _ (prts 8 32 (rdN all) 255) _ (rd_eq (hs42.rd SubC.sub) (prts_len _ _ _ _).symm rfl) (prts_lt _ _) (by rw [prts_len]; decide)) rfl ?_
    rintro r43 M43 J43 ⟨rfl, rfl, hr43⟩
    have hr430 := hr43
    obtain ⟨a43, b43, c43, d43, e43, rfl, -⟩ := hr43
    rw [rdN_prts (rdN_lt _)] at hr430
    refine XF.callVg rfl rfl rfl rfl (aS rfl (aS rfl a0)) (by kernel_rfl) (isT_spec _ _ _ ws17 _ hr430 (Rd.mono hs17 SubC.sub) hw17 hn17 (by rw [hv17])) rfl ?_
    refine XF.q hs rfl (q_pickT rfl rfl) rfl ?_
    refine XF.q hs rfl (q_move rfl) rfl ?_
    refine XF.rg hs rfl rfl rfl rfl (q_loadW (n := 5) rfl (by kernel_rfl) (by first | exact At.mem | exact mA (by assumption)) (by rfl)) rfl ?_
    refine XF.qg hs rfl rfl rfl rfl (q_move rfl) rfl ?_
    refine XF.callVg rfl rfl rfl rfl (aS rfl a0) (by kernel_rfl) (fodd_spec _ _ hr190 _) rfl ?_
    refine XF.callVg rfl rfl rfl rfl (aS rfl (aS rfl a0)) (by kernel_rfl) (bit_spec _ ws17 0 _ (Rd.mono hs17 SubC.sub) hw17 (Nat.le_trans (by have := nrm_len8 hn17 (by rw [hv17]; exact Nat.lt_trans (rdN_lt _) (by decide)); omega) (by decide)) (by decide)) rfl ?_
    refine XF.qg hs rfl rfl rfl rfl (q_cmp (decide (rdN all % 2 = 1)) rfl rfl (by rw [hv17, Nat.pow_zero, Nat.div_one]; rcases Nat.mod_two_eq_zero_or_one (rdN all) with h | h <;> rw [h] <;> rfl)) rfl ?_
    refine XF.qg hs rfl rfl rfl rfl (q_boolEqR true rfl rfl (by kernel_rfl) (by simp)) rfl ?_
    refine XF.q hs rfl (q_pickT rfl rfl) rfl ?_
    refine XF.q hs rfl (q_move rfl) rfl ?_
    refine XF.rg hs rfl rfl rfl rfl (q_loadW (n := 5) rfl (by kernel_rfl) (by first | exact At.mem | exact mA (by assumption)) (by rfl)) rfl ?_
    refine XF.qg hs rfl rfl rfl rfl (q_move rfl) rfl ?_
    refine XF.qg hs rfl rfl rfl rfl (q_lenV2 (sz := 1) rfl (by kernel_rfl) (by first | assumption | exact Sl.rd (by assumption) (fun _ h => h))) rfl ?_
    refine XF.qg hs rfl rfl rfl rfl (q_cmp (decide (rdN all = 0)) rfl rfl (by rw [← decide_eq_decide.2 (show ((ws17.length : Nat) : Int) = 0 ↔ rdN all = 0 from ⟨fun h => hv17 ▸ (nrm_zero hn17).1 (by omega), fun h => by have := (nrm_zero hn17).2 (hv17.trans h); omega⟩)]; rfl)) rfl ?_
    refine XF.callVg rfl rfl rfl rfl (aS rfl a0) (by kernel_rfl) (fzero_spec _ _ hr190 _) rfl ?_
    refine XF.qg hs rfl rfl rfl rfl (q_boolEqR true rfl rfl (by kernel_rfl) (by simp)) rfl ?_
    refine XF.q hs rfl (q_pickT rfl rfl) rfl ?_
    refine XF.q hs rfl (q_assign rfl) rfl ?_
    refine XF.fin (kp 4 rfl kn) ?_
    refine XC.ret ?_
    exact ⟨_, [], [], res1 rfl rfl, List.nil_sublist _, by simp, rfl, rfl, rfl⟩

theorem fieldProducts_spec (p : List Nat) (pl : p.length = 32) (p256 : ∀ x ∈ p, x < 256) (q : List Nat) (ql : q.length = 32) (q256 : ∀ x ∈ q, x < 256) (n : Nat) (hn : n < 4294967296) (A : Mem) : FnV Try.prog 6 [.agg (nums .u8 p).toArray, .agg (nums .u8 q).toArray, .int .u32 (n : Int)] A (.bool true) := by
  refine FnX.enter (N := 70) Try.func6 rfl rfl rfl fun w => ?_
  refine XC.keep (kp 0 rfl (kp 1 rfl (kp 2 rfl kn))) ?_
  refine XC.reg ?_
  refine XL.lo rfl (l_box rfl rfl rfl fun b3 => ?_)
  refine XL.lo rfl (l_box rfl rfl rfl fun b4 => ?_)
  refine XL.q (q_assign rfl) rfl ?_
  refine XL.fin (kp 2 rfl (kp 3 rfl (kp 4 rfl kn))) ?_
  refine XC.reg ?_
  refine XL.q (q_slArr (sz := 1) (e := 5) (n := 32) rfl (by kernel_rfl) (by kernel_rfl)) rfl ?_
  refine XL.call (aS rfl a0) (by kernel_rfl) (fread_spec _ p _ (rd_eq (Rd.whole (n := 32) At.mem (by simp [pl])) pl.symm rfl) p256 (by omega)) rfl ?_
  rintro r14 M14 J14 ⟨rfl, rfl, hr14⟩
  have hr140 := hr14
  obtain ⟨a14, b14, c14, d14, e14, rfl, -⟩ := hr14
  refine XL.lo rfl (l_alloc (cs := [.int .u64 0, .int .u64 0, .int .u64 0, .int .u64 0, .int .u64 0]) (by kernel_rfl) rfl fun b7 => ?_)
  refine XL.lo rfl (l_storeW rfl rfl Cel.cel (by kernel_rfl) (lnS (lnS (lnS (lnS (lnS (ln0)))))) (allS rfl (allS rfl (allS rfl (allS rfl (allS rfl (all0)))))) UpC.upd ?_)
  refine XL.fin (kp 2 rfl (kp 3 rfl (kp 4 rfl (kp 7 rfl kn)))) ?_
  refine XC.reg ?_
  refine XL.q (q_slArr (sz := 1) (e := 5) (n := 32) rfl (by kernel_rfl) (by kernel_rfl)) rfl ?_
  refine XL.call (aS rfl a0) (by kernel_rfl) (fread_spec _ q _ (rd_eq (Rd.whole (n := 32) At.mem (by simp [ql])) ql.symm rfl) q256 (by omega)) rfl ?_
  rintro r16 M16 J16 ⟨rfl, rfl, hr16⟩
  have hr160 := hr16
  obtain ⟨a16, b16, c16, d16, e16, rfl, -⟩ := hr16
  refine XL.lo rfl (l_alloc (cs := [.int .u64 0, .int .u64 0, .int .u64 0, .int .u64 0, .int .u64 0]) (by kernel_rfl) rfl fun b8 => ?_)
  refine XL.lo rfl (l_storeW rfl rfl Cel.cel (by kernel_rfl) (lnS (lnS (lnS (lnS (lnS (ln0)))))) (allS rfl (allS rfl (allS rfl (allS rfl (allS rfl (all0)))))) UpC.upd ?_)
  refine XL.fin (kp 2 rfl (kp 3 rfl (kp 4 rfl (kp 7 rfl (kp 8 rfl kn))))) ?_
  refine XC.reg ?_
  refine XL.q (q_slArr (sz := 1) (e := 5) (n := 32) rfl (by kernel_rfl) (by kernel_rfl)) rfl ?_
  refine XL.call (aS rfl a0) (by kernel_rfl) (rof_spec _ p _ (rd_eq (Rd.whole (n := 32) At.mem (by simp [pl])) pl.symm rfl) p256 (by omega)) rfl ?_
  rintro r18 M18 J18 ⟨rfl, ws18, hs18, hw18, hv18, hn18⟩
  refine XL.q (q_assign rfl) rfl ?_
  refine XL.fin (kp 2 rfl (kp 4 rfl (kp 7 rfl (kp 8 rfl (kp 9 rfl kn))))) ?_
  refine XC.reg ?_
  refine XL.q (q_slArr (sz := 1) (e := 5) (n := 32) rfl (by kernel_rfl) (by kernel_rfl)) rfl ?_
  refine XL.call (aS rfl a0) (by kernel_rfl) (rof_spec _ q _ (rd_eq (Rd.whole (n := 32) At.mem (by simp [ql])) ql.symm rfl) q256 (by omega)) rfl ?_
  rintro r20 M20 J20 ⟨rfl, ws20, hs20, hw20, hv20, hn20⟩
  refine XL.q (q_assign rfl) rfl ?_
  refine XL.fin (kp 2 rfl (kp 7 rfl (kp 8 rfl (kp 9 rfl (kp 10 rfl kn))))) ?_
  refine XC.drawF [0, 1, 2, 3, 4, 5, 6] [(0, 1), (1, 1), (3, 1), (2, 3), (4, 3), (5, 3), (6, 4), (7, 2)] (by kernel_rfl) (by kernel_rfl) fun hs => ?_
  refine XF.r hs rfl (q_loadW (n := 5) rfl (by kernel_rfl) (by first | exact At.mem | exact mA (by assumption)) (by rfl)) rfl ?_
  refine XF.r hs rfl (q_loadW (n := 5) rfl (by kernel_rfl) (by first | exact At.mem | exact mA (by assumption)) (by rfl)) rfl ?_
  refine XF.r hs rfl (q_loadW (n := 5) rfl (by kernel_rfl) (by first | exact At.mem | exact mA (by assumption)) (by rfl)) rfl ?_
  refine XF.groupO [⟨2, 23, fun v B _ => B = [] ∧ Fe v ((rdN p + rdN q) % p25)⟩, ⟨4, 25, fun v B _ => B = [] ∧ Fe v ((p25 - rdN q) % p25)⟩, ⟨5, 26, fun v B _ => B = [] ∧ Fe v (((rdN p + rdN q) % p25 + rdN q) % p25)⟩, ⟨6, 11, fun v B _ => ∃ b, v = .pointer (some ⟨b, 0, none⟩) ∧ B = [(b, blk [.int .u64 0, .int .u64 0, .int .u64 0, .int .u64 0, .int .u64 0] 25)]⟩]
    (allS (fun _ _ _ _ _ h => h) (allS (fun _ _ _ _ _ h => h) (allS (fun _ _ _ _ _ h => h) (allS (fun _ _ _ _ _ h => h) (all0))))) (show List.Nodup [23, 25, 26, 11] by decide) (show List.Nodup [2, 4, 5, 6] by decide) (allS (blt_lt rfl) (allS (blt_lt rfl) (allS (blt_lt rfl) (allS (blt_lt rfl) (all0)))))
    (allS ⟨_, rfl, fun vs bs R w hb ha => ⟨.inl rfl, ?_⟩⟩ (allS ⟨_, rfl, fun vs bs R w hb ha => ⟨.inl rfl, ?_⟩⟩ (allS ⟨_, rfl, fun vs bs R w hb ha => ⟨.inl rfl, ?_⟩⟩ (allS ⟨_, rfl, fun vs bs R w hb ha => ⟨.inl rfl, ?_⟩⟩ (all0))))) ?_
  ·
    refine l_call0 (aS rfl (aS rfl a0)) (by kernel_rfl) (fadd_spec _ _ _ _ hr140 hr160 _) rfl ?_
    rintro r M1 J1 ⟨rfl, rfl, hh⟩
    exact ⟨_, rfl, rfl, hh⟩
  ·
    have g2 := ha _ (List.mem_of_getElem? (i := 0) rfl) (by kernel_rfl)
    replace g2 : (fun v B _ => B = [] ∧ Fe v ((rdN p + rdN q) % p25)) (vs 2) (bs 2) R := g2
    dsimp only at g2
    refine l_call0 (aS rfl a0) (by kernel_rfl) (fneg_spec _ _ hr160 _) rfl ?_
    rintro r M1 J1 ⟨rfl, rfl, hh⟩
    exact ⟨_, rfl, rfl, hh⟩
  ·
    have g2 := ha _ (List.mem_of_getElem? (i := 0) rfl) (by kernel_rfl)
    replace g2 : (fun v B _ => B = [] ∧ Fe v ((rdN p + rdN q) % p25)) (vs 2) (bs 2) R := g2
    dsimp only at g2
    have g4 := ha _ (List.mem_of_getElem? (i := 1) rfl) (by kernel_rfl)
    replace g4 : (fun v B _ => B = [] ∧ Fe v ((p25 - rdN q) % p25)) (vs 4) (bs 4) R := g4
    dsimp only at g4
    obtain ⟨-, h2⟩ := g2
    obtain ⟨-, h4⟩ := g4
    refine l_call0 (aS rfl (aS rfl a0)) (by kernel_rfl) (fsub_spec _ _ _ _ h2 h4 _) rfl ?_
    rintro r M1 J1 ⟨rfl, rfl, hh⟩
    rw [sub_neg (rdN_lt _)] at hh
    exact ⟨_, rfl, rfl, hh⟩
  ·
    exact l_alloc (cs := [.int .u64 0, .int .u64 0, .int .u64 0, .int .u64 0, .int .u64 0]) (by kernel_rfl) rfl fun b => ⟨_, rfl, b, rfl, rfl⟩
  intro vs bs Jn0 hφ
  have g2 := ofH hφ
  dsimp only at g2
  replace hφ := ofT hφ
  have g4 := ofH hφ
  dsimp only at g4
  replace hφ := ofT hφ
  have g5 := ofH hφ
  dsimp only at g5
  replace hφ := ofT hφ
  have g6 := ofH hφ
  dsimp only at g6
  clear hφ
  dsimp only [gEnvO, ownOf, List.map, List.flatten, List.cons_append, List.nil_append]
  generalize bs 2 = B23 at *
  generalize bs 4 = B25 at *
  generalize bs 5 = B26 at *
  generalize bs 6 = B11 at *
  generalize vs 2 = u23 at *
  generalize vs 4 = u25 at *
  generalize vs 5 = u26 at *
  generalize vs 6 = u11 at *
  obtain ⟨rfl, -⟩ := g2
  obtain ⟨rfl, -⟩ := g4
  obtain ⟨rfl, hr26⟩ := g5
  obtain ⟨b11, rfl, rfl⟩ := g6
  have hr260 := hr26
  obtain ⟨a26, b26, c26, d26, e26, rfl, -⟩ := hr26
  dsimp only [List.append_eq, List.nil_append, List.cons_append]
  refine XF.tl rfl rfl rfl (l_storeW rfl rfl Cel.cel (by kernel_rfl) (lnS (lnS (lnS (lnS (lnS (ln0)))))) (allS rfl (allS rfl (allS rfl (allS rfl (allS rfl (all0)))))) UpC.upd ?_)
  refine XF.fin (kp 2 rfl (kp 7 rfl (kp 8 rfl (kp 9 rfl (kp 10 rfl (kp 11 rfl kn)))))) ?_
  refine XC.reg ?_
  refine XL.q (q_move rfl) rfl ?_
  refine XL.q (q_move rfl) rfl ?_
  refine XL.call (aS rfl (aS rfl a0)) (by kernel_rfl) (radd_spec _ _ ws18 ws20 _ (Rd.mono hs18 SubC.sub) (Rd.mono hs20 SubC.sub) hw18 hw20 (by have := nrm_len8 hn18 (by rw [hv18]; exact Nat.lt_trans (rdN_lt _) (by decide)); omega) (by have := nrm_len8 hn20 (by rw [hv20]; exact Nat.lt_trans (rdN_lt _) (by decide)); omega)) rfl ?_
  rintro r29 M29 J29 ⟨rfl, ws29, hs29, hw29, hv29, hn29⟩
  refine XL.q (q_move rfl) rfl ?_
  refine XL.call (aS rfl (aS rfl a0)) (by kernel_rfl) (radd_spec _ _ ws29 ws20 _ (Rd.mono hs29 SubC.sub) (Rd.mono hs20 SubC.sub) hw29 hw20 (nr_len (A := A) (M := []) (r := .nilFunc) hv29 hn29) (by have := nrm_len8 hn20 (by rw [hv20]; exact Nat.lt_trans (rdN_lt _) (by decide)); omega)) rfl ?_
  rintro r31 M31 J31 ⟨rfl, ws31, hs31, hw31, hv31, hn31⟩
  rw [hv29, hv18, hv20] at hv31
  refine XL.q (q_assign rfl) rfl ?_
  refine XL.fin (kp 2 rfl (kp 7 rfl (kp 8 rfl (kp 9 rfl (kp 10 rfl (kp 11 rfl (kp 12 rfl kn))))))) ?_
  refine XC.drawF [0, 1, 2, 3, 4, 5, 6, 7, 8, 9, 10, 11, 12, 13, 14, 15, 16, 17, 18, 19, 20, 21, 22, 23, 24, 25, 26, 27, 28, 29, 30, 31, 32, 33, 34, 35, 36, 37, 38] [(0, 2), (1, 0), (2, 1), (3, 1), (5, 0), (6, 0), (4, 2), (7, 2), (8, 2), (9, 0), (10, 0), (11, 1), (13, 0), (14, 0), (12, 2), (15, 2), (16, 2), (17, 0), (18, 0), (19, 1), (20, 0), (23, 0), (24, 0), (25, 0), (21, 2), (22, 2), (26, 2), (27, 2), (28, 2), (29, 0), (30, 0), (31, 0), (33, 0), (34, 0), (32, 2), (35, 2), (36, 2), (37, 0), (38, 0)] (by kernel_rfl) (by kernel_rfl) fun hs => ?_
  refine XF.callV rfl a0 (by kernel_rfl) (awake_spec _) rfl ?_
  refine XF.q hs rfl (q_move rfl) rfl ?_
  refine XF.rg hs rfl rfl rfl rfl (q_loadW (n := 5) rfl (by kernel_rfl) (by first | exact At.mem | exact mA (by assumption)) (by rfl)) rfl ?_
  refine XF.rg hs rfl rfl rfl rfl (q_loadW (n := 5) rfl (by kernel_rfl) (by first | exact At.mem | exact mA (by assumption)) (by rfl)) rfl ?_
  refine XF.qg hs rfl rfl rfl rfl (q_move rfl) rfl ?_
  refine XF.qg hs rfl rfl rfl rfl (q_move rfl) rfl ?_
  refine XF.callg rfl rfl rfl rfl (aS rfl (aS rfl a0)) (by kernel_rfl) (fmul_spec _ _ _ _ hr140 hr160 _) rfl ?_
  rintro r36 M36 J36 ⟨rfl, rfl, hr36⟩
  have hr360 := hr36
  obtain ⟨a36, b36, c36, d36, e36, rfl, -⟩ := hr36
  refine XF.callg rfl rfl rfl rfl (aS rfl (aS rfl a0)) (by kernel_rfl) (rmul_spec _ _ ws18 ws20 _ (Rd.mono hs18 SubC.sub) (Rd.mono hs20 SubC.sub) hw18 hw20 (by have := nrm_len8 hn18 (by rw [hv18]; exact Nat.lt_trans (rdN_lt _) (by decide)); omega) (by have := nrm_len8 hn20 (by rw [hv20]; exact Nat.lt_trans (rdN_lt _) (by decide)); omega)) rfl ?_
  rintro r39 M39 J39 ⟨rfl, ws39, hs39, hw39, hv39, hn39⟩
  refine XF.callVg rfl rfl rfl rfl (aS rfl (aS rfl a0)) (by kernel_rfl) (isT_spec _ _ _ ws39 _ hr360 (Rd.mono hs39 SubC.sub) hw39 hn39 (by rw [hv39, hv18, hv20])) rfl ?_
  refine XF.q hs rfl (q_pickT rfl rfl) rfl ?_
  refine XF.q hs rfl (q_move rfl) rfl ?_
  refine XF.rg hs rfl rfl rfl rfl (q_loadW (n := 5) rfl (by kernel_rfl) (by first | exact At.mem | exact mA (by assumption)) (by rfl)) rfl ?_
  refine XF.qg hs rfl rfl rfl rfl (q_move rfl) rfl ?_
  refine XF.qg hs rfl rfl rfl rfl (q_move rfl) rfl ?_
  refine XF.callg rfl rfl rfl rfl (aS rfl a0) (by kernel_rfl) (fsquare_spec _ _ hr260 _) rfl ?_
  rintro r44 M44 J44 ⟨rfl, rfl, hr44⟩
  have hr440 := hr44
  obtain ⟨a44, b44, c44, d44, e44, rfl, -⟩ := hr44
  refine XF.callg rfl rfl rfl rfl (aS rfl (aS rfl a0)) (by kernel_rfl) (rmul_spec _ _ ws31 ws31 _ (Rd.mono hs31 SubC.sub) (Rd.mono hs31 SubC.sub) hw31 hw31 (nr_len (A := A) (M := []) (r := .nilFunc) hv31 hn31) (nr_len (A := A) (M := []) (r := .nilFunc) hv31 hn31)) rfl ?_
  rintro r47 M47 J47 ⟨rfl, ws47, hs47, hw47, hv47, hn47⟩
  refine XF.callVg rfl rfl rfl rfl (aS rfl (aS rfl a0)) (by kernel_rfl) (isT_spec _ _ _ ws47 _ hr440 (Rd.mono hs47 SubC.sub) hw47 hn47 (by rw [hv47, hv31])) rfl ?_
  refine XF.q hs rfl (q_pickT rfl rfl) rfl ?_
  refine XF.q hs rfl (q_move rfl) rfl ?_
  refine XF.rg hs rfl rfl rfl rfl (q_loadW (n := 5) rfl (by kernel_rfl) (by first | exact At.mem | exact mA (by assumption)) (by rfl)) rfl ?_
  refine XF.qg hs rfl rfl rfl rfl (q_move rfl) rfl ?_
  refine XF.qg hs rfl rfl rfl rfl (q_move rfl) rfl ?_
  refine XF.qg hs rfl rfl rfl rfl (q_move rfl) rfl ?_
  refine XF.qg hs rfl rfl rfl rfl (q_same (k' := .u64) rfl (by kernel_rfl) (by show _ < 9223372036854775808; omega)) rfl ?_
  refine XF.callg rfl rfl rfl rfl (aS rfl a0) (by kernel_rfl) (fnum_spec n hn _) rfl ?_
  rintro r53 M53 J53 ⟨rfl, rfl, hr53⟩
  have hr530 := hr53
  obtain ⟨a53, b53, c53, d53, e53, rfl, -⟩ := hr53
  refine XF.callg rfl rfl rfl rfl (aS rfl (aS rfl a0)) (by kernel_rfl) (fmul_spec _ _ _ _ hr260 hr530 _) rfl ?_
  rintro r54 M54 J54 ⟨rfl, rfl, hr54⟩
  have hr540 := hr54
  obtain ⟨a54, b54, c54, d54, e54, rfl, -⟩ := hr54
  refine XF.callg rfl rfl rfl rfl (aS rfl a0) (by kernel_rfl) (small_spec n (by omega) _) rfl ?_
  rintro r58 M58 J58 ⟨rfl, ws58, hs58, hw58, hv58, hl58⟩
  refine XF.callg rfl rfl rfl rfl (aS rfl (aS rfl a0)) (by kernel_rfl) (rmul_spec _ _ ws31 ws58 _ (Rd.mono hs31 SubC.sub) (hs58.rd SubC.sub) hw31 hw58 (nr_len (A := A) (M := []) (r := .nilFunc) hv31 hn31) (by omega)) rfl ?_
  rintro r59 M59 J59 ⟨rfl, ws59, hs59, hw59, hv59, hn59⟩
  refine XF.callVg rfl rfl rfl rfl (aS rfl (aS rfl a0)) (by kernel_rfl) (isT_spec _ _ _ ws59 _ hr540 (Rd.mono hs59 SubC.sub) hw59 hn59 (by rw [hv59, hv31, hv58])) rfl ?_
  refine XF.q hs rfl (q_pickT rfl rfl) rfl ?_
  refine XF.q hs rfl (q_move rfl) rfl ?_
  refine XF.qg hs rfl rfl rfl rfl (q_move rfl) rfl ?_
  refine XF.qg hs rfl rfl rfl rfl (q_move rfl) rfl ?_
  refine XF.qg hs rfl rfl rfl rfl (q_same (k' := .u64) rfl (by kernel_rfl) (by show _ < 9223372036854775808; omega)) rfl ?_
  refine XF.callg rfl rfl rfl rfl (aS rfl a0) (by kernel_rfl) (fnum_spec n hn _) rfl ?_
  rintro r64 M64 J64 ⟨rfl, rfl, hr64⟩
  have hr640 := hr64
  obtain ⟨a64, b64, c64, d64, e64, rfl, -⟩ := hr64
  refine XF.callg rfl rfl rfl rfl (aS rfl a0) (by kernel_rfl) (small_spec n (by omega) _) rfl ?_
  rintro r67 M67 J67 ⟨rfl, ws67, hs67, hw67, hv67, hl67⟩
  refine XF.callVg rfl rfl rfl rfl (aS rfl (aS rfl a0)) (by kernel_rfl) (isL_spec _ _ _ ws67 _ hr640 (hs67.rd SubC.sub) hw67 (by omega) hv67) rfl ?_
  refine XF.q hs rfl (q_pickT rfl rfl) rfl ?_
  refine XF.q hs rfl (q_assign rfl) rfl ?_
  refine XF.fin (kp 6 rfl kn) ?_
  refine XC.ret ?_
  exact ⟨_, [], [], res1 rfl rfl, List.nil_sublist _, by simp, rfl, rfl, rfl⟩

theorem fieldPowers_spec (p : List Nat) (pl : p.length = 32) (p256 : ∀ x ∈ p, x < 256) (e : List Nat) (el : e.length = 32) (e256 : ∀ x ∈ e, x < 256) (A : Mem) : FnV Try.prog 3 [.agg (nums .u8 p).toArray, .agg (nums .u8 e).toArray] A (.bool true) := by
  refine FnX.enter (N := 44) Try.func3 rfl rfl rfl fun w => ?_
  refine XC.keep (kp 0 rfl (kp 1 rfl kn)) ?_
  refine XC.reg ?_
  refine XL.lo rfl (l_box rfl rfl rfl fun b2 => ?_)
  refine XL.lo rfl (l_box rfl rfl rfl fun b3 => ?_)
  refine XL.q (q_assign rfl) rfl ?_
  refine XL.fin (kp 2 rfl (kp 3 rfl kn)) ?_
  refine XC.reg ?_
  refine XL.q (q_slArr (sz := 1) (e := 5) (n := 32) rfl (by kernel_rfl) (by kernel_rfl)) rfl ?_
  refine XL.call (aS rfl a0) (by kernel_rfl) (fread_spec _ p _ (rd_eq (Rd.whole (n := 32) At.mem (by simp [pl])) pl.symm rfl) p256 (by omega)) rfl ?_
  rintro r10 M10 J10 ⟨rfl, rfl, hr10⟩
  have hr100 := hr10
  obtain ⟨a10, b10, c10, d10, e10, rfl, -⟩ := hr10
  refine XL.lo rfl (l_alloc (cs := [.int .u64 0, .int .u64 0, .int .u64 0, .int .u64 0, .int .u64 0]) (by kernel_rfl) rfl fun b5 => ?_)
  refine XL.lo rfl (l_storeW rfl rfl Cel.cel (by kernel_rfl) (lnS (lnS (lnS (lnS (lnS (ln0)))))) (allS rfl (allS rfl (allS rfl (allS rfl (allS rfl (all0)))))) UpC.upd ?_)
  refine XL.fin (kp 2 rfl (kp 3 rfl (kp 5 rfl kn))) ?_
  refine XC.reg ?_
  refine XL.q (q_slArr (sz := 1) (e := 5) (n := 32) rfl (by kernel_rfl) (by kernel_rfl)) rfl ?_
  refine XL.call (aS rfl a0) (by kernel_rfl) (rof_spec _ p _ (rd_eq (Rd.whole (n := 32) At.mem (by simp [pl])) pl.symm rfl) p256 (by omega)) rfl ?_
  rintro r12 M12 J12 ⟨rfl, ws12, hs12, hw12, hv12, hn12⟩
  refine XL.q (q_assign rfl) rfl ?_
  refine XL.fin (kp 3 rfl (kp 5 rfl (kp 6 rfl kn))) ?_
  refine XC.reg ?_
  refine XL.q (q_loadW (n := 5) rfl (by kernel_rfl) (by first | exact At.mem | exact mA (by assumption)) (by rfl)) rfl ?_
  refine XL.call (aS rfl a0) (by kernel_rfl) (finv_spec _ _ hr100 _) rfl ?_
  rintro r14 M14 J14 ⟨rfl, rfl, n14, hn14, hr14⟩
  have hr140 := hr14
  obtain ⟨a14, b14, c14, d14, e14, rfl, -⟩ := hr14
  refine XL.lo rfl (l_alloc (cs := [.int .u64 0, .int .u64 0, .int .u64 0, .int .u64 0, .int .u64 0]) (by kernel_rfl) rfl fun b7 => ?_)
  refine XL.lo rfl (l_storeW rfl rfl Cel.cel (by kernel_rfl) (lnS (lnS (lnS (lnS (lnS (ln0)))))) (allS rfl (allS rfl (allS rfl (allS rfl (allS rfl (all0)))))) UpC.upd ?_)
  refine XL.fin (kp 3 rfl (kp 5 rfl (kp 6 rfl (kp 7 rfl kn)))) ?_
  refine XC.reg ?_
  refine XL.call (aS rfl a0) (by kernel_rfl) (fnum_spec 1 (by decide) _) rfl ?_
  rintro r15 M15 J15 ⟨rfl, rfl, hr15⟩
  have hr150 := hr15
  obtain ⟨a15, b15, c15, d15, e15, rfl, -⟩ := hr15
  refine XL.lo rfl (l_alloc (cs := [.int .u64 0, .int .u64 0, .int .u64 0, .int .u64 0, .int .u64 0]) (by kernel_rfl) rfl fun b8 => ?_)
  refine XL.lo rfl (l_storeW rfl rfl Cel.cel (by kernel_rfl) (lnS (lnS (lnS (lnS (lnS (ln0)))))) (allS rfl (allS rfl (allS rfl (allS rfl (allS rfl (all0)))))) UpC.upd ?_)
  refine XL.fin (kp 3 rfl (kp 5 rfl (kp 6 rfl (kp 7 rfl (kp 8 rfl kn))))) ?_
  refine XC.seq ?_
  refine XC.reg ?_
  refine XL.q (q_move rfl) rfl ?_
  refine XL.q (q_lenV2 (sz := 1) rfl (by kernel_rfl) (by first | assumption | exact Sl.rd (by assumption) (fun _ h => h))) rfl ?_
  refine XL.q (q_bin rfl rfl rfl) rfl ?_
  refine XL.fin (kp 3 rfl (kp 5 rfl (kp 6 rfl (kp 7 rfl (kp 8 rfl (kp 18 rfl kn)))))) ?_
  refine XC.cond rfl (fun hc => ?_) (fun hc => ?_)
  ·
    have h0 : rdN p = 0 := hv12 ▸ (nrm_zero hn12).1 (by generalize ws12.length = k at hc ⊢; simp at hc; omega)
    refine XC.reg1 ?_
    refine XL.call (aS rfl a0) (by kernel_rfl) (fnum_spec 0 (by decide) _) rfl ?_
    rintro r19 M19 J19 ⟨rfl, rfl, hr19⟩
    have hr190 := hr19
    obtain ⟨a19, b19, c19, d19, e19, rfl, -⟩ := hr19
    refine XL.lo rfl (l_storeW rfl rfl Cel.cel (by kernel_rfl) (lnS (lnS (lnS (lnS (lnS (ln0)))))) (allS rfl (allS rfl (allS rfl (allS rfl (allS rfl (all0)))))) UpC.upd ?_)
    refine XL.fin (kp 3 rfl (kp 5 rfl (kp 6 rfl (kp 7 rfl (kp 8 rfl kn))))) ?_
    refine XC.drawF [0, 1, 2, 3, 4, 5, 6, 7, 8, 9, 10, 11, 12, 13, 14, 15, 16, 17, 18, 19, 20, 21, 22, 23, 24] [(0, 2), (1, 0), (2, 1), (3, 1), (5, 0), (6, 0), (4, 2), (7, 2), (8, 2), (9, 2), (10, 0), (11, 0), (12, 1), (13, 0), (14, 2), (15, 2), (16, 0), (17, 0), (18, 1), (19, 1), (21, 1), (20, 2), (22, 2), (23, 0), (24, 0)] (by kernel_rfl) (by kernel_rfl) fun hs => ?_
    refine XF.callV rfl a0 (by kernel_rfl) (awake_spec _) rfl ?_
    refine XF.q hs rfl (q_move rfl) rfl ?_
    refine XF.rg hs rfl rfl rfl rfl (q_loadW (n := 5) rfl (by kernel_rfl) (by first | exact At.mem | exact mA (by assumption)) (by rfl)) rfl ?_
    refine XF.rg hs rfl rfl rfl rfl (q_loadW (n := 32) (cs := nums .u8 e) rfl (by kernel_rfl) At.mem (by simp [el])) rfl ?_
    refine XF.qg hs rfl rfl rfl rfl (q_move rfl) rfl ?_
    refine XF.qg hs rfl rfl rfl rfl (q_slArr (sz := 1) (e := 5) (n := 32) rfl (by kernel_rfl) (by kernel_rfl)) rfl ?_
    refine XF.callg rfl rfl rfl rfl (aS rfl (aS rfl a0)) (by kernel_rfl) (fpower_spec _ _ hr100 e el e256 _) rfl ?_
    rintro r24 M24 J24 ⟨rfl, rfl, hr24⟩
    have hr240 := hr24
    obtain ⟨a24, b24, c24, d24, e24, rfl, -⟩ := hr24
    refine XF.callg rfl rfl rfl rfl (aS rfl a0) (by kernel_rfl) (low_spec _ e _ (rd_eq (Rd.whole (n := 32) At.mem (by simp [el])) el.symm rfl) e256 (by omega)) rfl ?_
    rintro r27 M27 J27 ⟨rfl, ws27, hs27, hw27, hv27, hn27, hl27⟩
    refine XF.callg rfl rfl rfl rfl (aS rfl (aS rfl a0)) (by kernel_rfl) (rpow_spec _ _ ws12 ws27 _ (Rd.mono hs12 SubC.sub) (hs27.rd SubC.sub) hw12 hw27 (by have := nrm_len8 hn12 (by rw [hv12]; exact Nat.lt_trans (rdN_lt _) (by decide)); omega) (by omega)) rfl ?_
    rintro r28 M28 J28 ⟨rfl, ws28, hs28, hw28, hv28, hn28⟩
    refine XF.callVg rfl rfl rfl rfl (aS rfl (aS rfl a0)) (by kernel_rfl) (isT_spec _ _ _ ws28 _ hr240 (Rd.mono hs28 SubC.sub) hw28 hn28 (by rw [hv28, hv12, hv27])) rfl ?_
    refine XF.q hs rfl (q_pickT rfl rfl) rfl ?_
    refine XF.q hs rfl (q_move rfl) rfl ?_
    refine XF.rg hs rfl rfl rfl rfl (q_loadW (n := 5) rfl (by kernel_rfl) (by first | exact At.mem | exact mA (by assumption)) (by rfl)) rfl ?_
    refine XF.qg hs rfl rfl rfl rfl (q_move rfl) rfl ?_
    refine XF.callg rfl rfl rfl rfl (aS rfl a0) (by kernel_rfl) (rinv_spec _ ws12 _ (Rd.mono hs12 SubC.sub) hw12 (by have := nrm_len8 hn12 (by rw [hv12]; exact Nat.lt_trans (rdN_lt _) (by decide)); omega)) rfl ?_
    rintro r34 M34 J34 ⟨rfl, m34, hm34, ws34, hs34, hw34, hv34, hn34⟩
    refine XF.callVg rfl rfl rfl rfl (aS rfl (aS rfl a0)) (by kernel_rfl) (isT_spec _ _ _ ws34 _ hr140 (Rd.mono hs34 SubC.sub) hw34 hn34 (by rw [hv34, hv12, show m34 = n14 by omega])) rfl ?_
    refine XF.q hs rfl (q_pickT rfl rfl) rfl ?_
    refine XF.q hs rfl (q_move rfl) rfl ?_
    refine XF.rg hs rfl rfl rfl rfl (q_loadW (n := 5) rfl (by kernel_rfl) (by first | exact At.mem | exact mA (by assumption)) (by rfl)) rfl ?_
    refine XF.rg hs rfl rfl rfl rfl (q_loadW (n := 5) rfl (by kernel_rfl) (by first | exact At.mem | exact mA (by assumption)) (by rfl)) rfl ?_
    refine XF.rg hs rfl rfl rfl rfl (q_loadW (n := 5) rfl (by kernel_rfl) (by first | exact At.mem | exact mA (by assumption)) (by rfl)) rfl ?_
    refine XF.callg rfl rfl rfl rfl (aS rfl (aS rfl a0)) (by kernel_rfl) (fmul_spec _ _ _ _ hr100 hr140 _) rfl ?_
    rintro r40 M40 J40 ⟨rfl, rfl, hr40⟩
    have hr400 := hr40
    obtain ⟨a40, b40, c40, d40, e40, rfl, -⟩ := hr40
    refine XF.callVg rfl rfl rfl rfl (aS rfl (aS rfl a0)) (by kernel_rfl) (sameT_spec _ _ _ _ _ hr400 hr190 (by rw [h0, Nat.zero_mul, Nat.zero_mod])) rfl ?_
    refine XF.q hs rfl (q_pickT rfl rfl) rfl ?_
    refine XF.q hs rfl (q_assign rfl) rfl ?_
    refine XF.fin (kp 4 rfl kn) ?_
    refine XC.ret ?_
    exact ⟨_, [], [], res1 rfl rfl, List.nil_sublist _, by simp, rfl, rfl, rfl⟩
  ·
    have h0 : rdN p ≠ 0 := fun h => absurd ((nrm_zero hn12).2 (hv12.trans h)) (by generalize ws12.length = k at hc ⊢; simp at hc; omega)
    refine XC.skip ?_
    refine nx (kp 3 rfl (kp 5 rfl (kp 6 rfl (kp 7 rfl (kp 8 rfl kn))))) ?_
    refine XC.drawF [0, 1, 2, 3, 4, 5, 6, 7, 8, 9, 10, 11, 12, 13, 14, 15, 16, 17, 18, 19, 20, 21, 22, 23, 24] [(0, 2), (1, 0), (2, 1), (3, 1), (5, 0), (6, 0), (4, 2), (7, 2), (8, 2), (9, 2), (10, 0), (11, 0), (12, 1), (13, 0), (14, 2), (15, 2), (16, 0), (17, 0), (18, 1), (19, 1), (21, 1), (20, 2), (22, 2), (23, 0), (24, 0)] (by kernel_rfl) (by kernel_rfl) fun hs => ?_
    refine XF.callV rfl a0 (by kernel_rfl) (awake_spec _) rfl ?_
    refine XF.q hs rfl (q_move rfl) rfl ?_
    refine XF.rg hs rfl rfl rfl rfl (q_loadW (n := 5) rfl (by kernel_rfl) (by first | exact At.mem | exact mA (by assumption)) (by rfl)) rfl ?_
    refine XF.rg hs rfl rfl rfl rfl (q_loadW (n := 32) (cs := nums .u8 e) rfl (by kernel_rfl) At.mem (by simp [el])) rfl ?_
    refine XF.qg hs rfl rfl rfl rfl (q_move rfl) rfl ?_
    refine XF.qg hs rfl rfl rfl rfl (q_slArr (sz := 1) (e := 5) (n := 32) rfl (by kernel_rfl) (by kernel_rfl)) rfl ?_
    refine XF.callg rfl rfl rfl rfl (aS rfl (aS rfl a0)) (by kernel_rfl) (fpower_spec _ _ hr100 e el e256 _) rfl ?_
    rintro r24 M24 J24 ⟨rfl, rfl, hr24⟩
    have hr240 := hr24
    obtain ⟨a24, b24, c24, d24, e24, rfl, -⟩ := hr24
    refine XF.callg rfl rfl rfl rfl (aS rfl a0) (by kernel_rfl) (low_spec _ e _ (rd_eq (Rd.whole (n := 32) At.mem (by simp [el])) el.symm rfl) e256 (by omega)) rfl ?_
    rintro r27 M27 J27 ⟨rfl, ws27, hs27, hw27, hv27, hn27, hl27⟩
    refine XF.callg rfl rfl rfl rfl (aS rfl (aS rfl a0)) (by kernel_rfl) (rpow_spec _ _ ws12 ws27 _ (Rd.mono hs12 SubC.sub) (hs27.rd SubC.sub) hw12 hw27 (by have := nrm_len8 hn12 (by rw [hv12]; exact Nat.lt_trans (rdN_lt _) (by decide)); omega) (by omega)) rfl ?_
    rintro r28 M28 J28 ⟨rfl, ws28, hs28, hw28, hv28, hn28⟩
    refine XF.callVg rfl rfl rfl rfl (aS rfl (aS rfl a0)) (by kernel_rfl) (isT_spec _ _ _ ws28 _ hr240 (Rd.mono hs28 SubC.sub) hw28 hn28 (by rw [hv28, hv12, hv27])) rfl ?_
    refine XF.q hs rfl (q_pickT rfl rfl) rfl ?_
    refine XF.q hs rfl (q_move rfl) rfl ?_
    refine XF.rg hs rfl rfl rfl rfl (q_loadW (n := 5) rfl (by kernel_rfl) (by first | exact At.mem | exact mA (by assumption)) (by rfl)) rfl ?_
    refine XF.qg hs rfl rfl rfl rfl (q_move rfl) rfl ?_
    refine XF.callg rfl rfl rfl rfl (aS rfl a0) (by kernel_rfl) (rinv_spec _ ws12 _ (Rd.mono hs12 SubC.sub) hw12 (by have := nrm_len8 hn12 (by rw [hv12]; exact Nat.lt_trans (rdN_lt _) (by decide)); omega)) rfl ?_
    rintro r34 M34 J34 ⟨rfl, m34, hm34, ws34, hs34, hw34, hv34, hn34⟩
    refine XF.callVg rfl rfl rfl rfl (aS rfl (aS rfl a0)) (by kernel_rfl) (isT_spec _ _ _ ws34 _ hr140 (Rd.mono hs34 SubC.sub) hw34 hn34 (by rw [hv34, hv12, show m34 = n14 by omega])) rfl ?_
    refine XF.q hs rfl (q_pickT rfl rfl) rfl ?_
    refine XF.q hs rfl (q_move rfl) rfl ?_
    refine XF.rg hs rfl rfl rfl rfl (q_loadW (n := 5) rfl (by kernel_rfl) (by first | exact At.mem | exact mA (by assumption)) (by rfl)) rfl ?_
    refine XF.rg hs rfl rfl rfl rfl (q_loadW (n := 5) rfl (by kernel_rfl) (by first | exact At.mem | exact mA (by assumption)) (by rfl)) rfl ?_
    refine XF.rg hs rfl rfl rfl rfl (q_loadW (n := 5) rfl (by kernel_rfl) (by first | exact At.mem | exact mA (by assumption)) (by rfl)) rfl ?_
    refine XF.callg rfl rfl rfl rfl (aS rfl (aS rfl a0)) (by kernel_rfl) (fmul_spec _ _ _ _ hr100 hr140 _) rfl ?_
    rintro r40 M40 J40 ⟨rfl, rfl, hr40⟩
    have hr400 := hr40
    obtain ⟨a40, b40, c40, d40, e40, rfl, -⟩ := hr40
    refine XF.callVg rfl rfl rfl rfl (aS rfl (aS rfl a0)) (by kernel_rfl) (sameT_spec _ _ _ _ _ hr400 hr150 (by rw [Nat.mul_comm]; exact inv_law (not_dvd h0 (rdN_lt p)) hn14)) rfl ?_
    refine XF.q hs rfl (q_pickT rfl rfl) rfl ?_
    refine XF.q hs rfl (q_assign rfl) rfl ?_
    refine XF.fin (kp 4 rfl kn) ?_
    refine XC.ret ?_
    exact ⟨_, [], [], res1 rfl rfl, List.nil_sublist _, by simp, rfl, rfl, rfl⟩

theorem fieldRoots_spec (p : List Nat) (pl : p.length = 32) (p256 : ∀ x ∈ p, x < 256) (A : Mem) : FnV Try.prog 8 [.agg (nums .u8 p).toArray] A (.bool true) := by
  refine FnX.enter (N := 49) Try.func8 rfl rfl rfl fun w => ?_
  refine XC.keep (kp 0 rfl kn) ?_
  refine XC.reg ?_
  refine XL.lo rfl (l_box rfl rfl rfl fun b1 => ?_)
  refine XL.q (q_assign rfl) rfl ?_
  refine XL.fin (kp 1 rfl kn) ?_
  refine XC.reg ?_
  refine XL.q (q_slArr (sz := 1) (e := 5) (n := 32) rfl (by kernel_rfl) (by kernel_rfl)) rfl ?_
  refine XL.call (aS rfl a0) (by kernel_rfl) (fread_spec _ p _ (rd_eq (Rd.whole (n := 32) At.mem (by simp [pl])) pl.symm rfl) p256 (by omega)) rfl ?_
  rintro r9 M9 J9 ⟨rfl, rfl, hr9⟩
  have hr90 := hr9
  obtain ⟨a9, b9, c9, d9, e9, rfl, -⟩ := hr9
  refine XL.lo rfl (l_alloc (cs := [.int .u64 0, .int .u64 0, .int .u64 0, .int .u64 0, .int .u64 0]) (by kernel_rfl) rfl fun b3 => ?_)
  refine XL.lo rfl (l_storeW rfl rfl Cel.cel (by kernel_rfl) (lnS (lnS (lnS (lnS (lnS (ln0)))))) (allS rfl (allS rfl (allS rfl (allS rfl (allS rfl (all0)))))) UpC.upd ?_)
  refine XL.fin (kp 1 rfl (kp 3 rfl kn)) ?_
  refine XC.reg ?_
  refine XL.q (q_loadW (n := 5) rfl (by kernel_rfl) (by first | exact At.mem | exact mA (by assumption)) (by rfl)) rfl ?_
  refine XL.call (aS rfl a0) (by kernel_rfl) (froot_spec _ _ hr90 _) rfl ?_
  rintro r12 M12 J12 ⟨rfl, rfl, hR⟩
  obtain ⟨u12, ok, y12, rfl, hr12, hok, hroot⟩ := rt_law (rdN_lt p) half hR
  have hr120 := hr12
  obtain ⟨a12, b12, c12, d12, e12, rfl, -⟩ := hr12
  refine XL.q (q_move rfl) rfl ?_
  refine XL.q (q_x0 rfl) rfl ?_
  refine XL.q (q_x1 rfl) rfl ?_
  refine XL.lo rfl (l_alloc (cs := [.int .u64 0, .int .u64 0, .int .u64 0, .int .u64 0, .int .u64 0]) (by kernel_rfl) rfl fun b4 => ?_)
  refine XL.lo rfl (l_storeW rfl rfl Cel.cel (by kernel_rfl) (lnS (lnS (lnS (lnS (lnS (ln0)))))) (allS rfl (allS rfl (allS rfl (allS rfl (allS rfl (all0)))))) UpC.upd ?_)
  refine XL.q (q_assign rfl) rfl ?_
  refine XL.fin (kp 1 rfl (kp 3 rfl (kp 4 rfl (kp 5 rfl kn)))) ?_
  refine XC.reg ?_
  refine XL.q (q_loadW (n := 5) rfl (by kernel_rfl) (by first | exact At.mem | exact mA (by assumption)) (by rfl)) rfl ?_
  refine XL.call (aS rfl a0) (by kernel_rfl) (fsquare_spec _ _ hr90 _) rfl ?_
  rintro r17 M17 J17 ⟨rfl, rfl, hr17⟩
  have hr170 := hr17
  obtain ⟨a17, b17, c17, d17, e17, rfl, -⟩ := hr17
  refine XL.call (aS rfl a0) (by kernel_rfl) (froot_spec _ _ hr170 _) rfl ?_
  rintro r18 M18 J18 ⟨rfl, rfl, hR2⟩
  obtain ⟨u18, ok2, y18, rfl, hr18, hok2, hroot2⟩ := rt_law (Nat.mod_lt _ (by decide)) half hR2
  rw [decide_eq_true (sq_has half)] at hok2
  subst hok2
  replace hroot2 := hroot2 rfl
  have hr180 := hr18
  obtain ⟨a18, b18, c18, d18, e18, rfl, -⟩ := hr18
  refine XL.q (q_move rfl) rfl ?_
  refine XL.q (q_x0 rfl) rfl ?_
  refine XL.q (q_x1 rfl) rfl ?_
  refine XL.lo rfl (l_alloc (cs := [.int .u64 0, .int .u64 0, .int .u64 0, .int .u64 0, .int .u64 0]) (by kernel_rfl) rfl fun b6 => ?_)
  refine XL.lo rfl (l_storeW rfl rfl Cel.cel (by kernel_rfl) (lnS (lnS (lnS (lnS (lnS (ln0)))))) (allS rfl (allS rfl (allS rfl (allS rfl (allS rfl (all0)))))) UpC.upd ?_)
  refine XL.q (q_assign rfl) rfl ?_
  refine XL.fin (kp 1 rfl (kp 3 rfl (kp 4 rfl (kp 5 rfl (kp 6 rfl (kp 7 rfl kn)))))) ?_
  refine XC.drawF [0, 1, 2, 3, 4, 5, 6, 7, 8, 9, 10, 11, 12, 13, 14, 15, 16, 17, 18, 19, 20, 21, 22, 23, 24, 25, 26, 27, 28] [(0, 2), (1, 0), (2, 0), (3, 0), (4, 2), (5, 2), (6, 0), (7, 0), (8, 0), (9, 0), (10, 0), (11, 0), (12, 1), (14, 1), (13, 2), (15, 2), (16, 0), (17, 0), (18, 0), (19, 0), (20, 0), (21, 0), (22, 1), (24, 1), (23, 2), (25, 2), (26, 2), (27, 0), (28, 0)] (by kernel_rfl) (by kernel_rfl) fun hs => ?_
  refine XF.callV rfl a0 (by kernel_rfl) (awake_spec _) rfl ?_
  refine XF.q hs rfl (q_move rfl) rfl ?_
  refine XF.qg hs rfl rfl rfl rfl (q_move rfl) rfl ?_
  refine XF.qg hs rfl rfl rfl rfl (q_slArr (sz := 1) (e := 5) (n := 32) rfl (by kernel_rfl) (by kernel_rfl)) rfl ?_
  refine XF.callg rfl rfl rfl rfl (aS rfl a0) (by kernel_rfl) (rof_spec _ p _ (rd_eq (Rd.whole (n := 32) At.mem (by simp [pl])) pl.symm rfl) p256 (by omega)) rfl ?_
  rintro r25 M25 J25 ⟨rfl, ws25, hs25, hw25, hv25, hn25⟩
  refine XF.callVg rfl rfl rfl rfl (aS rfl a0) (by kernel_rfl) (rsquare_spec _ ws25 _ (Rd.mono hs25 SubC.sub) hw25 hn25 (by have := nrm_len8 hn25 (by rw [hv25]; exact Nat.lt_trans (rdN_lt _) (by decide)); omega) _ rfl) rfl ?_
  refine XF.qg hs rfl rfl rfl rfl (q_boolEqR true rfl rfl (by kernel_rfl) (by rw [hv25, hok]; simp)) rfl ?_
  refine XF.q hs rfl (q_pickT rfl rfl) rfl ?_
  refine XF.q hs rfl (q_move rfl) rfl ?_
  refine XF.qg hs rfl rfl rfl rfl (q_move rfl) rfl ?_
  refine XF.qg hs rfl rfl rfl rfl (q_not rfl) rfl ?_
  refine XF.qg hs rfl rfl rfl rfl (q_move rfl) rfl ?_
  refine XF.split (t := 32) rfl (fun hb => ?_) (fun hb => ?_)
  ·
    refine XF.rn hs rfl rfl rfl rfl rfl rfl ?_
    refine XF.rn hs rfl rfl rfl rfl rfl rfl ?_
    refine XF.ln hs rfl rfl rfl rfl rfl rfl ?_
    refine XF.ln hs rfl rfl rfl rfl rfl rfl ?_
    refine XF.qg hs rfl rfl rfl rfl (q_pickT rfl rfl) rfl ?_
    refine XF.q hs rfl (q_pickT rfl rfl) rfl ?_
    refine XF.q hs rfl (q_move rfl) rfl ?_
    refine XF.qg hs rfl rfl rfl rfl (q_move rfl) rfl ?_
    refine XF.q hs rfl (q_pickT rfl rfl) rfl ?_
    refine XF.q hs rfl (q_move rfl) rfl ?_
    refine XF.rg hs rfl rfl rfl rfl (q_loadW (n := 5) rfl (by kernel_rfl) (by first | exact At.mem | exact mA (by assumption)) (by rfl)) rfl ?_
    refine XF.rg hs rfl rfl rfl rfl (q_loadW (n := 5) rfl (by kernel_rfl) (by first | exact At.mem | exact mA (by assumption)) (by rfl)) rfl ?_
    refine XF.callg rfl rfl rfl rfl (aS rfl a0) (by kernel_rfl) (fsquare_spec _ _ hr180 _) rfl ?_
    rintro r44 M44 J44 ⟨rfl, rfl, hr44⟩
    have hr440 := hr44
    obtain ⟨a44, b44, c44, d44, e44, rfl, -⟩ := hr44
    refine XF.callg rfl rfl rfl rfl (aS rfl a0) (by kernel_rfl) (fsquare_spec _ _ hr90 _) rfl ?_
    rintro r46 M46 J46 ⟨rfl, rfl, hr46⟩
    have hr460 := hr46
    obtain ⟨a46, b46, c46, d46, e46, rfl, -⟩ := hr46
    refine XF.callVg rfl rfl rfl rfl (aS rfl (aS rfl a0)) (by kernel_rfl) (sameT_spec _ _ _ _ _ hr440 hr460 hroot2) rfl ?_
    refine XF.q hs rfl (q_pickT rfl rfl) rfl ?_
    refine XF.q hs rfl (q_assign rfl) rfl ?_
    refine XF.fin (kp 2 rfl kn) ?_
    refine XC.ret ?_
    exact ⟨_, [], [], res1 rfl rfl, List.nil_sublist _, by simp, rfl, rfl, rfl⟩
  ·
    refine XF.rg hs rfl rfl rfl rfl (q_loadW (n := 5) rfl (by kernel_rfl) (by first | exact At.mem | exact mA (by assumption)) (by rfl)) rfl ?_
    refine XF.rg hs rfl rfl rfl rfl (q_loadW (n := 5) rfl (by kernel_rfl) (by first | exact At.mem | exact mA (by assumption)) (by rfl)) rfl ?_
    refine XF.callg rfl rfl rfl rfl (aS rfl a0) (by kernel_rfl) (fsquare_spec _ _ hr120 _) rfl ?_
    rintro r34 M34 J34 ⟨rfl, rfl, hr34⟩
    have hr340 := hr34
    obtain ⟨a34, b34, c34, d34, e34, rfl, -⟩ := hr34
    refine XF.callVg rfl rfl rfl rfl (aS rfl (aS rfl a0)) (by kernel_rfl) (sameT_spec _ _ _ _ _ hr340 hr90 (hroot (by simpa using hb))) rfl ?_
    refine XF.qg hs rfl rfl rfl rfl (q_pickF rfl rfl) rfl ?_
    refine XF.q hs rfl (q_pickT rfl rfl) rfl ?_
    refine XF.q hs rfl (q_move rfl) rfl ?_
    refine XF.qg hs rfl rfl rfl rfl (q_move rfl) rfl ?_
    refine XF.q hs rfl (q_pickT rfl rfl) rfl ?_
    refine XF.q hs rfl (q_move rfl) rfl ?_
    refine XF.rg hs rfl rfl rfl rfl (q_loadW (n := 5) rfl (by kernel_rfl) (by first | exact At.mem | exact mA (by assumption)) (by rfl)) rfl ?_
    refine XF.rg hs rfl rfl rfl rfl (q_loadW (n := 5) rfl (by kernel_rfl) (by first | exact At.mem | exact mA (by assumption)) (by rfl)) rfl ?_
    refine XF.callg rfl rfl rfl rfl (aS rfl a0) (by kernel_rfl) (fsquare_spec _ _ hr180 _) rfl ?_
    rintro r44 M44 J44 ⟨rfl, rfl, hr44⟩
    have hr440 := hr44
    obtain ⟨a44, b44, c44, d44, e44, rfl, -⟩ := hr44
    refine XF.callg rfl rfl rfl rfl (aS rfl a0) (by kernel_rfl) (fsquare_spec _ _ hr90 _) rfl ?_
    rintro r46 M46 J46 ⟨rfl, rfl, hr46⟩
    have hr460 := hr46
    obtain ⟨a46, b46, c46, d46, e46, rfl, -⟩ := hr46
    refine XF.callVg rfl rfl rfl rfl (aS rfl (aS rfl a0)) (by kernel_rfl) (sameT_spec _ _ _ _ _ hr440 hr460 hroot2) rfl ?_
    refine XF.q hs rfl (q_pickT rfl rfl) rfl ?_
    refine XF.q hs rfl (q_assign rfl) rfl ?_
    refine XF.fin (kp 2 rfl kn) ?_
    refine XC.ret ?_
    exact ⟨_, [], [], res1 rfl rfl, List.nil_sublist _, by simp, rfl, rfl, rfl⟩
