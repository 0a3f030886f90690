/- Part 14 of the texts of this claim, one behind the other. -/
import Derived.Test.YtphcaiplgpmnnaaGreatDoorB13
set_option linter.unusedVariables false
set_option linter.unusedSimpArgs false
set_option maxRecDepth 100000
namespace Go.Proofs.YtphcaiplgpmnnaaGreatDoor
open Go.Px
/-- What the package variables of sha hold. -/
structure GlS (A : Mem) : Prop where
  first : ∃ e f, (0, Obj.cells (nums .u32 hFirst.list).toArray e f) ∈ A
  round : ∃ e f, (1, Obj.cells (nums .u32 kTab).toArray e f) ∈ A
theorem GlS.sub {A A' : Mem} (h : GlS A) (hs : ∀ x, x ∈ A → x ∈ A') : GlS A' := by
  obtain ⟨⟨a, b, c⟩, ⟨d, e, f⟩⟩ := h
  exact ⟨⟨a, b, hs _ c⟩, ⟨d, e, hs _ f⟩⟩
theorem GlS.up {M J A : Mem} (h : GlS A) : GlS (M ++ (J ++ A)) := h.sub fun _ h => mA h
theorem wide_len (p : List Nat) : (wide p).length = 64 := by simp [wide, sha256_len]
theorem wide_lt (p : List Nat) : ∀ x ∈ wide p, x < 256 := by
  intro x hx
  rcases List.mem_append.1 hx with h | h <;> exact sha_lt _ x h
theorem sl_by {R B : Mem} {v : Value} {w : List Nat} {n : Nat} (h : Sl 1 v n (nums .u8 w) B) (hn : n = w.length) (hlt : ∀ x ∈ w, x < 256) (hl : w.length ≤ 16777216) (hR : ∀ x, x ∈ B → x ∈ R) : By R v w := ⟨hn ▸ h.rd hR, hlt, hl⟩
theorem cmp_geq {k : IntKind} (x y : Nat) : arith .geq k (x : Int) (y : Int) = some (.bool (decide (y ≤ x))) := by
  by_cases h : y ≤ x
  · rw [decide_eq_true h]; exact geT (by omega)
  · rw [decide_eq_false h]; exact geF (by omega)
theorem dg_bv {n : Nat} (h : n < lN) : bv (digs n 32) = n := by rw [bv_digs, Nat.mod_eq_of_lt (Nat.lt_trans h (by decide))]
/-- What Read answers. -/
def RdR (r : Value) (w : List Nat) : Prop := ∃ V b, r = .tuple #[V, .bool b] ∧ ((∃ P, pRead w = some P ∧ b = true ∧ FeP V P) ∨ (pRead w = none ∧ b = false ∧ FeP V pZ))
theorem pRead_len {w : List Nat} (h : ¬ w.length = 32) : pRead w = none := if_neg h
theorem pRead_none {w : List Nat} (h : atN (rdN w) (decide (128 ≤ w.getD 31 0)) = none) : pRead w = none := by
  unfold pRead
  split
  · rw [h]
  · rfl
theorem pRead_ne {w : List Nat} {x : Nat} (hl : w.length = 32) (h : atN (rdN w) (decide (128 ≤ w.getD 31 0)) = some x) (hb : ¬ pB (pAt x (rdN w)) = w) : pRead w = none := by
  unfold pRead
  rw [if_pos hl, h]
  exact if_neg hb
theorem pRead_eq {w : List Nat} {x : Nat} (hl : w.length = 32) (h : atN (rdN w) (decide (128 ≤ w.getD 31 0)) = some x) (hb : pB (pAt x (rdN w)) = w) : pRead w = some (pAt x (rdN w)) := by
  unfold pRead
  rw [if_pos hl, h]
  exact if_pos hb

theorem padd2_f (V W : Value) (P Q : Pt) (hV : FeP V P) (hW : FeP W Q) (A : Mem) : FnX Tryz.prog 115 [V, W] [] A fun r M J => M = [] ∧ J = [] ∧ FeP r (pAdd d2N P Q) := by
 have hP0 := hV
 have hQ0 := hW
 obtain ⟨xsp, rfl, p0, p1, p2, p3, p4, p5, p6, p7, p8, p9, p10, p11, p12, p13, p14, p15, p16, p17, p18, p19, rfl, hPX, hPY, hPZ, hPT⟩ := hV
 dsimp only [nums, List.map]
 obtain ⟨xsq, rfl, q0, q1, q2, q3, q4, q5, q6, q7, q8, q9, q10, q11, q12, q13, q14, q15, q16, q17, q18, q19, rfl, hQX, hQY, hQZ, hQT⟩ := hW
 dsimp only [nums, List.map]
 refine FnX.enter (N := 11) Tryz.func115 rfl rfl rfl fun w => ?_
 refine XC.keep (kq 0 (kq 1 kn)) ?_
 refine XC.reg ?_
 refine XL.lo rfl (bx_ fun b2 => ?_)
 refine XL.lo rfl (bx_ fun b3 => ?_)
 refine XL.lo rfl (l_alloc (cs := [.int .u64 0, .int .u64 0, .int .u64 0, .int .u64 0, .int .u64 0, .int .u64 0, .int .u64 0, .int .u64 0, .int .u64 0, .int .u64 0, .int .u64 0, .int .u64 0, .int .u64 0, .int .u64 0, .int .u64 0, .int .u64 0, .int .u64 0, .int .u64 0, .int .u64 0, .int .u64 0]) (by kernel_rfl) rfl fun b4 => ?_)
 refine XL.fin (kq 2 (kq 3 (kq 4 kn))) ?_
 refine XC.drawF [0, 1, 2, 3, 4, 5] [(0, 1), (1, 1), (2, 2), (3, 2), (4, 2), (5, 2), (6, 2)] (by kernel_rfl) (by kernel_rfl) fun hs => ?_
 refine XF.r hs rfl (qw_ 20) rfl ?_
 refine XF.r hs rfl (qw_ 20) rfl ?_
 refine XF.call rfl (aS rfl a0) (by kernel_rfl) (num_f 2 (by decide) _) rfl ?_
 rintro rn2 Mn2 Jn2 ⟨rfl, rfl, kn2⟩
 have hn2 := kn2
 obtain ⟨an2, bn2, cn2, dn2, en2, rfl, -⟩ := kn2
 refine XF.call rfl a0 (by kernel_rfl) (curve_f _) rfl ?_
 rintro rn3 Mn3 Jn3 ⟨rfl, rfl, kn3⟩
 have hn3 := kn3
 obtain ⟨an3, bn3, cn3, dn3, en3, rfl, -⟩ := kn3
 refine XF.call rfl (aS rfl (aS rfl a0)) (by kernel_rfl) (mul_f hn2 hn3 _) rfl ?_
 rintro rn4 Mn4 Jn4 ⟨rfl, rfl, kn4⟩
 rw [d2_eq] at kn4
 have hn4 := kn4
 obtain ⟨an4, bn4, cn4, dn4, en4, rfl, -⟩ := kn4
 refine XF.call rfl (aS rfl (aS rfl (aS rfl a0))) (by kernel_rfl) (padd_f _ _ _ P Q d2N hP0 hQ0 hn4 _) rfl ?_
 rintro r5 M5 J5 ⟨rfl, rfl, h5⟩
 have h50 := h5
 obtain ⟨xsz, rfl, z0, z1, z2, z3, z4, z5, z6, z7, z8, z9, z10, z11, z12, z13, z14, z15, z16, z17, z18, z19, rfl, h5X, h5Y, h5Z, h5T⟩ := h5
 dsimp only [nums, List.map]
 refine XF.tl rfl rfl rfl (l_storeW rfl rfl Cel.cel (by kernel_rfl) (lnS (lnS (lnS (lnS (lnS (lnS (lnS (lnS (lnS (lnS (lnS (lnS (lnS (lnS (lnS (lnS (lnS (lnS (lnS (lnS (ln0))))))))))))))))))))) (allS rfl (allS rfl (allS rfl (allS rfl (allS rfl (allS rfl (allS rfl (allS rfl (allS rfl (allS rfl (allS rfl (allS rfl (allS rfl (allS rfl (allS rfl (allS rfl (allS rfl (allS rfl (allS rfl (allS rfl (all0))))))))))))))))))))) UpC.upd ?_)
 refine XF.fin (kq 4 kn) ?_
 refine XC.ret ?_
 exact ⟨_, [], [], resC rfl rfl (by kernel_rfl) At.mem (by rfl), List.nil_sublist _, by simp, rfl, rfl, h50⟩

theorem csame_f (V W : Value) (P Q : Pt) (hV : FeP V P) (hW : FeP W Q) (A : Mem) : FnV Tryz.prog 117 [V, W] A (.bool (pSame P Q)) := by
 obtain ⟨xsp, rfl, p0, p1, p2, p3, p4, p5, p6, p7, p8, p9, p10, p11, p12, p13, p14, p15, p16, p17, p18, p19, rfl, hPX, hPY, hPZ, hPT⟩ := hV
 dsimp only [nums, List.map]
 obtain ⟨xsq, rfl, q0, q1, q2, q3, q4, q5, q6, q7, q8, q9, q10, q11, q12, q13, q14, q15, q16, q17, q18, q19, rfl, hQX, hQY, hQZ, hQT⟩ := hW
 dsimp only [nums, List.map]
 refine FnX.enter (N := 29) Tryz.func117 rfl rfl rfl fun w => ?_
 refine XC.keep (kq 0 (kq 1 kn)) ?_
 refine XC.reg ?_
 refine XL.lo rfl (bx_ fun b2 => ?_)
 refine XL.lo rfl (bx_ fun b3 => ?_)
 refine as_ ?_
 refine XL.fin (kq 2 (kq 3 kn)) ?_
 refine XC.drawF [0, 1, 2, 3, 4, 5, 6, 7, 8, 9, 10, 11, 12, 13, 14, 15, 16, 17, 18, 19, 20, 21, 22, 23, 24] [(0, 0), (1, 1), (2, 0), (3, 1), (5, 0), (6, 1), (7, 0), (8, 1), (4, 2), (9, 2), (10, 2), (11, 0), (12, 0), (13, 1), (14, 0), (15, 1), (17, 0), (18, 1), (19, 0), (20, 1), (16, 2), (21, 2), (22, 2), (23, 0), (24, 0)] (by kernel_rfl) (by kernel_rfl) fun hs => ?_
 refine XF.q hs rfl (qf_ 0 0) rfl ?_
 refine XF.r hs rfl (q_loadT (n := 5) rfl (by kernel_rfl) (by first | exact At.mem | exact mA (by assumption)) TakeC.take) rfl ?_
 refine XF.q hs rfl (qf_ 10 10) rfl ?_
 refine XF.r hs rfl (q_loadT (n := 5) rfl (by kernel_rfl) (by first | exact At.mem | exact mA (by assumption)) TakeC.take) rfl ?_
 refine XF.q hs rfl (qf_ 0 0) rfl ?_
 refine XF.r hs rfl (q_loadT (n := 5) rfl (by kernel_rfl) (by first | exact At.mem | exact mA (by assumption)) TakeC.take) rfl ?_
 refine XF.q hs rfl (qf_ 10 10) rfl ?_
 refine XF.r hs rfl (q_loadT (n := 5) rfl (by kernel_rfl) (by first | exact At.mem | exact mA (by assumption)) TakeC.take) rfl ?_
 refine XF.call rfl (aS rfl (aS rfl a0)) (by kernel_rfl) (mul_f hPX hQZ _) rfl ?_
 rintro rn4 Mn4 Jn4 ⟨rfl, rfl, kn4⟩
 have hn4 := kn4
 obtain ⟨an4, bn4, cn4, dn4, en4, rfl, -⟩ := kn4
 refine XF.call rfl (aS rfl (aS rfl a0)) (by kernel_rfl) (mul_f hQX hPZ _) rfl ?_
 rintro rn9 Mn9 Jn9 ⟨rfl, rfl, kn9⟩
 have hn9 := kn9
 obtain ⟨an9, bn9, cn9, dn9, en9, rfl, -⟩ := kn9
 refine XF.callV rfl (aS rfl (aS rfl a0)) (by kernel_rfl) (fsame_spec _ _ _ _ hn4 hn9 _) rfl ?_
 refine XF.q hs rfl qm_ rfl ?_
 refine XF.split (t := 16) rfl (fun hb => ?_) (fun hb => ?_)
 ·
  have hx : fM P.X Q.Z = fM Q.X P.Z := of_decide_eq_true hb
  refine XF.qg hs rfl rfl rfl rfl (qf_ 5 5) rfl ?_
  refine XF.rg hs rfl rfl rfl rfl (q_loadT (n := 5) rfl (by kernel_rfl) (by first | exact At.mem | exact mA (by assumption)) TakeC.take) rfl ?_
  refine XF.qg hs rfl rfl rfl rfl (qf_ 10 10) rfl ?_
  refine XF.rg hs rfl rfl rfl rfl (q_loadT (n := 5) rfl (by kernel_rfl) (by first | exact At.mem | exact mA (by assumption)) TakeC.take) rfl ?_
  refine XF.qg hs rfl rfl rfl rfl (qf_ 5 5) rfl ?_
  refine XF.rg hs rfl rfl rfl rfl (q_loadT (n := 5) rfl (by kernel_rfl) (by first | exact At.mem | exact mA (by assumption)) TakeC.take) rfl ?_
  refine XF.qg hs rfl rfl rfl rfl (qf_ 10 10) rfl ?_
  refine XF.rg hs rfl rfl rfl rfl (q_loadT (n := 5) rfl (by kernel_rfl) (by first | exact At.mem | exact mA (by assumption)) TakeC.take) rfl ?_
  refine XF.callg rfl rfl rfl rfl (aS rfl (aS rfl a0)) (by kernel_rfl) (mul_f hPY hQZ _) rfl ?_
  rintro rn16 Mn16 Jn16 ⟨rfl, rfl, kn16⟩
  have hn16 := kn16
  obtain ⟨an16, bn16, cn16, dn16, en16, rfl, -⟩ := kn16
  refine XF.callg rfl rfl rfl rfl (aS rfl (aS rfl a0)) (by kernel_rfl) (mul_f hQY hPZ _) rfl ?_
  rintro rn21 Mn21 Jn21 ⟨rfl, rfl, kn21⟩
  have hn21 := kn21
  obtain ⟨an21, bn21, cn21, dn21, en21, rfl, -⟩ := kn21
  refine XF.callVg rfl rfl rfl rfl (aS rfl (aS rfl a0)) (by kernel_rfl) (fsame_spec _ _ _ _ hn16 hn21 _) rfl ?_
  refine XF.q hs rfl (q_pickT rfl rfl) rfl ?_
  refine XF.q hs rfl (q_assign rfl) rfl ?_
  refine XF.fin (kq 4 kn) ?_
  refine XC.ret ?_
  exact ⟨_, [], [], res1 rfl rfl, List.nil_sublist _, by simp, by unfold pSame; rw [decide_eq_true hx]; rfl, rfl, rfl⟩
 ·
  have hx : ¬ fM P.X Q.Z = fM Q.X P.Z := of_decide_eq_false hb
  refine XF.qn hs rfl rfl rfl rfl rfl rfl ?_
  refine XF.rn hs rfl rfl rfl rfl rfl rfl ?_
  refine XF.qn hs rfl rfl rfl rfl rfl rfl ?_
  refine XF.rn hs rfl rfl rfl rfl rfl rfl ?_
  refine XF.qn hs rfl rfl rfl rfl rfl rfl ?_
  refine XF.rn hs rfl rfl rfl rfl rfl rfl ?_
  refine XF.qn hs rfl rfl rfl rfl rfl rfl ?_
  refine XF.rn hs rfl rfl rfl rfl rfl rfl ?_
  refine XF.ln hs rfl rfl rfl rfl rfl rfl ?_
  refine XF.ln hs rfl rfl rfl rfl rfl rfl ?_
  refine XF.ln hs rfl rfl rfl rfl rfl rfl ?_
  refine XF.q hs rfl (q_pickF rfl rfl) rfl ?_
  refine XF.q hs rfl (q_assign rfl) rfl ?_
  refine XF.fin (kq 4 kn) ?_
  refine XC.ret ?_
  exact ⟨_, [], [], res1 rfl rfl, List.nil_sublist _, by simp, by unfold pSame; rw [decide_eq_false hx]; rfl, rfl, rfl⟩

theorem cread_f (v : Value) (ws : List Nat) (A : Mem) (hv : By A v ws) : FnX Tryz.prog 113 [v] [] A fun r M J => M = [] ∧ J = [] ∧ RdR r ws := by
 haveI := hv.cel
 have hvl := hv.len
 refine FnX.enter (N := 32) Tryz.func113 rfl rfl rfl fun w => ?_
 refine XC.keep (kq 0 kn) ?_
 refine XC.reg ?_
 refine XL.lo rfl (l_alloc (cs := [.int .u64 0, .int .u64 0, .int .u64 0, .int .u64 0, .int .u64 0, .int .u64 0, .int .u64 0, .int .u64 0, .int .u64 0, .int .u64 0, .int .u64 0, .int .u64 0, .int .u64 0, .int .u64 0, .int .u64 0, .int .u64 0, .int .u64 0, .int .u64 0, .int .u64 0, .int .u64 0]) (by kernel_rfl) rfl fun b2 => ?_)
 refine as_ ?_
 refine XL.fin (kq 0 (kq 2 kn)) ?_
 refine XC.seq ?_
 refine XC.reg ?_
 refine mv_ ?_
 refine XL.q (q_lenV2 (sz := 1) rfl (by kernel_rfl) hv.rd) rfl ?_
 refine XL.q (q_bin rfl rfl rfl) rfl ?_
 refine XL.fin (kq 0 (kq 2 (kq 8 kn))) ?_
 refine XC.cond rfl (fun hc => ?_) (fun hc => ?_)
 ·
  have h32 : ¬ ws.length = 32 := by simp at hc; omega
  refine XC.reg ?_
  refine XL.q (q_build (place := fun x => #[(0, 5), (5, 5), (10, 5), (15, 5)][x]?) (z := [.int .u64 0, .int .u64 0, .int .u64 0, .int .u64 0, .int .u64 0, .int .u64 0, .int .u64 0, .int .u64 0, .int .u64 0, .int .u64 0, .int .u64 0, .int .u64 0, .int .u64 0, .int .u64 0, .int .u64 0, .int .u64 0, .int .u64 0, .int .u64 0, .int .u64 0, .int .u64 0]) (fun _ => by kernel_rfl) e0 bd0) rfl ?_
  refine XL.lo rfl (l_storeW rfl rfl Cel.cel (by kernel_rfl) (lnS (lnS (lnS (lnS (lnS (lnS (lnS (lnS (lnS (lnS (lnS (lnS (lnS (lnS (lnS (lnS (lnS (lnS (lnS (lnS (ln0))))))))))))))))))))) (allS rfl (allS rfl (allS rfl (allS rfl (allS rfl (allS rfl (allS rfl (allS rfl (allS rfl (allS rfl (allS rfl (allS rfl (allS rfl (allS rfl (allS rfl (allS rfl (allS rfl (allS rfl (allS rfl (allS rfl (all0))))))))))))))))))))) UpC.upd ?_)
  refine as_ ?_
  refine XL.fin (kq 2 (kq 3 kn)) ?_
  refine XC.ret ?_
  refine tr ?_
  exact ⟨_, [], [], resC1 rfl rfl rfl (by kernel_rfl) At.mem (by rfl), List.nil_sublist _, by simp, rfl, rfl, ⟨_, _, rfl, .inr ⟨pRead_len h32, rfl, ⟨_, rfl, _, _, _, _, _, _, _, _, _, _, _, _, _, _, _, _, _, _, _, _, rfl, fe_zero, fe_zero, fe_zero, fe_zero⟩⟩⟩⟩
 ·
  have h32 : ws.length = 32 := by simp at hc; omega
  refine XC.skip ?_
  refine nx (kq 0 (kq 2 kn)) ?_
  refine XC.drawF [0, 1, 2, 3, 4, 5, 6, 7, 8, 9, 10, 12] [(0, 0), (2, 0), (3, 0), (4, 1), (5, 0), (1, 6), (6, 6), (7, 6), (8, 6), (10, 6), (9, 7), (11, 2), (12, 0)] (by kernel_rfl) (by kernel_rfl) fun hs => ?_
  refine XF.q hs rfl qm_ rfl ?_
  refine XF.q hs rfl qm_ rfl ?_
  refine XF.q hs rfl (q_atV2 (sz := 1) (a := 31) rfl rfl (by kernel_rfl) rfl hv.rd (by omega)) rfl ?_
  refine XF.r hs rfl (q_ldV (j := 31) (u := .int .u8 ((ws.getD 31 0 : Nat) : Int)) (hv.rd.mono SubC.sub) rfl (by kernel_rfl) (nums_get (by omega))) rfl ?_
  refine XF.q hs rfl (q_cmp (decide (128 ≤ ws.getD 31 0)) rfl rfl (cmp_geq _ 128)) rfl ?_
  refine XF.groupQ [⟨1, 12, fun v B _ => B = [] ∧ Fe v (rdN ws)⟩, ⟨6, 17, fun v B _ => B = [] ∧ AtR v (rdN ws) (decide (128 ≤ ws.getD 31 0))⟩, ⟨7, 10, fun v B _ => B = [] ∧ AtR v (rdN ws) (decide (128 ≤ ws.getD 31 0))⟩, ⟨8, 18, fun v B _ => B = [] ∧ ∃ P, FeP v P ∧ ∀ x, atN (rdN ws) (decide (128 ≤ ws.getD 31 0)) = some x → P = pAt x (rdN ws)⟩, ⟨10, 4, fun v B _ => ∃ b, v = .pointer (some ⟨b, 0, none⟩) ∧ B = [(b, blk [.int .u64 0, .int .u64 0, .int .u64 0, .int .u64 0, .int .u64 0, .int .u64 0, .int .u64 0, .int .u64 0, .int .u64 0, .int .u64 0, .int .u64 0, .int .u64 0, .int .u64 0, .int .u64 0, .int .u64 0, .int .u64 0, .int .u64 0, .int .u64 0, .int .u64 0, .int .u64 0] 154)]⟩] ⟨9, 19, fun v B _ => B = [] ∧ v = .bool (atN (rdN ws) (decide (128 ≤ ws.getD 31 0))).isSome⟩ hs
   (allS (fun _ _ _ _ _ h => h) (allS (fun _ _ _ _ _ h => h) (allS (fun _ _ _ _ _ h => h) (allS (fun _ _ _ _ _ h => h) (allS (fun _ _ _ _ _ h => h) (allS (fun _ _ _ _ _ h => h) (all0))))))) (show List.Nodup [12, 17, 10, 18, 4, 19] by decide) (show List.Nodup [1, 6, 7, 8, 10, 9] by decide) (allS (blt_lt rfl) (allS (blt_lt rfl) (allS (blt_lt rfl) (allS (blt_lt rfl) (allS (blt_lt rfl) (allS (blt_lt rfl) (all0)))))))
   (allS ⟨_, rfl, fun vs bs R w hb ha => ⟨.inl rfl, ?_⟩⟩ (allS ⟨_, rfl, fun vs bs R w hb ha => ⟨.inl rfl, ?_⟩⟩ (allS ⟨_, rfl, fun vs bs R w hb ha => ⟨.inl rfl, ?_⟩⟩ (allS ⟨_, rfl, fun vs bs R w hb ha => ⟨.inl rfl, ?_⟩⟩ (allS ⟨_, rfl, fun vs bs R w hb ha => ⟨.inl rfl, ?_⟩⟩ (all0)))))) ⟨_, _, _, _, rfl, fun vs bs R hb ha => ?_⟩ ?_
  ·
   refine l_call0 (aS rfl a0) (by kernel_rfl) (fread_spec v ws _ (hv.rd.mono fun x hx => hb _ (SubC.sub x hx)) hv.lt (by omega)) rfl ?_
   rintro r M1 J1 ⟨rfl, rfl, hh⟩
   exact ⟨_, rfl, rfl, hh⟩
  ·
   have g1 := ha _ (List.mem_of_getElem? (i := 0) rfl) (by kernel_rfl)
   replace g1 : (fun v B _ => B = [] ∧ Fe v (rdN ws)) (vs 1) (bs 1) R := g1
   dsimp only at g1
   obtain ⟨-, k1⟩ := g1
   refine l_call0 (aS rfl (aS rfl a0)) (by kernel_rfl) (at_f _ _ _ k1 _) rfl ?_
   rintro r M1 J1 ⟨rfl, rfl, hh⟩
   exact ⟨_, rfl, rfl, hh⟩
  ·
   have g1 := ha _ (List.mem_of_getElem? (i := 0) rfl) (by kernel_rfl)
   replace g1 : (fun v B _ => B = [] ∧ Fe v (rdN ws)) (vs 1) (bs 1) R := g1
   dsimp only at g1
   have g6 := ha _ (List.mem_of_getElem? (i := 1) rfl) (by kernel_rfl)
   replace g6 : (fun v B _ => B = [] ∧ AtR v (rdN ws) (decide (128 ≤ ws.getD 31 0))) (vs 6) (bs 6) R := g6
   dsimp only at g6
   obtain ⟨-, k6⟩ := g6
   exact OpQ.opL qm_ rfl ⟨_, rfl, rfl, k6⟩
  ·
   have g1 := ha _ (List.mem_of_getElem? (i := 0) rfl) (by kernel_rfl)
   replace g1 : (fun v B _ => B = [] ∧ Fe v (rdN ws)) (vs 1) (bs 1) R := g1
   dsimp only at g1
   have g6 := ha _ (List.mem_of_getElem? (i := 1) rfl) (by kernel_rfl)
   replace g6 : (fun v B _ => B = [] ∧ AtR v (rdN ws) (decide (128 ≤ ws.getD 31 0))) (vs 6) (bs 6) R := g6
   dsimp only at g6
   have g7 := ha _ (List.mem_of_getElem? (i := 2) rfl) (by kernel_rfl)
   replace g7 : (fun v B _ => B = [] ∧ AtR v (rdN ws) (decide (128 ≤ ws.getD 31 0))) (vs 7) (bs 7) R := g7
   dsimp only at g7
   obtain ⟨-, k7⟩ := g7
   obtain ⟨V, b, hw, hr⟩ := k7
   refine OpQ.opL (q_extract (vs := #[V, .bool b]) (by rw [← hw]; rfl) rfl) rfl ⟨_, rfl, rfl, ?_⟩
   rcases hr with ⟨x, h1, -, h2⟩ | ⟨h1, -, h2⟩
   · exact ⟨_, h2, fun y hy => by rw [h1] at hy; cases hy; rfl⟩
   · exact ⟨_, h2, fun y hy => by rw [h1] at hy; cases hy⟩
  ·
   exact l_alloc (cs := [.int .u64 0, .int .u64 0, .int .u64 0, .int .u64 0, .int .u64 0, .int .u64 0, .int .u64 0, .int .u64 0, .int .u64 0, .int .u64 0, .int .u64 0, .int .u64 0, .int .u64 0, .int .u64 0, .int .u64 0, .int .u64 0, .int .u64 0, .int .u64 0, .int .u64 0, .int .u64 0]) (by kernel_rfl) rfl fun b => ⟨_, rfl, b, rfl, rfl⟩
  ·
   have g1 := ha _ (List.mem_of_getElem? (i := 0) rfl) (by kernel_rfl)
   replace g1 : (fun v B _ => B = [] ∧ Fe v (rdN ws)) (vs 1) (bs 1) R := g1
   dsimp only at g1
   have g6 := ha _ (List.mem_of_getElem? (i := 1) rfl) (by kernel_rfl)
   replace g6 : (fun v B _ => B = [] ∧ AtR v (rdN ws) (decide (128 ≤ ws.getD 31 0))) (vs 6) (bs 6) R := g6
   dsimp only at g6
   have g7 := ha _ (List.mem_of_getElem? (i := 2) rfl) (by kernel_rfl)
   replace g7 : (fun v B _ => B = [] ∧ AtR v (rdN ws) (decide (128 ≤ ws.getD 31 0))) (vs 7) (bs 7) R := g7
   dsimp only at g7
   obtain ⟨-, k7⟩ := g7
   obtain ⟨V, b, hw, hr⟩ := k7
   refine ⟨.bool b, q_extract (vs := #[V, .bool b]) (by rw [← hw]; rfl) rfl, rfl, ?_⟩
   rcases hr with ⟨x, h1, rfl, -⟩ | ⟨h1, rfl, -⟩ <;> rw [h1] <;> rfl
  intro vs bs Jn0 hφ
  have g1 := ofH hφ
  dsimp only at g1
  replace hφ := ofT hφ
  have g6 := ofH hφ
  dsimp only at g6
  replace hφ := ofT hφ
  have g7 := ofH hφ
  dsimp only at g7
  replace hφ := ofT hφ
  have g8 := ofH hφ
  dsimp only at g8
  replace hφ := ofT hφ
  have g10 := ofH hφ
  dsimp only at g10
  replace hφ := ofT hφ
  have g9 := ofH hφ
  dsimp only at g9
  clear hφ
  dsimp only [gEnvO, ownOf, List.map, List.flatten, List.cons_append, List.nil_append]
  generalize bs 1 = B12 at *
  generalize bs 6 = B17 at *
  generalize bs 7 = B10 at *
  generalize bs 8 = B18 at *
  generalize bs 10 = B4 at *
  generalize bs 9 = B19 at *
  generalize vs 1 = u12 at *
  generalize vs 6 = u17 at *
  generalize vs 7 = u10 at *
  generalize vs 8 = u18 at *
  generalize vs 10 = u4 at *
  generalize vs 9 = u19 at *
  obtain ⟨rfl, -⟩ := g1
  obtain ⟨rfl, -⟩ := g6
  obtain ⟨rfl, -⟩ := g7
  obtain ⟨rfl, P, hP, hPx⟩ := g8
  obtain ⟨rfl, h9⟩ := g9
  obtain ⟨b10, rfl, rfl⟩ := g10
  obtain ⟨o, ho⟩ : ∃ o, atN (rdN ws) (decide (128 ≤ ws.getD 31 0)) = o := ⟨_, rfl⟩
  rw [ho] at hPx h9
  subst h9
  have hP0 := hP
  obtain ⟨xsp, rfl, p0, p1, p2, p3, p4, p5, p6, p7, p8, p9, p10, p11, p12, p13, p14, p15, p16, p17, p18, p19, rfl, hpX, hpY, hpZ, hpT⟩ := hP
  dsimp only [nums, List.map]
  dsimp only [List.append_eq, List.nil_append, List.cons_append]
  refine XF.tl rfl rfl rfl (l_storeW rfl rfl Cel.cel (by kernel_rfl) (lnS (lnS (lnS (lnS (lnS (lnS (lnS (lnS (lnS (lnS (lnS (lnS (lnS (lnS (lnS (lnS (lnS (lnS (lnS (lnS (ln0))))))))))))))))))))) (allS rfl (allS rfl (allS rfl (allS rfl (allS rfl (allS rfl (allS rfl (allS rfl (allS rfl (allS rfl (allS rfl (allS rfl (allS rfl (allS rfl (allS rfl (allS rfl (allS rfl (allS rfl (allS rfl (allS rfl (all0))))))))))))))))))))) UpC.upd ?_)
  refine XF.q hs rfl (q_assign rfl) rfl ?_
  refine XF.fin (kq 0 (kq 2 (kq 4 (kq 5 kn)))) ?_
  refine XC.seq ?_
  rcases o with _ | xo
  ·
   refine XC.drawF [0, 1, 2, 3, 4, 5, 6, 7, 8, 9] [(0, 0), (1, 0), (2, 0), (3, 1), (6, 0), (7, 1), (4, 2), (5, 1), (8, 0), (9, 0)] (by kernel_rfl) (by kernel_rfl) fun hs => ?_
   refine XF.q hs rfl qm_ rfl ?_
   refine XF.q hs rfl (q_not rfl) rfl ?_
   refine XF.q hs rfl qm_ rfl ?_
   refine XF.rn hs rfl rfl rfl rfl rfl rfl ?_
   refine XF.qn hs rfl rfl rfl rfl rfl rfl ?_
   refine XF.rn hs rfl rfl rfl rfl rfl rfl ?_
   refine XF.ln hs rfl rfl rfl rfl rfl rfl ?_
   refine XF.rn hs rfl rfl rfl rfl rfl rfl ?_
   refine XF.qn hs rfl rfl rfl rfl rfl rfl ?_
   refine XF.q hs rfl (q_pickT rfl rfl) rfl ?_
   refine XF.fin (kq 2 (kq 4 (kq 29 kn))) ?_
   refine XC.condT rfl ?_
   refine XC.reg ?_
   refine XL.q (q_build (place := fun x => #[(0, 5), (5, 5), (10, 5), (15, 5)][x]?) (z := [.int .u64 0, .int .u64 0, .int .u64 0, .int .u64 0, .int .u64 0, .int .u64 0, .int .u64 0, .int .u64 0, .int .u64 0, .int .u64 0, .int .u64 0, .int .u64 0, .int .u64 0, .int .u64 0, .int .u64 0, .int .u64 0, .int .u64 0, .int .u64 0, .int .u64 0, .int .u64 0]) (fun _ => by kernel_rfl) e0 bd0) rfl ?_
   refine XL.lo rfl (l_storeW rfl rfl Cel.cel (by kernel_rfl) (lnS (lnS (lnS (lnS (lnS (lnS (lnS (lnS (lnS (lnS (lnS (lnS (lnS (lnS (lnS (lnS (lnS (lnS (lnS (lnS (ln0))))))))))))))))))))) (allS rfl (allS rfl (allS rfl (allS rfl (allS rfl (allS rfl (allS rfl (allS rfl (allS rfl (allS rfl (allS rfl (allS rfl (allS rfl (allS rfl (allS rfl (allS rfl (allS rfl (allS rfl (allS rfl (allS rfl (all0))))))))))))))))))))) UpC.upd ?_)
   refine as_ ?_
   refine XL.fin (kq 2 (kq 3 kn)) ?_
   refine XC.ret ?_
   refine tr ?_
   exact ⟨_, [], [], resC1 rfl rfl rfl (by kernel_rfl) At.mem (by rfl), List.nil_sublist _, by simp, rfl, rfl, ⟨_, _, rfl, .inr ⟨pRead_none ho, rfl, ⟨_, rfl, _, _, _, _, _, _, _, _, _, _, _, _, _, _, _, _, _, _, _, _, rfl, fe_zero, fe_zero, fe_zero, fe_zero⟩⟩⟩⟩
  ·
   refine XC.drawF [0, 1, 2, 3, 4, 5, 6, 7, 8, 9] [(0, 0), (1, 0), (2, 0), (3, 1), (6, 0), (4, 3), (5, 3), (7, 4), (8, 0), (9, 0)] (by kernel_rfl) (by kernel_rfl) fun hs => ?_
   refine XF.q hs rfl qm_ rfl ?_
   refine XF.q hs rfl (q_not rfl) rfl ?_
   refine XF.q hs rfl qm_ rfl ?_
   refine XF.rg hs rfl rfl rfl rfl (qw_ 20) rfl ?_
   refine XF.qg hs rfl rfl rfl rfl qm_ rfl ?_
   refine XF.groupO [⟨4, 24, fun v B R => Sl 1 v 32 (nums .u8 (pB P)) B ∧ ∀ x ∈ B, x ∈ R⟩, ⟨5, 25, fun v B _ => B = [] ∧ v = .string (txt (pB P))⟩, ⟨7, 27, fun v B _ => B = [] ∧ v = .string (txt ws)⟩]
    (allS (fun _ _ _ _ hR h => ⟨h.1, fun x hx => hR x (h.2 x hx)⟩) (allS (fun _ _ _ _ _ h => h) (allS (fun _ _ _ _ _ h => h) (all0)))) (show List.Nodup [24, 25, 27] by decide) (show List.Nodup [4, 5, 7] by decide) (allS (blt_lt rfl) (allS (blt_lt rfl) (allS (blt_lt rfl) (all0))))
    (allS ⟨_, rfl, fun vs bs R w hb ha => ⟨.inr ⟨_, _, _, _, rfl, rfl, rfl, rfl⟩, ?_⟩⟩ (allS ⟨_, rfl, fun vs bs R w hb ha => ⟨.inr ⟨_, _, _, _, rfl, rfl, rfl, rfl⟩, ?_⟩⟩ (allS ⟨_, rfl, fun vs bs R w hb ha => ⟨.inr ⟨_, _, _, _, rfl, rfl, rfl, rfl⟩, ?_⟩⟩ (all0)))) ?_
   ·
    refine l_call0 (aS rfl a0) (by kernel_rfl) (pbytes_f _ P hP0 _) rfl ?_
    rintro r M1 J1 ⟨rfl, hh⟩
    exact ⟨_, rfl, by simpa using hh, fun x hx => List.mem_append_left _ hx⟩
   ·
    have g4 := ha _ (List.mem_of_getElem? (i := 0) rfl) (by kernel_rfl)
    replace g4 : (fun v B R => Sl 1 v 32 (nums .u8 (pB P)) B ∧ ∀ x ∈ B, x ∈ R) (vs 4) (bs 4) R := g4
    dsimp only at g4
    obtain ⟨k4, k4s⟩ := g4
    exact OpQ.opL (q_toStr2 rfl (by kernel_rfl) (k4.rd fun x hx => k4s x hx)) rfl ⟨_, rfl, rfl, rfl⟩
   ·
    exact OpQ.opL (q_toStr2 rfl (by kernel_rfl) (hv.rd.mono fun x hx => hb _ (SubC.sub x hx))) rfl ⟨_, rfl, rfl, rfl⟩
   intro vs bs Jn0 hφ
   have g4 := ofH hφ
   dsimp only at g4
   replace hφ := ofT hφ
   have g5 := ofH hφ
   dsimp only at g5
   replace hφ := ofT hφ
   have g7 := ofH hφ
   dsimp only at g7
   clear hφ
   dsimp only [gEnvO, ownOf, List.map, List.flatten, List.cons_append, List.nil_append]
   generalize bs 4 = B24 at *
   generalize bs 5 = B25 at *
   generalize bs 7 = B27 at *
   generalize vs 4 = u24 at *
   generalize vs 5 = u25 at *
   generalize vs 7 = u27 at *
   obtain ⟨k4, -⟩ := g4
   obtain ⟨rfl, rfl⟩ := g5
   obtain ⟨rfl, rfl⟩ := g7
   obtain rfl := hPx _ rfl
   dsimp only [List.append_eq, List.nil_append, List.cons_append]
   refine XF.qg hs rfl rfl rfl rfl (q_sNe rfl rfl rfl rfl (pB_lt _) hv.lt) rfl ?_
   refine XF.q hs rfl (q_pickF rfl rfl) rfl ?_
   refine XF.fin (kq 2 (kq 4 (kq 29 kn))) ?_
   refine XC.cond rfl (fun hc => ?_) (fun hc => ?_)
   ·
    have hne : ¬ pB (pAt xo (rdN ws)) = ws := by simpa using hc
    refine XC.reg ?_
    refine XL.q (q_build (place := fun x => #[(0, 5), (5, 5), (10, 5), (15, 5)][x]?) (z := [.int .u64 0, .int .u64 0, .int .u64 0, .int .u64 0, .int .u64 0, .int .u64 0, .int .u64 0, .int .u64 0, .int .u64 0, .int .u64 0, .int .u64 0, .int .u64 0, .int .u64 0, .int .u64 0, .int .u64 0, .int .u64 0, .int .u64 0, .int .u64 0, .int .u64 0, .int .u64 0]) (fun _ => by kernel_rfl) e0 bd0) rfl ?_
    refine XL.lo rfl (l_storeW rfl rfl Cel.cel (by kernel_rfl) (lnS (lnS (lnS (lnS (lnS (lnS (lnS (lnS (lnS (lnS (lnS (lnS (lnS (lnS (lnS (lnS (lnS (lnS (lnS (lnS (ln0))))))))))))))))))))) (allS rfl (allS rfl (allS rfl (allS rfl (allS rfl (allS rfl (allS rfl (allS rfl (allS rfl (allS rfl (allS rfl (allS rfl (allS rfl (allS rfl (allS rfl (allS rfl (allS rfl (allS rfl (allS rfl (allS rfl (all0))))))))))))))))))))) UpC.upd ?_)
    refine as_ ?_
    refine XL.fin (kq 2 (kq 3 kn)) ?_
    refine XC.ret ?_
    refine tr ?_
    exact ⟨_, [], [], resC1 rfl rfl rfl (by kernel_rfl) At.mem (by rfl), List.nil_sublist _, by simp, rfl, rfl, ⟨_, _, rfl, .inr ⟨pRead_ne h32 ho hne, rfl, ⟨_, rfl, _, _, _, _, _, _, _, _, _, _, _, _, _, _, _, _, _, _, _, _, rfl, fe_zero, fe_zero, fe_zero, fe_zero⟩⟩⟩⟩
   ·
    have hne : pB (pAt xo (rdN ws)) = ws := by simpa using hc
    refine XC.skip ?_
    refine nx (kq 2 (kq 4 kn)) ?_
    refine XC.reg ?_
    refine XL.q (qw_ 20) rfl ?_
    refine XL.lo rfl (l_storeW rfl rfl Cel.cel (by kernel_rfl) (lnS (lnS (lnS (lnS (lnS (lnS (lnS (lnS (lnS (lnS (lnS (lnS (lnS (lnS (lnS (lnS (lnS (lnS (lnS (lnS (ln0))))))))))))))))))))) (allS rfl (allS rfl (allS rfl (allS rfl (allS rfl (allS rfl (allS rfl (allS rfl (allS rfl (allS rfl (allS rfl (allS rfl (allS rfl (allS rfl (allS rfl (allS rfl (allS rfl (allS rfl (allS rfl (allS rfl (all0))))))))))))))))))))) UpC.upd ?_)
    refine as_ ?_
    refine XL.fin (kq 2 (kq 3 kn)) ?_
    refine XC.ret ?_
    exact ⟨_, [], [], resC1 rfl rfl rfl (by kernel_rfl) At.mem (by rfl), List.nil_sublist _, by simp, rfl, rfl, ⟨_, _, rfl, .inl ⟨_, pRead_eq h32 ho hne, rfl, hP0⟩⟩⟩

end Go.Proofs.YtphcaiplgpmnnaaGreatDoor
