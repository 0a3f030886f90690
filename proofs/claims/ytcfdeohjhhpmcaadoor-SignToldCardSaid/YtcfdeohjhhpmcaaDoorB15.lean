/- Part 15 of the texts of this claim, one behind the other. -/
import Derived.Test.YtcfdeohjhhpmcaaDoorB14
import Derived.Test.YtcfdeohjhhpmcaaDoorRows
import Derived.Lib.LaidTab
import Derived.Stop.LaidErr
set_option linter.unusedVariables false
set_option linter.unusedSimpArgs false
set_option linter.unusedVariables false
set_option linter.unusedSimpArgs false
namespace Go.Proofs.YtcfdeohjhhpmcaaDoor
open Go.Px
theorem by_hd {R : Mem} {v : Value} {w : List Nat} (h : By R v w) {k : Nat} (hk : k ≤ w.length) : By R (vHi k v) (w.take k) := ⟨by
  have h1 := h.rd.hiV k hk
  rw [Nat.mul_one, ← nums_take] at h1
  rw [List.length_take, Nat.min_eq_left hk]
  exact h1, fun x hx => h.lt x (List.mem_of_mem_take hx), by rw [List.length_take]; have := h.len; omega⟩
theorem by_tl {R : Mem} {v : Value} {w : List Nat} (h : By R v w) {k : Nat} (hk : k ≤ w.length) : By R (vLo k 1 v) (w.drop k) := ⟨by
  have h1 := h.rd.loV k hk
  rw [Nat.mul_one, ← nums_drop] at h1
  rw [List.length_drop]
  exact h1, fun x hx => h.lt x (List.mem_of_mem_drop hx), by rw [List.length_drop]; have := h.len; omega⟩
theorem chk_len {p m s : List Nat} (h : ¬ s.length = 64) : chkB p m s = false := by
  unfold chkB; rw [decide_eq_false h, Bool.false_and]
theorem chk_noA {p m s : List Nat} (h : pRead p = none) : chkB p m s = false := by
  unfold chkB; rw [h, chkO_noA, Bool.and_false]
theorem chk_noR {p m s : List Nat} (h : pRead (s.take 32) = none) : chkB p m s = false := by
  unfold chkB; rw [h, chkO_noR, Bool.and_false]
theorem chk_ne {p m s : List Nat} {a r : Pt} (h1 : pRead p = some a) (h2 : pRead (s.take 32) = some r) (h : ¬ digs (bv (s.drop 32) % lN) 32 = s.drop 32) : chkB p m s = false := by
  unfold chkB; rw [h1, h2, chkO_some, decide_eq_false h, Bool.false_and, Bool.and_false]
theorem chk_eq {p m s : List Nat} {a r : Pt} (h0 : s.length = 64) (h1 : pRead p = some a) (h2 : pRead (s.take 32) = some r) (h : digs (bv (s.drop 32) % lN) 32 = s.drop 32) : chkB p m s = pSame (pTimes pS (bv (s.drop 32) % lN)) (pAdd d2N r (pTimes a (chlN (s.take 32) p m))) := by
  unfold chkB; rw [decide_eq_true h0, h1, h2, chkO_some, decide_eq_true h, Bool.true_and, Bool.true_and]
theorem rd_cases {V : Value} {b : Bool} {w : List Nat} (h : (∃ P, pRead w = some P ∧ b = true ∧ FeP V P) ∨ (pRead w = none ∧ b = false ∧ FeP V pZ)) : ∃ P, FeP V P ∧ ((pRead w = some P ∧ b = true) ∨ (pRead w = none ∧ b = false)) := by
  rcases h with ⟨P, h1, h2, h3⟩ | ⟨h1, h2, h3⟩
  · exact ⟨P, h3, .inl ⟨h1, h2⟩⟩
  · exact ⟨_, h3, .inr ⟨h1, h2⟩⟩
theorem ptimes_d (V : Value) (P : Pt) (n : Nat) (hP : FeP V P) (hn : n < lN) (A : Mem) : FnX Tryd.prog 19 [V, .agg (nums .u8 (digs n 32)).toArray] [] A fun r M J => M = [] ∧ J = [] ∧ FeP r (pTimes P n) := by
  have h := ptimes_f V P (digs n 32) hP (digs_len _ _) (digs_lt _ _) A
  rwa [dg_bv hn] at h
theorem bytes_row {R : Mem} {v : Value} {w : List Nat} (h : By R v w) (hp : 0 < w.length) : ∃ (b o cap : Nat) (cs : List Value) (e : TypeId) (fr : Nat × Nat), v = .slice (some ⟨b, o, none⟩) w.length cap ∧ (b, Obj.cells cs.toArray e fr) ∈ R ∧ ∀ j u, (nums .u8 w)[j]? = some u → cs[o + j]? = some u := by
  obtain ⟨p, cap, hv, h1, h2, h3 | ⟨b, o, cs, e, fr, hb, hm, hg⟩⟩ := h.rd
  · omega
  · subst hb; exact ⟨b, o, cap, cs, e, fr, hv, hm, hg⟩

set_option maxRecDepth 100000 in
theorem check_f (vp vm vs : Value) (wp wm ws : List Nat) (A : Mem) (hp : By A vp wp) (hm : By A vm wm) (hsg : By A vs ws) (hG : GlS A) : FnV Tryd.prog 8 [vp, vm, vs] A (.bool (chkB wp wm ws)) := by
  haveI := hp.cel
  haveI := hm.cel
  haveI := hsg.cel
  have hpl := hp.len
  have hml := hm.len
  have hsl := hsg.len
  refine FnX.enter (N := 64) Tryd.func8 rfl rfl rfl fun w => ?_
  refine XC.keep (kp 0 rfl (kp 1 rfl (kp 2 rfl kn))) ?_
  refine XC.reg ?_
  refine XL.q (q_assign rfl) rfl ?_
  refine XL.fin (kp 0 rfl (kp 1 rfl (kp 2 rfl kn))) ?_
  refine XC.seq ?_
  refine XC.reg ?_
  refine XL.q (q_move rfl) rfl ?_
  refine XL.q (q_lenV2 (sz := 1) rfl (by kernel_rfl) hsg.rd) rfl ?_
  refine XL.q (q_bin rfl rfl rfl) rfl ?_
  refine XL.fin (kp 0 rfl (kp 1 rfl (kp 2 rfl (kp 17 rfl kn)))) ?_
  refine XC.cond rfl (fun hc => ?_) (fun hc => ?_)
  ·
    have h64 : ¬ ws.length = 64 := by simp at hc; omega
    refine XC.reg ?_
    refine XL.q (q_assign rfl) rfl ?_
    refine XL.fin (kp 6 rfl kn) ?_
    refine XC.ret ?_
    refine tr ?_
    exact ⟨_, [], [], res1 rfl rfl, List.nil_sublist _, by simp, by rw [chk_len h64], rfl, rfl⟩
  ·
    have h64 : ws.length = 64 := by simp at hc; omega
    have hr := by_hd hsg (show 32 ≤ ws.length by omega)
    obtain ⟨vr, hvr⟩ : ∃ vr, vHi 32 vs = vr := ⟨_, rfl⟩
    rw [hvr] at hr
    haveI := hr.cel
    have hl := by_tl hsg (show 32 ≤ ws.length by omega)
    obtain ⟨vl, hvl⟩ : ∃ vl, vLo 32 1 vs = vl := ⟨_, rfl⟩
    rw [hvl] at hl
    have hll : (ws.drop 32).length = 32 := by rw [List.length_drop]; omega
    obtain ⟨lb, lo, lcap, lcs, le_, lfr, rfl, hlm, hlg⟩ := bytes_row hl (by omega)
    haveI := hl.cel
    refine XC.skip ?_
    refine nx (kp 0 rfl (kp 1 rfl (kp 2 rfl kn))) ?_
    refine XC.reg ?_
    refine XL.q (q_move rfl) rfl ?_
    refine XL.call (aS rfl a0) (by kernel_rfl) (cread_f vp wp _ (hp.mono SubC.sub)) rfl ?_
    rintro r20 M20 J20 ⟨rfl, rfl, VA, bA, rfl, hA⟩
    obtain ⟨PA, hPA, hAb⟩ := rd_cases hA
    have hPA0 := hPA
    obtain ⟨xspa, rfl, pa0, pa1, pa2, pa3, pa4, pa5, pa6, pa7, pa8, pa9, pa10, pa11, pa12, pa13, pa14, pa15, pa16, pa17, pa18, pa19, rfl, hPAX, hPAY, hPAZ, hPAT⟩ := hPA
    dsimp only [nums, List.map]
    refine XL.q (q_move rfl) rfl ?_
    refine XL.q (q_x0 rfl) rfl ?_
    refine XL.q (q_x1 rfl) rfl ?_
    refine XL.lo rfl (l_alloc (cs := [.int .u64 0, .int .u64 0, .int .u64 0, .int .u64 0, .int .u64 0, .int .u64 0, .int .u64 0, .int .u64 0, .int .u64 0, .int .u64 0, .int .u64 0, .int .u64 0, .int .u64 0, .int .u64 0, .int .u64 0, .int .u64 0, .int .u64 0, .int .u64 0, .int .u64 0, .int .u64 0]) (by kernel_rfl) rfl fun b7 => ?_)
    refine XL.lo rfl (l_storeW rfl rfl Cel.cel (by kernel_rfl) (lnS (lnS (lnS (lnS (lnS (lnS (lnS (lnS (lnS (lnS (lnS (lnS (lnS (lnS (lnS (lnS (lnS (lnS (lnS (lnS (ln0))))))))))))))))))))) (allS rfl (allS rfl (allS rfl (allS rfl (allS rfl (allS rfl (allS rfl (allS rfl (allS rfl (allS rfl (allS rfl (allS rfl (allS rfl (allS rfl (allS rfl (allS rfl (allS rfl (allS rfl (allS rfl (allS rfl (all0))))))))))))))))))))) UpC.upd ?_)
    refine XL.q (q_assign rfl) rfl ?_
    refine XL.fin (kp 0 rfl (kp 1 rfl (kp 2 rfl (kp 7 rfl (kp 8 rfl kn))))) ?_
    refine XC.reg ?_
    refine XL.q (q_move rfl) rfl ?_
    refine XL.q (hvr ▸ q_hiV2 (sz := 1) (a := 32) rfl rfl (by kernel_rfl) rfl hsg.rd (by omega)) rfl ?_
    refine XL.call (aS rfl a0) (by kernel_rfl) (cread_f vr (ws.take 32) _ (hr.mono SubC.sub)) rfl ?_
    rintro r26 M26 J26 ⟨rfl, rfl, VR, bR, rfl, hR⟩
    obtain ⟨PR, hPR, hRb⟩ := rd_cases hR
    have hPR0 := hPR
    obtain ⟨xspr, rfl, pr0, pr1, pr2, pr3, pr4, pr5, pr6, pr7, pr8, pr9, pr10, pr11, pr12, pr13, pr14, pr15, pr16, pr17, pr18, pr19, rfl, hPRX, hPRY, hPRZ, hPRT⟩ := hPR
    dsimp only [nums, List.map]
    refine XL.q (q_move rfl) rfl ?_
    refine XL.q (q_x0 rfl) rfl ?_
    refine XL.q (q_x1 rfl) rfl ?_
    refine XL.lo rfl (l_alloc (cs := [.int .u64 0, .int .u64 0, .int .u64 0, .int .u64 0, .int .u64 0, .int .u64 0, .int .u64 0, .int .u64 0, .int .u64 0, .int .u64 0, .int .u64 0, .int .u64 0, .int .u64 0, .int .u64 0, .int .u64 0, .int .u64 0, .int .u64 0, .int .u64 0, .int .u64 0, .int .u64 0]) (by kernel_rfl) rfl fun b9 => ?_)
    refine XL.lo rfl (l_storeW rfl rfl Cel.cel (by kernel_rfl) (lnS (lnS (lnS (lnS (lnS (lnS (lnS (lnS (lnS (lnS (lnS (lnS (lnS (lnS (lnS (lnS (lnS (lnS (lnS (lnS (ln0))))))))))))))))))))) (allS rfl (allS rfl (allS rfl (allS rfl (allS rfl (allS rfl (allS rfl (allS rfl (allS rfl (allS rfl (allS rfl (allS rfl (allS rfl (allS rfl (allS rfl (allS rfl (allS rfl (allS rfl (allS rfl (allS rfl (all0))))))))))))))))))))) UpC.upd ?_)
    refine XL.q (q_assign rfl) rfl ?_
    refine XL.fin (kp 0 rfl (kp 1 rfl (kp 2 rfl (kp 7 rfl (kp 8 rfl (kp 9 rfl (kp 10 rfl kn))))))) ?_
    refine XC.reg ?_
    refine XL.q (q_move rfl) rfl ?_
    refine XL.q (hvl ▸ q_loV2 (sz := 1) (a := 32) rfl rfl (by kernel_rfl) rfl hsg.rd (by omega)) rfl ?_
    refine XL.call (aS rfl a0) (by kernel_rfl) (snumber_f _ (ws.drop 32) _ (hl.rd.mono SubC.sub) hl.lt (by omega)) rfl ?_
    rintro r31 M31 J31 ⟨rfl, rfl, hq⟩
    have hz := hq
    obtain ⟨s, rfl, s8, s32, sv⟩ := hq
    refine XL.lo rfl (l_alloc (cs := [.int .u32 0, .int .u32 0, .int .u32 0, .int .u32 0, .int .u32 0, .int .u32 0, .int .u32 0, .int .u32 0]) (by kernel_rfl) rfl fun b11 => ?_)
    refine XL.lo rfl (l_storeW (vs := nums .u32 s) rfl rfl rfl (by rw [nums_len, s8]; kernel_rfl) (by rw [nums_len, s8]; rfl) nums_one UpC.upd ?_)
    refine XL.fin (kp 0 rfl (kp 1 rfl (kp 2 rfl (kp 7 rfl (kp 8 rfl (kp 9 rfl (kp 10 rfl (kp 11 rfl kn)))))))) ?_
    refine XC.reg ?_
    refine XL.q (q_loadW (n := 8) (cs := nums .u32 s) rfl (by kernel_rfl) At.mem (by rw [nums_len]; omega)) rfl ?_
    refine XL.callV (aS rfl a0) (by kernel_rfl) (sbytes_f _ _ hz _) rfl ?_
    refine XL.lo rfl (l_alloc (cs := [.int .u8 0, .int .u8 0, .int .u8 0, .int .u8 0, .int .u8 0, .int .u8 0, .int .u8 0, .int .u8 0, .int .u8 0, .int .u8 0, .int .u8 0, .int .u8 0, .int .u8 0, .int .u8 0, .int .u8 0, .int .u8 0, .int .u8 0, .int .u8 0, .int .u8 0, .int .u8 0, .int .u8 0, .int .u8 0, .int .u8 0, .int .u8 0, .int .u8 0, .int .u8 0, .int .u8 0, .int .u8 0, .int .u8 0, .int .u8 0, .int .u8 0, .int .u8 0]) (by kernel_rfl) rfl fun b12 => ?_)
    refine XL.lo rfl (l_storeW (vs := nums .u8 (digs (bv (ws.drop 32) % lN) 32)) rfl rfl rfl (by rw [nums_len, digs_len]; kernel_rfl) (by rw [nums_len, digs_len]; rfl) nums_one UpC.upd ?_)
    refine XL.fin (kp 0 rfl (kp 1 rfl (kp 2 rfl (kp 7 rfl (kp 8 rfl (kp 9 rfl (kp 10 rfl (kp 12 rfl kn)))))))) ?_
    refine XC.seq ?_
    have h3 : (pRead wp = none ∧ bA = false) ∨ ((pRead wp = some PA ∧ bA = true) ∧ (pRead (ws.take 32) = none ∧ bR = false)) ∨ ((pRead wp = some PA ∧ bA = true) ∧ (pRead (ws.take 32) = some PR ∧ bR = true)) := by
      rcases hAb with h | h
      · rcases hRb with h2 | h2
        · exact .inr (.inr ⟨h, h2⟩)
        · exact .inr (.inl ⟨h, h2⟩)
      · exact .inl h
    clear hAb hRb
    rcases h3 with ⟨hA1, rfl⟩ | ⟨⟨hA1, rfl⟩, hR1, rfl⟩ | ⟨⟨hA1, rfl⟩, hR1, rfl⟩
    ·
      refine XC.drawF [0, 1, 2, 3, 4, 5, 6, 7, 8, 9, 10, 11, 12, 13] [(0, 0), (1, 0), (2, 0), (3, 0), (4, 0), (5, 0), (6, 0), (7, 1), (8, 0), (9, 0), (10, 0), (11, 1), (12, 0), (13, 0)] (by kernel_rfl) (by kernel_rfl) fun hs => ?_
      refine XF.q hs rfl (q_move rfl) rfl ?_
      refine XF.q hs rfl (q_not rfl) rfl ?_
      refine XF.q hs rfl (q_move rfl) rfl ?_
      refine XF.qn hs rfl rfl rfl rfl rfl rfl ?_
      refine XF.qn hs rfl rfl rfl rfl rfl rfl ?_
      refine XF.q hs rfl (q_pickT rfl rfl) rfl ?_
      refine XF.q hs rfl (q_move rfl) rfl ?_
      refine XF.rn hs rfl rfl rfl rfl rfl rfl ?_
      refine XF.qn hs rfl rfl rfl rfl rfl rfl ?_
      refine XF.qn hs rfl rfl rfl rfl rfl rfl ?_
      refine XF.qn hs rfl rfl rfl rfl rfl rfl ?_
      refine XF.rn hs rfl rfl rfl rfl rfl rfl ?_
      refine XF.qn hs rfl rfl rfl rfl rfl rfl ?_
      refine XF.q hs rfl (q_pickT rfl rfl) rfl ?_
      refine XF.fin (kp 0 rfl (kp 1 rfl (kp 2 rfl (kp 7 rfl (kp 9 rfl (kp 12 rfl (kp 47 rfl kn))))))) ?_
      refine XC.condT rfl ?_
      refine XC.reg ?_
      refine XL.q (q_assign rfl) rfl ?_
      refine XL.fin (kp 6 rfl kn) ?_
      refine XC.ret ?_
      refine tr ?_
      exact ⟨_, [], [], res1 rfl rfl, List.nil_sublist _, by simp, by rw [chk_noA hA1], rfl, rfl⟩
    ·
      refine XC.drawF [0, 1, 2, 3, 4, 5, 6, 7, 8, 9, 10, 11, 12, 13] [(0, 0), (1, 0), (2, 0), (3, 0), (4, 0), (5, 0), (6, 0), (7, 1), (8, 0), (9, 0), (10, 0), (11, 1), (12, 0), (13, 0)] (by kernel_rfl) (by kernel_rfl) fun hs => ?_
      refine XF.q hs rfl (q_move rfl) rfl ?_
      refine XF.q hs rfl (q_not rfl) rfl ?_
      refine XF.q hs rfl (q_move rfl) rfl ?_
      refine XF.qg hs rfl rfl rfl rfl (q_move rfl) rfl ?_
      refine XF.qg hs rfl rfl rfl rfl (q_not rfl) rfl ?_
      refine XF.q hs rfl (q_pickF rfl rfl) rfl ?_
      refine XF.q hs rfl (q_move rfl) rfl ?_
      refine XF.rn hs rfl rfl rfl rfl rfl rfl ?_
      refine XF.qn hs rfl rfl rfl rfl rfl rfl ?_
      refine XF.qn hs rfl rfl rfl rfl rfl rfl ?_
      refine XF.qn hs rfl rfl rfl rfl rfl rfl ?_
      refine XF.rn hs rfl rfl rfl rfl rfl rfl ?_
      refine XF.qn hs rfl rfl rfl rfl rfl rfl ?_
      refine XF.q hs rfl (q_pickT rfl rfl) rfl ?_
      refine XF.fin (kp 0 rfl (kp 1 rfl (kp 2 rfl (kp 7 rfl (kp 9 rfl (kp 12 rfl (kp 47 rfl kn))))))) ?_
      refine XC.condT rfl ?_
      refine XC.reg ?_
      refine XL.q (q_assign rfl) rfl ?_
      refine XL.fin (kp 6 rfl kn) ?_
      refine XC.ret ?_
      refine tr ?_
      exact ⟨_, [], [], res1 rfl rfl, List.nil_sublist _, by simp, by rw [chk_noR hR1], rfl, rfl⟩
    ·
      refine XC.drawF [0, 1, 2, 3, 4, 5, 6, 7, 8, 9, 10, 11, 12, 13] [(0, 0), (1, 0), (2, 0), (3, 0), (4, 0), (5, 0), (6, 0), (7, 1), (8, 0), (9, 0), (10, 0), (11, 1), (12, 0), (13, 0)] (by kernel_rfl) (by kernel_rfl) fun hs => ?_
      refine XF.q hs rfl (q_move rfl) rfl ?_
      refine XF.q hs rfl (q_not rfl) rfl ?_
      refine XF.q hs rfl (q_move rfl) rfl ?_
      refine XF.qg hs rfl rfl rfl rfl (q_move rfl) rfl ?_
      refine XF.qg hs rfl rfl rfl rfl (q_not rfl) rfl ?_
      refine XF.q hs rfl (q_pickF rfl rfl) rfl ?_
      refine XF.q hs rfl (q_move rfl) rfl ?_
      refine XF.rg hs rfl rfl rfl rfl (q_loadW (n := 32) (cs := nums .u8 (digs (bv (ws.drop 32) % lN) 32)) rfl (by kernel_rfl) At.mem (by rw [nums_len, digs_len])) rfl ?_
      refine XF.qg hs rfl rfl rfl rfl (q_move rfl) rfl ?_
      refine XF.qg hs rfl rfl rfl rfl (hvl ▸ q_loV2 (sz := 1) (a := 32) rfl rfl (by kernel_rfl) rfl hsg.rd (by omega)) rfl ?_
      refine XF.qg hs rfl rfl rfl rfl (q_arrPtr (k := .u8) (n := 32) rfl (by kernel_rfl) (by omega)) rfl ?_
      refine XF.rg hs rfl rfl rfl rfl (q_loadT (n := 32) (vs := nums .u8 (ws.drop 32)) rfl (by kernel_rfl) (mA hlm) ⟨by rw [nums_len]; omega, hlg⟩) rfl ?_
      refine XF.qg hs rfl rfl rfl rfl (q_arrNe (n := 32) (k := .u8) rfl rfl (by kernel_rfl) (by kernel_rfl) (digs_len _ _) (by omega)) rfl ?_
      refine XF.q hs rfl (q_pickF rfl rfl) rfl ?_
      refine XF.fin (kp 0 rfl (kp 1 rfl (kp 2 rfl (kp 7 rfl (kp 9 rfl (kp 12 rfl (kp 47 rfl kn))))))) ?_
      refine XC.cond rfl (fun hc => ?_) (fun hc => ?_)
      ·
        have hne : ¬ digs (bv (ws.drop 32) % lN) 32 = ws.drop 32 := by simpa using hc
        refine XC.reg ?_
        refine XL.q (q_assign rfl) rfl ?_
        refine XL.fin (kp 6 rfl kn) ?_
        refine XC.ret ?_
        refine tr ?_
        exact ⟨_, [], [], res1 rfl rfl, List.nil_sublist _, by simp, by rw [chk_ne hA1 hR1 hne], rfl, rfl⟩
      ·
        have hne : digs (bv (ws.drop 32) % lN) 32 = ws.drop 32 := by simpa using hc
        refine XC.skip ?_
        refine nx (kp 0 rfl (kp 1 rfl (kp 2 rfl (kp 7 rfl (kp 9 rfl (kp 12 rfl kn)))))) ?_
        refine XC.drawF [0, 1, 2, 3] [(1, 1), (0, 3), (2, 3), (3, 4), (4, 2)] (by kernel_rfl) (by kernel_rfl) fun hs => ?_
        refine XF.r hs rfl (q_loadW (n := 32) (cs := nums .u8 (digs (bv (ws.drop 32) % lN) 32)) rfl (by kernel_rfl) At.mem (by rw [nums_len, digs_len])) rfl ?_
        refine XF.groupO [⟨0, 48, fun v B _ => B = [] ∧ FeP v pS⟩, ⟨2, 50, fun v B _ => B = [] ∧ FeP v (pTimes pS (bv (ws.drop 32) % lN))⟩, ⟨3, 13, fun v B _ => ∃ b, v = .pointer (some ⟨b, 0, none⟩) ∧ B = [(b, blk [.int .u64 0, .int .u64 0, .int .u64 0, .int .u64 0, .int .u64 0, .int .u64 0, .int .u64 0, .int .u64 0, .int .u64 0, .int .u64 0, .int .u64 0, .int .u64 0, .int .u64 0, .int .u64 0, .int .u64 0, .int .u64 0, .int .u64 0, .int .u64 0, .int .u64 0, .int .u64 0] 44)]⟩]
          (allS (fun _ _ _ _ _ h => h) (allS (fun _ _ _ _ _ h => h) (allS (fun _ _ _ _ _ h => h) (all0)))) (show List.Nodup [48, 50, 13] by decide) (show List.Nodup [0, 2, 3] by decide) (allS (blt_lt rfl) (allS (blt_lt rfl) (allS (blt_lt rfl) (all0))))
          (allS ⟨_, rfl, fun vs bs R w hb ha => ⟨.inl rfl, ?_⟩⟩ (allS ⟨_, rfl, fun vs bs R w hb ha => ⟨.inl rfl, ?_⟩⟩ (allS ⟨_, rfl, fun vs bs R w hb ha => ⟨.inl rfl, ?_⟩⟩ (all0)))) ?_
        ·
          refine l_call0 (a0) (by kernel_rfl) (start_f _) rfl ?_
          rintro r M1 J1 ⟨rfl, rfl, hh⟩
          exact ⟨_, rfl, rfl, hh⟩
        ·
          have g0 := ha _ (List.mem_of_getElem? (i := 0) rfl) (by kernel_rfl)
          replace g0 : (fun v B _ => B = [] ∧ FeP v pS) (vs 0) (bs 0) R := g0
          dsimp only at g0
          obtain ⟨-, k0⟩ := g0
          refine l_call0 (aS rfl (aS rfl (a0))) (by kernel_rfl) (ptimes_d _ pS (bv (ws.drop 32) % lN) k0 (Nat.mod_lt _ lN_pos) _) rfl ?_
          rintro r M1 J1 ⟨rfl, rfl, hh⟩
          exact ⟨_, rfl, rfl, hh⟩
        ·
          exact l_alloc (cs := [.int .u64 0, .int .u64 0, .int .u64 0, .int .u64 0, .int .u64 0, .int .u64 0, .int .u64 0, .int .u64 0, .int .u64 0, .int .u64 0, .int .u64 0, .int .u64 0, .int .u64 0, .int .u64 0, .int .u64 0, .int .u64 0, .int .u64 0, .int .u64 0, .int .u64 0, .int .u64 0]) (by kernel_rfl) rfl fun b => ⟨_, rfl, b, rfl, rfl⟩
        intro vs bs Jn0 hφ
        have g0 := ofH hφ
        dsimp only at g0
        replace hφ := ofT hφ
        have g2 := ofH hφ
        dsimp only at g2
        replace hφ := ofT hφ
        have g3 := ofH hφ
        dsimp only at g3
        clear hφ
        dsimp only [gEnvO, ownOf, List.map, List.flatten, List.cons_append, List.nil_append]
        generalize bs 0 = B48 at *
        generalize bs 2 = B50 at *
        generalize bs 3 = B13 at *
        generalize vs 0 = u48 at *
        generalize vs 2 = u50 at *
        generalize vs 3 = u13 at *
        obtain ⟨rfl, -⟩ := g0
        obtain ⟨rfl, hL⟩ := g2
        obtain ⟨b13, rfl, rfl⟩ := g3
        have hL0 := hL
        obtain ⟨xspl, rfl, pl0, pl1, pl2, pl3, pl4, pl5, pl6, pl7, pl8, pl9, pl10, pl11, pl12, pl13, pl14, pl15, pl16, pl17, pl18, pl19, rfl, hLX, hLY, hLZ, hLT⟩ := hL
        dsimp only [nums, List.map]
        dsimp only [List.append_eq, List.nil_append, List.cons_append]
        refine XF.tl rfl rfl rfl (l_storeW rfl rfl Cel.cel (by kernel_rfl) (lnS (lnS (lnS (lnS (lnS (lnS (lnS (lnS (lnS (lnS (lnS (lnS (lnS (lnS (lnS (lnS (lnS (lnS (lnS (lnS (ln0))))))))))))))))))))) (allS rfl (allS rfl (allS rfl (allS rfl (allS rfl (allS rfl (allS rfl (allS rfl (allS rfl (allS rfl (allS rfl (allS rfl (allS rfl (allS rfl (allS rfl (allS rfl (allS rfl (allS rfl (allS rfl (allS rfl (all0))))))))))))))))))))) UpC.upd ?_)
        refine XF.fin (kp 0 rfl (kp 1 rfl (kp 2 rfl (kp 7 rfl (kp 9 rfl (kp 13 rfl kn)))))) ?_
        refine XC.drawF [0, 1, 2, 3, 4, 5, 6, 7, 8, 9, 10] [(0, 1), (1, 1), (2, 0), (3, 0), (4, 0), (5, 0), (6, 3), (7, 3), (8, 3), (9, 3), (10, 4), (11, 2)] (by kernel_rfl) (by kernel_rfl) fun hs => ?_
        refine XF.r hs rfl (q_loadW (n := 20) rfl (by kernel_rfl) (by first | exact At.mem | exact mA (by assumption)) (by rfl)) rfl ?_
        refine XF.r hs rfl (q_loadW (n := 20) rfl (by kernel_rfl) (by first | exact At.mem | exact mA (by assumption)) (by rfl)) rfl ?_
        refine XF.q hs rfl (q_move rfl) rfl ?_
        refine XF.q hs rfl (hvr ▸ q_hiV2 (sz := 1) (a := 32) rfl rfl (by kernel_rfl) rfl hsg.rd (by omega)) rfl ?_
        refine XF.q hs rfl (q_move rfl) rfl ?_
        refine XF.q hs rfl (q_move rfl) rfl ?_
        refine XF.groupO [⟨6, 57, fun v B _ => B = [] ∧ Sc v (chlN (ws.take 32) wp wm)⟩, ⟨7, 58, fun v B _ => B = [] ∧ v = .agg (nums .u8 (digs (chlN (ws.take 32) wp wm) 32)).toArray⟩, ⟨8, 59, fun v B _ => B = [] ∧ FeP v (pTimes PA (chlN (ws.take 32) wp wm))⟩, ⟨9, 60, fun v B _ => B = [] ∧ FeP v (pAdd d2N PR (pTimes PA (chlN (ws.take 32) wp wm)))⟩, ⟨10, 14, fun v B _ => ∃ b, v = .pointer (some ⟨b, 0, none⟩) ∧ B = [(b, blk [.int .u64 0, .int .u64 0, .int .u64 0, .int .u64 0, .int .u64 0, .int .u64 0, .int .u64 0, .int .u64 0, .int .u64 0, .int .u64 0, .int .u64 0, .int .u64 0, .int .u64 0, .int .u64 0, .int .u64 0, .int .u64 0, .int .u64 0, .int .u64 0, .int .u64 0, .int .u64 0] 44)]⟩]
          (allS (fun _ _ _ _ _ h => h) (allS (fun _ _ _ _ _ h => h) (allS (fun _ _ _ _ _ h => h) (allS (fun _ _ _ _ _ h => h) (allS (fun _ _ _ _ _ h => h) (all0)))))) (show List.Nodup [57, 58, 59, 60, 14] by decide) (show List.Nodup [6, 7, 8, 9, 10] by decide) (allS (blt_lt rfl) (allS (blt_lt rfl) (allS (blt_lt rfl) (allS (blt_lt rfl) (allS (blt_lt rfl) (all0))))))
          (allS ⟨_, rfl, fun vs bs R w hb ha => ⟨.inl rfl, ?_⟩⟩ (allS ⟨_, rfl, fun vs bs R w hb ha => ⟨.inl rfl, ?_⟩⟩ (allS ⟨_, rfl, fun vs bs R w hb ha => ⟨.inl rfl, ?_⟩⟩ (allS ⟨_, rfl, fun vs bs R w hb ha => ⟨.inl rfl, ?_⟩⟩ (allS ⟨_, rfl, fun vs bs R w hb ha => ⟨.inl rfl, ?_⟩⟩ (all0)))))) ?_
        ·
          refine l_call0 (aS rfl (aS rfl (aS rfl (a0)))) (by kernel_rfl) (challenge_f _ _ _ (ws.take 32) wp wm _ (hr.mono fun x hx => hb _ (SubC.sub x hx)) (hp.mono fun x hx => hb _ (SubC.sub x hx)) (hm.mono fun x hx => hb _ (SubC.sub x hx)) (hG.sub fun x hx => hb _ (mA hx))) rfl ?_
          rintro r M1 J1 ⟨rfl, rfl, hh⟩
          exact ⟨_, rfl, rfl, hh⟩
        ·
          have g6 := ha _ (List.mem_of_getElem? (i := 0) rfl) (by kernel_rfl)
          replace g6 : (fun v B _ => B = [] ∧ Sc v (chlN (ws.take 32) wp wm)) (vs 6) (bs 6) R := g6
          dsimp only at g6
          obtain ⟨-, k6⟩ := g6
          exact l_callV (aS rfl a0) (by kernel_rfl) (sbytes_f _ _ k6 _) rfl ⟨_, rfl, rfl, rfl⟩
        ·
          have g6 := ha _ (List.mem_of_getElem? (i := 0) rfl) (by kernel_rfl)
          replace g6 : (fun v B _ => B = [] ∧ Sc v (chlN (ws.take 32) wp wm)) (vs 6) (bs 6) R := g6
          dsimp only at g6
          have g7 := ha _ (List.mem_of_getElem? (i := 1) rfl) (by kernel_rfl)
          replace g7 : (fun v B _ => B = [] ∧ v = .agg (nums .u8 (digs (chlN (ws.take 32) wp wm) 32)).toArray) (vs 7) (bs 7) R := g7
          dsimp only at g7
          obtain ⟨-, k7⟩ := g7
          refine l_call0 (vs := [_, .agg (nums .u8 (digs (chlN (ws.take 32) wp wm) 32)).toArray]) (aS rfl (aS (by rw [← k7]; rfl) a0)) (by kernel_rfl) (ptimes_d _ PA (chlN (ws.take 32) wp wm) hPA0 (chlN_lt _ _ _) _) rfl ?_
          rintro r M1 J1 ⟨rfl, rfl, hh⟩
          exact ⟨_, rfl, rfl, hh⟩
        ·
          have g6 := ha _ (List.mem_of_getElem? (i := 0) rfl) (by kernel_rfl)
          replace g6 : (fun v B _ => B = [] ∧ Sc v (chlN (ws.take 32) wp wm)) (vs 6) (bs 6) R := g6
          dsimp only at g6
          have g7 := ha _ (List.mem_of_getElem? (i := 1) rfl) (by kernel_rfl)
          replace g7 : (fun v B _ => B = [] ∧ v = .agg (nums .u8 (digs (chlN (ws.take 32) wp wm) 32)).toArray) (vs 7) (bs 7) R := g7
          dsimp only at g7
          have g8 := ha _ (List.mem_of_getElem? (i := 2) rfl) (by kernel_rfl)
          replace g8 : (fun v B _ => B = [] ∧ FeP v (pTimes PA (chlN (ws.take 32) wp wm))) (vs 8) (bs 8) R := g8
          dsimp only at g8
          obtain ⟨-, k8⟩ := g8
          refine l_call0 (aS rfl (aS rfl (a0))) (by kernel_rfl) (padd2_f _ _ PR _ hPR0 k8 _) rfl ?_
          rintro r M1 J1 ⟨rfl, rfl, hh⟩
          exact ⟨_, rfl, rfl, hh⟩
        ·
          exact l_alloc (cs := [.int .u64 0, .int .u64 0, .int .u64 0, .int .u64 0, .int .u64 0, .int .u64 0, .int .u64 0, .int .u64 0, .int .u64 0, .int .u64 0, .int .u64 0, .int .u64 0, .int .u64 0, .int .u64 0, .int .u64 0, .int .u64 0, .int .u64 0, .int .u64 0, .int .u64 0, .int .u64 0]) (by kernel_rfl) rfl fun b => ⟨_, rfl, b, rfl, rfl⟩
        intro vs bs Jn0 hφ
        have g6 := ofH hφ
        dsimp only at g6
        replace hφ := ofT hφ
        have g7 := ofH hφ
        dsimp only at g7
        replace hφ := ofT hφ
        have g8 := ofH hφ
        dsimp only at g8
        replace hφ := ofT hφ
        have g9 := ofH hφ
        dsimp only at g9
        replace hφ := ofT hφ
        have g10 := ofH hφ
        dsimp only at g10
        clear hφ
        dsimp only [gEnvO, ownOf, List.map, List.flatten, List.cons_append, List.nil_append]
        generalize bs 6 = B57 at *
        generalize bs 7 = B58 at *
        generalize bs 8 = B59 at *
        generalize bs 9 = B60 at *
        generalize bs 10 = B14 at *
        generalize vs 6 = u57 at *
        generalize vs 7 = u58 at *
        generalize vs 8 = u59 at *
        generalize vs 9 = u60 at *
        generalize vs 10 = u14 at *
        obtain ⟨rfl, -⟩ := g6
        obtain ⟨rfl, -⟩ := g7
        obtain ⟨rfl, -⟩ := g8
        obtain ⟨rfl, hU⟩ := g9
        obtain ⟨b14, rfl, rfl⟩ := g10
        have hU0 := hU
        obtain ⟨xspu, rfl, pu0, pu1, pu2, pu3, pu4, pu5, pu6, pu7, pu8, pu9, pu10, pu11, pu12, pu13, pu14, pu15, pu16, pu17, pu18, pu19, rfl, hUX, hUY, hUZ, hUT⟩ := hU
        dsimp only [nums, List.map]
        dsimp only [List.append_eq, List.nil_append, List.cons_append]
        refine XF.tl rfl rfl rfl (l_storeW rfl rfl Cel.cel (by kernel_rfl) (lnS (lnS (lnS (lnS (lnS (lnS (lnS (lnS (lnS (lnS (lnS (lnS (lnS (lnS (lnS (lnS (lnS (lnS (lnS (lnS (ln0))))))))))))))))))))) (allS rfl (allS rfl (allS rfl (allS rfl (allS rfl (allS rfl (allS rfl (allS rfl (allS rfl (allS rfl (allS rfl (allS rfl (allS rfl (allS rfl (allS rfl (allS rfl (allS rfl (allS rfl (allS rfl (allS rfl (all0))))))))))))))))))))) UpC.upd ?_)
        refine XF.fin (kp 13 rfl (kp 14 rfl kn)) ?_
        refine XC.reg ?_
        refine XL.q (q_loadW (n := 20) rfl (by kernel_rfl) (by first | exact At.mem | exact mA (by assumption)) (by rfl)) rfl ?_
        refine XL.q (q_loadW (n := 20) rfl (by kernel_rfl) (by first | exact At.mem | exact mA (by assumption)) (by rfl)) rfl ?_
        refine XL.callV (aS rfl (aS rfl a0)) (by kernel_rfl) (csame_f _ _ _ _ hL0 hU0 _) rfl ?_
        refine XL.q (q_assign rfl) rfl ?_
        refine XL.fin (kp 6 rfl kn) ?_
        refine XC.ret ?_
        exact ⟨_, [], [], res1 rfl rfl, List.nil_sublist _, by simp, by rw [chk_eq h64 hA1 hR1 hne], rfl, rfl⟩

end Go.Proofs.YtcfdeohjhhpmcaaDoor
/- The walks of the law of sign: awake, SignGoes. -/
set_option linter.unusedVariables false
set_option linter.unusedSimpArgs false
namespace Go.Proofs.YtcfdeohjhhpmcaaDoor
open Go.Px
theorem sig_lt (s m : List Nat) : ∀ x ∈ sigB s m, x < 256 := by
  intro x hx
  rcases List.mem_append.1 hx with h | h
  · exact pB_lt _ x h
  · exact digs_lt _ _ x h
theorem lit_by {R : Mem} {b n : Nat} {w : List Nat} {e : TypeId} {fr : Nat × Nat} (hm : (b, Obj.cells (nums .u8 w).toArray e fr) ∈ R) (hn : w.length = n) (hlt : ∀ x ∈ w, x < 256) (hl : w.length ≤ 16777216) : By R (.slice (some ⟨b, 0, none⟩) n n) w := by
  subst hn
  exact ⟨Rd.whole (n := w.length) hm (by simp), hlt, hl⟩
theorem sign_j (v vm : Value) (ws wm : List Nat) (A : Mem) (hv : By A v ws) (hm : By A vm wm) (hG : GlS A) : FnX Tryd.prog 7 [v, vm] [] A fun r M J => M = [] ∧ By J r (sigB ws wm) :=
  ((sign_f v vm ws wm A hv hm hG).frz0).mono fun r M J ⟨h1, h2⟩ => ⟨h1, sl_by h2 (sigB_len _ _).symm (sig_lt _ _) (by rw [sigB_len]; decide) fun _ h => h⟩

set_option maxRecDepth 100000 in
theorem awake06_f (A : Mem) (hG : GlS A) : FnV Tryd.prog 5 [] A (.bool true) := by
  refine FnX.enter (N := 34) Tryd.func5 rfl rfl rfl fun w => ?_
  refine XC.keep kn ?_
  refine XC.reg ?_
  refine XL.q (q_assign rfl) rfl ?_
  refine XL.fin kn ?_
  refine XC.reg ?_
  refine XL.lo rfl (l_buildSlice (e := 5) (sz := 1) (z := [.int .u8 0, .int .u8 0, .int .u8 0, .int .u8 0]) (by kernel_rfl) (eS rfl (eS rfl (eS rfl (eS rfl e0)))) (bdS 0 1 rfl (by rfl) (bdS 1 1 rfl (by rfl) (bdS 2 1 rfl (by rfl) (bdS 3 1 rfl (by rfl) bd0)))) rfl fun b2 => ?_)
  refine XL.lo rfl (l_mark rfl (by kernel_rfl) UpC.upd rfl ?_)
  refine XL.lo rfl (l_buildSlice (e := 5) (sz := 1) (z := [.int .u8 0, .int .u8 0, .int .u8 0, .int .u8 0, .int .u8 0, .int .u8 0, .int .u8 0]) (by kernel_rfl) (eS rfl (eS rfl (eS rfl (eS rfl (eS rfl (eS rfl (eS rfl e0))))))) (bdS 0 1 rfl (by rfl) (bdS 1 1 rfl (by rfl) (bdS 2 1 rfl (by rfl) (bdS 3 1 rfl (by rfl) (bdS 4 1 rfl (by rfl) (bdS 5 1 rfl (by rfl) (bdS 6 1 rfl (by rfl) bd0))))))) rfl fun b4 => ?_)
  refine XL.lo rfl (l_mark rfl (by kernel_rfl) UpC.upd rfl ?_)
  refine XL.call (aS rfl (aS rfl a0)) (by kernel_rfl) (sign_f _ _ [115, 101, 101, 100] [109, 101, 115, 115, 97, 103, 101] _ (lit_by (w := [115, 101, 101, 100]) At.mem (by rfl) (by decide) (by decide)) (lit_by (w := [109, 101, 115, 115, 97, 103, 101]) At.mem (by rfl) (by decide) (by decide)) hG.up) rfl ?_
  rintro r6 M6 J6 ⟨rfl, hs6⟩
  haveI := hs6.cel
  refine XL.q (q_assign rfl) rfl ?_
  refine XL.fin (kp 1 rfl kn) ?_
  refine XC.seq ?_
  refine XC.reg ?_
  refine XL.q (q_move rfl) rfl ?_
  refine XL.q (q_lenV2 (sz := 1) rfl (by kernel_rfl) (hs6.rd (R := M6) fun _ h => h)) rfl ?_
  refine XL.q (q_cmp false rfl rfl (neF rfl)) rfl ?_
  refine XL.q (q_move rfl) rfl ?_
  refine XL.gy rfl rfl (l_buildSlice (e := 5) (sz := 1) (z := [.int .u8 0, .int .u8 0, .int .u8 0, .int .u8 0]) (by kernel_rfl) (eS rfl (eS rfl (eS rfl (eS rfl e0)))) (bdS 0 1 rfl (by rfl) (bdS 1 1 rfl (by rfl) (bdS 2 1 rfl (by rfl) (bdS 3 1 rfl (by rfl) bd0)))) rfl fun b11 => ?_)
  refine XL.gy rfl rfl (l_mark rfl (by kernel_rfl) UpC.upd rfl ?_)
  refine XL.callg rfl rfl (aS rfl a0) (by kernel_rfl) (public_f _ [115, 101, 101, 100] _ (lit_by (w := [115, 101, 101, 100]) At.mem (by rfl) (by decide) (by decide)) hG.up) rfl ?_
  rintro r13 M13 J13 ⟨rfl, h13⟩
  haveI := h13.cel
  refine XL.gy rfl rfl (l_buildSlice (e := 5) (sz := 1) (z := [.int .u8 0, .int .u8 0, .int .u8 0, .int .u8 0, .int .u8 0, .int .u8 0, .int .u8 0]) (by kernel_rfl) (eS rfl (eS rfl (eS rfl (eS rfl (eS rfl (eS rfl (eS rfl e0))))))) (bdS 0 1 rfl (by rfl) (bdS 1 1 rfl (by rfl) (bdS 2 1 rfl (by rfl) (bdS 3 1 rfl (by rfl) (bdS 4 1 rfl (by rfl) (bdS 5 1 rfl (by rfl) (bdS 6 1 rfl (by rfl) bd0))))))) rfl fun b14 => ?_)
  refine XL.gy rfl rfl (l_mark rfl (by kernel_rfl) UpC.upd rfl ?_)
  refine XL.gy rfl rfl (OpQ.opL (q_move rfl) rfl ?_)
  refine XL.callVg rfl rfl (aS rfl (aS rfl (aS rfl a0))) (by kernel_rfl) (check_f _ _ _ _ [109, 101, 115, 115, 97, 103, 101] _ _ (h13.mono SubC.sub) (lit_by (w := [109, 101, 115, 115, 97, 103, 101]) At.mem (by rfl) (by decide) (by decide)) (sl_by hs6 (sigB_len _ _).symm (sig_lt _ _) (by rw [sigB_len]; decide) SubC.sub) hG.up) rfl ?_
  rw [chk_sig]
  refine XL.gy rfl rfl (OpQ.opL (q_not rfl) rfl ?_)
  refine XL.q (q_pickF rfl rfl) rfl ?_
  refine XL.fin (kp 1 rfl (kp 19 rfl kn)) ?_
  refine XC.condF rfl ?_
  refine XC.skip ?_
  refine nx (kp 1 rfl kn) ?_
  have hg3 : (sigB [115, 101, 101, 100] [109, 101, 115, 115, 97, 103, 101]).getD 3 0 < 256 := getD_lt (sig_lt _ _) (by decide)
  have h256 : (sigB [115, 101, 101, 100] [109, 101, 115, 115, 97, 103, 101]).getD 3 0 ^^^ 4 < 256 := Nat.xor_lt_two_pow (n := 8) hg3 (by decide)
  refine XC.reg ?_
  refine XL.q (q_move rfl) rfl ?_
  refine XL.q (q_move rfl) rfl ?_
  refine XL.q (q_atV2 (sz := 1) (a := 3) rfl rfl (by kernel_rfl) rfl (hs6.rd (R := M6) fun _ h => h) (by decide)) rfl ?_
  refine XL.q (q_ldV (j := 3) (u := .int .u8 (((sigB [115, 101, 101, 100] [109, 101, 115, 115, 97, 103, 101]).getD 3 0 : Nat) : Int)) (hs6.rd SubC.sub) rfl (by kernel_rfl) (nums_get (by rw [sigB_len]; decide))) rfl ?_
  refine XL.q (q_xor8 (b := 4) rfl rfl hg3 (by decide)) rfl ?_
  refine XL.q (q_atV2 (sz := 1) (a := 3) rfl rfl (by kernel_rfl) rfl (hs6.rd (R := M6) fun _ h => h) (by decide)) rfl ?_
  refine XL.lo rfl (l_stV2 (a := 3) (u := (sigB [115, 101, 101, 100] [109, 101, 115, 115, 97, 103, 101]).getD 3 0 ^^^ 4) rfl rfl rfl (by kernel_rfl) hs6 (by decide) PickC.perm fun B9 hs9 => ?_)
  refine XL.fin (kp 1 rfl kn) ?_
  refine XC.reg ?_
  refine XL.lo rfl (l_buildSlice (e := 5) (sz := 1) (z := [.int .u8 0, .int .u8 0, .int .u8 0, .int .u8 0]) (by kernel_rfl) (eS rfl (eS rfl (eS rfl (eS rfl e0)))) (bdS 0 1 rfl (by rfl) (bdS 1 1 rfl (by rfl) (bdS 2 1 rfl (by rfl) (bdS 3 1 rfl (by rfl) bd0)))) rfl fun b26 => ?_)
  refine XL.lo rfl (l_mark rfl (by kernel_rfl) UpC.upd rfl ?_)
  refine XL.call (aS rfl a0) (by kernel_rfl) (public_f _ [115, 101, 101, 100] _ (lit_by (w := [115, 101, 101, 100]) At.mem (by rfl) (by decide) (by decide)) hG.up) rfl ?_
  rintro r28 M28 J28 ⟨rfl, h28⟩
  haveI := h28.cel
  refine XL.lo rfl (l_buildSlice (e := 5) (sz := 1) (z := [.int .u8 0, .int .u8 0, .int .u8 0, .int .u8 0, .int .u8 0, .int .u8 0, .int .u8 0]) (by kernel_rfl) (eS rfl (eS rfl (eS rfl (eS rfl (eS rfl (eS rfl (eS rfl e0))))))) (bdS 0 1 rfl (by rfl) (bdS 1 1 rfl (by rfl) (bdS 2 1 rfl (by rfl) (bdS 3 1 rfl (by rfl) (bdS 4 1 rfl (by rfl) (bdS 5 1 rfl (by rfl) (bdS 6 1 rfl (by rfl) bd0))))))) rfl fun b29 => ?_)
  refine XL.lo rfl (l_mark rfl (by kernel_rfl) UpC.upd rfl ?_)
  refine XL.q (q_move rfl) rfl ?_
  refine XL.callV (aS rfl (aS rfl (aS rfl a0))) (by kernel_rfl) (check_f _ _ _ _ [109, 101, 115, 115, 97, 103, 101] _ _ (h28.mono SubC.sub) (lit_by (w := [109, 101, 115, 115, 97, 103, 101]) At.mem (by rfl) (by decide) (by decide)) (sl_by hs9 (by simp [sigB_len]) (by intro x hx; rcases List.mem_or_eq_of_mem_set hx with h | rfl; exact sig_lt _ _ x h; exact h256) (by simp [sigB_len]) SubC.sub) hG.up) rfl ?_
  rw [chk_turned]
  refine XL.q (q_not rfl) rfl ?_
  refine XL.q (q_assign rfl) rfl ?_
  refine XL.fin (kp 0 rfl kn) ?_
  refine XC.ret ?_
  exact ⟨_, [], [], res1 rfl rfl, List.nil_sublist _, by simp, rfl, rfl, rfl⟩

set_option maxRecDepth 100000 in
theorem signGoes_f (v vm : Value) (ws wm : List Nat) (A : Mem) (hv0 : Byi A v ws) (hm0 : Byi A vm wm) (hG : GlS A) : FnV Tryd.prog 3 [v, vm] A (.bool true) := by
  haveI := hv0.cel
  haveI := hm0.cel
  have hvl := hv0.len
  have hml := hm0.len
  unfold maxLen at hvl hml
  refine FnX.enter (N := 48) Tryd.func3 rfl rfl rfl fun w => ?_
  refine XC.keep (kp 0 rfl (kp 1 rfl kn)) ?_
  refine XC.reg ?_
  refine XL.q (q_assign rfl) rfl ?_
  refine XL.fin (kp 0 rfl (kp 1 rfl kn)) ?_
  refine XC.seq ?_
  refine XC.reg ?_
  refine XL.callV a0 (by kernel_rfl) (awake06_f _ hG.up) rfl ?_
  refine XL.q (q_not rfl) rfl ?_
  refine XL.q (q_move rfl) rfl ?_
  refine XL.gy rfl rfl (OpQ.opL (q_move rfl) rfl ?_)
  refine XL.gy rfl rfl (OpQ.opL (q_lenV2 (sz := 1) rfl (by kernel_rfl) hv0.rd) rfl ?_)
  refine XL.gy rfl rfl (OpQ.opL (q_bin rfl rfl rfl) rfl ?_)
  refine XL.q (q_pickF rfl rfl) rfl ?_
  refine XL.q (q_move rfl) rfl ?_
  refine XL.split (t := 14) rfl (fun hb => ?_) (fun hb => ?_)
  ·
    have hlen : 100 < ws.length := by simp at hb; omega
    refine XL.gn rfl rfl rfl rfl ?_
    refine XL.gn rfl rfl rfl rfl ?_
    refine XL.gn rfl rfl rfl rfl ?_
    refine XL.q (q_pickT rfl rfl) rfl ?_
    refine XL.fin (kp 0 rfl (kp 1 rfl (kp 18 rfl kn))) ?_
    refine XC.condT rfl ?_
    refine XC.reg ?_
    refine XL.callV a0 (by kernel_rfl) (awake06_f _ hG.up) rfl ?_
    refine XL.q (q_assign rfl) rfl ?_
    refine XL.fin (kp 4 rfl kn) ?_
    refine XC.ret ?_
    refine tr ?_
    exact ⟨_, [], [], res1 rfl rfl, List.nil_sublist _, by simp, rfl, rfl, rfl⟩
  ·
    have hlen : ¬ 100 < ws.length := by simp at hb; omega
    refine XL.gy rfl rfl (OpQ.opL (q_move rfl) rfl ?_)
    refine XL.gy rfl rfl (OpQ.opL (q_lenV2 (sz := 1) rfl (by kernel_rfl) hm0.rd) rfl ?_)
    refine XL.gy rfl rfl (OpQ.opL (q_bin rfl rfl rfl) rfl ?_)
    refine XL.q (q_pickF rfl rfl) rfl ?_
    refine XL.fin (kp 0 rfl (kp 1 rfl (kp 18 rfl kn))) ?_
    refine XC.cond rfl (fun hc => ?_) (fun hc => ?_)
    ·
      refine XC.reg ?_
      refine XL.callV a0 (by kernel_rfl) (awake06_f _ hG.up) rfl ?_
      refine XL.q (q_assign rfl) rfl ?_
      refine XL.fin (kp 4 rfl kn) ?_
      refine XC.ret ?_
      refine tr ?_
      exact ⟨_, [], [], res1 rfl rfl, List.nil_sublist _, by simp, rfl, rfl, rfl⟩
    ·
      have hlm : wm.length ≤ 500 := by simp at hc; omega
      have hv := hv0.by (by omega)
      have hm := hm0.by (by omega)
      refine XC.skip ?_
      refine nx (kp 0 rfl (kp 1 rfl kn)) ?_
      refine XC.reg ?_
      refine XL.q (q_move rfl) rfl ?_
      refine XL.call (aS rfl a0) (by kernel_rfl) (public_f _ ws _ (hv.mono SubC.sub) hG.up) rfl ?_
      rintro r21 M21 J21 ⟨rfl, h21⟩
      haveI := h21.cel
      refine XL.q (q_assign rfl) rfl ?_
      refine XL.fin (kp 0 rfl (kp 1 rfl (kp 5 rfl kn))) ?_
      refine XC.reg ?_
      refine XL.q (q_move rfl) rfl ?_
      refine XL.q (q_move rfl) rfl ?_
      refine XL.call (aS rfl (aS rfl a0)) (by kernel_rfl) (sign_j _ _ ws wm _ (hv.mono SubC.sub) (hm.mono SubC.sub) hG.up) rfl ?_
      rintro r24 M24 J24 ⟨rfl, h24⟩
      haveI := h24.cel
      have hpl := pubB_len ws
      have hsl := sigB_len ws wm
      refine XL.q (q_assign rfl) rfl ?_
      refine XL.fin (kp 0 rfl (kp 1 rfl (kp 5 rfl (kp 6 rfl kn)))) ?_
      refine XC.drawF [0, 1, 2, 3, 4, 5, 6, 7, 8, 9, 10, 11, 12, 13, 14, 15, 16, 17, 18, 19, 20, 21, 22, 23] [(0, 0), (1, 0), (2, 0), (3, 0), (4, 0), (5, 0), (6, 0), (7, 0), (8, 0), (9, 0), (10, 0), (11, 0), (12, 2), (13, 0), (14, 0), (15, 0), (17, 0), (18, 0), (16, 3), (19, 3), (20, 4), (21, 0), (22, 0), (23, 0)] (by kernel_rfl) (by kernel_rfl) fun hs => ?_
      refine XF.q hs rfl (q_move rfl) rfl ?_
      refine XF.q hs rfl (q_lenV2 (sz := 1) rfl (by kernel_rfl) h21.rd) rfl ?_
      refine XF.q hs rfl (q_cmp true rfl rfl (eqT (by rw [hpl]; rfl))) rfl ?_
      refine XF.q hs rfl (q_move rfl) rfl ?_
      refine XF.qg hs rfl rfl rfl rfl (q_move rfl) rfl ?_
      refine XF.qg hs rfl rfl rfl rfl (q_lenV2 (sz := 1) rfl (by kernel_rfl) h24.rd) rfl ?_
      refine XF.qg hs rfl rfl rfl rfl (q_cmp true rfl rfl (eqT (by rw [hsl]; rfl))) rfl ?_
      refine XF.q hs rfl (q_pickT rfl rfl) rfl ?_
      refine XF.q hs rfl (q_move rfl) rfl ?_
      refine XF.qg hs rfl rfl rfl rfl (q_move rfl) rfl ?_
      refine XF.qg hs rfl rfl rfl rfl (q_move rfl) rfl ?_
      refine XF.qg hs rfl rfl rfl rfl (q_move rfl) rfl ?_
      refine XF.callVg rfl rfl rfl rfl (aS rfl (aS rfl (aS rfl a0))) (by kernel_rfl) (check_f _ _ _ _ wm _ _ (h21.mono SubC.sub) (hm.mono SubC.sub) (h24.mono SubC.sub) hG.up) rfl ?_
      rw [chk_sig]
      refine XF.q hs rfl (q_pickT rfl rfl) rfl ?_
      refine XF.q hs rfl (q_move rfl) rfl ?_
      refine XF.qg hs rfl rfl rfl rfl (q_move rfl) rfl ?_
      refine XF.qg hs rfl rfl rfl rfl (q_move rfl) rfl ?_
      refine XF.qg hs rfl rfl rfl rfl (q_move rfl) rfl ?_
      refine XF.groupO [⟨16, 41, fun v B _ => B = [] ∧ v = .string (txt (sigB ws wm))⟩, ⟨19, 44, fun v B R => B = [] ∧ By R v (sigB ws wm)⟩, ⟨20, 45, fun v B _ => B = [] ∧ v = .string (txt (sigB ws wm))⟩]
        (allS (fun _ _ _ _ _ h => h) (allS (fun _ _ _ _ hR h => ⟨h.1, h.2.mono hR⟩) (allS (fun _ _ _ _ _ h => h) (all0)))) (show List.Nodup [41, 44, 45] by decide) (show List.Nodup [16, 19, 20] by decide) (allS (blt_lt rfl) (allS (blt_lt rfl) (allS (blt_lt rfl) (all0))))
        (allS ⟨_, rfl, fun vs bs R w hb ha => ⟨.inr ⟨_, _, _, _, rfl, rfl, rfl, rfl⟩, ?_⟩⟩ (allS ⟨_, rfl, fun vs bs R w hb ha => ⟨.inr ⟨_, _, _, _, rfl, rfl, rfl, rfl⟩, ?_⟩⟩ (allS ⟨_, rfl, fun vs bs R w hb ha => ⟨.inr ⟨_, _, _, _, rfl, rfl, rfl, rfl⟩, ?_⟩⟩ (all0)))) ?_
      ·
        exact OpQ.opL (q_toStr2 rfl (by kernel_rfl) (h24.rd.mono fun x hx => hb _ (SubC.sub x hx))) rfl ⟨_, rfl, rfl, rfl⟩
      ·
        refine l_call0 (aS rfl (aS rfl a0)) (by kernel_rfl) (sign_j _ _ ws wm _ (hv.mono fun x hx => hb _ (SubC.sub x hx)) (hm.mono fun x hx => hb _ (SubC.sub x hx)) (hG.sub fun x hx => hb _ (mA hx))) rfl ?_
        rintro r M1 J1 ⟨rfl, hh⟩
        exact ⟨_, rfl, rfl, hh.mono fun x hx => by simp [hx]⟩
      ·
        have g19 := ha _ (List.mem_of_getElem? (i := 1) rfl) (by kernel_rfl)
        replace g19 : (fun v B R => B = [] ∧ By R v (sigB ws wm)) (vs 19) (bs 19) R := g19
        dsimp only at g19
        obtain ⟨-, k19⟩ := g19
        exact OpQ.opL (q_toStr2 rfl (by kernel_rfl) k19.rd) rfl ⟨_, rfl, rfl, rfl⟩
      intro vs bs Jn0 hφ
      have g16 := ofH hφ
      dsimp only at g16
      replace hφ := ofT hφ
      have g19 := ofH hφ
      dsimp only at g19
      replace hφ := ofT hφ
      have g20 := ofH hφ
      dsimp only at g20
      clear hφ
      dsimp only [gEnvO, ownOf, List.map, List.flatten, List.cons_append, List.nil_append]
      generalize bs 16 = B41 at *
      generalize bs 19 = B44 at *
      generalize bs 20 = B45 at *
      generalize vs 16 = u41 at *
      generalize vs 19 = u44 at *
      generalize vs 20 = u45 at *
      obtain ⟨rfl, rfl⟩ := g16
      obtain ⟨rfl, -⟩ := g19
      obtain ⟨rfl, rfl⟩ := g20
      dsimp only [List.append_eq, List.nil_append, List.cons_append]
      refine XF.qg hs rfl rfl rfl rfl (q_strEqT rfl rfl rfl) rfl ?_
      refine XF.q hs rfl (q_pickT rfl rfl) rfl ?_
      refine XF.q hs rfl (q_assign rfl) rfl ?_
      refine XF.fin (kp 4 rfl kn) ?_
      refine XC.ret ?_
      exact ⟨_, [], [], res1 rfl rfl, List.nil_sublist _, by simp, rfl, rfl, rfl⟩

end Go.Proofs.YtcfdeohjhhpmcaaDoor
/- What the rows' lists give: the two tables of package sha. -/
set_option linter.unusedVariables false
namespace Go.Proofs.YtcfdeohjhhpmcaaDoor
open Go.Px
theorem gvar_heap {P : Program} {W : World} {name : String} {g : Nat} {cs : Array Value} (hg : P.globalNamed name = some g) (h : W.var? P name = some cs) : ∃ e fr, W.heap[g]? = some (.cells cs e fr) := by
  unfold World.var? at h
  rw [hg] at h
  simp only [Option.bind_some] at h
  split at h
  · rename_i c e fr hh
    cases h
    exact ⟨e, fr, hh⟩
  · cases h
def gints (ws : List Nat) : List Int := ws.map fun n : Nat => (n : Int)
theorem gints_nums (k : IntKind) (ws : List Nat) : ((gints ws).map fun z => Value.int k z).toArray = (nums k ws).toArray := by simp [gints, nums]
set_option maxRecDepth 100000 in
theorem gls_in {W : World} {rest : List (String × DataW Unit)} (h : laidMet Tryd.prog (("pawl/sha.round", Rows.laid_pawl_sha_round) :: ("pawl/sha.first", Rows.laid_pawl_sha_first) :: rest) W) : GlS (heapA W) := by
  have h' : laidMet Tryd.prog (("pawl/sha.round", Lib.tabData .u32 (gints kTab)) :: ("pawl/sha.first", Lib.tabData .u32 (gints hFirst.list)) :: rest) W := h
  have h1 := Lib.tabIs_of_head (g := 1) (t := 103) (e := 49) (n := 64) (by kernel_rfl) (by kernel_rfl) (by kernel_rfl) (by kernel_rfl) (by kernel_rfl) (by kernel_rfl) h'
  have h2 := Lib.tabIs_of_head (g := 0) (t := 50) (e := 49) (n := 8) (by kernel_rfl) (by kernel_rfl) (by kernel_rfl) (by kernel_rfl) (by kernel_rfl) (by kernel_rfl) h'.tail
  obtain ⟨ek, fk, h3⟩ := gvar_heap (g := 1) (by kernel_rfl) h1
  obtain ⟨ef, ff, h5⟩ := gvar_heap (g := 0) (by kernel_rfl) h2
  rw [gints_nums] at h3 h5
  exact ⟨⟨ef, ff, heapA_mem.2 h5⟩, ⟨ek, fk, heapA_mem.2 h3⟩⟩
end Go.Proofs.YtcfdeohjhhpmcaaDoor

/- The walks of the document's numbers (pawlref02): Trim, Small, Times, Cmp. -/
set_option linter.unusedVariables false
set_option linter.unusedSimpArgs false
namespace Go.Proofs.YtcfdeohjhhpmcaaDoor
open Go.Px

/-- A slice of words. -/
abbrev Rw (R : Mem) (v : Value) (ws : List Nat) : Prop := Rd R 1 v ws.length (nums .u32 ws)
abbrev Sw (v : Value) (ws : List Nat) (B : Mem) : Prop := Sl 1 v ws.length (nums .u32 ws) B
theorem Rw_trim {R : Mem} {v : Value} {ws : List Nat} (h : Rw R v ws) : Rw R (vHi (tl ws ws.length) v) (trim ws) :=
  rd_eq (h.hiV _ (tl_le ws _)) (trim_len ws).symm (by rw [Nat.mul_one, ← nums_take]; rfl)
theorem Sw_trim {v : Value} {ws : List Nat} {B : Mem} (h : Sw v ws B) : Sw (vHi (tl ws ws.length) v) (trim ws) B :=
  sl_eq (h.hiV _ (tl_le ws _)) (trim_len ws).symm (by rw [Nat.mul_one, ← nums_take]; rfl)

set_option maxRecDepth 100000 in
theorem trim_spec (v : Value) (ws : List Nat) (A : Mem) (h : Rw A v ws) (hl : ws.length ≤ 1099511627776) : FnV Tryd.prog 43 [v] A (vHi (tl ws ws.length) v) := by
  refine FnX.enter (N := 21) Tryd.func43 rfl rfl rfl fun w => ?_
  refine XC.keep (kp 0 rfl kn) ?_
  refine XC.reg ?_
  refine XL.q (q_assign rfl) rfl ?_
  refine XL.fin (kp 0 rfl kn) ?_
  refine XC.reg ?_
  refine XL.q (q_move rfl) rfl ?_
  refine XL.q (q_lenV h rfl (by kernel_rfl)) rfl ?_
  refine XL.q (q_assign rfl) rfl ?_
  refine XL.fin (kp 0 rfl (kp 3 rfl kn)) ?_
  refine XC.seq ?_
  refine XC.block ?_
  refine XC.loop (α := Nat) (fun n => [(0, v), (3, .int .i64 (n : Int))]) (fun _ => []) (fun _ => []) (fun n => n ≤ ws.length ∧ tl ws n = tl ws ws.length) (fun n => n) ws.length ⟨Nat.le_refl _, rfl⟩ (kp 0 rfl (kp 3 rfl kn)) .rfl (fun _ h => h) ?_
  rintro n ⟨hn, ht⟩
  refine XC.seq ?_
  by_cases hn0 : n = 0
  ·
    refine XC.reg ?_
    refine XL.q (q_move rfl) rfl ?_
    refine XL.q (q_cmp false rfl rfl (gtF (by omega))) rfl ?_
    refine XL.q (q_move rfl) rfl ?_
    refine XL.gn rfl rfl rfl rfl ?_
    refine XL.gn rfl rfl rfl rfl ?_
    refine XL.gn rfl rfl rfl rfl ?_
    refine XL.gn rfl rfl rfl rfl ?_
    refine XL.gn rfl rfl rfl rfl ?_
    refine XL.gn rfl rfl rfl rfl ?_
    refine XL.q (q_pickF rfl rfl) rfl ?_
    refine XL.fin (kp 0 rfl (kp 3 rfl (kp 15 rfl kn))) ?_
    refine XC.condF rfl ?_
    refine XC.exit ?_
    refine te ?_
    refine re ?_
    refine be rfl ?_
    refine nx (kp 0 rfl (kp 3 rfl kn)) ?_
    refine XC.reg ?_
    refine XL.q (q_move rfl) rfl ?_
    refine XL.q (q_move rfl) rfl ?_
    refine XL.q (q_hiV h rfl rfl (by kernel_rfl) n rfl hn) rfl ?_
    refine XL.q (q_assign rfl) rfl ?_
    refine XL.fin (kp 2 rfl kn) ?_
    refine XC.ret ?_
    exact ⟨_, [], [], res1 rfl rfl, List.nil_sublist _, by simp, by rw [← ht, hn0]; rfl, rfl, rfl⟩
  ·
    refine XC.reg ?_
    refine XL.q (q_move rfl) rfl ?_
    refine XL.q (q_cmp true rfl rfl (gtT (by omega))) rfl ?_
    refine XL.q (q_move rfl) rfl ?_
    refine XL.gy rfl rfl (OpQ.opL (q_move rfl) rfl ?_)
    refine XL.gy rfl rfl (OpQ.opL (q_move rfl) rfl ?_)
    refine XL.gy rfl rfl (OpQ.opL (q_num ((n - 1 : Nat) : Int) rfl rfl (sub64 (by omega) (by omega) (by omega))) rfl ?_)
    refine XL.gy rfl rfl (OpQ.opL (q_atV h rfl rfl (by kernel_rfl) (n - 1) rfl (by omega)) rfl ?_)
    refine XL.gy rfl rfl (OpQ.opL (q_ldVN (h.mono fun _ h => mA h) rfl (by kernel_rfl) (by omega)) rfl ?_)
    refine XL.gy rfl rfl (OpQ.opL (q_bin rfl rfl rfl) rfl ?_)
    refine XL.q (q_pickT rfl rfl) rfl ?_
    refine XL.fin (kp 0 rfl (kp 3 rfl (kp 15 rfl kn))) ?_
    refine XC.cond rfl (fun hc => ?_) (fun hc => ?_)
    ·
      have hz : ws.getD (n - 1) 0 = 0 := by simp at hc; simpa using hc
      refine XC.skip ?_
      refine nx (kp 0 rfl (kp 3 rfl kn)) ?_
      refine XC.block ?_
      refine XC.reg1 ?_
      refine XL.q (q_move rfl) rfl ?_
      refine XL.q (q_num ((n - 1 : Nat) : Int) rfl rfl (sub64 (by omega) (by omega) (by omega))) rfl ?_
      refine XL.q (q_assign rfl) rfl ?_
      refine XL.nil ?_
      refine nb ?_
      refine rn (n - 1) ⟨by omega, ?_⟩ (by omega) (kp 0 rfl (kp 3 rfl kn)) .rfl (fun _ h => h)
      obtain ⟨m, rfl⟩ : ∃ m, n = m + 1 := ⟨n - 1, by omega⟩
      rw [← ht, tl, if_pos (by simpa using hz), Nat.add_sub_cancel]
    ·
      have hz : ws.getD (n - 1) 0 ≠ 0 := by simp at hc; simpa using hc
      refine XC.exit ?_
      refine te ?_
      refine re ?_
      refine be rfl ?_
      refine nx (kp 0 rfl (kp 3 rfl kn)) ?_
      refine XC.reg ?_
      refine XL.q (q_move rfl) rfl ?_
      refine XL.q (q_move rfl) rfl ?_
      refine XL.q (q_hiV h rfl rfl (by kernel_rfl) n rfl hn) rfl ?_
      refine XL.q (q_assign rfl) rfl ?_
      refine XL.fin (kp 2 rfl kn) ?_
      refine XC.ret ?_
      exact ⟨_, [], [], res1 rfl rfl, List.nil_sublist _, by simp, by rw [← ht]; obtain ⟨m, rfl⟩ : ∃ m, n = m + 1 := ⟨n - 1, by omega⟩; rw [tl, if_neg (by simpa using hz)], rfl, rfl⟩

set_option maxRecDepth 100000 in
theorem small_spec (n : Nat) (hn : n < 18446744073709551616) (A : Mem) : FnX Tryd.prog 64 [.int .u64 (n : Int)] [] A fun r M J => J = [] ∧ ∃ ws, Sw r ws M ∧ w32 ws ∧ nv ws = n ∧ ws.length ≤ 2 := by
  refine FnX.enter (N := 10) Tryd.func64 rfl rfl rfl fun w => ?_
  refine XC.keep (kp 0 rfl kn) ?_
  refine XC.reg ?_
  refine XL.q (q_assign rfl) rfl ?_
  refine XL.fin (kp 0 rfl kn) ?_
  refine XC.reg ?_
  refine XL.q (q_move rfl) rfl ?_
  refine XL.q (q_to32 rfl (by kernel_rfl)) rfl ?_
  refine XL.q (q_move rfl) rfl ?_
  refine XL.q (q_shrN 32 rfl rfl rfl (by decide)) rfl ?_
  refine XL.q (q_to32 rfl (by kernel_rfl)) rfl ?_
  refine XL.lo rfl (l_buildSlice (e := 49) (sz := 1) (z := [.int .u32 0, .int .u32 0]) (by kernel_rfl) (eS rfl (eS rfl e0)) (bdS 0 1 rfl (by rfl) (bdS 1 1 rfl (by rfl) bd0)) rfl fun b8 => ?_)
  refine XL.cv (aS rfl a0) (by kernel_rfl) (trim_spec _ [n % 4294967296, n >>> 32 % 4294967296] _ (Rd.whole (n := 2) m0 (by rfl)) (by simp)) rfl ?_
  refine XL.q (q_assign rfl) rfl ?_
  refine XL.fin (kp 2 rfl kn) ?_
  refine XC.ret ?_
  refine ⟨_, [_], [], res1 rfl rfl, List.Sublist.refl _, by simp, rfl, trim [n % 4294967296, n >>> 32 % 4294967296], Sw_trim (Sl.fresh (b := b8) (n := 2) rfl (by decide)), trim_w32 ?_, ?_, ?_⟩
  · intro x hx
    simp only [List.mem_cons, List.not_mem_nil, or_false] at hx
    rcases hx with rfl | rfl <;> exact Nat.mod_lt _ (by decide)
  · rw [trim_nv, Nat.shiftRight_eq_div_pow, show (2 : Nat) ^ 32 = 4294967296 from rfl]
    simp only [nv]
    omega
  · rw [trim_len]
    exact tl_le _ _

set_option maxRecDepth 100000 in
theorem times_spec (va vb : Value) (a b : List Nat) (A : Mem) (ha : Rw A va a) (hb : Rw A vb b) (wa : w32 a) (wb : w32 b) (la : a.length ≤ 1073741824) (lb : b.length ≤ 1073741824) :
    FnX Tryd.prog 15 [va, vb] [] A fun r M J => J = [] ∧ ∃ ws, Sw r ws M ∧ w32 ws ∧ nv ws = nv a * nv b ∧ nrm ws ∧ ws.length ≤ a.length + b.length := by
  refine FnX.enter (N := 68) Tryd.func15 rfl rfl rfl fun w => ?_
  refine XC.keep (kp 0 rfl (kp 1 rfl kn)) ?_
  refine XC.reg ?_
  refine XL.q (q_assign rfl) rfl ?_
  refine XL.fin (kp 0 rfl (kp 1 rfl kn)) ?_
  refine XC.reg ?_
  refine XL.q (q_move rfl) rfl ?_
  refine XL.q (q_lenV ha rfl (by kernel_rfl)) rfl ?_
  refine XL.q (q_move rfl) rfl ?_
  refine XL.q (q_lenV hb rfl (by kernel_rfl)) rfl ?_
  refine XL.q (q_num ((a.length + b.length : Nat) : Int) rfl rfl (add64 (by omega) (by omega) (by omega))) rfl ?_
  refine XL.lo rfl (l_makeN (e := 49) (k := .u32) (by_ := 4) (a.length + b.length) rfl rfl (by kernel_rfl) rfl rfl (by omega) (by omega) rfl fun b15 => ?_)
  refine XL.q (q_assign rfl) rfl ?_
  refine XL.fin (kp 0 rfl (kp 1 rfl (kp 5 rfl kn))) ?_
  refine XC.seq ?_
  refine XC.reg ?_
  refine XL.q (q_assign rfl) rfl ?_
  refine XL.fin (kp 0 rfl (kp 1 rfl (kp 5 rfl (kp 6 rfl kn)))) ?_
  refine XC.block ?_
  have hsl0 : Sl 1 (.slice (some ⟨b15, 0, none⟩) (a.length + b.length) (a.length + b.length)) (a.length + b.length) (nums .u32 (List.replicate (a.length + b.length) 0)) [(b15, blk (nums .u32 (List.replicate (a.length + b.length) 0)) 49)] := Sl.fresh (by simp) (by unfold maxLen; omega)
  generalize hsv : (Value.slice (some ⟨b15, 0, none⟩) (a.length + b.length) (a.length + b.length)) = sv at *
  refine XC.loop (α := Nat × List Nat × Mem) (fun x => [(0, va), (1, vb), (5, sv), (6, .int .i64 (x.1 : Int))]) (fun x => x.2.2) (fun _ => []) (fun x => x.1 ≤ a.length ∧ Sl 1 sv (a.length + b.length) (nums .u32 x.2.1) x.2.2 ∧ x.2.1.length = a.length + b.length ∧ w32 x.2.1 ∧ nv x.2.1 = nv (a.take x.1) * nv b ∧ ∀ j, x.1 + b.length ≤ j → x.2.1.getD j 0 = 0) (fun x => a.length - x.1) (0, List.replicate (a.length + b.length) 0, _) ⟨Nat.zero_le _, hsl0, by simp, w32_repl _, by simp [nv_repl, nv], fun j hj => by simp [List.getD, List.getElem?_replicate]; split <;> rfl⟩ (kp 0 rfl (kp 1 rfl (kp 5 rfl (kp 6 rfl kn)))) .rfl (fun _ h => h) ?_
  clear hsl0
  rintro ⟨i, o0, B⟩ ⟨hi, hsl, hol, how, hon, hoz⟩
  dsimp only at hi hsl hol how hon hoz ⊢
  refine XC.seq ?_
  refine XC.reg ?_
  refine XL.q (q_move rfl) rfl ?_
  refine XL.q (q_move rfl) rfl ?_
  refine XL.q (q_lenV ha rfl (by kernel_rfl)) rfl ?_
  refine XL.q (q_bin rfl rfl rfl) rfl ?_
  refine XL.fin (kp 0 rfl (kp 1 rfl (kp 5 rfl (kp 6 rfl (kp 19 rfl kn))))) ?_
  refine XC.cond rfl (fun hc => ?_) (fun hc => ?_)
  ·
    have hlt : i < a.length := by simp at hc; omega
    refine XC.skip ?_
    refine nx (kp 0 rfl (kp 1 rfl (kp 5 rfl (kp 6 rfl kn)))) ?_
    refine XC.seq ?_
    refine XC.block ?_
    refine XC.reg ?_
    refine XL.q (q_assign rfl) rfl ?_
    refine XL.fin (kp 0 rfl (kp 1 rfl (kp 5 rfl (kp 6 rfl (kp 7 rfl kn))))) ?_
    refine XC.seq ?_
    refine XC.reg ?_
    refine XL.q (q_assign rfl) rfl ?_
    refine XL.fin (kp 0 rfl (kp 1 rfl (kp 5 rfl (kp 6 rfl (kp 7 rfl (kp 8 rfl kn)))))) ?_
    refine XC.block ?_
    refine XC.loop (α := Nat × Nat × List Nat × Mem) (fun x => [(0, va), (1, vb), (5, sv), (6, .int .i64 (i : Int)), (7, .int .u64 (x.2.1 : Int)), (8, .int .i64 (x.1 : Int))]) (fun x => x.2.2.2) (fun _ => []) (fun x => x.1 ≤ b.length ∧ x.2.1 < 4294967296 ∧ Sl 1 sv (a.length + b.length) (nums .u32 x.2.2.1) x.2.2.2 ∧ x.2.2.1.length = a.length + b.length ∧ w32 x.2.2.1 ∧ nv x.2.2.1 + x.2.1 * xp (i + x.1) = nv o0 + xp i * (a.getD i 0 * nv (b.take x.1)) ∧ ∀ j, i + b.length ≤ j → x.2.2.1.getD j 0 = 0) (fun x => b.length - x.1) (0, 0, o0, B) ⟨Nat.zero_le _, Nat.zero_lt_succ _, hsl, hol, how, by simp [nv], hoz⟩ (kp 0 rfl (kp 1 rfl (kp 5 rfl (kp 6 rfl (kp 7 rfl (kp 8 rfl kn)))))) .rfl (fun _ h => h) ?_
    clear hsl hol how hoz
    rintro ⟨k, c, os, B⟩ ⟨hk, hc32, hsl, hol, how, hinv, hoz⟩
    dsimp only at hk hc32 hsl hol how hinv hoz ⊢
    refine XC.seq ?_
    refine XC.reg ?_
    refine XL.q (q_move rfl) rfl ?_
    refine XL.q (q_move rfl) rfl ?_
    refine XL.q (q_lenV hb rfl (by kernel_rfl)) rfl ?_
    refine XL.q (q_bin rfl rfl rfl) rfl ?_
    refine XL.fin (kp 0 rfl (kp 1 rfl (kp 5 rfl (kp 6 rfl (kp 7 rfl (kp 8 rfl (kp 25 rfl kn))))))) ?_
    refine XC.cond rfl (fun hc => ?_) (fun hc => ?_)
    ·
      have hkt : k < b.length := by simp at hc; omega
      have g1 := wa.get i
      have g2 := wb.get k
      have g3 := how.get (i + k)
      have g4 : a.getD i 0 * b.getD k 0 ≤ 4294967295 * 4294967295 := Nat.mul_le_mul (by omega) (by omega)
      refine XC.skip ?_
      refine nx (kp 0 rfl (kp 1 rfl (kp 5 rfl (kp 6 rfl (kp 7 rfl (kp 8 rfl kn)))))) ?_
      refine XC.seq ?_
      refine XC.block ?_
      refine XC.draw (_) [0, 1, 2, 3, 4, 5, 6, 7, 8, 9, 10, 11, 12, 13, 14, 15, 16, 17, 18, 19, 20, 21] [(0, 0), (1, 0), (2, 0), (3, 1), (4, 0), (5, 0), (6, 0), (7, 0), (8, 1), (9, 0), (10, 0), (11, 0), (12, 0), (13, 0), (14, 0), (15, 0), (16, 1), (17, 0), (18, 0), (19, 0), (20, 0), (21, 0)] (by kernel_rfl) (by kernel_rfl) (fun _ h => h) fun hs => ?_
      refine XP.q hs rfl (q_move rfl) rfl ?_
      refine XP.q hs rfl (q_move rfl) rfl ?_
      refine XP.q hs rfl (q_atV ha rfl rfl (by kernel_rfl) i rfl hlt) rfl ?_
      refine XP.r hs rfl (q_ldVN (ha.mono fun _ h => mA h) rfl (by kernel_rfl) hlt) rfl ?_
      refine XP.q hs rfl (q_same (k' := .u64) rfl (by kernel_rfl) (by show _ < 9223372036854775808; omega)) rfl ?_
      refine XP.q hs rfl (q_move rfl) rfl ?_
      refine XP.q hs rfl (q_move rfl) rfl ?_
      refine XP.q hs rfl (q_atV hb rfl rfl (by kernel_rfl) k rfl hkt) rfl ?_
      refine XP.r hs rfl (q_ldVN (hb.mono fun _ h => mA h) rfl (by kernel_rfl) hkt) rfl ?_
      refine XP.q hs rfl (q_same (k' := .u64) rfl (by kernel_rfl) (by show _ < 9223372036854775808; omega)) rfl ?_
      refine XP.q hs rfl (q_num ((a.getD i 0 * b.getD k 0 : Nat) : Int) rfl rfl (mulU (k := .u64) rfl _ (Nat.mod_eq_of_lt (by show a.getD i 0 * b.getD k 0 < 18446744073709551616; omega)))) rfl ?_
      refine XP.q hs rfl (q_move rfl) rfl ?_
      refine XP.q hs rfl (q_move rfl) rfl ?_
      refine XP.q hs rfl (q_move rfl) rfl ?_
      refine XP.q hs rfl (q_num ((i + k : Nat) : Int) rfl rfl (add64 (by omega) (by omega) (by omega))) rfl ?_
      refine XP.q hs rfl (q_atV (hsl.rd fun _ h => h) rfl rfl (by kernel_rfl) (i + k) rfl (by omega)) rfl ?_
      refine XP.r hs rfl (q_ldVN (hsl.rd fun _ h => by simp [h]) rfl (by kernel_rfl) (by omega)) rfl ?_
      refine XP.q hs rfl (q_same (k' := .u64) rfl (by kernel_rfl) (by show _ < 9223372036854775808; omega)) rfl ?_
      refine XP.q hs rfl (q_num ((a.getD i 0 * b.getD k 0 + os.getD (i + k) 0 : Nat) : Int) rfl rfl (addU (k := .u64) rfl _ (Nat.mod_eq_of_lt (by show a.getD i 0 * b.getD k 0 + os.getD (i + k) 0 < 18446744073709551616; omega)))) rfl ?_
      refine XP.q hs rfl (q_move rfl) rfl ?_
      refine XP.q hs rfl (q_num ((a.getD i 0 * b.getD k 0 + os.getD (i + k) 0 + c : Nat) : Int) rfl rfl (addU (k := .u64) rfl _ (Nat.mod_eq_of_lt (by show a.getD i 0 * b.getD k 0 + os.getD (i + k) 0 + c < 18446744073709551616; omega)))) rfl ?_
      generalize hx : a.getD i 0 * b.getD k 0 + os.getD (i + k) 0 + c = x
      refine XP.q hs rfl (q_assign rfl) rfl ?_
      refine XP.fin (kp 0 rfl (kp 1 rfl (kp 5 rfl (kp 6 rfl (kp 8 rfl (kp 9 rfl kn)))))) ?_
      refine XC.reg ?_
      refine XL.q (q_move rfl) rfl ?_
      refine XL.q (q_move rfl) rfl ?_
      refine XL.q (q_move rfl) rfl ?_
      refine XL.q (q_num ((i + k : Nat) : Int) rfl rfl (add64 (by omega) (by omega) (by omega))) rfl ?_
      refine XL.q (q_move rfl) rfl ?_
      refine XL.q (q_to32 rfl (by kernel_rfl)) rfl ?_
      refine XL.q (q_atV (hsl.rd fun _ h => h) rfl rfl (by kernel_rfl) (i + k) rfl (by omega)) rfl ?_
      refine XL.lo rfl (l_stV (M0 := []) hsl rfl rfl (by kernel_rfl) (by omega) (by rw [List.append_nil]) fun B2 hsl2 => ?_)
      refine XL.fin (kp 0 rfl (kp 1 rfl (kp 5 rfl (kp 6 rfl (kp 8 rfl (kp 9 rfl kn)))))) ?_
      refine XC.reg1 ?_
      refine XL.q (q_move rfl) rfl ?_
      refine XL.q (q_shrN 32 rfl rfl rfl (by decide)) rfl ?_
      refine XL.q (q_assign rfl) rfl ?_
      refine XL.nil ?_
      refine nb ?_
      refine nx (kp 0 rfl (kp 1 rfl (kp 5 rfl (kp 6 rfl (kp 7 rfl (kp 8 rfl kn)))))) ?_
      refine XC.reg1 ?_
      refine XL.q (q_move rfl) rfl ?_
      refine XL.q (q_num ((k + 1 : Nat) : Int) rfl rfl (add64 (by omega) (by omega) (by omega))) rfl ?_
      refine XL.q (q_assign rfl) rfl ?_
      refine XL.nil ?_
      refine rn (k + 1, x >>> 32, _, B2) ⟨by dsimp only; omega, ?_, hsl2, by simpa using hol, how.set (Nat.mod_lt _ (by decide)), times_step hkt (by omega) hinv hx.symm, fun j hj => ?_⟩ (by dsimp only; omega) (kp 0 rfl (kp 1 rfl (kp 5 rfl (kp 6 rfl (kp 7 rfl (kp 8 rfl kn)))))) (Fit.eq (by simp)) (fun _ h => h)
      · dsimp only
        rw [Nat.shiftRight_eq_div_pow, show (2 : Nat) ^ 32 = 4294967296 from rfl]
        omega
      · have := hoz j hj
        dsimp only at hj ⊢
        simp only [List.getD] at this ⊢
        rw [List.getElem?_set_ne (by omega)]
        exact this
    ·
      have hkt : k = b.length := by simp at hc; omega
      subst hkt
      rw [List.take_length] at hinv
      refine XC.exit ?_
      refine te ?_
      refine re ?_
      refine be rfl ?_
      refine nx (kp 0 rfl (kp 1 rfl (kp 5 rfl (kp 6 rfl (kp 7 rfl kn))))) ?_
      refine XC.reg1 ?_
      refine XL.q (q_move rfl) rfl ?_
      refine XL.q (q_move rfl) rfl ?_
      refine XL.q (q_move rfl) rfl ?_
      refine XL.q (q_lenV hb rfl (by kernel_rfl)) rfl ?_
      refine XL.q (q_num ((i + b.length : Nat) : Int) rfl rfl (add64 (by omega) (by omega) (by omega))) rfl ?_
      refine XL.q (q_move rfl) rfl ?_
      refine XL.q (q_convN (k' := .u32) c rfl (by kernel_rfl) (by rw [wrap32, Nat.mod_eq_of_lt hc32])) rfl ?_
      refine XL.q (q_atV (hsl.rd fun _ h => h) rfl rfl (by kernel_rfl) (i + b.length) rfl (by omega)) rfl ?_
      refine XL.lo rfl (l_stV (M0 := []) hsl rfl rfl (by kernel_rfl) (by omega) (by rw [List.append_nil]) fun B2 hsl2 => ?_)
      refine XL.nil ?_
      refine nb ?_
      refine nx (kp 0 rfl (kp 1 rfl (kp 5 rfl (kp 6 rfl kn)))) ?_
      refine XC.reg1 ?_
      refine XL.q (q_move rfl) rfl ?_
      refine XL.q (q_num ((i + 1 : Nat) : Int) rfl rfl (add64 (by omega) (by omega) (by omega))) rfl ?_
      refine XL.q (q_assign rfl) rfl ?_
      refine XL.nil ?_
      refine rn (i + 1, _, B2) ⟨by dsimp only; omega, hsl2, by simpa using hol, how.set hc32, times_end hlt (by omega) hinv (hoz _ (Nat.le_refl _)) hon, fun j hj => ?_⟩ (by dsimp only; omega) (kp 0 rfl (kp 1 rfl (kp 5 rfl (kp 6 rfl kn)))) (Fit.eq (by simp)) (fun _ h => h)
      have := hoz j (by dsimp only at hj; omega)
      dsimp only at hj ⊢
      simp only [List.getD] at this ⊢
      rw [List.getElem?_set_ne (by omega)]
      exact this
  ·
    have hlt : i = a.length := by simp at hc; omega
    subst hlt
    rw [List.take_length] at hon
    refine XC.exit ?_
    refine te ?_
    refine re ?_
    refine be rfl ?_
    refine nx (kp 5 rfl kn) ?_
    refine XC.reg ?_
    refine XL.q (q_move rfl) rfl ?_
    rw [← hol] at hsl
    refine XL.cv (aS rfl a0) (by kernel_rfl) (trim_spec _ o0 _ (hsl.rd fun _ h => by simp [h]) (by omega)) rfl ?_
    refine XL.q (q_assign rfl) rfl ?_
    refine XL.fin (kp 4 rfl kn) ?_
    refine XC.ret ?_
    refine ⟨_, B, [], res1 rfl rfl, List.Sublist.refl _, by simp, rfl, trim o0, Sw_trim hsl, trim_w32 how, by rw [trim_nv, hon], trim_nrm _, ?_⟩
    rw [trim_len, ← hol]
    exact tl_le _ _

theorem drop_step {a b : List Nat} {j : Nat} (hj : 0 < j) (ha : j ≤ a.length) (hl : a.length = b.length) (h : a.drop j = b.drop j) (he : a.getD (j - 1) 0 = b.getD (j - 1) 0) : a.drop (j - 1) = b.drop (j - 1) := by
  rw [List.drop_eq_getElem_cons (show j - 1 < a.length by omega), List.drop_eq_getElem_cons (show j - 1 < b.length by omega), show j - 1 + 1 = j by omega, h]
  simp only [List.getD, List.getElem?_eq_getElem (show j - 1 < a.length by omega), List.getElem?_eq_getElem (show j - 1 < b.length by omega), Option.getD_some] at he
  rw [he]

set_option maxRecDepth 100000 in
theorem cmp_spec (va vb : Value) (a b : List Nat) (A : Mem) (ha : Rw A va a) (hb : Rw A vb b) (wa : w32 a) (wb : w32 b) (la : a.length ≤ 1073741824) (lb : b.length ≤ 1073741824) :
    FnX Tryd.prog 41 [va, vb] [] A fun r M J => M = [] ∧ J = [] ∧ ∃ c : Int, r = .int .i64 c ∧ (c < 0 ↔ nv a < nv b) ∧ (0 < c ↔ nv b < nv a) := by
  refine FnX.enter (N := 45) Tryd.func41 rfl rfl rfl fun w => ?_
  refine XC.keep (kp 0 rfl (kp 1 rfl kn)) ?_
  refine XC.reg ?_
  refine XL.q (q_assign rfl) rfl ?_
  refine XL.fin (kp 0 rfl (kp 1 rfl kn)) ?_
  refine XC.reg ?_
  refine XL.q (q_move rfl) rfl ?_
  refine XL.cv (aS rfl a0) (by kernel_rfl) (trim_spec _ a _ (ha.mono fun _ h => mA h) (by omega)) rfl ?_
  refine XL.q (q_assign rfl) rfl ?_
  refine XL.fin (kp 0 rfl (kp 1 rfl kn)) ?_
  refine XC.reg ?_
  refine XL.q (q_move rfl) rfl ?_
  refine XL.cv (aS rfl a0) (by kernel_rfl) (trim_spec _ b _ (hb.mono fun _ h => mA h) (by omega)) rfl ?_
  have ha2 := Rw_trim ha
  have hb2 := Rw_trim hb
  have wa2 := trim_w32 wa
  have wb2 := trim_w32 wb
  have nra := trim_nrm a
  have nrb := trim_nrm b
  have la2 : (trim a).length ≤ 1073741824 := by rw [trim_len]; have := tl_le a a.length; omega
  have lb2 : (trim b).length ≤ 1073741824 := by rw [trim_len]; have := tl_le b b.length; omega
  rw [← trim_nv a, ← trim_nv b]
  generalize vHi (tl a a.length) va = va2 at *
  generalize vHi (tl b b.length) vb = vb2 at *
  generalize trim a = a2 at *
  generalize trim b = b2 at *
  refine XL.q (q_assign rfl) rfl ?_
  refine XL.fin (kp 0 rfl (kp 1 rfl kn)) ?_
  refine XC.seq ?_
  refine XC.reg ?_
  refine XL.q (q_move rfl) rfl ?_
  refine XL.q (q_lenV ha2 rfl (by kernel_rfl)) rfl ?_
  refine XL.q (q_move rfl) rfl ?_
  refine XL.q (q_lenV hb2 rfl (by kernel_rfl)) rfl ?_
  refine XL.q (q_bin rfl rfl rfl) rfl ?_
  refine XL.fin (kp 0 rfl (kp 1 rfl (kp 14 rfl kn))) ?_
  refine XC.cond rfl (fun hc => ?_) (fun hc => ?_)
  ·
    have hne : a2.length ≠ b2.length := by simp at hc; omega
    refine XC.reg ?_
    refine XL.q (q_move rfl) rfl ?_
    refine XL.q (q_lenV ha2 rfl (by kernel_rfl)) rfl ?_
    refine XL.q (q_move rfl) rfl ?_
    refine XL.q (q_lenV hb2 rfl (by kernel_rfl)) rfl ?_
    refine XL.q (q_num ((a2.length : Int) - b2.length) rfl rfl (sub64 rfl (by omega) (by omega))) rfl ?_
    refine XL.q (q_assign rfl) rfl ?_
    refine XL.fin (kp 4 rfl kn) ?_
    refine XC.ret ?_
    refine tr ?_
    refine ⟨_, [], [], res1 rfl rfl, List.nil_sublist _, by simp, rfl, rfl, _, rfl, ?_⟩
    rcases Nat.lt_trichotomy a2.length b2.length with h | h | h
    · have := nv_lt_len wa2 nrb h
      constructor <;> constructor <;> intro h1 <;> omega
    · exact absurd h hne
    · have := nv_lt_len wb2 nra h
      constructor <;> constructor <;> intro h1 <;> omega
  ·
    have hne : a2.length = b2.length := by simp at hc; omega
    refine XC.skip ?_
    refine nx (kp 0 rfl (kp 1 rfl kn)) ?_
    refine XC.seq ?_
    refine XC.reg ?_
    refine XL.q (q_move rfl) rfl ?_
    refine XL.q (q_lenV ha2 rfl (by kernel_rfl)) rfl ?_
    refine XL.q (q_num ((a2.length : Int) - 1) rfl rfl (sub64 rfl (by omega) (by omega))) rfl ?_
    refine XL.q (q_assign rfl) rfl ?_
    refine XL.fin (kp 0 rfl (kp 1 rfl (kp 5 rfl kn))) ?_
    refine XC.block ?_
    refine XC.loop (α := Nat) (fun j => [(0, va2), (1, vb2), (5, .int .i64 ((j : Int) - 1))]) (fun _ => []) (fun _ => []) (fun j => j ≤ a2.length ∧ a2.drop j = b2.drop j) (fun j => j) a2.length ⟨Nat.le_refl _, by rw [List.drop_length, hne, List.drop_length]⟩ (kp 0 rfl (kp 1 rfl (kp 5 rfl kn))) .rfl (fun _ h => h) ?_
    rintro j ⟨hj, hd⟩
    refine XC.seq ?_
    refine XC.reg ?_
    refine XL.q (q_move rfl) rfl ?_
    refine XL.q (q_bin rfl rfl rfl) rfl ?_
    refine XL.fin (kp 0 rfl (kp 1 rfl (kp 5 rfl (kp 24 rfl kn)))) ?_
    refine XC.cond rfl (fun hc => ?_) (fun hc => ?_)
    ·
      have hj0 : 0 < j := by simp at hc; omega
      refine XC.skip ?_
      refine nx (kp 0 rfl (kp 1 rfl (kp 5 rfl kn))) ?_
      refine XC.seq ?_
      refine XC.block ?_
      refine XC.seq ?_
      refine XC.draw (_) [0, 1, 2, 3, 4, 5, 6, 7, 8] [(0, 0), (1, 0), (2, 0), (3, 1), (4, 0), (5, 0), (6, 0), (7, 1), (8, 0)] (by kernel_rfl) (by kernel_rfl) (fun _ h => h) fun hs => ?_
      refine XP.q hs rfl (q_move rfl) rfl ?_
      refine XP.q hs rfl (q_move rfl) rfl ?_
      refine XP.q hs rfl (q_atV ha2 rfl rfl (by kernel_rfl) (j - 1) (by omega) (by omega)) rfl ?_
      refine XP.r hs rfl (q_ldVN (ha2.mono fun _ h => mA h) rfl (by kernel_rfl) (by omega)) rfl ?_
      refine XP.q hs rfl (q_move rfl) rfl ?_
      refine XP.q hs rfl (q_move rfl) rfl ?_
      refine XP.q hs rfl (q_atV hb2 rfl rfl (by kernel_rfl) (j - 1) (by omega) (by omega)) rfl ?_
      refine XP.r hs rfl (q_ldVN (hb2.mono fun _ h => mA h) rfl (by kernel_rfl) (by omega)) rfl ?_
      refine XP.q hs rfl (q_bin rfl rfl rfl) rfl ?_
      refine XP.fin (kp 0 rfl (kp 1 rfl (kp 5 rfl (kp 35 rfl kn)))) ?_
      refine XC.cond rfl (fun hc => ?_) (fun hc => ?_)
      ·
        have hlt : a2.getD (j - 1) 0 < b2.getD (j - 1) 0 := by simp at hc ⊢; omega
        refine XC.reg ?_
        refine XL.q (q_assign rfl) rfl ?_
        refine XL.fin (kp 4 rfl kn) ?_
        refine XC.ret ?_
        refine tr ?_
        refine br ?_
        refine tr ?_
        refine rr ?_
        refine br ?_
        refine tr ?_
        refine ⟨_, [], [], res1 rfl rfl, List.nil_sublist _, by simp, rfl, rfl, -1, rfl, ?_⟩
        have := nv_lt_at wa2 (j := j - 1) (by omega) hne hlt (by rwa [show j - 1 + 1 = j by omega])
        constructor <;> constructor <;> intro h1 <;> omega
      ·
        have hge : ¬ a2.getD (j - 1) 0 < b2.getD (j - 1) 0 := by simp at hc ⊢; omega
        refine XC.skip ?_
        refine nx (kp 0 rfl (kp 1 rfl (kp 5 rfl kn))) ?_
        refine XC.draw (_) [0, 1, 2, 3, 4, 5, 6, 7, 8] [(0, 0), (1, 0), (2, 0), (3, 1), (4, 0), (5, 0), (6, 0), (7, 1), (8, 0)] (by kernel_rfl) (by kernel_rfl) (fun _ h => h) fun hs => ?_
        refine XP.q hs rfl (q_move rfl) rfl ?_
        refine XP.q hs rfl (q_move rfl) rfl ?_
        refine XP.q hs rfl (q_atV ha2 rfl rfl (by kernel_rfl) (j - 1) (by omega) (by omega)) rfl ?_
        refine XP.r hs rfl (q_ldVN (ha2.mono fun _ h => mA h) rfl (by kernel_rfl) (by omega)) rfl ?_
        refine XP.q hs rfl (q_move rfl) rfl ?_
        refine XP.q hs rfl (q_move rfl) rfl ?_
        refine XP.q hs rfl (q_atV hb2 rfl rfl (by kernel_rfl) (j - 1) (by omega) (by omega)) rfl ?_
        refine XP.r hs rfl (q_ldVN (hb2.mono fun _ h => mA h) rfl (by kernel_rfl) (by omega)) rfl ?_
        refine XP.q hs rfl (q_bin rfl rfl rfl) rfl ?_
        refine XP.fin (kp 0 rfl (kp 1 rfl (kp 5 rfl (kp 44 rfl kn)))) ?_
        refine XC.cond rfl (fun hc => ?_) (fun hc => ?_)
        ·
          have hlt : b2.getD (j - 1) 0 < a2.getD (j - 1) 0 := by simp at hc ⊢; omega
          refine XC.reg ?_
          refine XL.q (q_assign rfl) rfl ?_
          refine XL.fin (kp 4 rfl kn) ?_
          refine XC.ret ?_
          refine br ?_
          refine tr ?_
          refine rr ?_
          refine br ?_
          refine tr ?_
          refine ⟨_, [], [], res1 rfl rfl, List.nil_sublist _, by simp, rfl, rfl, 1, rfl, ?_⟩
          have := nv_lt_at wb2 (j := j - 1) (by omega) hne.symm hlt (by rw [show j - 1 + 1 = j by omega, hd])
          constructor <;> constructor <;> intro h1 <;> omega
        ·
          have hge2 : ¬ b2.getD (j - 1) 0 < a2.getD (j - 1) 0 := by simp at hc ⊢; omega
          refine XC.skip ?_
          refine nb ?_
          refine nx (kp 0 rfl (kp 1 rfl (kp 5 rfl kn))) ?_
          refine XC.reg1 ?_
          refine XL.q (q_move rfl) rfl ?_
          refine XL.q (q_num (((j - 1 : Nat) : Int) - 1) rfl rfl (sub64 (by omega) (by omega) (by omega))) rfl ?_
          refine XL.q (q_assign rfl) rfl ?_
          refine XL.nil ?_
          refine rn (j - 1) ⟨by omega, drop_step hj0 hj hne hd (by omega)⟩ (by omega) (kp 0 rfl (kp 1 rfl (kp 5 rfl kn))) .rfl (fun _ h => h)
    ·
      have hj0 : j = 0 := by simp at hc; omega
      subst hj0
      rw [List.drop_zero, List.drop_zero] at hd
      refine XC.exit ?_
      refine te ?_
      refine re ?_
      refine be rfl ?_
      refine nx kn ?_
      refine XC.reg ?_
      refine XL.q (q_assign rfl) rfl ?_
      refine XL.fin (kp 4 rfl kn) ?_
      refine XC.ret ?_
      refine ⟨_, [], [], res1 rfl rfl, List.nil_sublist _, by simp, rfl, rfl, 0, rfl, ?_⟩
      rw [hd]
      constructor <;> constructor <;> intro h1 <;> omega

end Go.Proofs.YtcfdeohjhhpmcaaDoor
