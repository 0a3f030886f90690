/- Part 16 of the texts of this claim, one behind the other. -/
import Derived.Test.YtphcaiplgpmnnaaGreatDoorB15
import Derived.Test.YtphcaiplgpmnnaaGreatDoorRows
set_option linter.unusedVariables false
set_option linter.unusedSimpArgs false
set_option maxRecDepth 100000
namespace Go.Proofs.YtphcaiplgpmnnaaGreatDoor
open Go.Px
theorem by_hd {R : Mem} {v : Value} {w : List Nat} (h : By R v w) {k : Nat} (hk : k ≤ w.length) : By R (vHi k v) (w.take k) := ⟨by
  have h1 := h.rd.hiV k hk
  rw [Nat.mul_one, ← nums_take] at h1
  rw [List.length_take, Nat.min_eq_left hk]
  exact h1, fun x hx => h.lt x (List.mem_of_mem_take hx), by rw [List.length_take]; have := h.len; omega⟩
theorem by_tl {R : Mem} {v : Value} {w : List Nat} (h : By R v w) {k : Nat} (hk : k ≤ w.length) : By R (vLo k 1 v) (w.drop k) := ⟨by
  have h1 := h.rd.loV k hk
  rw [Nat.mul_one, ← nums_drop] at h1
  rw [List.length_drop]
  exact h1, fun x hx => h.lt x (List.mem_of_mem_drop hx), by rw [List.length_drop]; have := h.len; omega⟩
theorem chk_len {p m s : List Nat} (h : ¬ s.length = 64) : chkB p m s = false := by
  unfold chkB; rw [decide_eq_false h, Bool.false_and]
theorem chk_noA {p m s : List Nat} (h : pRead p = none) : chkB p m s = false := by
  unfold chkB; rw [h, chkO_noA, Bool.and_false]
theorem chk_noR {p m s : List Nat} (h : pRead (s.take 32) = none) : chkB p m s = false := by
  unfold chkB; rw [h, chkO_noR, Bool.and_false]
theorem chk_ne {p m s : List Nat} {a r : Pt} (h1 : pRead p = some a) (h2 : pRead (s.take 32) = some r) (h : ¬ digs (bv (s.drop 32) % lN) 32 = s.drop 32) : chkB p m s = false := by
  unfold chkB; rw [h1, h2, chkO_some, decide_eq_false h, Bool.false_and, Bool.and_false]
theorem chk_eq {p m s : List Nat} {a r : Pt} (h0 : s.length = 64) (h1 : pRead p = some a) (h2 : pRead (s.take 32) = some r) (h : digs (bv (s.drop 32) % lN) 32 = s.drop 32) : chkB p m s = pSame (pTimes pS (bv (s.drop 32) % lN)) (pAdd d2N r (pTimes a (chlN (s.take 32) p m))) := by
  unfold chkB; rw [decide_eq_true h0, h1, h2, chkO_some, decide_eq_true h, Bool.true_and, Bool.true_and]
theorem rd_cases {V : Value} {b : Bool} {w : List Nat} (h : (∃ P, pRead w = some P ∧ b = true ∧ FeP V P) ∨ (pRead w = none ∧ b = false ∧ FeP V pZ)) : ∃ P, FeP V P ∧ ((pRead w = some P ∧ b = true) ∨ (pRead w = none ∧ b = false)) := by
  rcases h with ⟨P, h1, h2, h3⟩ | ⟨h1, h2, h3⟩
  · exact ⟨P, h3, .inl ⟨h1, h2⟩⟩
  · exact ⟨_, h3, .inr ⟨h1, h2⟩⟩
theorem ptimes_d (V : Value) (P : Pt) (n : Nat) (hP : FeP V P) (hn : n < lN) (A : Mem) : FnX Tryz.prog 109 [V, .agg (nums .u8 (digs n 32)).toArray] [] A fun r M J => M = [] ∧ J = [] ∧ FeP r (pTimes P n) := by
  have h := ptimes_f V P (digs n 32) hP (digs_len _ _) (digs_lt _ _) A
  rwa [dg_bv hn] at h
theorem bytes_row {R : Mem} {v : Value} {w : List Nat} (h : By R v w) (hp : 0 < w.length) : ∃ (b o cap : Nat) (cs : List Value) (e : TypeId) (fr : Nat × Nat), v = .slice (some ⟨b, o, none⟩) w.length cap ∧ (b, Obj.cells cs.toArray e fr) ∈ R ∧ ∀ j u, (nums .u8 w)[j]? = some u → cs[o + j]? = some u := by
  obtain ⟨p, cap, hv, h1, h2, h3 | ⟨b, o, cs, e, fr, hb, hm, hg⟩⟩ := h.rd
  · omega
  · subst hb; exact ⟨b, o, cap, cs, e, fr, hv, hm, hg⟩

theorem check_f (vp vm vs : Value) (wp wm ws : List Nat) (A : Mem) (hp : By A vp wp) (hm : By A vm wm) (hsg : By A vs ws) (hG : GlS A) : FnV Tryz.prog 84 [vp, vm, vs] A (.bool (chkB wp wm ws)) := by
  haveI := hp.cel
  haveI := hm.cel
  haveI := hsg.cel
  have hpl := hp.len
  have hml := hm.len
  have hsl := hsg.len
  refine FnX.enter (N := 64) Tryz.func84 rfl rfl rfl fun w => ?_
  refine XC.keep (kq 0 (kq 1 (kq 2 kn))) ?_
  refine XC.reg ?_
  refine as_ ?_
  refine XL.fin (kq 0 (kq 1 (kq 2 kn))) ?_
  refine XC.seq ?_
  refine XC.reg ?_
  refine mv_ ?_
  refine XL.q (q_lenV2 (sz := 1) rfl (by kernel_rfl) hsg.rd) rfl ?_
  refine XL.q (q_bin rfl rfl rfl) rfl ?_
  refine XL.fin (kq 0 (kq 1 (kq 2 (kq 17 kn)))) ?_
  refine XC.cond rfl (fun hc => ?_) (fun hc => ?_)
  ·
    have h64 : ¬ ws.length = 64 := by simp at hc; omega
    refine XC.reg ?_
    refine as_ ?_
    refine XL.fin (kq 6 kn) ?_
    refine XC.ret ?_
    refine tr ?_
    exact ⟨_, [], [], res1 rfl rfl, List.nil_sublist _, by simp, by rw [chk_len h64], rfl, rfl⟩
  ·
    have h64 : ws.length = 64 := by simp at hc; omega
    have hr := by_hd hsg (show 32 ≤ ws.length by omega)
    obtain ⟨vr, hvr⟩ : ∃ vr, vHi 32 vs = vr := ⟨_, rfl⟩
    rw [hvr] at hr
    haveI := hr.cel
    have hl := by_tl hsg (show 32 ≤ ws.length by omega)
    obtain ⟨vl, hvl⟩ : ∃ vl, vLo 32 1 vs = vl := ⟨_, rfl⟩
    rw [hvl] at hl
    have hll : (ws.drop 32).length = 32 := by rw [List.length_drop]; omega
    obtain ⟨lb, lo, lcap, lcs, le_, lfr, rfl, hlm, hlg⟩ := bytes_row hl (by omega)
    haveI := hl.cel
    refine XC.skip ?_
    refine nx (kq 0 (kq 1 (kq 2 kn))) ?_
    refine XC.reg ?_
    refine mv_ ?_
    refine XL.call (aS rfl a0) (by kernel_rfl) (cread_f vp wp _ (hp.mono SubC.sub)) rfl ?_
    rintro r20 M20 J20 ⟨rfl, rfl, VA, bA, rfl, hA⟩
    obtain ⟨PA, hPA, hAb⟩ := rd_cases hA
    have hPA0 := hPA
    obtain ⟨xspa, rfl, pa0, pa1, pa2, pa3, pa4, pa5, pa6, pa7, pa8, pa9, pa10, pa11, pa12, pa13, pa14, pa15, pa16, pa17, pa18, pa19, rfl, hPAX, hPAY, hPAZ, hPAT⟩ := hPA
    dsimp only [nums, List.map]
    refine mv_ ?_
    refine XL.q (q_x0 rfl) rfl ?_
    refine XL.q (q_x1 rfl) rfl ?_
    refine XL.lo rfl (l_alloc (cs := [.int .u64 0, .int .u64 0, .int .u64 0, .int .u64 0, .int .u64 0, .int .u64 0, .int .u64 0, .int .u64 0, .int .u64 0, .int .u64 0, .int .u64 0, .int .u64 0, .int .u64 0, .int .u64 0, .int .u64 0, .int .u64 0, .int .u64 0, .int .u64 0, .int .u64 0, .int .u64 0]) (by kernel_rfl) rfl fun b7 => ?_)
    refine XL.lo rfl (l_storeW rfl rfl Cel.cel (by kernel_rfl) (lnS (lnS (lnS (lnS (lnS (lnS (lnS (lnS (lnS (lnS (lnS (lnS (lnS (lnS (lnS (lnS (lnS (lnS (lnS (lnS (ln0))))))))))))))))))))) (allS rfl (allS rfl (allS rfl (allS rfl (allS rfl (allS rfl (allS rfl (allS rfl (allS rfl (allS rfl (allS rfl (allS rfl (allS rfl (allS rfl (allS rfl (allS rfl (allS rfl (allS rfl (allS rfl (allS rfl (all0))))))))))))))))))))) UpC.upd ?_)
    refine as_ ?_
    refine XL.fin (kq 0 (kq 1 (kq 2 (kq 7 (kq 8 kn))))) ?_
    refine XC.reg ?_
    refine mv_ ?_
    refine XL.q (hvr ▸ q_hiV2 (sz := 1) (a := 32) rfl rfl (by kernel_rfl) rfl hsg.rd (by omega)) rfl ?_
    refine XL.call (aS rfl a0) (by kernel_rfl) (cread_f vr (ws.take 32) _ (hr.mono SubC.sub)) rfl ?_
    rintro r26 M26 J26 ⟨rfl, rfl, VR, bR, rfl, hR⟩
    obtain ⟨PR, hPR, hRb⟩ := rd_cases hR
    have hPR0 := hPR
    obtain ⟨xspr, rfl, pr0, pr1, pr2, pr3, pr4, pr5, pr6, pr7, pr8, pr9, pr10, pr11, pr12, pr13, pr14, pr15, pr16, pr17, pr18, pr19, rfl, hPRX, hPRY, hPRZ, hPRT⟩ := hPR
    dsimp only [nums, List.map]
    refine mv_ ?_
    refine XL.q (q_x0 rfl) rfl ?_
    refine XL.q (q_x1 rfl) rfl ?_
    refine XL.lo rfl (l_alloc (cs := [.int .u64 0, .int .u64 0, .int .u64 0, .int .u64 0, .int .u64 0, .int .u64 0, .int .u64 0, .int .u64 0, .int .u64 0, .int .u64 0, .int .u64 0, .int .u64 0, .int .u64 0, .int .u64 0, .int .u64 0, .int .u64 0, .int .u64 0, .int .u64 0, .int .u64 0, .int .u64 0]) (by kernel_rfl) rfl fun b9 => ?_)
    refine XL.lo rfl (l_storeW rfl rfl Cel.cel (by kernel_rfl) (lnS (lnS (lnS (lnS (lnS (lnS (lnS (lnS (lnS (lnS (lnS (lnS (lnS (lnS (lnS (lnS (lnS (lnS (lnS (lnS (ln0))))))))))))))))))))) (allS rfl (allS rfl (allS rfl (allS rfl (allS rfl (allS rfl (allS rfl (allS rfl (allS rfl (allS rfl (allS rfl (allS rfl (allS rfl (allS rfl (allS rfl (allS rfl (allS rfl (allS rfl (allS rfl (allS rfl (all0))))))))))))))))))))) UpC.upd ?_)
    refine as_ ?_
    refine XL.fin (kq 0 (kq 1 (kq 2 (kq 7 (kq 8 (kq 9 (kq 10 kn))))))) ?_
    refine XC.reg ?_
    refine mv_ ?_
    refine XL.q (hvl ▸ q_loV2 (sz := 1) (a := 32) rfl rfl (by kernel_rfl) rfl hsg.rd (by omega)) rfl ?_
    refine XL.call (aS rfl a0) (by kernel_rfl) (snumber_f _ (ws.drop 32) _ (hl.rd.mono SubC.sub) hl.lt (by omega)) rfl ?_
    rintro r31 M31 J31 ⟨rfl, rfl, hq⟩
    have hz := hq
    obtain ⟨s, rfl, s8, s32, sv⟩ := hq
    refine XL.lo rfl (l_alloc (cs := [.int .u32 0, .int .u32 0, .int .u32 0, .int .u32 0, .int .u32 0, .int .u32 0, .int .u32 0, .int .u32 0]) (by kernel_rfl) rfl fun b11 => ?_)
    refine XL.lo rfl (l_storeW (vs := nums .u32 s) rfl rfl rfl (by rw [nums_len, s8]; kernel_rfl) (by rw [nums_len, s8]; rfl) nums_one UpC.upd ?_)
    refine XL.fin (kq 0 (kq 1 (kq 2 (kq 7 (kq 8 (kq 9 (kq 10 (kq 11 kn)))))))) ?_
    refine XC.reg ?_
    refine XL.q (q_loadW (n := 8) (cs := nums .u32 s) rfl (by kernel_rfl) At.mem (by rw [nums_len]; omega)) rfl ?_
    refine XL.callV (aS rfl a0) (by kernel_rfl) (sbytes_f _ _ hz _) rfl ?_
    refine XL.lo rfl (l_alloc (cs := [.int .u8 0, .int .u8 0, .int .u8 0, .int .u8 0, .int .u8 0, .int .u8 0, .int .u8 0, .int .u8 0, .int .u8 0, .int .u8 0, .int .u8 0, .int .u8 0, .int .u8 0, .int .u8 0, .int .u8 0, .int .u8 0, .int .u8 0, .int .u8 0, .int .u8 0, .int .u8 0, .int .u8 0, .int .u8 0, .int .u8 0, .int .u8 0, .int .u8 0, .int .u8 0, .int .u8 0, .int .u8 0, .int .u8 0, .int .u8 0, .int .u8 0, .int .u8 0]) (by kernel_rfl) rfl fun b12 => ?_)
    refine XL.lo rfl (l_storeW (vs := nums .u8 (digs (bv (ws.drop 32) % lN) 32)) rfl rfl rfl (by rw [nums_len, digs_len]; kernel_rfl) (by rw [nums_len, digs_len]; rfl) nums_one UpC.upd ?_)
    refine XL.fin (kq 0 (kq 1 (kq 2 (kq 7 (kq 8 (kq 9 (kq 10 (kq 12 kn)))))))) ?_
    refine XC.seq ?_
    have h3 : (pRead wp = none ∧ bA = false) ∨ ((pRead wp = some PA ∧ bA = true) ∧ (pRead (ws.take 32) = none ∧ bR = false)) ∨ ((pRead wp = some PA ∧ bA = true) ∧ (pRead (ws.take 32) = some PR ∧ bR = true)) := by
      rcases hAb with h | h
      · rcases hRb with h2 | h2
        · exact .inr (.inr ⟨h, h2⟩)
        · exact .inr (.inl ⟨h, h2⟩)
      · exact .inl h
    clear hAb hRb
    rcases h3 with ⟨hA1, rfl⟩ | ⟨⟨hA1, rfl⟩, hR1, rfl⟩ | ⟨⟨hA1, rfl⟩, hR1, rfl⟩
    ·
      refine XC.drawF [0, 1, 2, 3, 4, 5, 6, 7, 8, 9, 10, 11, 12, 13] [(0, 0), (1, 0), (2, 0), (3, 0), (4, 0), (5, 0), (6, 0), (7, 1), (8, 0), (9, 0), (10, 0), (11, 1), (12, 0), (13, 0)] (by kernel_rfl) (by kernel_rfl) fun hs => ?_
      refine XF.q hs rfl qm_ rfl ?_
      refine XF.q hs rfl (q_not rfl) rfl ?_
      refine XF.q hs rfl qm_ rfl ?_
      refine XF.qn hs rfl rfl rfl rfl rfl rfl ?_
      refine XF.qn hs rfl rfl rfl rfl rfl rfl ?_
      refine XF.q hs rfl (q_pickT rfl rfl) rfl ?_
      refine XF.q hs rfl qm_ rfl ?_
      refine XF.rn hs rfl rfl rfl rfl rfl rfl ?_
      refine XF.qn hs rfl rfl rfl rfl rfl rfl ?_
      refine XF.qn hs rfl rfl rfl rfl rfl rfl ?_
      refine XF.qn hs rfl rfl rfl rfl rfl rfl ?_
      refine XF.rn hs rfl rfl rfl rfl rfl rfl ?_
      refine XF.qn hs rfl rfl rfl rfl rfl rfl ?_
      refine XF.q hs rfl (q_pickT rfl rfl) rfl ?_
      refine XF.fin (kq 0 (kq 1 (kq 2 (kq 7 (kq 9 (kq 12 (kq 47 kn))))))) ?_
      refine XC.condT rfl ?_
      refine XC.reg ?_
      refine as_ ?_
      refine XL.fin (kq 6 kn) ?_
      refine XC.ret ?_
      refine tr ?_
      exact ⟨_, [], [], res1 rfl rfl, List.nil_sublist _, by simp, by rw [chk_noA hA1], rfl, rfl⟩
    ·
      refine XC.drawF [0, 1, 2, 3, 4, 5, 6, 7, 8, 9, 10, 11, 12, 13] [(0, 0), (1, 0), (2, 0), (3, 0), (4, 0), (5, 0), (6, 0), (7, 1), (8, 0), (9, 0), (10, 0), (11, 1), (12, 0), (13, 0)] (by kernel_rfl) (by kernel_rfl) fun hs => ?_
      refine XF.q hs rfl qm_ rfl ?_
      refine XF.q hs rfl (q_not rfl) rfl ?_
      refine XF.q hs rfl qm_ rfl ?_
      refine XF.qg hs rfl rfl rfl rfl qm_ rfl ?_
      refine XF.qg hs rfl rfl rfl rfl (q_not rfl) rfl ?_
      refine XF.q hs rfl (q_pickF rfl rfl) rfl ?_
      refine XF.q hs rfl qm_ rfl ?_
      refine XF.rn hs rfl rfl rfl rfl rfl rfl ?_
      refine XF.qn hs rfl rfl rfl rfl rfl rfl ?_
      refine XF.qn hs rfl rfl rfl rfl rfl rfl ?_
      refine XF.qn hs rfl rfl rfl rfl rfl rfl ?_
      refine XF.rn hs rfl rfl rfl rfl rfl rfl ?_
      refine XF.qn hs rfl rfl rfl rfl rfl rfl ?_
      refine XF.q hs rfl (q_pickT rfl rfl) rfl ?_
      refine XF.fin (kq 0 (kq 1 (kq 2 (kq 7 (kq 9 (kq 12 (kq 47 kn))))))) ?_
      refine XC.condT rfl ?_
      refine XC.reg ?_
      refine as_ ?_
      refine XL.fin (kq 6 kn) ?_
      refine XC.ret ?_
      refine tr ?_
      exact ⟨_, [], [], res1 rfl rfl, List.nil_sublist _, by simp, by rw [chk_noR hR1], rfl, rfl⟩
    ·
      refine XC.drawF [0, 1, 2, 3, 4, 5, 6, 7, 8, 9, 10, 11, 12, 13] [(0, 0), (1, 0), (2, 0), (3, 0), (4, 0), (5, 0), (6, 0), (7, 1), (8, 0), (9, 0), (10, 0), (11, 1), (12, 0), (13, 0)] (by kernel_rfl) (by kernel_rfl) fun hs => ?_
      refine XF.q hs rfl qm_ rfl ?_
      refine XF.q hs rfl (q_not rfl) rfl ?_
      refine XF.q hs rfl qm_ rfl ?_
      refine XF.qg hs rfl rfl rfl rfl qm_ rfl ?_
      refine XF.qg hs rfl rfl rfl rfl (q_not rfl) rfl ?_
      refine XF.q hs rfl (q_pickF rfl rfl) rfl ?_
      refine XF.q hs rfl qm_ rfl ?_
      refine XF.rg hs rfl rfl rfl rfl (q_loadW (n := 32) (cs := nums .u8 (digs (bv (ws.drop 32) % lN) 32)) rfl (by kernel_rfl) At.mem (by rw [nums_len, digs_len])) rfl ?_
      refine XF.qg hs rfl rfl rfl rfl qm_ rfl ?_
      refine XF.qg hs rfl rfl rfl rfl (hvl ▸ q_loV2 (sz := 1) (a := 32) rfl rfl (by kernel_rfl) rfl hsg.rd (by omega)) rfl ?_
      refine XF.qg hs rfl rfl rfl rfl (q_arrPtr (k := .u8) (n := 32) rfl (by kernel_rfl) (by omega)) rfl ?_
      refine XF.rg hs rfl rfl rfl rfl (q_loadT (n := 32) (vs := nums .u8 (ws.drop 32)) rfl (by kernel_rfl) (mA hlm) ⟨by rw [nums_len]; omega, hlg⟩) rfl ?_
      refine XF.qg hs rfl rfl rfl rfl (q_arrNe (n := 32) (k := .u8) rfl rfl (by kernel_rfl) (by kernel_rfl) (digs_len _ _) (by omega)) rfl ?_
      refine XF.q hs rfl (q_pickF rfl rfl) rfl ?_
      refine XF.fin (kq 0 (kq 1 (kq 2 (kq 7 (kq 9 (kq 12 (kq 47 kn))))))) ?_
      refine XC.cond rfl (fun hc => ?_) (fun hc => ?_)
      ·
        have hne : ¬ digs (bv (ws.drop 32) % lN) 32 = ws.drop 32 := by simpa using hc
        refine XC.reg ?_
        refine as_ ?_
        refine XL.fin (kq 6 kn) ?_
        refine XC.ret ?_
        refine tr ?_
        exact ⟨_, [], [], res1 rfl rfl, List.nil_sublist _, by simp, by rw [chk_ne hA1 hR1 hne], rfl, rfl⟩
      ·
        have hne : digs (bv (ws.drop 32) % lN) 32 = ws.drop 32 := by simpa using hc
        refine XC.skip ?_
        refine nx (kq 0 (kq 1 (kq 2 (kq 7 (kq 9 (kq 12 kn)))))) ?_
        refine XC.drawF [0, 1, 2, 3] [(1, 1), (0, 3), (2, 3), (3, 4), (4, 2)] (by kernel_rfl) (by kernel_rfl) fun hs => ?_
        refine XF.r hs rfl (q_loadW (n := 32) (cs := nums .u8 (digs (bv (ws.drop 32) % lN) 32)) rfl (by kernel_rfl) At.mem (by rw [nums_len, digs_len])) rfl ?_
        refine XF.groupO [⟨0, 48, fun v B _ => B = [] ∧ FeP v pS⟩, ⟨2, 50, fun v B _ => B = [] ∧ FeP v (pTimes pS (bv (ws.drop 32) % lN))⟩, ⟨3, 13, fun v B _ => ∃ b, v = .pointer (some ⟨b, 0, none⟩) ∧ B = [(b, blk [.int .u64 0, .int .u64 0, .int .u64 0, .int .u64 0, .int .u64 0, .int .u64 0, .int .u64 0, .int .u64 0, .int .u64 0, .int .u64 0, .int .u64 0, .int .u64 0, .int .u64 0, .int .u64 0, .int .u64 0, .int .u64 0, .int .u64 0, .int .u64 0, .int .u64 0, .int .u64 0] 154)]⟩]
          (allS (fun _ _ _ _ _ h => h) (allS (fun _ _ _ _ _ h => h) (allS (fun _ _ _ _ _ h => h) (all0)))) (show List.Nodup [48, 50, 13] by decide) (show List.Nodup [0, 2, 3] by decide) (allS (blt_lt rfl) (allS (blt_lt rfl) (allS (blt_lt rfl) (all0))))
          (allS ⟨_, rfl, fun vs bs R w hb ha => ⟨.inl rfl, ?_⟩⟩ (allS ⟨_, rfl, fun vs bs R w hb ha => ⟨.inl rfl, ?_⟩⟩ (allS ⟨_, rfl, fun vs bs R w hb ha => ⟨.inl rfl, ?_⟩⟩ (all0)))) ?_
        ·
          refine l_call0 (a0) (by kernel_rfl) (start_f _) rfl ?_
          rintro r M1 J1 ⟨rfl, rfl, hh⟩
          exact ⟨_, rfl, rfl, hh⟩
        ·
          have g0 := ha _ (List.mem_of_getElem? (i := 0) rfl) (by kernel_rfl)
          replace g0 : (fun v B _ => B = [] ∧ FeP v pS) (vs 0) (bs 0) R := g0
          dsimp only at g0
          obtain ⟨-, k0⟩ := g0
          refine l_call0 (aS rfl (aS rfl (a0))) (by kernel_rfl) (ptimes_d _ pS (bv (ws.drop 32) % lN) k0 (Nat.mod_lt _ lN_pos) _) rfl ?_
          rintro r M1 J1 ⟨rfl, rfl, hh⟩
          exact ⟨_, rfl, rfl, hh⟩
        ·
          exact l_alloc (cs := [.int .u64 0, .int .u64 0, .int .u64 0, .int .u64 0, .int .u64 0, .int .u64 0, .int .u64 0, .int .u64 0, .int .u64 0, .int .u64 0, .int .u64 0, .int .u64 0, .int .u64 0, .int .u64 0, .int .u64 0, .int .u64 0, .int .u64 0, .int .u64 0, .int .u64 0, .int .u64 0]) (by kernel_rfl) rfl fun b => ⟨_, rfl, b, rfl, rfl⟩
        intro vs bs Jn0 hφ
        have g0 := ofH hφ
        dsimp only at g0
        replace hφ := ofT hφ
        have g2 := ofH hφ
        dsimp only at g2
        replace hφ := ofT hφ
        have g3 := ofH hφ
        dsimp only at g3
        clear hφ
        dsimp only [gEnvO, ownOf, List.map, List.flatten, List.cons_append, List.nil_append]
        generalize bs 0 = B48 at *
        generalize bs 2 = B50 at *
        generalize bs 3 = B13 at *
        generalize vs 0 = u48 at *
        generalize vs 2 = u50 at *
        generalize vs 3 = u13 at *
        obtain ⟨rfl, -⟩ := g0
        obtain ⟨rfl, hL⟩ := g2
        obtain ⟨b13, rfl, rfl⟩ := g3
        have hL0 := hL
        obtain ⟨xspl, rfl, pl0, pl1, pl2, pl3, pl4, pl5, pl6, pl7, pl8, pl9, pl10, pl11, pl12, pl13, pl14, pl15, pl16, pl17, pl18, pl19, rfl, hLX, hLY, hLZ, hLT⟩ := hL
        dsimp only [nums, List.map]
        dsimp only [List.append_eq, List.nil_append, List.cons_append]
        refine XF.tl rfl rfl rfl (l_storeW rfl rfl Cel.cel (by kernel_rfl) (lnS (lnS (lnS (lnS (lnS (lnS (lnS (lnS (lnS (lnS (lnS (lnS (lnS (lnS (lnS (lnS (lnS (lnS (lnS (lnS (ln0))))))))))))))))))))) (allS rfl (allS rfl (allS rfl (allS rfl (allS rfl (allS rfl (allS rfl (allS rfl (allS rfl (allS rfl (allS rfl (allS rfl (allS rfl (allS rfl (allS rfl (allS rfl (allS rfl (allS rfl (allS rfl (allS rfl (all0))))))))))))))))))))) UpC.upd ?_)
        refine XF.fin (kq 0 (kq 1 (kq 2 (kq 7 (kq 9 (kq 13 kn)))))) ?_
        refine XC.drawF [0, 1, 2, 3, 4, 5, 6, 7, 8, 9, 10] [(0, 1), (1, 1), (2, 0), (3, 0), (4, 0), (5, 0), (6, 3), (7, 3), (8, 3), (9, 3), (10, 4), (11, 2)] (by kernel_rfl) (by kernel_rfl) fun hs => ?_
        refine XF.r hs rfl (qw_ 20) rfl ?_
        refine XF.r hs rfl (qw_ 20) rfl ?_
        refine XF.q hs rfl qm_ rfl ?_
        refine XF.q hs rfl (hvr ▸ q_hiV2 (sz := 1) (a := 32) rfl rfl (by kernel_rfl) rfl hsg.rd (by omega)) rfl ?_
        refine XF.q hs rfl qm_ rfl ?_
        refine XF.q hs rfl qm_ rfl ?_
        refine XF.groupO [⟨6, 57, fun v B _ => B = [] ∧ Sc v (chlN (ws.take 32) wp wm)⟩, ⟨7, 58, fun v B _ => B = [] ∧ v = .agg (nums .u8 (digs (chlN (ws.take 32) wp wm) 32)).toArray⟩, ⟨8, 59, fun v B _ => B = [] ∧ FeP v (pTimes PA (chlN (ws.take 32) wp wm))⟩, ⟨9, 60, fun v B _ => B = [] ∧ FeP v (pAdd d2N PR (pTimes PA (chlN (ws.take 32) wp wm)))⟩, ⟨10, 14, fun v B _ => ∃ b, v = .pointer (some ⟨b, 0, none⟩) ∧ B = [(b, blk [.int .u64 0, .int .u64 0, .int .u64 0, .int .u64 0, .int .u64 0, .int .u64 0, .int .u64 0, .int .u64 0, .int .u64 0, .int .u64 0, .int .u64 0, .int .u64 0, .int .u64 0, .int .u64 0, .int .u64 0, .int .u64 0, .int .u64 0, .int .u64 0, .int .u64 0, .int .u64 0] 154)]⟩]
          (allS (fun _ _ _ _ _ h => h) (allS (fun _ _ _ _ _ h => h) (allS (fun _ _ _ _ _ h => h) (allS (fun _ _ _ _ _ h => h) (allS (fun _ _ _ _ _ h => h) (all0)))))) (show List.Nodup [57, 58, 59, 60, 14] by decide) (show List.Nodup [6, 7, 8, 9, 10] by decide) (allS (blt_lt rfl) (allS (blt_lt rfl) (allS (blt_lt rfl) (allS (blt_lt rfl) (allS (blt_lt rfl) (all0))))))
          (allS ⟨_, rfl, fun vs bs R w hb ha => ⟨.inl rfl, ?_⟩⟩ (allS ⟨_, rfl, fun vs bs R w hb ha => ⟨.inl rfl, ?_⟩⟩ (allS ⟨_, rfl, fun vs bs R w hb ha => ⟨.inl rfl, ?_⟩⟩ (allS ⟨_, rfl, fun vs bs R w hb ha => ⟨.inl rfl, ?_⟩⟩ (allS ⟨_, rfl, fun vs bs R w hb ha => ⟨.inl rfl, ?_⟩⟩ (all0)))))) ?_
        ·
          refine l_call0 (aS rfl (aS rfl (aS rfl (a0)))) (by kernel_rfl) (challenge_f _ _ _ (ws.take 32) wp wm _ (hr.mono fun x hx => hb _ (SubC.sub x hx)) (hp.mono fun x hx => hb _ (SubC.sub x hx)) (hm.mono fun x hx => hb _ (SubC.sub x hx)) (hG.sub fun x hx => hb _ (mA hx))) rfl ?_
          rintro r M1 J1 ⟨rfl, rfl, hh⟩
          exact ⟨_, rfl, rfl, hh⟩
        ·
          have g6 := ha _ (List.mem_of_getElem? (i := 0) rfl) (by kernel_rfl)
          replace g6 : (fun v B _ => B = [] ∧ Sc v (chlN (ws.take 32) wp wm)) (vs 6) (bs 6) R := g6
          dsimp only at g6
          obtain ⟨-, k6⟩ := g6
          exact l_callV (aS rfl a0) (by kernel_rfl) (sbytes_f _ _ k6 _) rfl ⟨_, rfl, rfl, rfl⟩
        ·
          have g6 := ha _ (List.mem_of_getElem? (i := 0) rfl) (by kernel_rfl)
          replace g6 : (fun v B _ => B = [] ∧ Sc v (chlN (ws.take 32) wp wm)) (vs 6) (bs 6) R := g6
          dsimp only at g6
          have g7 := ha _ (List.mem_of_getElem? (i := 1) rfl) (by kernel_rfl)
          replace g7 : (fun v B _ => B = [] ∧ v = .agg (nums .u8 (digs (chlN (ws.take 32) wp wm) 32)).toArray) (vs 7) (bs 7) R := g7
          dsimp only at g7
          obtain ⟨-, k7⟩ := g7
          refine l_call0 (vs := [_, .agg (nums .u8 (digs (chlN (ws.take 32) wp wm) 32)).toArray]) (aS rfl (aS (by rw [← k7]; rfl) a0)) (by kernel_rfl) (ptimes_d _ PA (chlN (ws.take 32) wp wm) hPA0 (chlN_lt _ _ _) _) rfl ?_
          rintro r M1 J1 ⟨rfl, rfl, hh⟩
          exact ⟨_, rfl, rfl, hh⟩
        ·
          have g6 := ha _ (List.mem_of_getElem? (i := 0) rfl) (by kernel_rfl)
          replace g6 : (fun v B _ => B = [] ∧ Sc v (chlN (ws.take 32) wp wm)) (vs 6) (bs 6) R := g6
          dsimp only at g6
          have g7 := ha _ (List.mem_of_getElem? (i := 1) rfl) (by kernel_rfl)
          replace g7 : (fun v B _ => B = [] ∧ v = .agg (nums .u8 (digs (chlN (ws.take 32) wp wm) 32)).toArray) (vs 7) (bs 7) R := g7
          dsimp only at g7
          have g8 := ha _ (List.mem_of_getElem? (i := 2) rfl) (by kernel_rfl)
          replace g8 : (fun v B _ => B = [] ∧ FeP v (pTimes PA (chlN (ws.take 32) wp wm))) (vs 8) (bs 8) R := g8
          dsimp only at g8
          obtain ⟨-, k8⟩ := g8
          refine l_call0 (aS rfl (aS rfl (a0))) (by kernel_rfl) (padd2_f _ _ PR _ hPR0 k8 _) rfl ?_
          rintro r M1 J1 ⟨rfl, rfl, hh⟩
          exact ⟨_, rfl, rfl, hh⟩
        ·
          exact l_alloc (cs := [.int .u64 0, .int .u64 0, .int .u64 0, .int .u64 0, .int .u64 0, .int .u64 0, .int .u64 0, .int .u64 0, .int .u64 0, .int .u64 0, .int .u64 0, .int .u64 0, .int .u64 0, .int .u64 0, .int .u64 0, .int .u64 0, .int .u64 0, .int .u64 0, .int .u64 0, .int .u64 0]) (by kernel_rfl) rfl fun b => ⟨_, rfl, b, rfl, rfl⟩
        intro vs bs Jn0 hφ
        have g6 := ofH hφ
        dsimp only at g6
        replace hφ := ofT hφ
        have g7 := ofH hφ
        dsimp only at g7
        replace hφ := ofT hφ
        have g8 := ofH hφ
        dsimp only at g8
        replace hφ := ofT hφ
        have g9 := ofH hφ
        dsimp only at g9
        replace hφ := ofT hφ
        have g10 := ofH hφ
        dsimp only at g10
        clear hφ
        dsimp only [gEnvO, ownOf, List.map, List.flatten, List.cons_append, List.nil_append]
        generalize bs 6 = B57 at *
        generalize bs 7 = B58 at *
        generalize bs 8 = B59 at *
        generalize bs 9 = B60 at *
        generalize bs 10 = B14 at *
        generalize vs 6 = u57 at *
        generalize vs 7 = u58 at *
        generalize vs 8 = u59 at *
        generalize vs 9 = u60 at *
        generalize vs 10 = u14 at *
        obtain ⟨rfl, -⟩ := g6
        obtain ⟨rfl, -⟩ := g7
        obtain ⟨rfl, -⟩ := g8
        obtain ⟨rfl, hU⟩ := g9
        obtain ⟨b14, rfl, rfl⟩ := g10
        have hU0 := hU
        obtain ⟨xspu, rfl, pu0, pu1, pu2, pu3, pu4, pu5, pu6, pu7, pu8, pu9, pu10, pu11, pu12, pu13, pu14, pu15, pu16, pu17, pu18, pu19, rfl, hUX, hUY, hUZ, hUT⟩ := hU
        dsimp only [nums, List.map]
        dsimp only [List.append_eq, List.nil_append, List.cons_append]
        refine XF.tl rfl rfl rfl (l_storeW rfl rfl Cel.cel (by kernel_rfl) (lnS (lnS (lnS (lnS (lnS (lnS (lnS (lnS (lnS (lnS (lnS (lnS (lnS (lnS (lnS (lnS (lnS (lnS (lnS (lnS (ln0))))))))))))))))))))) (allS rfl (allS rfl (allS rfl (allS rfl (allS rfl (allS rfl (allS rfl (allS rfl (allS rfl (allS rfl (allS rfl (allS rfl (allS rfl (allS rfl (allS rfl (allS rfl (allS rfl (allS rfl (allS rfl (allS rfl (all0))))))))))))))))))))) UpC.upd ?_)
        refine XF.fin (kq 13 (kq 14 kn)) ?_
        refine XC.reg ?_
        refine XL.q (qw_ 20) rfl ?_
        refine XL.q (qw_ 20) rfl ?_
        refine XL.callV (aS rfl (aS rfl a0)) (by kernel_rfl) (csame_f _ _ _ _ hL0 hU0 _) rfl ?_
        refine as_ ?_
        refine XL.fin (kq 6 kn) ?_
        refine XC.ret ?_
        exact ⟨_, [], [], res1 rfl rfl, List.nil_sublist _, by simp, by rw [chk_eq h64 hA1 hR1 hne], rfl, rfl⟩

end Go.Proofs.YtphcaiplgpmnnaaGreatDoor
/- The walks of prim's Public, SignKey, Agree, Sign in both modes. -/
namespace Go.Proofs.YtphcaiplgpmnnaaGreatDoor
open Go.Px
theorem Glb.s {A : Mem} (h : Glb A) : GlS A := ⟨h.first, h.round⟩
def pubS2 (s : Ps) (w : List Nat) : Ps := if s.real then s else pubS s w
noncomputable def pubK2 (s : Ps) (w : List Nat) : List Nat := if s.real then base25 (fitN w 32) else pubK s w
noncomputable def skK2 (s : Ps) (w : List Nat) : List Nat := if s.real then pubB (fitN w 32) else pubK s w
def agrS2 (s : Ps) (w u : List Nat) : Ps := if s.real then s else agrS s w u
noncomputable def agrK2 (s : Ps) (w u : List Nat) : List Nat := if s.real then x25 (fitN w 32) (fitN u 32) else agrK s w u
def sgS2 (s : Ps) (w m : List Nat) : Ps := if s.real then s else one1 s w fun x => sigT x m
noncomputable def sgK2 (s : Ps) (w m : List Nat) : List Nat := if s.real then sigB (fitN w 32) m else fitN (oneK s w fun x => sigT x m) 64
theorem sig_lt (s m : List Nat) : ∀ x ∈ sigB s m, x < 256 := by
  intro x hx
  rcases List.mem_append.1 hx with h | h
  · exact pB_lt _ x h
  · exact digs_lt _ _ x h
theorem sign_j (v vm : Value) (ws wm : List Nat) (A : Mem) (hv : By A v ws) (hm : By A vm wm) (hG : GlS A) : FnX Tryz.prog 94 [v, vm] [] A fun r M J => M = [] ∧ By J r (sigB ws wm) :=
  ((sign_f v vm ws wm A hv hm hG).frz0).mono fun r M J ⟨h1, h2⟩ => ⟨h1, sl_by h2 (sigB_len _ _).symm (sig_lt _ _) (by rw [sigB_len]; decide) fun _ h => h⟩

theorem public_r (pb : Nat) (s : Ps) (hr : s.real = true) (v : Value) (w : List Nat) (MP A : Mem) (hP : Prm pb s MP) (hv : By A v w) : FnX Tryz.prog 34 [.pointer (some ⟨pb, 0, none⟩), v] MP A fun q M J => Prm pb s M ∧ By J q (base25 (fitN w 32)) := by
 obtain ⟨sv, bt, bm, B, MT, rfl, hby, hT⟩ := hP.ex
 haveI := hv.cel
 haveI := hby.cel
 have hvl := hv.len
 refine FnX.enterZ (N := 26) Tryz.func34 rfl rfl rfl fun w_ => ?_
 refine XC.keep (kq 0 (kq 1 kn)) ?_
 refine XC.reg ?_
 refine as_ ?_
 refine XL.fin (kq 0 (kq 1 kn)) ?_
 refine XC.seq ?_
 refine XC.reg ?_
 refine mv_ ?_
 refine XL.q (q_ptrEqNil (e := 124) rfl rfl (by kernel_rfl)) rfl ?_
 refine XL.fin (kq 0 (kq 1 (kq 6 kn))) ?_
 refine XC.condF rfl ?_
 refine XC.skip ?_
 refine nx (kq 0 (kq 1 kn)) ?_
 refine XC.seq ?_
 refine XC.reg ?_
 refine mv_ ?_
 refine XL.q (q_nil rfl) rfl ?_
 refine XL.q (qf_ 0 0) rfl ?_
 refine XL.q ql_ rfl ?_
 refine XL.q (q_cmp true rfl rfl (eqT (by rw [hr]; rfl))) rfl ?_
 refine XL.fin (kq 0 (kq 1 (kq 11 kn))) ?_
 refine XC.condT rfl ?_
 refine XC.reg ?_
 refine mv_ ?_
 refine XL.call (aS rfl (aS rfl a0)) (by kernel_rfl) (fit_spec v w 32 _ (hv.mono SubC.sub) (by decide)) rfl ?_
 rintro r13 M13 J13 ⟨rfl, h13⟩
 haveI := h13.cel
 refine XL.call (aS rfl a0) (by kernel_rfl) (base_f _ _ _ (h13.mono SubC.sub)) rfl ?_
 rintro r14 M14 J14 ⟨rfl, h14⟩
 haveI := h14.cel
 refine as_ ?_
 refine XL.fin (kq 4 kn) ?_
 refine XC.ret ?_
 refine tr ?_
 exact ⟨_, (pb, blk [.int .u8 (md s.real), sv, .int .i64 (((s.n : Nat) : Int)), .pointer (some ⟨bt, 0, none⟩)] 124) :: (B ++ MT), [], res1 rfl rfl, (Fit.none (Fit.pick (B := [_]) PickC.perm (Fit.pick PickC.perm (Fit.last PickC.perm)))), ⟨sv, bt, bm, B, MT, rfl, hby, hT⟩, h14.mono SubC.sub⟩

theorem signKey_r (pb : Nat) (s : Ps) (hr : s.real = true) (v : Value) (w : List Nat) (MP A : Mem) (hP : Prm pb s MP) (hv : By A v w) (hG : Glb A) : FnX Tryz.prog 35 [.pointer (some ⟨pb, 0, none⟩), v] MP A fun q M J => Prm pb s M ∧ By J q (pubB (fitN w 32)) := by
 obtain ⟨sv, bt, bm, B, MT, rfl, hby, hT⟩ := hP.ex
 haveI := hv.cel
 haveI := hby.cel
 have hvl := hv.len
 refine FnX.enterZ (N := 18) Tryz.func35 rfl rfl rfl fun w_ => ?_
 refine XC.keep (kq 0 (kq 1 kn)) ?_
 refine XC.reg ?_
 refine as_ ?_
 refine XL.fin (kq 0 (kq 1 kn)) ?_
 refine XC.seq ?_
 refine XC.reg ?_
 refine mv_ ?_
 refine XL.q (q_ptrEqNil (e := 124) rfl rfl (by kernel_rfl)) rfl ?_
 refine XL.fin (kq 0 (kq 1 (kq 6 kn))) ?_
 refine XC.condF rfl ?_
 refine XC.skip ?_
 refine nx (kq 0 (kq 1 kn)) ?_
 refine XC.seq ?_
 refine XC.reg ?_
 refine mv_ ?_
 refine XL.q (q_nil rfl) rfl ?_
 refine XL.q (qf_ 0 0) rfl ?_
 refine XL.q ql_ rfl ?_
 refine XL.q (q_cmp true rfl rfl (eqT (by rw [hr]; rfl))) rfl ?_
 refine XL.fin (kq 0 (kq 1 (kq 11 kn))) ?_
 refine XC.condT rfl ?_
 refine XC.reg ?_
 refine mv_ ?_
 refine XL.call (aS rfl (aS rfl a0)) (by kernel_rfl) (fit_spec v w 32 _ (hv.mono SubC.sub) (by decide)) rfl ?_
 rintro r13 M13 J13 ⟨rfl, h13⟩
 haveI := h13.cel
 refine XL.call (aS rfl a0) (by kernel_rfl) (public_f _ _ _ (h13.mono SubC.sub) hG.s.up) rfl ?_
 rintro r14 M14 J14 ⟨rfl, h14⟩
 haveI := h14.cel
 refine as_ ?_
 refine XL.fin (kq 4 kn) ?_
 refine XC.ret ?_
 refine tr ?_
 exact ⟨_, (pb, blk [.int .u8 (md s.real), sv, .int .i64 (((s.n : Nat) : Int)), .pointer (some ⟨bt, 0, none⟩)] 124) :: (B ++ MT), [], res1 rfl rfl, (Fit.none (Fit.pick (B := [_]) PickC.perm (Fit.pick PickC.perm (Fit.last PickC.perm)))), ⟨sv, bt, bm, B, MT, rfl, hby, hT⟩, h14.mono SubC.sub⟩

theorem psign_r (pb : Nat) (s : Ps) (hr : s.real = true) (v v2 : Value) (w u : List Nat) (MP A : Mem) (hP : Prm pb s MP) (hv : By A v w) (hu : By A v2 u) (hG : Glb A) : FnX Tryz.prog 46 [.pointer (some ⟨pb, 0, none⟩), v, v2] MP A fun q M J => Prm pb s M ∧ By J q (sigB (fitN w 32) u) := by
 obtain ⟨sv, bt, bm, B, MT, rfl, hby, hT⟩ := hP.ex
 haveI := hv.cel
 haveI := hby.cel
 have hvl := hv.len
 haveI := hu.cel
 refine FnX.enterZ (N := 32) Tryz.func46 rfl rfl rfl fun w_ => ?_
 refine XC.keep (kq 0 (kq 1 (kq 2 kn))) ?_
 refine XC.reg ?_
 refine as_ ?_
 refine XL.fin (kq 0 (kq 1 (kq 2 kn))) ?_
 refine XC.seq ?_
 refine XC.reg ?_
 refine mv_ ?_
 refine XL.q (q_ptrEqNil (e := 124) rfl rfl (by kernel_rfl)) rfl ?_
 refine XL.fin (kq 0 (kq 1 (kq 2 (kq 8 kn)))) ?_
 refine XC.condF rfl ?_
 refine XC.skip ?_
 refine nx (kq 0 (kq 1 (kq 2 kn))) ?_
 refine XC.seq ?_
 refine XC.reg ?_
 refine mv_ ?_
 refine XL.q (q_nil rfl) rfl ?_
 refine XL.q (qf_ 0 0) rfl ?_
 refine XL.q ql_ rfl ?_
 refine XL.q (q_cmp true rfl rfl (eqT (by rw [hr]; rfl))) rfl ?_
 refine XL.fin (kq 0 (kq 1 (kq 2 (kq 13 kn)))) ?_
 refine XC.condT rfl ?_
 refine XC.reg ?_
 refine mv_ ?_
 refine XL.call (aS rfl (aS rfl a0)) (by kernel_rfl) (fit_spec v w 32 _ (hv.mono SubC.sub) (by decide)) rfl ?_
 rintro r15 M15 J15 ⟨rfl, h15⟩
 haveI := h15.cel
 refine mv_ ?_
 refine XL.call (aS rfl (aS rfl a0)) (by kernel_rfl) (sign_j _ _ _ _ _ (h15.mono SubC.sub) (hu.mono SubC.sub) hG.s.up) rfl ?_
 rintro r17 M17 J17 ⟨rfl, h17⟩
 haveI := h17.cel
 refine as_ ?_
 refine XL.fin (kq 6 kn) ?_
 refine XC.ret ?_
 refine tr ?_
 exact ⟨_, (pb, blk [.int .u8 (md s.real), sv, .int .i64 (((s.n : Nat) : Int)), .pointer (some ⟨bt, 0, none⟩)] 124) :: (B ++ MT), [], res1 rfl rfl, (Fit.none (Fit.pick (B := [_]) PickC.perm (Fit.pick PickC.perm (Fit.last PickC.perm)))), ⟨sv, bt, bm, B, MT, rfl, hby, hT⟩, h17.mono SubC.sub⟩

theorem signKey_p (pb : Nat) (s : Ps) (hr : s.real = false) (v : Value) (w : List Nat) (MP A : Mem) (hP : Prm pb s MP) (hv : By A v w) (hn : s.ts.length < 1048576) (hG : Glb A) : FnX Tryz.prog 35 [.pointer (some ⟨pb, 0, none⟩), v] MP A fun q M J => Prm pb (pubS s w) M ∧ By J q (pubK s w) := by
 obtain ⟨sv, bt, bm, B, MT, rfl, hby, hT⟩ := hP.ex
 haveI := hv.cel
 haveI := hby.cel
 have hvl := hv.len
 refine FnX.enterZ (N := 18) Tryz.func35 rfl rfl rfl fun w_ => ?_
 refine XC.keep (kq 0 (kq 1 kn)) ?_
 refine XC.reg ?_
 refine as_ ?_
 refine XL.fin (kq 0 (kq 1 kn)) ?_
 refine XC.seq ?_
 refine XC.reg ?_
 refine mv_ ?_
 refine XL.q (q_ptrEqNil (e := 124) rfl rfl (by kernel_rfl)) rfl ?_
 refine XL.fin (kq 0 (kq 1 (kq 6 kn))) ?_
 refine XC.condF rfl ?_
 refine XC.skip ?_
 refine nx (kq 0 (kq 1 kn)) ?_
 refine XC.seq ?_
 refine XC.reg ?_
 refine mv_ ?_
 refine XL.q (q_nil rfl) rfl ?_
 refine XL.q (qf_ 0 0) rfl ?_
 refine XL.q ql_ rfl ?_
 refine XL.q (q_cmp false rfl rfl (eqF (by rw [hr]; decide))) rfl ?_
 refine XL.fin (kq 0 (kq 1 (kq 11 kn))) ?_
 refine XC.condF rfl ?_
 refine XC.skip ?_
 refine nx (kq 0 (kq 1 kn)) ?_
 refine XC.reg ?_
 refine mv_ (mv_ ?_)
 refine XL.lo rfl (l_call (Mc := (pb, blk [.int .u8 (md s.real), sv, .int .i64 (((s.n : Nat) : Int)), .pointer (some ⟨bt, 0, none⟩)] 124) :: (B ++ MT)) (R := _) (aS rfl (aS rfl a0)) (by kernel_rfl) PickC.perm (public_p pb s hr v w _ _ ⟨sv, bt, bm, B, MT, rfl, hby, hT⟩ hn (hv.mono SubC.sub) hG.up) rfl ?_)
 rintro v17 M17 J17 ⟨hP17, h17⟩
 haveI := h17.cel
 refine as_ ?_
 refine XL.fin (kq 4 kn) ?_
 refine XC.ret ?_
 exact ⟨_, M17, [], res1 rfl rfl, Fit.none (Fit.last PickC.perm), hP17, h17.mono SubC.sub⟩

theorem public_b (pb : Nat) (s : Ps) (v : Value) (w : List Nat) (MP A : Mem) (hP : Prm pb s MP) (hn : s.ts.length < 1048576) (hv : By A v w) (hG : Glb A) : FnX Tryz.prog 34 [.pointer (some ⟨pb, 0, none⟩), v] MP A fun q M J => Prm pb (pubS2 s w) M ∧ By J q (pubK2 s w) := by
  cases hr : s.real with
  | true => unfold pubS2 pubK2; rw [hr]; exact public_r pb s hr v w MP A hP hv
  | false => unfold pubS2 pubK2; rw [hr]; exact public_p pb s hr v w MP A hP hn hv hG
theorem signKey_b (pb : Nat) (s : Ps) (v : Value) (w : List Nat) (MP A : Mem) (hP : Prm pb s MP) (hn : s.ts.length < 1048576) (hv : By A v w) (hG : Glb A) : FnX Tryz.prog 35 [.pointer (some ⟨pb, 0, none⟩), v] MP A fun q M J => Prm pb (pubS2 s w) M ∧ By J q (skK2 s w) := by
  cases hr : s.real with
  | true => unfold pubS2 skK2; rw [hr]; exact signKey_r pb s hr v w MP A hP hv hG
  | false => unfold pubS2 skK2; rw [hr]; exact signKey_p pb s hr v w MP A hP hv hn hG
theorem psign_b (pb : Nat) (s : Ps) (v v2 : Value) (w m : List Nat) (MP A : Mem) (hP : Prm pb s MP) (hn : s.ts.length < 1048576) (hv : By A v w) (hm : By A v2 m) (hG : Glb A) : FnX Tryz.prog 46 [.pointer (some ⟨pb, 0, none⟩), v, v2] MP A fun q M J => Prm pb (sgS2 s w m) M ∧ By J q (sgK2 s w m) := by
  cases hr : s.real with
  | true => unfold sgS2 sgK2; rw [hr]; exact psign_r pb s hr v v2 w m MP A hP hv hm hG
  | false =>
    unfold sgS2 sgK2; rw [hr]
    obtain ⟨bt, bm, h⟩ := hP.t
    exact (sign_spec pb bt bm s hr v v2 w m MP A h hn hv hm hG).mono fun q M J ⟨h1, h2⟩ => ⟨h1.p, h2⟩

end Go.Proofs.YtphcaiplgpmnnaaGreatDoor
/- The walks of package wire: Writer. -/
namespace Go.Proofs.YtphcaiplgpmnnaaGreatDoor
open Go.Px
/-- A number's bytes, the highest first. -/
def bes (n k x : Nat) : List Nat := (List.range x).map fun j => n / 2 ^ (8 * (k - 1 - j)) % 256
def beN (n k : Nat) : List Nat := bes n k k
theorem bes_len (n k x : Nat) : (bes n k x).length = x := by simp [bes]
theorem beN_len (n k : Nat) : (beN n k).length = k := bes_len n k k
theorem bes_succ (n k x : Nat) : bes n k (x + 1) = bes n k x ++ [n / 2 ^ (8 * (k - 1 - x)) % 256] := by simp [bes, List.range_succ]
theorem bes_lt (n k x : Nat) : ∀ y ∈ bes n k x, y < 256 := by
  intro y hy
  simp only [bes, List.mem_map] at hy
  obtain ⟨j, _, rfl⟩ := hy
  exact Nat.mod_lt _ (by decide)
theorem beN_lt (n k : Nat) : ∀ y ∈ beN n k, y < 256 := bes_lt n k k
theorem lt_app {a b : List Nat} (ha : ∀ x ∈ a, x < 256) (hb : ∀ x ∈ b, x < 256) : ∀ x ∈ a ++ b, x < 256 := fun x hx => (List.mem_append.1 hx).elim (ha x) (hb x)
/-- The number of some bytes. -/
def bev (ws : List Nat) : Nat := ws.foldl (fun n b => n * 256 + b) 0
/-- A writer, and what it has laid. -/
structure Wtr (wb : Nat) (ws : List Nat) (M : Mem) : Prop where
  ex : ∃ (v : Value) (B : Mem), M = (wb, blk [v] 89) :: B ∧ Sl 1 v ws.length (nums .u8 ws) B
  lt : ∀ x ∈ ws, x < 256
theorem Wtr.new {b : Nat} : Wtr b [] [(b, blk [.slice none 0 0] 89)] := ⟨⟨_, [], rfl, Sl.nil⟩, fun x h => by cases h⟩
theorem wnum_spec (wb n k : Nat) (ws : List Nat) (M A : Mem) (hW : Wtr wb ws M) (hn : n < 18446744073709551616) (hk : k ≤ 8) (hl : ws.length ≤ 1099511627776) : FnX Tryz.prog 54 [.pointer (some ⟨wb, 0, none⟩), .int .u64 ((n : Nat) : Int), .int .i64 ((k : Nat) : Int)] M A fun q M J => q = .pointer (some ⟨wb, 0, none⟩) ∧ Wtr wb (ws ++ beN n k) M := by
 obtain ⟨⟨v, B, rfl, hsl⟩, hlt⟩ := hW
 haveI := hsl.cel
 refine FnX.enterZ (N := 33) Tryz.func54 rfl rfl rfl fun w_ => ?_
 refine XC.keep (kq 0 (kq 1 (kq 2 kn))) ?_
 refine XC.reg ?_
 refine as_ ?_
 refine XL.fin (kq 0 (kq 1 (kq 2 kn))) ?_
 refine XC.seq ?_
 refine XC.reg ?_
 refine mv_ ?_
 refine XL.q (q_num ((k : Int) - 1) rfl rfl (sub64 rfl (by omega) (by omega))) rfl ?_
 refine as_ ?_
 refine XL.fin (kq 0 (kq 1 (kq 7 kn))) ?_
 refine XC.block ?_
 refine XC.loop (α := Nat × Value × Mem) (fun x => [(0, .pointer (some ⟨wb, 0, none⟩)), (1, .int .u64 ((n : Nat) : Int)), (7, .int .i64 ((k : Int) - 1 - (x.1 : Int)))]) (fun x => (wb, blk [x.2.1] 89) :: x.2.2) (fun _ => []) (fun x => x.1 ≤ k ∧ Sl 1 x.2.1 (ws ++ bes n k x.1).length (nums .u8 (ws ++ bes n k x.1)) x.2.2) (fun x => k - x.1) ⟨0, v, B⟩ ⟨Nat.zero_le _, by simpa [bes] using hsl⟩ (kq 0 (kq 1 (kp 7 (by simp; rfl) kn))) .rfl (fun _ h => h) ?_
 clear hsl
 rintro ⟨x, v, B⟩ ⟨hx, hsl⟩
 dsimp only at hx hsl ⊢
 haveI := hsl.cel
 have hbl := bes_len n k x
 have hll : (ws ++ bes n k x).length = ws.length + x := by rw [List.length_append, hbl]
 refine XC.seq ?_
 refine XC.reg ?_
 refine mv_ ?_
 refine XL.q (q_bin rfl rfl rfl) rfl ?_
 refine mv_ ?_
 refine XL.split (t := 12) rfl (fun hb => ?_) (fun hb => ?_)
 ·
  have hltx : x < k := by simp at hb; omega
  obtain ⟨m, hm, hm2⟩ : ∃ m : Nat, ((k : Int) - 1 - (x : Int)) = (m : Int) ∧ m = k - 1 - x := ⟨k - 1 - x, by omega, rfl⟩
  rw [hm]
  refine XL.gy rfl rfl (OpQ.opL qm_ rfl ?_)
  refine XL.gy rfl rfl (OpQ.opL (q_cmp true rfl rfl (ltT (by omega))) rfl ?_)
  refine XL.q (q_pickT rfl rfl) rfl ?_
  refine XL.fin (kq 0 (kq 1 (kq 7 (kq 15 kn)))) ?_
  refine XC.condT rfl ?_
  refine XC.skip ?_
  refine nx (kq 0 (kq 1 (kq 7 kn))) ?_
  refine XC.seq ?_
  refine XC.block ?_
  refine XC.drawF1 [0, 1, 2, 3, 4, 5, 6, 7, 8, 9, 10, 12, 13] [(0, 0), (1, 0), (2, 0), (3, 0), (4, 1), (5, 0), (6, 0), (7, 0), (8, 0), (9, 0), (10, 2), (11, 2), (12, 0), (13, 0), (14, 2)] (by kernel_rfl) (by kernel_rfl) fun hs => ?_
  refine XF.q hs rfl qm_ rfl ?_
  refine XF.q hs rfl qm_ rfl ?_
  refine XF.q hs rfl (q_nil rfl) rfl ?_
  refine XF.q hs rfl (qf_ 0 0) rfl ?_
  refine XF.r hs rfl ql_ rfl ?_
  refine XF.q hs rfl qm_ rfl ?_
  refine XF.q hs rfl qm_ rfl ?_
  refine XF.q hs rfl (q_mulI (a := 8) rfl rfl rfl rfl (by omega)) rfl ?_
  refine XF.q hs rfl (q_shrI (a := n) (b := 8 * m) rfl rfl rfl rfl (by show _ ≤ 64; omega)) rfl ?_
  refine XF.q hs rfl (q_to8 rfl (by kernel_rfl)) rfl ?_
  refine XF.lo rfl rfl fun _ => (l_buildSlice (e := 5) (sz := 1) (z := [.int .u8 0]) (by kernel_rfl) (eS rfl e0) (bdS 0 1 rfl (by rfl) bd0) rfl fun b28 => ?_)
  refine XF.tl rfl rfl rfl (l_append2 (e := 5) (sz := 1) (by_ := 1) rfl rfl (by kernel_rfl) rfl (by first | assumption | exact Sl.nil) (Rd.whole (n := 1) At.mem (by rfl)) (by first | (simp [Value.oneCell']; done) | (intro c hc; simp only [List.mem_singleton] at hc; subst hc; first | exact Rd.one (by assumption) | exact Sl.one (by assumption))) PickC.perm (by unfold maxLen; omega) (by omega) rfl fun v29 B29 hs29 => ?_)
  refine XF.q hs rfl (q_nil rfl) rfl ?_
  refine XF.q hs rfl (qf_ 0 0) rfl ?_
  refine XF.tl rfl rfl rfl (l_store rfl rfl hs29.one (by kernel_rfl) SetC.set UpC.upd ?_)
  refine XF.nil ?_
  refine nb ?_
  refine nx (kq 0 (kq 1 (kq 7 kn))) ?_
  refine XC.reg1 ?_
  refine mv_ ?_
  refine XL.q (q_num ((m : Int) - 1) rfl rfl (sub64 rfl (by omega) (by omega))) rfl ?_
  refine as_ ?_
  refine XL.nil ?_
  exact rn ⟨x + 1, v29, B29⟩ ⟨by dsimp only; omega, by dsimp only; rw [bes_succ, ← List.append_assoc, ← hm2]; exact sl_eq hs29 (by simp only [List.length_append, List.length_singleton]) (by simp [nums])⟩ (by dsimp only; omega) (kq 0 (kq 1 (kp 7 (by dsimp only; rw [show ((k : Int) - 1 - ((x + 1 : Nat) : Int)) = (m : Int) - 1 by omega]; rfl) kn))) (Fit.pick (B := [_]) PickC.perm (Fit.last PickC.perm)) (fun _ h => by first | exact h | cases h)
 ·
  have hge : x = k := by simp at hb; omega
  subst hge
  refine XL.gn rfl rfl rfl rfl ?_
  refine XL.gn rfl rfl rfl rfl ?_
  refine XL.q (q_pickF rfl rfl) rfl ?_
  refine XL.fin (kq 0 (kq 1 (kq 7 (kq 15 kn)))) ?_
  refine XC.condF rfl ?_
  refine XC.exit ?_
  refine te ?_
  refine re ?_
  refine be rfl ?_
  refine nx (kq 0 kn) ?_
  refine XC.reg ?_
  refine mv_ (as_ ?_)
  refine XL.fin (kq 6 kn) ?_
  refine XC.ret ?_
  exact ⟨_, (wb, blk [v] 89) :: B, [], res1 rfl rfl, Fit.none (Fit.last PickC.perm), rfl, ⟨⟨v, B, rfl, hsl⟩, lt_app hlt (beN_lt n x)⟩⟩

theorem wbytes_spec (wb : Nat) (p : Value) (w ws : List Nat) (M A : Mem) (hW : Wtr wb ws M) (hp : By A p w) (hl : ws.length ≤ 1099511620000) : FnX Tryz.prog 53 [.pointer (some ⟨wb, 0, none⟩), p] M A fun q M J => q = .pointer (some ⟨wb, 0, none⟩) ∧ Wtr wb (ws ++ beN w.length 4 ++ w) M := by
 haveI := hp.cel
 have hpl := hp.len
 refine FnX.enterZ (N := 20) Tryz.func53 rfl rfl rfl fun w_ => ?_
 refine XC.keep (kq 0 (kq 1 kn)) ?_
 refine XC.reg ?_
 refine as_ ?_
 refine XL.fin (kq 0 (kq 1 kn)) ?_
 refine XC.reg ?_
 refine mv_ (mv_ ?_)
 refine XL.q (q_lenV2 (sz := 1) rfl (by kernel_rfl) hp.rd) rfl ?_
 refine XL.q (q_to64 rfl (by kernel_rfl)) rfl ?_
 rw [Nat.mod_eq_of_lt (show w.length < 18446744073709551616 by omega)]
 refine XL.lo rfl (l_call (Mc := _) (R := _) (aS rfl (aS rfl (aS rfl (a0)))) (by kernel_rfl) PickC.perm (wnum_spec wb w.length 4 ws _ _ hW (by omega) (by decide) (by omega)) rfl ?_)
 rintro v9 M9 J9 ⟨rfl, hW9⟩
 obtain ⟨⟨v, B, rfl, hsl⟩, hlt⟩ := hW9
 haveI := hsl.cel
 have hbl := beN_len w.length 4
 have hll : (ws ++ beN w.length 4).length = ws.length + 4 := by rw [List.length_append, hbl]
 refine XL.fin (kq 0 (kq 1 kn)) ?_
 refine XC.reg ?_
 refine mv_ (mv_ ?_)
 refine XL.q (q_nil rfl) rfl ?_
 refine XL.q (qf_ 0 0) rfl ?_
 refine XL.q ql_ rfl ?_
 refine mv_ ?_
 refine XL.lo rfl (l_append2 (e := 5) (sz := 1) (by_ := 1) rfl rfl (by kernel_rfl) rfl hsl (hp.rd.mono SubC.sub) nums_one PickC.perm (by unfold maxLen; omega) (by omega) rfl fun v16 B16 hs16 => ?_)
 refine XL.q (q_nil rfl) rfl ?_
 refine XL.q (qf_ 0 0) rfl ?_
 refine XL.lo rfl (l_store rfl rfl hs16.one (by kernel_rfl) SetC.set UpC.upd ?_)
 refine XL.fin (kq 0 kn) ?_
 refine XC.reg ?_
 refine mv_ (as_ ?_)
 refine XL.fin (kq 4 kn) ?_
 refine XC.ret ?_
 exact ⟨_, (wb, blk [v16] 89) :: B16, [], res1 rfl rfl, Fit.none (Fit.pick (B := [_]) PickC.perm (Fit.last PickC.perm)), rfl, ⟨⟨v16, B16, rfl, sl_eq hs16 (by simp only [List.length_append]) (by simp [nums])⟩, lt_app hlt hp.lt⟩⟩

theorem wdone_spec (wb : Nat) (ws : List Nat) (M A : Mem) (hW : Wtr wb ws M) (hl : ws.length ≤ 16777216) : FnX Tryz.prog 55 [.pointer (some ⟨wb, 0, none⟩)] M A fun q M J => Wtr wb ws M ∧ By J q ws := by
 obtain ⟨⟨v, B, rfl, hsl⟩, hlt⟩ := hW
 haveI := hsl.cel
 refine FnX.enterZ (N := 8) Tryz.func55 rfl rfl rfl fun w_ => ?_
 refine XC.keep (kq 0 kn) ?_
 refine XC.reg ?_
 refine as_ ?_
 refine XL.fin (kq 0 kn) ?_
 refine XC.reg ?_
 refine mv_ ?_
 refine XL.q (q_nil rfl) rfl ?_
 refine XL.q (qf_ 0 0) rfl ?_
 refine XL.q ql_ rfl ?_
 refine XL.lo rfl (l_append2 (e := 5) (sz := 1) (by_ := 1) rfl rfl (by kernel_rfl) rfl Sl.nil (hsl.rd SubC.sub) nums_one PickC.perm (by unfold maxLen; omega) (by omega) rfl fun v7 B7 hs7 => ?_)
 refine as_ ?_
 refine XL.fin (kq 2 kn) ?_
 refine XC.ret ?_
 exact ⟨_, (wb, blk [v] 89) :: B, B7, res1 rfl rfl, Fit.pick PickC.perm (Fit.last PickC.perm), ⟨⟨v, B, rfl, hsl⟩, hlt⟩, ⟨by simpa using hs7.rd (R := B7) SubC.sub, hlt, hl⟩⟩

end Go.Proofs.YtphcaiplgpmnnaaGreatDoor
/- The walk of keys.Message; the plain keys. -/
namespace Go.Proofs.YtphcaiplgpmnnaaGreatDoor
open Go.Px
/-- What is signed of a prekey. -/
def msgN (n : Nat) (w : List Nat) : List Nat := beN 6 4 ++ [112, 114, 101, 107, 101, 121] ++ beN n 4 ++ (beN w.length 4 ++ w)
theorem msgN_len (n : Nat) (w : List Nat) : (msgN n w).length = w.length + 18 := by simp [msgN, beN_len]; omega
theorem wrapK64 {n : Nat} (h : n < 4294967296) : IntKind.u64.wrap (n : Int) = (n : Int) := wrap_u64 (by omega) (by omega)
theorem lit_byk {R : Mem} {b n : Nat} {w : List Nat} {e : TypeId} {fr : Nat × Nat} (hm : (b, Obj.cells (nums .u8 w).toArray e fr) ∈ R) (hn : w.length = n) (hlt : ∀ x ∈ w, x < 256) (hl : w.length ≤ 16777216) : By R (.slice (some ⟨b, 0, none⟩) n n) w := by
  subst hn
  exact ⟨Rd.whole (n := w.length) hm (by simp), hlt, hl⟩

theorem message_f (n : Nat) (v : Value) (w : List Nat) (A : Mem) (hn : n < 4294967296) (hv : By A v w) (hl : w.length ≤ 1000000) : FnX Tryz.prog 13 [.int .u32 ((n : Nat) : Int), v] [] A fun q M J => M = [] ∧ By J q (msgN n w) := by
 haveI := hv.cel
 refine FnX.enterZ (N := 18) Tryz.func13 rfl rfl rfl fun w_ => ?_
 refine XC.keep (kq 0 (kq 1 kn)) ?_
 refine XC.reg ?_
 refine as_ ?_
 refine XL.fin (kq 0 (kq 1 kn)) ?_
 refine XC.reg ?_
 refine XL.q (q_build (place := fun x => #[(0, 1)][x]?) (z := [.slice none 0 0]) (fun _ => by kernel_rfl) e0 bd0) rfl ?_
 refine XL.lo rfl (bx_ fun b7 => ?_)
 refine as_ ?_
 refine XL.fin (kq 0 (kq 1 (kq 5 kn))) ?_
 refine XC.reg ?_
 refine mv_ ?_
 refine XL.lo rfl (l_buildSlice (e := 5) (sz := 1) (z := [.int .u8 0, .int .u8 0, .int .u8 0, .int .u8 0, .int .u8 0, .int .u8 0]) (by kernel_rfl) (eS rfl (eS rfl (eS rfl (eS rfl (eS rfl (eS rfl e0)))))) (bdS 0 1 rfl (by rfl) (bdS 1 1 rfl (by rfl) (bdS 2 1 rfl (by rfl) (bdS 3 1 rfl (by rfl) (bdS 4 1 rfl (by rfl) (bdS 5 1 rfl (by rfl) bd0)))))) rfl fun b9 => ?_)
 refine XL.lo rfl (l_mark rfl (by kernel_rfl) UpC.upd rfl ?_)
 refine XL.lo rfl (l_call (Mc := [(b7, blk [.slice none 0 0] 89)]) (R := _) (aS rfl (aS rfl (a0))) (by kernel_rfl) PickC.perm (wbytes_spec b7 _ [112, 114, 101, 107, 101, 121] [] _ _ Wtr.new (lit_byk At.mem (by rfl) (by decide) (by decide)) (by decide)) rfl ?_)
 rintro v11 M11 J11 ⟨rfl, hW11⟩
 refine mv_ ?_
 refine XL.q (q_convN (k' := .u64) n rfl (by kernel_rfl) (wrapK64 (by omega))) rfl ?_
 refine XL.lo rfl (l_call (Mc := M11) (R := _) (aS rfl (aS rfl (aS rfl (a0)))) (by kernel_rfl) PickC.perm (wnum_spec b7 n 4 _ _ _ hW11 (by omega) (by decide) (by simp [beN_len])) rfl ?_)
 rintro v14 M14 J14 ⟨rfl, hW14⟩
 refine mv_ ?_
 refine XL.lo rfl (l_call (Mc := M14) (R := _) (aS rfl (aS rfl (a0))) (by kernel_rfl) PickC.perm (wbytes_spec b7 v w _ _ _ hW14 (hv.mono SubC.sub) (by simp [beN_len])) rfl ?_)
 rintro v16 M16 J16 ⟨rfl, hW16⟩
 refine XL.lo rfl (l_call (Mc := M16) (R := _) (aS rfl (a0)) (by kernel_rfl) PickC.perm (wdone_spec b7 _ _ _ hW16 (by simp [beN_len]; omega)) rfl ?_)
 rintro v17 M17 J17 ⟨hW17, hb17⟩
 haveI := hb17.cel
 refine as_ ?_
 refine XL.fin (kq 4 kn) ?_
 refine XC.ret ?_
 exact ⟨_, [], [], res1 rfl rfl, Fit.sub (List.nil_sublist _), rfl, by simpa [msgN, List.append_assoc] using hb17.mono SubC.sub⟩

end Go.Proofs.YtphcaiplgpmnnaaGreatDoor
/- Rows of prekeys and of names; the walks of slices' functions over them, of the closures of keys, of find. -/
namespace Go.Proofs.YtphcaiplgpmnnaaGreatDoor
open Go.Px
/-- What only computes does so where more is known. -/
theorem fnv_up {P : Program} {f : FuncId} {args : List Value} {A A' : Mem} {v : Value} (h : FnV P f args A v) (hs : ∀ x, x ∈ A → x ∈ A') : FnV P f args A' v := by
  intro w hw
  refine Calls.mono (h w ⟨hw.os, hw.tape, hw.output, hw.size, hw.frame, fun b o hb => hw.mem b o (by simpa using hs _ (by simpa using hb)), hw.nodup, hw.own, hw.sepJ, fun b o hb => hw.sepA b o (hs _ hb), hw.old⟩) ?_
  rintro e w' ⟨r, M', J', rfl, ⟨rfl, rfl, rfl⟩, h2⟩
  refine ⟨_, [], [], rfl, ⟨rfl, rfl, rfl⟩, ⟨h2.os, h2.tape, h2.output, h2.size, h2.frame, fun b o hb => ?_, h2.nodup, h2.own, h2.sepJ, fun b o hb => hw.sepA b o hb, h2.old⟩⟩
  have hb' : (b, o) ∈ A' := by simpa using hb
  have h3 := h2.frame b (hw.sepA b o hb').2 (by simp)
  rw [h3]
  exact hw.mem b o (by simpa using hb')
structure Pr where
  n : Nat
  sec : List Nat
  sig : List Nat
structure Nm where
  n : Nat
  id : List Nat
def prR (R : Mem) (x : Pr) (r : List Value) : Prop := ∃ vs vg, r = [.int .u32 ((x.n : Nat) : Int), vs, vg] ∧ By R vs x.sec ∧ By R vg x.sig ∧ x.n < 4294967296
theorem prT : RowT 3 prR := ⟨fun R R' x r hR ⟨vo, vk, h1, h2, h3, h4⟩ => ⟨vo, vk, h1, h2.mono hR, h3.mono hR, h4⟩, fun R x r ⟨vo, vk, h1, _⟩ => by rw [h1]; rfl, fun R x r ⟨vo, vk, h1, h2, h3, _⟩ c hc => by
  rw [h1] at hc
  simp only [List.mem_cons, List.not_mem_nil, or_false] at hc
  rcases hc with rfl | rfl | rfl
  · rfl
  · exact h2.one
  · exact h3.one⟩
def nmR (R : Mem) (x : Nm) (r : List Value) : Prop := ∃ vi, r = [.int .u32 ((x.n : Nat) : Int), vi] ∧ By R vi x.id ∧ x.n < 4294967296
theorem nmT : RowT 2 nmR := ⟨fun R R' x r hR ⟨vi, h1, h2, h4⟩ => ⟨vi, h1, h2.mono hR, h4⟩, fun R x r ⟨vi, h1, _⟩ => by rw [h1]; rfl, fun R x r ⟨vi, h1, h2, _⟩ c hc => by
  rw [h1] at hc
  simp only [List.mem_cons, List.not_mem_nil, or_false] at hc
  rcases hc with rfl | rfl
  · rfl
  · exact h2.one⟩
theorem eq32 (a b : Nat) : arith .eql .u32 ((a : Nat) : Int) ((b : Nat) : Int) = some (.bool (decide (a = b))) := by
  by_cases h : a = b
  · rw [decide_eq_true h]; exact eqT (by omega)
  · rw [decide_eq_false h]; exact eqF (by omega)

theorem index_Pair (v : Value) (rows : List (List Value)) (f : FuncId) (cs : List Value) (p : Nat → Bool) (A : Mem) (hv : Rd A 3 v rows.length rows.flatten) (hl : ∀ r ∈ rows, r.length = 3) (hn : rows.length ≤ 1099511627776) (hc_ : callable Tryz.prog f = true) (hf : ∀ (j : Nat) (r : List Value), rows[j]? = some r → FnV Tryz.prog f (.agg r.toArray :: cs) A (.bool (p j))) : FnV Tryz.prog 102 [v, .func (.func f) #[] cs.toArray] A (.int .i64 (fidx p rows.length)) := by
 haveI := hv.cel
 refine FnX.enter (N := 19) Tryz.func102 rfl rfl rfl fun w => ?_
 refine XC.keep (kq 0 (kq 1 kn)) ?_
 refine XC.reg ?_
 refine as_ ?_
 refine XL.fin (kq 0 (kq 1 kn)) ?_
 refine XC.seq ?_
 refine XC.reg ?_
 refine mv_ ?_
 refine XL.q (q_lenV2 (sz := 3) rfl (by kernel_rfl) hv) rfl ?_
 refine mv_ ?_
 refine XL.fin (kq 0 (kq 1 (kq 7 (kq 8 kn)))) ?_
 refine XC.block ?_
 refine XC.loop (α := Nat) (fun i => [(0, v), (1, .func (.func f) #[] cs.toArray), (7, .int .i64 ((rows.length : Nat) : Int)), (8, .int .i64 (i : Int))]) (fun _ => []) (fun _ => []) (fun i => i ≤ rows.length ∧ ∀ j, j < i → p j = false) (fun i => rows.length - i) 0 ⟨Nat.zero_le _, fun j h => absurd h (Nat.not_lt_zero j)⟩ (kq 0 (kq 1 (kq 7 (kq 8 kn)))) .rfl (fun _ h => h) ?_
 rintro i ⟨hi, hp⟩
 refine XC.reg ?_
 refine XL.q (q_bin rfl rfl rfl) rfl ?_
 refine XL.fin (kq 0 (kq 1 (kq 7 (kq 8 (kq 9 kn))))) ?_
 refine XC.seq ?_
 refine XC.cond rfl (fun hc => ?_) (fun hc => ?_)
 ·
  have hlt : i < rows.length := by simp at hc; omega
  obtain ⟨r, hr⟩ : ∃ r, rows[i]? = some r := ⟨_, List.getElem?_eq_getElem hlt⟩
  refine XC.skip ?_
  refine nx (kq 0 (kq 1 (kq 7 (kq 8 kn)))) ?_
  refine XC.seq ?_
  refine XC.block ?_
  refine XC.reg ?_
  refine mv_ (as_ ?_)
  refine XL.fin (kq 0 (kq 1 (kq 5 (kq 7 (kq 8 kn))))) ?_
  refine XC.reg ?_
  refine mv_ (mv_ (mv_ ?_))
  refine XL.q (q_atV2 (sz := 3) rfl rfl (by kernel_rfl) rfl hv hlt) rfl ?_
  refine XL.q (q_ldVR rfl (by kernel_rfl) (hv.mono SubC.sub) hl (by decide) hr) rfl ?_
  refine XL.lo rfl (l_callFV rfl (aS rfl a0) hc_ (hf i r hr) rfl ?_)
  refine XL.fin (kq 0 (kq 1 (kq 5 (kq 7 (kq 8 (kq 16 kn)))))) ?_
  refine XC.cond rfl (fun hc => ?_) (fun hc => ?_)
  ·
   refine XC.reg ?_
   refine mv_ (as_ ?_)
   refine XL.fin (kq 4 kn) ?_
   refine XC.ret ?_
   refine br ?_
   refine tr ?_
   refine rr ?_
   refine br ?_
   refine tr ?_
   exact ⟨_, [], [], res1 rfl rfl, List.nil_sublist _, by simp, by rw [fidx_some hlt hp hc], rfl, rfl⟩
  ·
   refine XC.skip ?_
   refine nb ?_
   refine nx (kq 0 (kq 1 (kq 7 (kq 8 kn)))) ?_
   refine XC.reg1 ?_
   refine XL.q (q_addI (b := 1) rfl rfl rfl rfl (by omega)) rfl ?_
   refine mv_ ?_
   refine XL.nil ?_
   exact rn (i + 1) ⟨hlt, fun j hj => by rcases Nat.lt_succ_iff_lt_or_eq.1 hj with h | h; exact hp j h; rw [h]; exact hc⟩ (by omega) (kq 0 (kq 1 (kq 7 (kq 8 kn)))) .rfl (fun _ h => h)
 ·
  have hge : i = rows.length := by simp at hc; omega
  subst hge
  refine XC.exit ?_
  refine te ?_
  refine re ?_
  refine be rfl ?_
  refine nx kn ?_
  refine XC.reg ?_
  refine as_ ?_
  refine XL.fin (kq 4 kn) ?_
  refine XC.ret ?_
  exact ⟨_, [], [], res1 rfl rfl, List.nil_sublist _, by simp, by rw [fidx_none hp], rfl, rfl⟩

theorem index_Name (v : Value) (rows : List (List Value)) (f : FuncId) (cs : List Value) (p : Nat → Bool) (A : Mem) (hv : Rd A 2 v rows.length rows.flatten) (hl : ∀ r ∈ rows, r.length = 2) (hn : rows.length ≤ 1099511627776) (hc_ : callable Tryz.prog f = true) (hf : ∀ (j : Nat) (r : List Value), rows[j]? = some r → FnV Tryz.prog f (.agg r.toArray :: cs) A (.bool (p j))) : FnV Tryz.prog 101 [v, .func (.func f) #[] cs.toArray] A (.int .i64 (fidx p rows.length)) := by
 haveI := hv.cel
 refine FnX.enter (N := 19) Tryz.func101 rfl rfl rfl fun w => ?_
 refine XC.keep (kq 0 (kq 1 kn)) ?_
 refine XC.reg ?_
 refine as_ ?_
 refine XL.fin (kq 0 (kq 1 kn)) ?_
 refine XC.seq ?_
 refine XC.reg ?_
 refine mv_ ?_
 refine XL.q (q_lenV2 (sz := 2) rfl (by kernel_rfl) hv) rfl ?_
 refine mv_ ?_
 refine XL.fin (kq 0 (kq 1 (kq 7 (kq 8 kn)))) ?_
 refine XC.block ?_
 refine XC.loop (α := Nat) (fun i => [(0, v), (1, .func (.func f) #[] cs.toArray), (7, .int .i64 ((rows.length : Nat) : Int)), (8, .int .i64 (i : Int))]) (fun _ => []) (fun _ => []) (fun i => i ≤ rows.length ∧ ∀ j, j < i → p j = false) (fun i => rows.length - i) 0 ⟨Nat.zero_le _, fun j h => absurd h (Nat.not_lt_zero j)⟩ (kq 0 (kq 1 (kq 7 (kq 8 kn)))) .rfl (fun _ h => h) ?_
 rintro i ⟨hi, hp⟩
 refine XC.reg ?_
 refine XL.q (q_bin rfl rfl rfl) rfl ?_
 refine XL.fin (kq 0 (kq 1 (kq 7 (kq 8 (kq 9 kn))))) ?_
 refine XC.seq ?_
 refine XC.cond rfl (fun hc => ?_) (fun hc => ?_)
 ·
  have hlt : i < rows.length := by simp at hc; omega
  obtain ⟨r, hr⟩ : ∃ r, rows[i]? = some r := ⟨_, List.getElem?_eq_getElem hlt⟩
  refine XC.skip ?_
  refine nx (kq 0 (kq 1 (kq 7 (kq 8 kn)))) ?_
  refine XC.seq ?_
  refine XC.block ?_
  refine XC.reg ?_
  refine mv_ (as_ ?_)
  refine XL.fin (kq 0 (kq 1 (kq 5 (kq 7 (kq 8 kn))))) ?_
  refine XC.reg ?_
  refine mv_ (mv_ (mv_ ?_))
  refine XL.q (q_atV2 (sz := 2) rfl rfl (by kernel_rfl) rfl hv hlt) rfl ?_
  refine XL.q (q_ldVR rfl (by kernel_rfl) (hv.mono SubC.sub) hl (by decide) hr) rfl ?_
  refine XL.lo rfl (l_callFV rfl (aS rfl a0) hc_ (hf i r hr) rfl ?_)
  refine XL.fin (kq 0 (kq 1 (kq 5 (kq 7 (kq 8 (kq 16 kn)))))) ?_
  refine XC.cond rfl (fun hc => ?_) (fun hc => ?_)
  ·
   refine XC.reg ?_
   refine mv_ (as_ ?_)
   refine XL.fin (kq 4 kn) ?_
   refine XC.ret ?_
   refine br ?_
   refine tr ?_
   refine rr ?_
   refine br ?_
   refine tr ?_
   exact ⟨_, [], [], res1 rfl rfl, List.nil_sublist _, by simp, by rw [fidx_some hlt hp hc], rfl, rfl⟩
  ·
   refine XC.skip ?_
   refine nb ?_
   refine nx (kq 0 (kq 1 (kq 7 (kq 8 kn)))) ?_
   refine XC.reg1 ?_
   refine XL.q (q_addI (b := 1) rfl rfl rfl rfl (by omega)) rfl ?_
   refine mv_ ?_
   refine XL.nil ?_
   exact rn (i + 1) ⟨hlt, fun j hj => by rcases Nat.lt_succ_iff_lt_or_eq.1 hj with h | h; exact hp j h; rw [h]; exact hc⟩ (by omega) (kq 0 (kq 1 (kq 7 (kq 8 kn)))) .rfl (fun _ h => h)
 ·
  have hge : i = rows.length := by simp at hc; omega
  subst hge
  refine XC.exit ?_
  refine te ?_
  refine re ?_
  refine be rfl ?_
  refine nx kn ?_
  refine XC.reg ?_
  refine as_ ?_
  refine XL.fin (kq 4 kn) ?_
  refine XC.ret ?_
  exact ⟨_, [], [], res1 rfl rfl, List.nil_sublist _, by simp, by rw [fidx_none hp], rfl, rfl⟩

theorem bclone_spec (v : Value) (w : List Nat) (A : Mem) (h : By A v w) : FnX Tryz.prog 67 [v] [] A fun r M J => M = [] ∧ By J r w := by
 haveI := h.cel
 have hwl := h.len
 refine FnX.enterZ (N := 8) Tryz.func67 rfl rfl rfl fun w_ => ?_
 refine XC.keep (kq 0 kn) ?_
 refine XC.reg ?_
 refine as_ ?_
 refine XL.fin (kq 0 kn) ?_
 refine XC.seq ?_
 refine XC.reg ?_
 refine mv_ ?_
 refine XL.q (q_slEqNil (e := 5) rfl (by kernel_rfl) (by first | assumption | exact Sl.rd (by assumption) (fun _ h => h) | exact By.rd (by assumption))) rfl ?_
 refine XL.fin (kq 0 (kq 4 kn)) ?_
 refine XC.cond rfl (fun hc => ?_) (fun hc => ?_)
 ·
  have h0 := h.rd.isNil hc
  obtain rfl : w = [] := List.eq_nil_of_length_eq_zero h0
  refine XC.reg ?_
  refine as_ ?_
  refine XL.fin (kq 2 kn) ?_
  refine XC.ret ?_
  refine tr ?_
  exact ⟨_, [], [], res1 rfl rfl, Fit.sub (List.nil_sublist _), rfl, By.nil⟩
 ·
  refine XC.skip ?_
  refine nx (kq 0 kn) ?_
  refine XC.reg ?_
  refine XL.lo rfl (l_buildSlice (e := 5) (sz := 1) (z := []) (by kernel_rfl) e0 bd0 rfl fun b5 => ?_)
  refine mv_ ?_
  refine XL.lo rfl (l_append2 (e := 5) (sz := 1) (by_ := 1) rfl rfl (by kernel_rfl) rfl (Sl.fresh (n := 0) (cs := []) (e := 5) rfl (by decide)) (h.rd.mono SubC.sub) nums_one PickC.perm (by unfold maxLen; omega) (by omega) rfl fun v7 B7 hs7 => ?_)
  refine as_ ?_
  refine XL.fin (kq 2 kn) ?_
  refine XC.ret ?_
  exact ⟨_, [], B7, res1 rfl rfl, Fit.pick PickC.perm (Fit.sub (List.nil_sublist _)), rfl, ⟨rd_eq (hs7.rd fun x hx => by simp [hx]) (by omega) (by simp), h.lt, h.len⟩⟩

theorem cmp_ge0k {k : IntKind} (c : Int) : arith .geq k c 0 = some (.bool (decide (0 ≤ c))) := by
  by_cases h : 0 ≤ c
  · rw [decide_eq_true h]; exact geT h
  · rw [decide_eq_false h]; exact geF (by omega)

theorem contains_Pair (v : Value) (rows : List (List Value)) (f : FuncId) (cs : List Value) (p : Nat → Bool) (A : Mem) (hv : Rd A 3 v rows.length rows.flatten) (hl : ∀ r ∈ rows, r.length = 3) (hn : rows.length ≤ 1099511627776) (hc_ : callable Tryz.prog f = true) (hf : ∀ (j : Nat) (r : List Value), rows[j]? = some r → FnV Tryz.prog f (.agg r.toArray :: cs) A (.bool (p j))) : FnV Tryz.prog 59 [v, .func (.func f) #[] cs.toArray] A (.bool (decide (0 ≤ fidx p rows.length))) := by
 haveI := hv.cel
 refine FnX.enter (N := 9) Tryz.func59 rfl rfl rfl fun w => ?_
 refine XC.keep (kq 0 (kq 1 kn)) ?_
 refine XC.reg ?_
 refine as_ ?_
 refine XL.fin (kq 0 (kq 1 kn)) ?_
 refine XC.reg ?_
 refine mv_ (mv_ ?_)
 refine XL.callV (aS rfl (aS rfl a0)) (by kernel_rfl) (index_Pair v rows f cs p _ (hv.mono SubC.sub) hl hn hc_ (fun j r hr => fnv_up (hf j r hr) SubC.sub)) rfl ?_
 refine XL.q (q_cmp (decide (0 ≤ fidx p rows.length)) rfl rfl (cmp_ge0k _)) rfl ?_
 refine as_ ?_
 refine XL.fin (kq 4 kn) ?_
 refine XC.ret ?_
 exact ⟨_, [], [], res1 rfl rfl, List.nil_sublist _, by simp, rfl, rfl, rfl⟩

theorem findc_spec (vs vg : Value) (x : Pr) (n b : Nat) (A : Mem) (hs : By A vs x.sec) (hg : By A vg x.sig) (hb : (b, blk [.int .u32 ((n : Nat) : Int)] 22) ∈ A) : FnV Tryz.prog 103 [.agg #[.int .u32 ((x.n : Nat) : Int), vs, vg], .pointer (some ⟨b, 0, none⟩)] A (.bool (decide (x.n = n))) := by
 haveI := hs.cel
 haveI := hg.cel
 refine FnX.enter (N := 8) Tryz.func103 rfl rfl rfl fun w => ?_
 refine XC.keep (kq 0 (kq 1 kn)) ?_
 refine XC.reg ?_
 refine XL.lo rfl (bx_ fun b2 => ?_)
 refine as_ ?_
 refine XL.fin (kq 1 (kq 2 kn)) ?_
 refine XC.reg ?_
 refine XL.q (qf_ 0 0) rfl ?_
 refine XL.q ql_ rfl ?_
 refine XL.q (q_load rfl (by kernel_rfl) (mA hb) (by rfl)) rfl ?_
 refine XL.q (q_cmp (decide (x.n = n)) rfl rfl (eq32 _ _)) rfl ?_
 refine as_ ?_
 refine XL.fin (kq 3 kn) ?_
 refine XC.ret ?_
 exact ⟨_, [], [], res1 rfl rfl, List.nil_sublist _, by simp, rfl, rfl, rfl⟩

theorem usec_spec (vs vg : Value) (x : Pr) (n b : Nat) (A : Mem) (hs : By A vs x.sec) (hg : By A vg x.sig) (hb : (b, blk [.int .u32 ((n : Nat) : Int)] 22) ∈ A) : FnV Tryz.prog 62 [.agg #[.int .u32 ((x.n : Nat) : Int), vs, vg], .pointer (some ⟨b, 0, none⟩)] A (.bool (decide (x.n = n))) := by
 haveI := hs.cel
 haveI := hg.cel
 refine FnX.enter (N := 8) Tryz.func62 rfl rfl rfl fun w => ?_
 refine XC.keep (kq 0 (kq 1 kn)) ?_
 refine XC.reg ?_
 refine XL.lo rfl (bx_ fun b2 => ?_)
 refine as_ ?_
 refine XL.fin (kq 1 (kq 2 kn)) ?_
 refine XC.reg ?_
 refine XL.q (qf_ 0 0) rfl ?_
 refine XL.q ql_ rfl ?_
 refine XL.q (q_load rfl (by kernel_rfl) (mA hb) (by rfl)) rfl ?_
 refine XL.q (q_cmp (decide (x.n = n)) rfl rfl (eq32 _ _)) rfl ?_
 refine as_ ?_
 refine XL.fin (kq 3 kn) ?_
 refine XC.ret ?_
 exact ⟨_, [], [], res1 rfl rfl, List.nil_sublist _, by simp, rfl, rfl, rfl⟩

theorem turnc1_spec (vs vg vi : Value) (x : Pr) (n b : Nat) (A : Mem) (hs : By A vs x.sec) (hg : By A vg x.sig) (hvi : Cel vi [vi]) (hb : (b, blk [.int .u32 ((n : Nat) : Int), vi] 101) ∈ A) : FnV Tryz.prog 60 [.agg #[.int .u32 ((x.n : Nat) : Int), vs, vg], .pointer (some ⟨b, 0, none⟩)] A (.bool (decide (x.n = n))) := by
 haveI := hs.cel
 haveI := hg.cel
 refine FnX.enter (N := 9) Tryz.func60 rfl rfl rfl fun w => ?_
 refine XC.keep (kq 0 (kq 1 kn)) ?_
 refine XC.reg ?_
 refine XL.lo rfl (bx_ fun b2 => ?_)
 refine as_ ?_
 refine XL.fin (kq 1 (kq 2 kn)) ?_
 refine XC.reg ?_
 refine XL.q (qf_ 0 0) rfl ?_
 refine XL.q ql_ rfl ?_
 refine XL.q (qf_ 0 0) rfl ?_
 refine XL.q (q_load rfl (by kernel_rfl) (mA hb) (by rfl)) rfl ?_
 refine XL.q (q_cmp (decide (x.n = n)) rfl rfl (eq32 _ _)) rfl ?_
 refine as_ ?_
 refine XL.fin (kq 3 kn) ?_
 refine XC.ret ?_
 exact ⟨_, [], [], res1 rfl rfl, List.nil_sublist _, by simp, rfl, rfl, rfl⟩

end Go.Proofs.YtphcaiplgpmnnaaGreatDoor
/- Keys, as they lie; the walks of find, and of the readers. -/
namespace Go.Proofs.YtphcaiplgpmnnaaGreatDoor
open Go.Px
structure Ks where
  user : Int
  dev : Int
  agree : List Nat
  sign : List Nat
  signed : List Pr
  once : List Pr
  next : Nat
  met : List Nm
def tstP (n : Nat) (x : Pr) : Bool := decide (x.n = n)
def tstN (n : Nat) (w : List Nat) (x : Nm) : Bool := decide (x.n = n) && decide (x.id = w)
def getP (l : List Pr) (n : Nat) : Option (List Nat) := if fidxL (tstP n) l < 0 then none else (l[(fidxL (tstP n) l).toNat]?).map (·.sec)
theorem getP_no {l : List Pr} {n : Nat} (h : fidxL (tstP n) l = -1) : getP l n = none := if_pos (by rw [h]; decide)
theorem getP_yes {l : List Pr} {n i : Nat} {x : Pr} (h : fidxL (tstP n) l = (i : Int)) (hx : l[i]? = some x) : getP l n = some x.sec := by
  unfold getP; rw [h, if_neg (by omega), Int.toNat_natCast, hx]; rfl
def kyC (k : Ks) (va vg vs vo vm : Value) : List Value := [.int .i64 k.user, .int .i64 k.dev, va, vg, vs, vo, .int .u32 ((k.next : Nat) : Int), vm]
/-- Keys that are read. -/
structure KyR (R : Mem) (kb : Nat) (k : Ks) (va vg vs vo vm : Value) (rs ro rm : List (List Value)) : Prop where
  blk_ : (kb, blk [.int .i64 k.user, .int .i64 k.dev, va, vg, vs, vo, .int .u32 ((k.next : Nat) : Int), vm] 96) ∈ R
  agree : By R va k.agree
  sign : By R vg k.sign
  signed : Rd R 3 vs k.signed.length rs.flatten
  signedR : RwL prR R rs k.signed
  once : Rd R 3 vo k.once.length ro.flatten
  onceR : RwL prR R ro k.once
  met : Rd R 2 vm k.met.length rm.flatten
  metR : RwL nmR R rm k.met
  next : k.next < 4294967296
  l1 : k.signed.length ≤ 1000000
  l2 : k.once.length ≤ 1000000
  l3 : k.met.length ≤ 1000000
theorem KyR.mono {R R' : Mem} {kb : Nat} {k : Ks} {va vg vs vo vm : Value} {rs ro rm : List (List Value)} (h : KyR R kb k va vg vs vo vm rs ro rm) (hR : ∀ x, x ∈ R → x ∈ R') : KyR R' kb k va vg vs vo vm rs ro rm :=
  ⟨hR _ h.blk_, h.agree.mono hR, h.sign.mono hR, h.signed.mono hR, h.signedR.mono prT hR, h.once.mono hR, h.onceR.mono prT hR, h.met.mono hR, h.metR.mono nmT hR, h.next, h.l1, h.l2, h.l3⟩
theorem find_cloP {l : List Pr} {rows : List (List Value)} {n b : Nat} {A : Mem} (hR : RwL prR A rows l) (hb : (b, blk [.int .u32 ((n : Nat) : Int)] 22) ∈ A) :
    ∀ (j : Nat) (r : List Value), rows[j]? = some r → FnV Tryz.prog 103 (.agg r.toArray :: [.pointer (some ⟨b, 0, none⟩)]) A (.bool ((fun j => (l[j]?.map (tstP n)).getD false) j)) := fun j r hr => by
  obtain ⟨x, hx, vs, vg, rfl, hs, hg, _⟩ := hR.of hr
  dsimp only
  rw [hx]
  exact findc_spec vs vg x n b _ hs hg hb
theorem find_f (v : Value) (rows : List (List Value)) (l : List Pr) (n : Nat) (A : Mem) (hv : Rd A 3 v l.length rows.flatten) (hR : RwL prR A rows l) (hl : l.length ≤ 1000000) : FnX Tryz.prog 63 [v, .int .u32 ((n : Nat) : Int)] [] A fun r M J => M = [] ∧ ∃ q, r = .tuple #[q, .bool (getP l n).isSome] ∧ By J q ((getP l n).getD []) := by
 haveI := hv.cel
 refine FnX.enterZ (N := 18) Tryz.func63 rfl rfl rfl fun w_ => ?_
 refine XC.keep (kq 0 (kq 1 kn)) ?_
 refine XC.reg ?_
 refine XL.lo rfl (bx_ fun b3 => ?_)
 refine as_ (as_ ?_)
 refine XL.fin (kq 0 (kq 3 kn)) ?_
 refine XC.reg ?_
 refine mv_ ?_
 refine XL.q (q_mkFunc (aS rfl a0)) rfl ?_
 refine XL.callV (aS rfl (aS rfl a0)) (by kernel_rfl) (index_Pair v rows 103 [.pointer (some ⟨b3, 0, none⟩)] (fun j => (l[j]?.map (tstP n)).getD false) _ (by rw [hR.len]; exact hv.mono SubC.sub) (hR.lens prT) (by rw [hR.len]; omega) (by kernel_rfl) (find_cloP (hR.mono prT SubC.sub) At.mem)) rfl ?_
 rw [hR.len, show fidx (fun j => (l[j]?.map (tstP n)).getD false) l.length = fidxL (tstP n) l from rfl]
 refine as_ ?_
 refine XL.fin (kq 0 (kq 6 kn)) ?_
 refine XC.seq ?_
 refine XC.reg ?_
 refine mv_ ?_
 refine XL.q (q_bin rfl rfl rfl) rfl ?_
 refine XL.fin (kq 0 (kq 6 (kq 11 kn))) ?_
 refine XC.cond rfl (fun hc => ?_) (fun hc => ?_)
 ·
  have hf : fidxL (tstP n) l = -1 := by
   obtain ⟨hf, hz⟩ | ⟨i, x, hf, hxi, hq, hmin⟩ := fidxL_cases (tstP n) l
   · exact hf
   · rw [hf] at hc; (simp at hc) <;> omega
  refine XC.reg ?_
  refine as_ (as_ ?_)
  refine XL.fin (kq 4 (kq 5 kn)) ?_
  refine XC.ret ?_
  refine tr ?_
  exact ⟨_, [], [], res2 rfl rfl rfl, Fit.sub (List.nil_sublist _), rfl, _, by rw [getP_no hf]; rfl, by rw [getP_no hf]; exact By.nil⟩
 ·
  obtain ⟨hf, hz⟩ | ⟨i, x, hf, hxi, hq, hmin⟩ := fidxL_cases (tstP n) l
  · rw [hf] at hc; simp at hc
  have hil := (List.getElem?_eq_some_iff.1 hxi).1
  rw [hf]
  obtain ⟨r, hr, vs, vg, rfl, hs, hg, hxn⟩ := hR.get i x hxi
  haveI := hs.cel
  refine XC.skip ?_
  refine nx (kq 0 (kq 6 kn)) ?_
  refine XC.reg ?_
  refine mv_ (mv_ ?_)
  refine XL.q (q_atV2 (sz := 3) rfl rfl (by kernel_rfl) rfl hv hil) rfl ?_
  refine XL.q (q_fldV (off := 1) rfl hv hil (by kernel_rfl)) rfl ?_
  refine XL.q (q_ldVF (u := vs) rfl (hv.mono SubC.sub) (by omega) (by kernel_rfl) (by rw [flat_get (hR.lens prT) hr 1 (by decide)]; rfl)) rfl ?_
  refine XL.call (aS rfl a0) (by kernel_rfl) (bclone_spec vs x.sec _ (hs.mono SubC.sub)) rfl ?_
  rintro v17 M17 J17 ⟨rfl, h17⟩
  haveI := h17.cel
  refine as_ (as_ ?_)
  refine XL.fin (kq 4 (kq 5 kn)) ?_
  refine XC.ret ?_
  exact ⟨_, [], [], res2 rfl rfl rfl, Fit.sub (List.nil_sublist _), rfl, _, by rw [getP_yes hf hxi]; rfl, by rw [getP_yes hf hxi]; exact h17.mono SubC.sub⟩

theorem signed_f (kb : Nat) (k : Ks) (va vg vs vo vm : Value) (rs ro rm : List (List Value)) (n : Nat) (A : Mem) (hK : KyR A kb k va vg vs vo vm rs ro rm) : FnX Tryz.prog 21 [.pointer (some ⟨kb, 0, none⟩), .int .u32 ((n : Nat) : Int)] [] A fun r M J => M = [] ∧ ∃ q, r = .tuple #[q, .bool (getP k.signed n).isSome] ∧ By J q ((getP k.signed n).getD []) := by
 have hkb := hK.blk_
 haveI := hK.agree.cel
 haveI := hK.sign.cel
 haveI := hK.signed.cel
 haveI := hK.once.cel
 haveI := hK.met.cel
 refine FnX.enterZ (N := 16) Tryz.func21 rfl rfl rfl fun w_ => ?_
 refine XC.keep (kq 0 (kq 1 kn)) ?_
 refine XC.reg ?_
 refine as_ (as_ ?_)
 refine XL.fin (kq 0 (kq 1 kn)) ?_
 refine XC.seq ?_
 refine XC.reg ?_
 refine mv_ ?_
 refine XL.q (q_ptrEqNil (e := 96) rfl rfl (by kernel_rfl)) rfl ?_
 refine XL.fin (kq 0 (kq 1 (kq 7 kn))) ?_
 refine XC.condF rfl ?_
 refine XC.skip ?_
 refine nx (kq 0 (kq 1 kn)) ?_
 refine XC.reg ?_
 refine mv_ ?_
 refine XL.q (q_nil rfl) rfl ?_
 refine XL.q (qf_ 4 4) rfl ?_
 refine XL.q (q_load rfl (by kernel_rfl) (mA hkb) (by rfl)) rfl ?_
 refine mv_ ?_
 refine XL.call (aS rfl (aS rfl a0)) (by kernel_rfl) (find_f vs rs k.signed n _ (hK.signed.mono SubC.sub) (hK.signedR.mono prT SubC.sub) hK.l1) rfl ?_
 rintro r13 M13 J13 ⟨rfl, q, rfl, hq⟩
 haveI := hq.cel
 refine XL.q (q_x0 rfl) rfl ?_
 refine XL.q (q_x1 rfl) rfl ?_
 refine as_ (as_ ?_)
 refine XL.fin (kq 4 (kq 5 kn)) ?_
 refine XC.ret ?_
 exact ⟨_, [], [], res2 rfl rfl rfl, Fit.sub (List.nil_sublist _), rfl, _, rfl, hq.mono SubC.sub⟩

theorem klen_f (kb : Nat) (k : Ks) (va vg vs vo vm : Value) (rs ro rm : List (List Value)) (A : Mem) (hK : KyR A kb k va vg vs vo vm rs ro rm) : FnV Tryz.prog 32 [.pointer (some ⟨kb, 0, none⟩)] A (.int .i64 ((k.once.length : Nat) : Int)) := by
 have hkb := hK.blk_
 haveI := hK.agree.cel
 haveI := hK.sign.cel
 haveI := hK.signed.cel
 haveI := hK.once.cel
 haveI := hK.met.cel
 refine FnX.enter (N := 10) Tryz.func32 rfl rfl rfl fun w => ?_
 refine XC.keep (kq 0 kn) ?_
 refine XC.reg ?_
 refine as_ ?_
 refine XL.fin (kq 0 kn) ?_
 refine XC.seq ?_
 refine XC.reg ?_
 refine mv_ ?_
 refine XL.q (q_ptrEqNil (e := 96) rfl rfl (by kernel_rfl)) rfl ?_
 refine XL.fin (kq 0 (kq 4 kn)) ?_
 refine XC.condF rfl ?_
 refine XC.skip ?_
 refine nx (kq 0 kn) ?_
 refine XC.reg ?_
 refine mv_ ?_
 refine XL.q (q_nil rfl) rfl ?_
 refine XL.q (qf_ 5 5) rfl ?_
 refine XL.q (q_load rfl (by kernel_rfl) (mA hkb) (by rfl)) rfl ?_
 refine XL.q (q_lenV2 (sz := 3) rfl (by kernel_rfl) hK.once) rfl ?_
 refine as_ ?_
 refine XL.fin (kq 2 kn) ?_
 refine XC.ret ?_
 exact ⟨_, [], [], res1 rfl rfl, List.nil_sublist _, by simp, rfl, rfl, rfl⟩

theorem who_f (kb : Nat) (k : Ks) (va vg vs vo vm : Value) (rs ro rm : List (List Value)) (A : Mem) (hK : KyR A kb k va vg vs vo vm rs ro rm) : FnV Tryz.prog 33 [.pointer (some ⟨kb, 0, none⟩)] A (.agg #[.int .i64 k.user, .int .i64 k.dev]) := by
 have hkb := hK.blk_
 haveI := hK.agree.cel
 haveI := hK.sign.cel
 haveI := hK.signed.cel
 haveI := hK.once.cel
 haveI := hK.met.cel
 refine FnX.enter (N := 10) Tryz.func33 rfl rfl rfl fun w => ?_
 refine XC.keep (kq 0 kn) ?_
 refine XC.reg ?_
 refine XL.lo rfl (l_alloc (cs := [.int .i64 0, .int .i64 0]) (by kernel_rfl) rfl fun b2 => ?_)
 refine XL.fin (kq 0 (kq 2 kn)) ?_
 refine XC.seq ?_
 refine XC.reg ?_
 refine mv_ ?_
 refine XL.q (q_ptrEqNil (e := 96) rfl rfl (by kernel_rfl)) rfl ?_
 refine XL.fin (kq 0 (kq 2 (kq 4 kn))) ?_
 refine XC.condF rfl ?_
 refine XC.skip ?_
 refine nx (kq 0 (kq 2 kn)) ?_
 refine XC.reg ?_
 refine mv_ ?_
 refine XL.q (q_nil rfl) rfl ?_
 refine XL.q (qf_ 0 0) rfl ?_
 refine XL.q (q_loadT (n := 2) rfl (by kernel_rfl) (mA hkb) TakeC.take) rfl ?_
 refine XL.lo rfl (l_storeW rfl rfl Cel.cel (by kernel_rfl) (lnS (lnS (ln0))) (allS rfl (allS rfl (all0))) UpC.upd ?_)
 refine XL.fin (kq 2 kn) ?_
 refine XC.ret ?_
 exact ⟨_, [], [], resC rfl rfl (by kernel_rfl) At.mem (by rfl), List.nil_sublist _, by simp, rfl, rfl, rfl⟩

theorem kagree_f (kb : Nat) (k : Ks) (va vg vs vo vm : Value) (rs ro rm : List (List Value)) (A : Mem) (hK : KyR A kb k va vg vs vo vm rs ro rm) : FnX Tryz.prog 25 [.pointer (some ⟨kb, 0, none⟩)] [] A fun r M J => M = [] ∧ By J r k.agree := by
 have hkb := hK.blk_
 haveI := hK.agree.cel
 haveI := hK.sign.cel
 haveI := hK.signed.cel
 haveI := hK.once.cel
 haveI := hK.met.cel
 refine FnX.enterZ (N := 10) Tryz.func25 rfl rfl rfl fun w_ => ?_
 refine XC.keep (kq 0 kn) ?_
 refine XC.reg ?_
 refine as_ ?_
 refine XL.fin (kq 0 kn) ?_
 refine XC.seq ?_
 refine XC.reg ?_
 refine mv_ ?_
 refine XL.q (q_ptrEqNil (e := 96) rfl rfl (by kernel_rfl)) rfl ?_
 refine XL.fin (kq 0 (kq 4 kn)) ?_
 refine XC.condF rfl ?_
 refine XC.skip ?_
 refine nx (kq 0 kn) ?_
 refine XC.reg ?_
 refine mv_ ?_
 refine XL.q (q_nil rfl) rfl ?_
 refine XL.q (qf_ 2 2) rfl ?_
 refine XL.q (q_load rfl (by kernel_rfl) (mA hkb) (by rfl)) rfl ?_
 refine XL.call (aS rfl a0) (by kernel_rfl) (bclone_spec va k.agree _ (hK.agree.mono SubC.sub)) rfl ?_
 rintro r9 M9 J9 ⟨rfl, h9⟩
 haveI := h9.cel
 refine as_ ?_
 refine XL.fin (kq 2 kn) ?_
 refine XC.ret ?_
 exact ⟨_, [], [], res1 rfl rfl, Fit.sub (List.nil_sublist _), rfl, h9.mono SubC.sub⟩

theorem ksign_f (kb : Nat) (k : Ks) (va vg vs vo vm : Value) (rs ro rm : List (List Value)) (A : Mem) (hK : KyR A kb k va vg vs vo vm rs ro rm) : FnX Tryz.prog 26 [.pointer (some ⟨kb, 0, none⟩)] [] A fun r M J => M = [] ∧ By J r k.sign := by
 have hkb := hK.blk_
 haveI := hK.agree.cel
 haveI := hK.sign.cel
 haveI := hK.signed.cel
 haveI := hK.once.cel
 haveI := hK.met.cel
 refine FnX.enterZ (N := 10) Tryz.func26 rfl rfl rfl fun w_ => ?_
 refine XC.keep (kq 0 kn) ?_
 refine XC.reg ?_
 refine as_ ?_
 refine XL.fin (kq 0 kn) ?_
 refine XC.seq ?_
 refine XC.reg ?_
 refine mv_ ?_
 refine XL.q (q_ptrEqNil (e := 96) rfl rfl (by kernel_rfl)) rfl ?_
 refine XL.fin (kq 0 (kq 4 kn)) ?_
 refine XC.condF rfl ?_
 refine XC.skip ?_
 refine nx (kq 0 kn) ?_
 refine XC.reg ?_
 refine mv_ ?_
 refine XL.q (q_nil rfl) rfl ?_
 refine XL.q (qf_ 3 3) rfl ?_
 refine XL.q (q_load rfl (by kernel_rfl) (mA hkb) (by rfl)) rfl ?_
 refine XL.call (aS rfl a0) (by kernel_rfl) (bclone_spec vg k.sign _ (hK.sign.mono SubC.sub)) rfl ?_
 rintro r9 M9 J9 ⟨rfl, h9⟩
 haveI := h9.cel
 refine as_ ?_
 refine XL.fin (kq 2 kn) ?_
 refine XC.ret ?_
 exact ⟨_, [], [], res1 rfl rfl, Fit.sub (List.nil_sublist _), rfl, h9.mono SubC.sub⟩

end Go.Proofs.YtphcaiplgpmnnaaGreatDoor
