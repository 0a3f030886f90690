/- The walks of pawllaw10: ChainNil, same. -/
import Derived.Test.YtibemhcnjdgemaaDoorChn7
set_option linter.unusedVariables false
set_option linter.unusedSimpArgs false
namespace Go.Proofs.YtibemhcnjdgemaaDoor
open Go.Px

set_option maxRecDepth 100000 in
theorem putNilC_spec (cs : List Value) (A : Mem) : FnV Tryd.prog 23 [.pointer none, .agg cs.toArray] A (.tuple #[]) := by
  refine FnX.enter (N := 59) Tryd.func23 rfl rfl rfl fun w => ?_
  refine XC.keep (kp 0 rfl (kp 1 rfl kn)) ?_
  refine XC.reg ?_
  refine XL.lo rfl (l_box rfl Cel.cel rfl fun b3 => ?_)
  refine XL.fin (kp 0 rfl (kp 3 rfl kn)) ?_
  refine XC.seq ?_
  refine XC.reg ?_
  refine XL.q (q_move rfl) rfl ?_
  refine XL.q (q_ptrEqNil (e := 38) rfl rfl (by kernel_rfl)) rfl ?_
  refine XL.fin (kp 0 rfl (kp 3 rfl (kp 6 rfl kn))) ?_
  refine XC.condT rfl ?_
  refine XC.ret ?_
  refine tr ?_
  exact ⟨_, [], [], res0 rfl, List.nil_sublist _, by simp, rfl, rfl, rfl⟩

set_option maxRecDepth 100000 in
theorem chainNil_spec (vof : Value) (of : List Nat) (n : Nat) (A : Mem) (hr : Rd A 1 vof of.length (nums .u8 of)) (h256 : ∀ x ∈ of, x < 256) (hn : n < 4294967296) (hG : Glb A) : FnV Tryd.prog 7 [vof, .int .u32 ((n : Nat) : Int)] A (.bool true) := by
  haveI := hr.cel
  refine FnX.enter (N := 73) Tryd.func7 rfl rfl rfl fun w => ?_
  refine XC.keep (kp 0 rfl (kp 1 rfl kn)) ?_
  refine XC.reg ?_
  refine XL.q (q_assign rfl) rfl ?_
  refine XL.fin (kp 0 rfl (kp 1 rfl kn)) ?_
  refine XC.seq ?_
  refine XC.reg ?_
  refine XL.call a0 (by kernel_rfl) (cawake_spec _ hG.up) rfl ?_
  rintro v11 M11 J11 ⟨rfl, rfl⟩
  refine XL.q (q_not rfl) rfl ?_
  refine XL.q (q_move rfl) rfl ?_
  refine XL.gy rfl rfl (OpQ.opL (q_move rfl) rfl ?_)
  refine XL.gy rfl rfl (OpQ.opL (q_lenV2 (sz := 1) rfl (by kernel_rfl) hr) rfl ?_)
  refine XL.gy rfl rfl (OpQ.opL (q_bin rfl rfl rfl) rfl ?_)
  refine XL.q (q_pickF rfl rfl) rfl ?_
  refine XL.fin (kp 0 rfl (kp 1 rfl (kp 17 rfl kn))) ?_
  refine XC.cond rfl (fun hc => ?_) (fun hc => ?_)
  ·
    refine XC.reg ?_
    refine XL.call a0 (by kernel_rfl) (cawake_spec _ hG.up) rfl ?_
    rintro v18 M18 J18 ⟨rfl, rfl⟩
    refine XL.q (q_assign rfl) rfl ?_
    refine XL.fin (kp 4 rfl kn) ?_
    refine XC.ret ?_
    refine tr ?_
    exact ⟨_, [], [], res1 rfl rfl, List.nil_sublist _, by simp, rfl, rfl, rfl⟩
  ·
    have h100 : of.length ≤ 100 := by simp at hc; omega
    have hof : By A vof of := ⟨hr, h256, by omega⟩
    refine XC.skip ?_
    refine nx (kp 0 rfl (kp 1 rfl kn)) ?_
    refine XC.reg ?_
    refine XL.q (q_assign rfl) rfl ?_
    refine XL.fin (kp 0 rfl (kp 1 rfl (kp 5 rfl kn))) ?_
    refine XC.reg ?_
    refine XL.q (q_move rfl) rfl ?_
    refine XL.q (q_move rfl) rfl ?_
    refine XL.q (q_move rfl) rfl ?_
    refine XL.q (q_build (place := fun x => #[(0, 1), (1, 1), (2, 1)][x]?) (z := [.slice none 0 0, .int .u32 0, .slice none 0 0]) (fun _ => by kernel_rfl) (eS rfl (eS rfl e0)) (bdS 0 1 rfl (by rfl) (bdS 1 1 rfl (by rfl) bd0))) rfl ?_
    refine XL.callV (aS rfl (aS rfl a0)) (by kernel_rfl) (putNilC_spec _ _) rfl ?_
    refine XL.fin (kp 0 rfl (kp 1 rfl (kp 5 rfl kn))) ?_
    refine XC.reg ?_
    refine XL.q (q_move rfl) rfl ?_
    refine XL.q (q_move rfl) rfl ?_
    refine XL.q (q_move rfl) rfl ?_
    refine XL.call (aS rfl (aS rfl (aS rfl a0))) (by kernel_rfl) (getNil_spec2 vof of n _ (hof.mono SubC.sub)) rfl ?_
    rintro v28 M28 J28 ⟨rfl, rfl⟩
    refine XL.q (q_move rfl) rfl ?_
    refine XL.q (q_x0 rfl) rfl ?_
    refine XL.q (q_x1 rfl) rfl ?_
    refine XL.q (q_assign rfl) rfl ?_
    refine XL.q (q_assign rfl) rfl ?_
    refine XL.fin (kp 0 rfl (kp 1 rfl (kp 5 rfl (kp 7 rfl kn)))) ?_
    refine XC.reg ?_
    refine XL.q (q_move rfl) rfl ?_
    refine XL.q (q_build (place := fun x => #[(0, 1), (1, 1)][x]?) (z := [.slice none 0 0, .int .u32 0]) (fun _ => by kernel_rfl) (eS rfl (eS rfl e0)) (bdS 0 1 rfl (by rfl) (bdS 1 1 rfl (by rfl) bd0))) rfl ?_
    refine XL.lo rfl (l_alloc (cs := [.slice none 0 0, .int .u32 0]) (by kernel_rfl) rfl fun b8 => ?_)
    refine XL.lo rfl (l_storeW rfl rfl Cel.cel (by kernel_rfl) (by rfl) (by intro c hc; simp only [List.mem_cons, List.not_mem_nil, or_false] at hc; rcases hc with rfl | rfl; exact hof.one; rfl) UpC.upd ?_)
    refine XL.fin (kp 0 rfl (kp 1 rfl (kp 5 rfl (kp 7 rfl (kp 8 rfl kn))))) ?_
    refine XC.reg ?_
    refine XL.q (q_loadW (n := 2) rfl (by kernel_rfl) (by first | exact At.mem | exact mA (by assumption)) (by rfl)) rfl ?_
    refine XL.q (q_move rfl) rfl ?_
    refine XL.q (q_move rfl) rfl ?_
    refine XL.callV (aS rfl (aS rfl (aS rfl (aS rfl (aS rfl a0))))) (by kernel_rfl) (ahead_nil (.pointer none) vof vof of of 3 4 _ (hof.mono SubC.sub) (hof.mono SubC.sub) (by decide) (by decide) (by decide)) rfl ?_
    refine XL.q (q_move rfl) rfl ?_
    refine XL.q (q_x0 rfl) rfl ?_
    refine XL.q (q_x1 rfl) rfl ?_
    refine XL.lo rfl (l_alloc (cs := [.slice none 0 0, .int .u32 0]) (by kernel_rfl) rfl fun b9 => ?_)
    refine XL.lo rfl (l_storeW rfl rfl Cel.cel (by kernel_rfl) (by rfl) (by intro c hc; simp only [List.mem_cons, List.not_mem_nil, or_false] at hc; rcases hc with rfl | rfl; exact hof.one; rfl) UpC.upd ?_)
    refine XL.q (q_assign rfl) rfl ?_
    refine XL.fin (kp 0 rfl (kp 1 rfl (kp 5 rfl (kp 7 rfl (kp 9 rfl (kp 10 rfl kn)))))) ?_
    refine XC.reg ?_
    refine XL.q (q_move rfl) rfl ?_
    refine XL.q (q_not rfl) rfl ?_
    refine XL.q (q_move rfl) rfl ?_
    refine XL.gy rfl rfl (OpQ.opL (q_move rfl) rfl ?_)
    refine XL.gy rfl rfl (OpQ.opL (q_move rfl) rfl ?_)
    refine XL.gy rfl rfl (OpQ.opL (q_move rfl) rfl ?_)
    refine XL.callg rfl rfl (aS rfl (aS rfl (aS rfl a0))) (by kernel_rfl) (dropNil_spec vof of n _ (hof.mono SubC.sub)) rfl ?_
    rintro v46 M46 J46 ⟨rfl, rfl⟩
    refine XL.gy rfl rfl (OpQ.opL (q_not rfl) rfl ?_)
    refine XL.q (q_pickT rfl rfl) rfl ?_
    refine XL.q (q_move rfl) rfl ?_
    refine XL.gy rfl rfl (OpQ.opL (q_move rfl) rfl ?_)
    refine XL.callVg rfl rfl (aS rfl a0) (by kernel_rfl) (slenNil_spec _) rfl ?_
    refine XL.gy rfl rfl (OpQ.opL (q_move rfl) rfl ?_)
    refine XL.callVg rfl rfl (aS rfl a0) (by kernel_rfl) (allNil_spec _) rfl ?_
    refine XL.gy rfl rfl (OpQ.opL (q_lenS (e := 53) rfl (by kernel_rfl)) rfl ?_)
    refine XL.gy rfl rfl (OpQ.opL (q_addI (a := 0) (b := 0) rfl rfl rfl rfl (by decide)) rfl ?_)
    refine XL.gy rfl rfl (OpQ.opL (q_cmp true rfl rfl (eqT rfl)) rfl ?_)
    refine XL.q (q_pickT rfl rfl) rfl ?_
    refine XL.q (q_move rfl) rfl ?_
    refine XL.gy rfl rfl (OpQ.opL (q_move rfl) rfl ?_)
    refine XL.callg rfl rfl (aS rfl a0) (by kernel_rfl) (copyNil_spec _) rfl ?_
    rintro v60 M60 J60 ⟨cb, u, BC, rfl, rfl, hsC⟩
    haveI := hsC.cel
    refine XL.callVg rfl rfl (aS rfl a0) (by kernel_rfl) (slen_spec cb 0 u [] _ At.mem (hsC.rd SubC.sub)) rfl ?_
    refine XL.gy rfl rfl (OpQ.opL (q_cmp true rfl rfl (eqT rfl)) rfl ?_)
    refine XL.q (q_pickT rfl rfl) rfl ?_
    refine XL.q (q_move rfl) rfl ?_
    refine XL.gy rfl rfl (OpQ.opL (q_move rfl) rfl ?_)
    refine XL.gy rfl rfl (OpQ.opL (q_cmp true rfl rfl (eqT rfl)) rfl ?_)
    refine XL.q (q_pickT rfl rfl) rfl ?_
    refine XL.q (q_move rfl) rfl ?_
    refine XL.gy rfl rfl (OpQ.opL (q_fieldAddrN 1 (off := 1) rfl (by kernel_rfl) rfl) rfl ?_)
    refine XL.gy rfl rfl (OpQ.opL (q_load rfl (by kernel_rfl) (by first | exact At.mem | exact mA (by assumption)) (by rfl)) rfl ?_)
    refine XL.gy rfl rfl (OpQ.opL (q_cmp true rfl rfl (eqT rfl)) rfl ?_)
    refine XL.q (q_pickT rfl rfl) rfl ?_
    refine XL.q (q_assign rfl) rfl ?_
    refine XL.fin (kp 4 rfl kn) ?_
    refine XC.ret ?_
    exact ⟨_, [], [], res1 rfl rfl, List.nil_sublist _, by simp, rfl, rfl, rfl⟩

set_option maxRecDepth 100000 in
theorem csame_spec (sb : Nat) (v mv : Value) (rows mrows : List (List Value)) (sks ms : List Skp) (A : Mem) (hsb : (sb, blk [v] 38) ∈ A) (hv : Rd A 3 v sks.length rows.flatten) (hrw : RwL skR A rows sks) (hl : sks.length ≤ 1000000) (hm : Rd A 3 mv ms.length mrows.flatten) (hmr : RwL skR A mrows ms) (hl2 : ms.length ≤ 1000000) : FnV Tryd.prog 24 [.pointer (some ⟨sb, 0, none⟩), mv] A (.bool (decide (sks = ms))) := by
  haveI := hv.cel
  haveI := hm.cel
  refine FnX.enter (N := 68) Tryd.func24 rfl rfl rfl fun w => ?_
  refine XC.keep (kp 0 rfl (kp 1 rfl kn)) ?_
  refine XC.reg ?_
  refine XL.q (q_assign rfl) rfl ?_
  refine XL.fin (kp 0 rfl (kp 1 rfl kn)) ?_
  refine XC.reg ?_
  refine XL.q (q_move rfl) rfl ?_
  refine XL.call (aS rfl a0) (by kernel_rfl) (all_spec sb sks.length v rows.flatten _ (mA hsb) (hv.mono SubC.sub) (hrw.ones skT) (by omega)) rfl ?_
  rintro v8 M8 J8 hs5
  haveI := hs5.cel
  refine XL.q (q_assign rfl) rfl ?_
  refine XL.fin (kp 0 rfl (kp 1 rfl (kp 5 rfl kn))) ?_
  refine XC.seq ?_
  refine XC.reg ?_
  refine XL.q (q_move rfl) rfl ?_
  refine XL.q (q_lenV2 (sz := 3) rfl (by kernel_rfl) (hs5.rd (R := M8) fun _ h => h)) rfl ?_
  refine XL.q (q_move rfl) rfl ?_
  refine XL.q (q_lenV2 (sz := 3) rfl (by kernel_rfl) hm) rfl ?_
  refine XL.q (q_bin rfl rfl rfl) rfl ?_
  refine XL.q (q_move rfl) rfl ?_
  refine XL.split (t := 14) rfl (fun hb => ?_) (fun hb => ?_)
  ·
    have hne : sks.length ≠ ms.length := by intro e; rw [e] at hb; simp at hb
    refine XL.gn rfl rfl rfl rfl ?_
    refine XL.gn rfl rfl rfl rfl ?_
    refine XL.gn rfl rfl rfl rfl ?_
    refine XL.gn rfl rfl rfl rfl ?_
    refine XL.gn rfl rfl rfl rfl ?_
    refine XL.q (q_pickT rfl rfl) rfl ?_
    refine XL.fin (kp 1 rfl (kp 5 rfl (kp 20 rfl kn))) ?_
    refine XC.condT rfl ?_
    refine XC.reg ?_
    refine XL.q (q_assign rfl) rfl ?_
    refine XL.fin (kp 4 rfl kn) ?_
    refine XC.ret ?_
    refine tr ?_
    refine ⟨_, [], [], res1 rfl rfl, List.nil_sublist _, by simp, ?_, rfl, rfl⟩
    rw [decide_eq_false (fun e => ?_)]
    subst e
    exact hne rfl
  ·
    have hle : sks.length = ms.length := by simp at hb; omega
    refine XL.gy rfl rfl (OpQ.opL (q_move rfl) rfl ?_)
    refine XL.callVg rfl rfl (aS rfl a0) (by kernel_rfl) (slen_spec sb sks.length v rows.flatten _ (mA hsb) (hv.mono SubC.sub)) rfl ?_
    refine XL.gy rfl rfl (OpQ.opL (q_move rfl) rfl ?_)
    refine XL.gy rfl rfl (OpQ.opL (q_lenV2 (sz := 3) rfl (by kernel_rfl) hm) rfl ?_)
    refine XL.gy rfl rfl (OpQ.opL (q_cmp false rfl rfl (neF (by omega))) rfl ?_)
    refine XL.q (q_pickF rfl rfl) rfl ?_
    refine XL.fin (kp 1 rfl (kp 5 rfl (kp 20 rfl kn))) ?_
    refine XC.condF rfl ?_
    refine XC.skip ?_
    refine nx (kp 1 rfl (kp 5 rfl kn)) ?_
    refine XC.seq ?_
    refine XC.reg ?_
    refine XL.q (q_assign rfl) rfl ?_
    refine XL.fin (kp 1 rfl (kp 5 rfl (kp 6 rfl kn))) ?_
    refine XC.block ?_
    refine XC.loop (α := Nat) (fun i => [(1, mv), (5, v8), (6, .int .i64 (i : Int))]) (fun _ => M8) (fun _ => J8 ++ []) (fun i => i ≤ sks.length ∧ sks.take i = ms.take i) (fun i => sks.length - i) 0 ⟨Nat.zero_le _, rfl⟩ (kp 1 rfl (kp 5 rfl (kp 6 rfl kn))) (Fit.eq (by simp)) (fun _ h => h) ?_
    rintro i ⟨hi, hti⟩
    refine XC.seq ?_
    refine XC.reg ?_
    refine XL.q (q_move rfl) rfl ?_
    refine XL.q (q_move rfl) rfl ?_
    refine XL.q (q_lenV2 (sz := 3) rfl (by kernel_rfl) (hs5.rd (R := M8) fun _ h => h)) rfl ?_
    refine XL.q (q_bin rfl rfl rfl) rfl ?_
    refine XL.fin (kp 1 rfl (kp 5 rfl (kp 6 rfl (kp 24 rfl kn)))) ?_
    refine XC.cond rfl (fun hc => ?_) (fun hc => ?_)
    ·
      have hlt : i < sks.length := by simp at hc; omega
      have hltm : i < ms.length := by omega
      obtain ⟨x, hx⟩ : ∃ x, sks[i]? = some x := ⟨_, List.getElem?_eq_getElem hlt⟩
      obtain ⟨y, hy⟩ : ∃ y, ms[i]? = some y := ⟨_, List.getElem?_eq_getElem hltm⟩
      obtain ⟨r, hrow, vo, vk, rfl, ho, hk, hxn⟩ := hrw.get i x hx
      obtain ⟨r2, hrow2, vo2, vk2, rfl, ho2, hk2, hyn⟩ := hmr.get i y hy
      haveI := ho.cel
      haveI := hk.cel
      haveI := ho2.cel
      haveI := hk2.cel
      refine XC.skip ?_
      refine nx (kp 1 rfl (kp 5 rfl (kp 6 rfl kn))) ?_
      refine XC.seq ?_
      refine XC.block ?_
      have hd4 : x.of ≠ y.of ∨ x.of = y.of ∧ (x.n ≠ y.n ∨ x.n = y.n ∧ (x.key ≠ y.key ∨ x.key = y.key)) := by
        by_cases h1 : x.of = y.of
        · refine .inr ⟨h1, ?_⟩
          by_cases h2 : x.n = y.n
          · exact .inr ⟨h2, (Classical.em (x.key = y.key)).symm⟩
          · exact .inl h2
        · exact .inl h1
      rcases hd4 with hd | ⟨hd, hn2 | ⟨hn2, hk3 | hk3⟩⟩
      ·
        refine XC.drawF [0, 1, 2, 3, 4, 5, 6, 7, 8, 9, 10, 11, 12, 13, 14, 15, 16, 17, 18, 19, 20, 21, 22, 23, 24, 25, 26, 27, 28, 29, 30, 31, 32, 33, 34, 35, 36, 37, 38, 39, 40] [(0, 0), (1, 0), (2, 0), (3, 0), (4, 1), (5, 1), (6, 0), (7, 0), (8, 0), (9, 0), (10, 1), (11, 1), (12, 0), (13, 0), (14, 0), (15, 0), (16, 0), (17, 0), (18, 1), (19, 0), (20, 0), (21, 0), (22, 0), (23, 1), (24, 0), (25, 0), (26, 0), (27, 0), (28, 0), (29, 0), (30, 0), (31, 1), (32, 1), (33, 0), (34, 0), (35, 0), (36, 0), (37, 1), (38, 1), (39, 0), (40, 0)] (by kernel_rfl) (by kernel_rfl) fun hs => ?_
        refine XF.q hs rfl (q_move rfl) rfl ?_
        refine XF.q hs rfl (q_move rfl) rfl ?_
        refine XF.q hs rfl (q_atV2 (sz := 3) rfl rfl (by kernel_rfl) rfl (hs5.rd (R := M8) fun _ h => h) hlt) rfl ?_
        refine XF.q hs rfl (q_fldV (off := 0) rfl (hs5.rd (R := M8) fun _ h => h) hlt (by kernel_rfl)) rfl ?_
        refine XF.r hs rfl (q_ldVF (u := vo) rfl ((hs5.rd (R := M8) fun _ h => h).mono SubC.sub) (by omega) (by kernel_rfl) (by rw [flat_get (hrw.lens skT) hrow 0 (by decide)]; rfl)) rfl ?_
        refine XF.r hs rfl (q_toStr2 rfl (by kernel_rfl) (ho.rd.mono SubC.sub)) rfl ?_
        refine XF.q hs rfl (q_move rfl) rfl ?_
        refine XF.q hs rfl (q_move rfl) rfl ?_
        refine XF.q hs rfl (q_atV2 (sz := 3) rfl rfl (by kernel_rfl) rfl hm hltm) rfl ?_
        refine XF.q hs rfl (q_fldV (off := 0) rfl hm hltm (by kernel_rfl)) rfl ?_
        refine XF.r hs rfl (q_ldVF (u := vo2) rfl (hm.mono SubC.sub) (by omega) (by kernel_rfl) (by rw [flat_get (hmr.lens skT) hrow2 0 (by decide)]; rfl)) rfl ?_
        refine XF.r hs rfl (q_toStr2 rfl (by kernel_rfl) (ho2.rd.mono SubC.sub)) rfl ?_
        refine XF.q hs rfl ((show (!decide (x.of = y.of)) = true by simp [hd]) ▸ q_sNe rfl rfl rfl rfl ho.lt ho2.lt) rfl ?_
        refine XF.q hs rfl (q_move rfl) rfl ?_
        refine XF.qn hs rfl rfl rfl rfl rfl rfl ?_
        refine XF.qn hs rfl rfl rfl rfl rfl rfl ?_
        refine XF.qn hs rfl rfl rfl rfl rfl rfl ?_
        refine XF.qn hs rfl rfl rfl rfl rfl rfl ?_
        refine XF.rn hs rfl rfl rfl rfl rfl rfl ?_
        refine XF.qn hs rfl rfl rfl rfl rfl rfl ?_
        refine XF.qn hs rfl rfl rfl rfl rfl rfl ?_
        refine XF.qn hs rfl rfl rfl rfl rfl rfl ?_
        refine XF.qn hs rfl rfl rfl rfl rfl rfl ?_
        refine XF.rn hs rfl rfl rfl rfl rfl rfl ?_
        refine XF.qn hs rfl rfl rfl rfl rfl rfl ?_
        refine XF.q hs rfl (q_pickT rfl rfl) rfl ?_
        refine XF.q hs rfl (q_move rfl) rfl ?_
        refine XF.qn hs rfl rfl rfl rfl rfl rfl ?_
        refine XF.qn hs rfl rfl rfl rfl rfl rfl ?_
        refine XF.qn hs rfl rfl rfl rfl rfl rfl ?_
        refine XF.qn hs rfl rfl rfl rfl rfl rfl ?_
        refine XF.rn hs rfl rfl rfl rfl rfl rfl ?_
        refine XF.rn hs rfl rfl rfl rfl rfl rfl ?_
        refine XF.qn hs rfl rfl rfl rfl rfl rfl ?_
        refine XF.qn hs rfl rfl rfl rfl rfl rfl ?_
        refine XF.qn hs rfl rfl rfl rfl rfl rfl ?_
        refine XF.qn hs rfl rfl rfl rfl rfl rfl ?_
        refine XF.rn hs rfl rfl rfl rfl rfl rfl ?_
        refine XF.rn hs rfl rfl rfl rfl rfl rfl ?_
        refine XF.qn hs rfl rfl rfl rfl rfl rfl ?_
        refine XF.q hs rfl (q_pickT rfl rfl) rfl ?_
        refine XF.fin (kp 1 rfl (kp 5 rfl (kp 6 rfl (kp 67 rfl kn)))) ?_
        refine XC.condT rfl ?_
        refine XC.reg ?_
        refine XL.q (q_assign rfl) rfl ?_
        refine XL.fin (kp 4 rfl kn) ?_
        refine XC.ret ?_
        refine br ?_
        refine tr ?_
        refine rr ?_
        refine br ?_
        refine tr ?_
        refine ⟨_, [], [], res1 rfl rfl, List.nil_sublist _, by simp, ?_, rfl, rfl⟩
        rw [decide_eq_false (fun e => ?_)]
        subst e
        rw [hx] at hy; exact hd (by rw [Option.some.inj hy])
      ·
        refine XC.drawF [0, 1, 2, 3, 4, 5, 6, 7, 8, 9, 10, 11, 12, 13, 14, 15, 16, 17, 18, 19, 20, 21, 22, 23, 24, 25, 26, 27, 28, 29, 30, 31, 32, 33, 34, 35, 36, 37, 38, 39, 40] [(0, 0), (1, 0), (2, 0), (3, 0), (4, 1), (5, 1), (6, 0), (7, 0), (8, 0), (9, 0), (10, 1), (11, 1), (12, 0), (13, 0), (14, 0), (15, 0), (16, 0), (17, 0), (18, 1), (19, 0), (20, 0), (21, 0), (22, 0), (23, 1), (24, 0), (25, 0), (26, 0), (27, 0), (28, 0), (29, 0), (30, 0), (31, 1), (32, 1), (33, 0), (34, 0), (35, 0), (36, 0), (37, 1), (38, 1), (39, 0), (40, 0)] (by kernel_rfl) (by kernel_rfl) fun hs => ?_
        refine XF.q hs rfl (q_move rfl) rfl ?_
        refine XF.q hs rfl (q_move rfl) rfl ?_
        refine XF.q hs rfl (q_atV2 (sz := 3) rfl rfl (by kernel_rfl) rfl (hs5.rd (R := M8) fun _ h => h) hlt) rfl ?_
        refine XF.q hs rfl (q_fldV (off := 0) rfl (hs5.rd (R := M8) fun _ h => h) hlt (by kernel_rfl)) rfl ?_
        refine XF.r hs rfl (q_ldVF (u := vo) rfl ((hs5.rd (R := M8) fun _ h => h).mono SubC.sub) (by omega) (by kernel_rfl) (by rw [flat_get (hrw.lens skT) hrow 0 (by decide)]; rfl)) rfl ?_
        refine XF.r hs rfl (q_toStr2 rfl (by kernel_rfl) (ho.rd.mono SubC.sub)) rfl ?_
        refine XF.q hs rfl (q_move rfl) rfl ?_
        refine XF.q hs rfl (q_move rfl) rfl ?_
        refine XF.q hs rfl (q_atV2 (sz := 3) rfl rfl (by kernel_rfl) rfl hm hltm) rfl ?_
        refine XF.q hs rfl (q_fldV (off := 0) rfl hm hltm (by kernel_rfl)) rfl ?_
        refine XF.r hs rfl (q_ldVF (u := vo2) rfl (hm.mono SubC.sub) (by omega) (by kernel_rfl) (by rw [flat_get (hmr.lens skT) hrow2 0 (by decide)]; rfl)) rfl ?_
        refine XF.r hs rfl (q_toStr2 rfl (by kernel_rfl) (ho2.rd.mono SubC.sub)) rfl ?_
        refine XF.q hs rfl ((show (!decide (x.of = y.of)) = false by simp [hd]) ▸ q_sNe rfl rfl rfl rfl ho.lt ho2.lt) rfl ?_
        refine XF.q hs rfl (q_move rfl) rfl ?_
        refine XF.qg hs rfl rfl rfl rfl (q_move rfl) rfl ?_
        refine XF.qg hs rfl rfl rfl rfl (q_move rfl) rfl ?_
        refine XF.qg hs rfl rfl rfl rfl (q_atV2 (sz := 3) rfl rfl (by kernel_rfl) rfl (hs5.rd (R := M8) fun _ h => h) hlt) rfl ?_
        refine XF.qg hs rfl rfl rfl rfl (q_fldV (off := 1) rfl (hs5.rd (R := M8) fun _ h => h) hlt (by kernel_rfl)) rfl ?_
        refine XF.rg hs rfl rfl rfl rfl (q_ldVF (u := .int .u32 ((x.n : Nat) : Int)) rfl ((hs5.rd (R := M8) fun _ h => h).mono SubC.sub) (by omega) (by kernel_rfl) (by rw [flat_get (hrw.lens skT) hrow 1 (by decide)]; rfl)) rfl ?_
        refine XF.qg hs rfl rfl rfl rfl (q_move rfl) rfl ?_
        refine XF.qg hs rfl rfl rfl rfl (q_move rfl) rfl ?_
        refine XF.qg hs rfl rfl rfl rfl (q_atV2 (sz := 3) rfl rfl (by kernel_rfl) rfl hm hltm) rfl ?_
        refine XF.qg hs rfl rfl rfl rfl (q_fldV (off := 1) rfl hm hltm (by kernel_rfl)) rfl ?_
        refine XF.rg hs rfl rfl rfl rfl (q_ldVF (u := .int .u32 ((y.n : Nat) : Int)) rfl (hm.mono SubC.sub) (by omega) (by kernel_rfl) (by rw [flat_get (hmr.lens skT) hrow2 1 (by decide)]; rfl)) rfl ?_
        refine XF.qg hs rfl rfl rfl rfl (q_cmp true rfl rfl (neT (by omega))) rfl ?_
        refine XF.q hs rfl (q_pickF rfl rfl) rfl ?_
        refine XF.q hs rfl (q_move rfl) rfl ?_
        refine XF.qn hs rfl rfl rfl rfl rfl rfl ?_
        refine XF.qn hs rfl rfl rfl rfl rfl rfl ?_
        refine XF.qn hs rfl rfl rfl rfl rfl rfl ?_
        refine XF.qn hs rfl rfl rfl rfl rfl rfl ?_
        refine XF.rn hs rfl rfl rfl rfl rfl rfl ?_
        refine XF.rn hs rfl rfl rfl rfl rfl rfl ?_
        refine XF.qn hs rfl rfl rfl rfl rfl rfl ?_
        refine XF.qn hs rfl rfl rfl rfl rfl rfl ?_
        refine XF.qn hs rfl rfl rfl rfl rfl rfl ?_
        refine XF.qn hs rfl rfl rfl rfl rfl rfl ?_
        refine XF.rn hs rfl rfl rfl rfl rfl rfl ?_
        refine XF.rn hs rfl rfl rfl rfl rfl rfl ?_
        refine XF.qn hs rfl rfl rfl rfl rfl rfl ?_
        refine XF.q hs rfl (q_pickT rfl rfl) rfl ?_
        refine XF.fin (kp 1 rfl (kp 5 rfl (kp 6 rfl (kp 67 rfl kn)))) ?_
        refine XC.condT rfl ?_
        refine XC.reg ?_
        refine XL.q (q_assign rfl) rfl ?_
        refine XL.fin (kp 4 rfl kn) ?_
        refine XC.ret ?_
        refine br ?_
        refine tr ?_
        refine rr ?_
        refine br ?_
        refine tr ?_
        refine ⟨_, [], [], res1 rfl rfl, List.nil_sublist _, by simp, ?_, rfl, rfl⟩
        rw [decide_eq_false (fun e => ?_)]
        subst e
        rw [hx] at hy; exact hn2 (by rw [Option.some.inj hy])
      ·
        refine XC.drawF [0, 1, 2, 3, 4, 5, 6, 7, 8, 9, 10, 11, 12, 13, 14, 15, 16, 17, 18, 19, 20, 21, 22, 23, 24, 25, 26, 27, 28, 29, 30, 31, 32, 33, 34, 35, 36, 37, 38, 39, 40] [(0, 0), (1, 0), (2, 0), (3, 0), (4, 1), (5, 1), (6, 0), (7, 0), (8, 0), (9, 0), (10, 1), (11, 1), (12, 0), (13, 0), (14, 0), (15, 0), (16, 0), (17, 0), (18, 1), (19, 0), (20, 0), (21, 0), (22, 0), (23, 1), (24, 0), (25, 0), (26, 0), (27, 0), (28, 0), (29, 0), (30, 0), (31, 1), (32, 1), (33, 0), (34, 0), (35, 0), (36, 0), (37, 1), (38, 1), (39, 0), (40, 0)] (by kernel_rfl) (by kernel_rfl) fun hs => ?_
        refine XF.q hs rfl (q_move rfl) rfl ?_
        refine XF.q hs rfl (q_move rfl) rfl ?_
        refine XF.q hs rfl (q_atV2 (sz := 3) rfl rfl (by kernel_rfl) rfl (hs5.rd (R := M8) fun _ h => h) hlt) rfl ?_
        refine XF.q hs rfl (q_fldV (off := 0) rfl (hs5.rd (R := M8) fun _ h => h) hlt (by kernel_rfl)) rfl ?_
        refine XF.r hs rfl (q_ldVF (u := vo) rfl ((hs5.rd (R := M8) fun _ h => h).mono SubC.sub) (by omega) (by kernel_rfl) (by rw [flat_get (hrw.lens skT) hrow 0 (by decide)]; rfl)) rfl ?_
        refine XF.r hs rfl (q_toStr2 rfl (by kernel_rfl) (ho.rd.mono SubC.sub)) rfl ?_
        refine XF.q hs rfl (q_move rfl) rfl ?_
        refine XF.q hs rfl (q_move rfl) rfl ?_
        refine XF.q hs rfl (q_atV2 (sz := 3) rfl rfl (by kernel_rfl) rfl hm hltm) rfl ?_
        refine XF.q hs rfl (q_fldV (off := 0) rfl hm hltm (by kernel_rfl)) rfl ?_
        refine XF.r hs rfl (q_ldVF (u := vo2) rfl (hm.mono SubC.sub) (by omega) (by kernel_rfl) (by rw [flat_get (hmr.lens skT) hrow2 0 (by decide)]; rfl)) rfl ?_
        refine XF.r hs rfl (q_toStr2 rfl (by kernel_rfl) (ho2.rd.mono SubC.sub)) rfl ?_
        refine XF.q hs rfl ((show (!decide (x.of = y.of)) = false by simp [hd]) ▸ q_sNe rfl rfl rfl rfl ho.lt ho2.lt) rfl ?_
        refine XF.q hs rfl (q_move rfl) rfl ?_
        refine XF.qg hs rfl rfl rfl rfl (q_move rfl) rfl ?_
        refine XF.qg hs rfl rfl rfl rfl (q_move rfl) rfl ?_
        refine XF.qg hs rfl rfl rfl rfl (q_atV2 (sz := 3) rfl rfl (by kernel_rfl) rfl (hs5.rd (R := M8) fun _ h => h) hlt) rfl ?_
        refine XF.qg hs rfl rfl rfl rfl (q_fldV (off := 1) rfl (hs5.rd (R := M8) fun _ h => h) hlt (by kernel_rfl)) rfl ?_
        refine XF.rg hs rfl rfl rfl rfl (q_ldVF (u := .int .u32 ((x.n : Nat) : Int)) rfl ((hs5.rd (R := M8) fun _ h => h).mono SubC.sub) (by omega) (by kernel_rfl) (by rw [flat_get (hrw.lens skT) hrow 1 (by decide)]; rfl)) rfl ?_
        refine XF.qg hs rfl rfl rfl rfl (q_move rfl) rfl ?_
        refine XF.qg hs rfl rfl rfl rfl (q_move rfl) rfl ?_
        refine XF.qg hs rfl rfl rfl rfl (q_atV2 (sz := 3) rfl rfl (by kernel_rfl) rfl hm hltm) rfl ?_
        refine XF.qg hs rfl rfl rfl rfl (q_fldV (off := 1) rfl hm hltm (by kernel_rfl)) rfl ?_
        refine XF.rg hs rfl rfl rfl rfl (q_ldVF (u := .int .u32 ((y.n : Nat) : Int)) rfl (hm.mono SubC.sub) (by omega) (by kernel_rfl) (by rw [flat_get (hmr.lens skT) hrow2 1 (by decide)]; rfl)) rfl ?_
        refine XF.qg hs rfl rfl rfl rfl (q_cmp false rfl rfl (neF (by omega))) rfl ?_
        refine XF.q hs rfl (q_pickF rfl rfl) rfl ?_
        refine XF.q hs rfl (q_move rfl) rfl ?_
        refine XF.qg hs rfl rfl rfl rfl (q_move rfl) rfl ?_
        refine XF.qg hs rfl rfl rfl rfl (q_move rfl) rfl ?_
        refine XF.qg hs rfl rfl rfl rfl (q_atV2 (sz := 3) rfl rfl (by kernel_rfl) rfl (hs5.rd (R := M8) fun _ h => h) hlt) rfl ?_
        refine XF.qg hs rfl rfl rfl rfl (q_fldV (off := 2) rfl (hs5.rd (R := M8) fun _ h => h) hlt (by kernel_rfl)) rfl ?_
        refine XF.rg hs rfl rfl rfl rfl (q_ldVF (u := vk) rfl ((hs5.rd (R := M8) fun _ h => h).mono SubC.sub) (by omega) (by kernel_rfl) (by rw [flat_get (hrw.lens skT) hrow 2 (by decide)]; rfl)) rfl ?_
        refine XF.rg hs rfl rfl rfl rfl (q_toStr2 rfl (by kernel_rfl) (hk.rd.mono SubC.sub)) rfl ?_
        refine XF.qg hs rfl rfl rfl rfl (q_move rfl) rfl ?_
        refine XF.qg hs rfl rfl rfl rfl (q_move rfl) rfl ?_
        refine XF.qg hs rfl rfl rfl rfl (q_atV2 (sz := 3) rfl rfl (by kernel_rfl) rfl hm hltm) rfl ?_
        refine XF.qg hs rfl rfl rfl rfl (q_fldV (off := 2) rfl hm hltm (by kernel_rfl)) rfl ?_
        refine XF.rg hs rfl rfl rfl rfl (q_ldVF (u := vk2) rfl (hm.mono SubC.sub) (by omega) (by kernel_rfl) (by rw [flat_get (hmr.lens skT) hrow2 2 (by decide)]; rfl)) rfl ?_
        refine XF.rg hs rfl rfl rfl rfl (q_toStr2 rfl (by kernel_rfl) (hk2.rd.mono SubC.sub)) rfl ?_
        refine XF.qg hs rfl rfl rfl rfl ((show (!decide (x.key = y.key)) = true by simp [hk3]) ▸ q_sNe rfl rfl rfl rfl hk.lt hk2.lt) rfl ?_
        refine XF.q hs rfl (q_pickF rfl rfl) rfl ?_
        refine XF.fin (kp 1 rfl (kp 5 rfl (kp 6 rfl (kp 67 rfl kn)))) ?_
        refine XC.condT rfl ?_
        refine XC.reg ?_
        refine XL.q (q_assign rfl) rfl ?_
        refine XL.fin (kp 4 rfl kn) ?_
        refine XC.ret ?_
        refine br ?_
        refine tr ?_
        refine rr ?_
        refine br ?_
        refine tr ?_
        refine ⟨_, [], [], res1 rfl rfl, List.nil_sublist _, by simp, ?_, rfl, rfl⟩
        rw [decide_eq_false (fun e => ?_)]
        subst e
        rw [hx] at hy; exact hk3 (by rw [Option.some.inj hy])
      ·
        refine XC.drawF [0, 1, 2, 3, 4, 5, 6, 7, 8, 9, 10, 11, 12, 13, 14, 15, 16, 17, 18, 19, 20, 21, 22, 23, 24, 25, 26, 27, 28, 29, 30, 31, 32, 33, 34, 35, 36, 37, 38, 39, 40] [(0, 0), (1, 0), (2, 0), (3, 0), (4, 1), (5, 1), (6, 0), (7, 0), (8, 0), (9, 0), (10, 1), (11, 1), (12, 0), (13, 0), (14, 0), (15, 0), (16, 0), (17, 0), (18, 1), (19, 0), (20, 0), (21, 0), (22, 0), (23, 1), (24, 0), (25, 0), (26, 0), (27, 0), (28, 0), (29, 0), (30, 0), (31, 1), (32, 1), (33, 0), (34, 0), (35, 0), (36, 0), (37, 1), (38, 1), (39, 0), (40, 0)] (by kernel_rfl) (by kernel_rfl) fun hs => ?_
        refine XF.q hs rfl (q_move rfl) rfl ?_
        refine XF.q hs rfl (q_move rfl) rfl ?_
        refine XF.q hs rfl (q_atV2 (sz := 3) rfl rfl (by kernel_rfl) rfl (hs5.rd (R := M8) fun _ h => h) hlt) rfl ?_
        refine XF.q hs rfl (q_fldV (off := 0) rfl (hs5.rd (R := M8) fun _ h => h) hlt (by kernel_rfl)) rfl ?_
        refine XF.r hs rfl (q_ldVF (u := vo) rfl ((hs5.rd (R := M8) fun _ h => h).mono SubC.sub) (by omega) (by kernel_rfl) (by rw [flat_get (hrw.lens skT) hrow 0 (by decide)]; rfl)) rfl ?_
        refine XF.r hs rfl (q_toStr2 rfl (by kernel_rfl) (ho.rd.mono SubC.sub)) rfl ?_
        refine XF.q hs rfl (q_move rfl) rfl ?_
        refine XF.q hs rfl (q_move rfl) rfl ?_
        refine XF.q hs rfl (q_atV2 (sz := 3) rfl rfl (by kernel_rfl) rfl hm hltm) rfl ?_
        refine XF.q hs rfl (q_fldV (off := 0) rfl hm hltm (by kernel_rfl)) rfl ?_
        refine XF.r hs rfl (q_ldVF (u := vo2) rfl (hm.mono SubC.sub) (by omega) (by kernel_rfl) (by rw [flat_get (hmr.lens skT) hrow2 0 (by decide)]; rfl)) rfl ?_
        refine XF.r hs rfl (q_toStr2 rfl (by kernel_rfl) (ho2.rd.mono SubC.sub)) rfl ?_
        refine XF.q hs rfl ((show (!decide (x.of = y.of)) = false by simp [hd]) ▸ q_sNe rfl rfl rfl rfl ho.lt ho2.lt) rfl ?_
        refine XF.q hs rfl (q_move rfl) rfl ?_
        refine XF.qg hs rfl rfl rfl rfl (q_move rfl) rfl ?_
        refine XF.qg hs rfl rfl rfl rfl (q_move rfl) rfl ?_
        refine XF.qg hs rfl rfl rfl rfl (q_atV2 (sz := 3) rfl rfl (by kernel_rfl) rfl (hs5.rd (R := M8) fun _ h => h) hlt) rfl ?_
        refine XF.qg hs rfl rfl rfl rfl (q_fldV (off := 1) rfl (hs5.rd (R := M8) fun _ h => h) hlt (by kernel_rfl)) rfl ?_
        refine XF.rg hs rfl rfl rfl rfl (q_ldVF (u := .int .u32 ((x.n : Nat) : Int)) rfl ((hs5.rd (R := M8) fun _ h => h).mono SubC.sub) (by omega) (by kernel_rfl) (by rw [flat_get (hrw.lens skT) hrow 1 (by decide)]; rfl)) rfl ?_
        refine XF.qg hs rfl rfl rfl rfl (q_move rfl) rfl ?_
        refine XF.qg hs rfl rfl rfl rfl (q_move rfl) rfl ?_
        refine XF.qg hs rfl rfl rfl rfl (q_atV2 (sz := 3) rfl rfl (by kernel_rfl) rfl hm hltm) rfl ?_
        refine XF.qg hs rfl rfl rfl rfl (q_fldV (off := 1) rfl hm hltm (by kernel_rfl)) rfl ?_
        refine XF.rg hs rfl rfl rfl rfl (q_ldVF (u := .int .u32 ((y.n : Nat) : Int)) rfl (hm.mono SubC.sub) (by omega) (by kernel_rfl) (by rw [flat_get (hmr.lens skT) hrow2 1 (by decide)]; rfl)) rfl ?_
        refine XF.qg hs rfl rfl rfl rfl (q_cmp false rfl rfl (neF (by omega))) rfl ?_
        refine XF.q hs rfl (q_pickF rfl rfl) rfl ?_
        refine XF.q hs rfl (q_move rfl) rfl ?_
        refine XF.qg hs rfl rfl rfl rfl (q_move rfl) rfl ?_
        refine XF.qg hs rfl rfl rfl rfl (q_move rfl) rfl ?_
        refine XF.qg hs rfl rfl rfl rfl (q_atV2 (sz := 3) rfl rfl (by kernel_rfl) rfl (hs5.rd (R := M8) fun _ h => h) hlt) rfl ?_
        refine XF.qg hs rfl rfl rfl rfl (q_fldV (off := 2) rfl (hs5.rd (R := M8) fun _ h => h) hlt (by kernel_rfl)) rfl ?_
        refine XF.rg hs rfl rfl rfl rfl (q_ldVF (u := vk) rfl ((hs5.rd (R := M8) fun _ h => h).mono SubC.sub) (by omega) (by kernel_rfl) (by rw [flat_get (hrw.lens skT) hrow 2 (by decide)]; rfl)) rfl ?_
        refine XF.rg hs rfl rfl rfl rfl (q_toStr2 rfl (by kernel_rfl) (hk.rd.mono SubC.sub)) rfl ?_
        refine XF.qg hs rfl rfl rfl rfl (q_move rfl) rfl ?_
        refine XF.qg hs rfl rfl rfl rfl (q_move rfl) rfl ?_
        refine XF.qg hs rfl rfl rfl rfl (q_atV2 (sz := 3) rfl rfl (by kernel_rfl) rfl hm hltm) rfl ?_
        refine XF.qg hs rfl rfl rfl rfl (q_fldV (off := 2) rfl hm hltm (by kernel_rfl)) rfl ?_
        refine XF.rg hs rfl rfl rfl rfl (q_ldVF (u := vk2) rfl (hm.mono SubC.sub) (by omega) (by kernel_rfl) (by rw [flat_get (hmr.lens skT) hrow2 2 (by decide)]; rfl)) rfl ?_
        refine XF.rg hs rfl rfl rfl rfl (q_toStr2 rfl (by kernel_rfl) (hk2.rd.mono SubC.sub)) rfl ?_
        refine XF.qg hs rfl rfl rfl rfl ((show (!decide (x.key = y.key)) = false by simp [hk3]) ▸ q_sNe rfl rfl rfl rfl hk.lt hk2.lt) rfl ?_
        refine XF.q hs rfl (q_pickF rfl rfl) rfl ?_
        refine XF.fin (kp 1 rfl (kp 5 rfl (kp 6 rfl (kp 67 rfl kn)))) ?_
        refine XC.condF rfl ?_
        refine XC.skip ?_
        refine nb ?_
        refine nx (kp 1 rfl (kp 5 rfl (kp 6 rfl kn))) ?_
        refine XC.reg1 ?_
        refine XL.q (q_move rfl) rfl ?_
        refine XL.q (q_addI (b := 1) rfl rfl rfl rfl (by omega)) rfl ?_
        refine XL.q (q_assign rfl) rfl ?_
        refine XL.nil ?_
        exact rn (i + 1) ⟨by omega, by rw [List.take_add_one, List.take_add_one, hti, hx, hy]; congr 2; cases x; cases y; simp_all⟩ (by omega) (kp 1 rfl (kp 5 rfl (kp 6 rfl kn))) .rfl (fun _ h => h)
    ·
      have hge : i = sks.length := by simp at hc; omega
      subst hge
      refine XC.exit ?_
      refine te ?_
      refine re ?_
      refine be rfl ?_
      refine nx kn ?_
      refine XC.reg ?_
      refine XL.q (q_assign rfl) rfl ?_
      refine XL.fin (kp 4 rfl kn) ?_
      refine XC.ret ?_
      refine ⟨_, [], [], res1 rfl rfl, List.nil_sublist _, by simp, ?_, rfl, rfl⟩
      rw [List.take_length, hle, List.take_length] at hti
      rw [decide_eq_true hti]
