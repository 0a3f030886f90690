/- The card of the law ClosureKnows: it returns true for every input; each argument reads behind the call as it read before; the listed package variables are tied to the program's text. No further condition. -/
import Derived.Test.YthmnlkpikgglbaaGreatDoorB14
import Derived.Lib.LaidTab
import Derived.Stop.LaidErr
import Derived.MakeChecks
import Derived.Test.YthmnlkpikgglbaaGreatDoorCards
import Derived.Test.YthmnlkpikgglbaaGreatDoorTie
import Derived.Deep.DeepHandedRow
import Derived.Deep.DeepWitnessRowRef
import Derived.Lay
import Derived.LaidMore
set_option linter.unusedVariables false
set_option linter.unusedSimpArgs false
set_option linter.unusedVariables false
set_option linter.unusedSimpArgs false
namespace Go.Proofs.YthmnlkpikgglbaaGreatDoor
open Go.Px
theorem good_plc {ts : List Tm} {w : List Nat} (hw : Good ts w) (hl : ts.length ≤ 1048576) : plc w ts.length = some (rdI ts w) := by
  obtain ⟨i, hi, rfl⟩ := hw
  rw [(good_rd hi hl).2, plc_bts, show u64 ((i : Nat) : Int) = i by unfold u64; omega, if_pos hi]
theorem clo_empty (ts : List Tm) : cloF ts [] = cloF ts (List.replicate ts.length false) := by
  have h := pad_same ts [] (Nat.zero_le _)
  unfold padB at h
  rw [← h]; rfl
theorem keyF_y {ts : List Tm} {h : List Bool} {i : Nat} {t : Tm} (ht : ts[i]? = some t) : keyF ts h i = (kat h i && secK t.kind) := by unfold keyF; rw [ht]
theorem Lst.by_at {R : Mem} {vs : List Value} {ls : List (List Nat)} (h : Lst R vs ls) {j : Nat} {w : List Nat} (hj : ls[j]? = some w) : ∃ v, vs[j]? = some v ∧ By R v w := h.get j w hj

set_option maxRecDepth 100000 in
theorem closureKnows_spec (lv lv2 : Value) (n : Nat) (zs ls : List Nat) (A : Mem) (hz : Rd A 3 lv n (nums .u8 zs)) (hzl : zs.length = n * 3) (hz8 : ∀ x ∈ zs, x < 256) (hnm : n ≤ 9223372036854775807) (hlr : Rd A 1 lv2 ls.length (nums .u8 ls)) (hl8 : ∀ x ∈ ls, x < 256) (hlm : ls.length ≤ 9223372036854775807) (hG : Glb A) : FnV Tryz.prog 3 [lv, lv2] A (.bool true) := by
  have hGG := hG
  obtain ⟨⟨ge0, gf0, h0⟩, ⟨ge1, gf1, h1⟩, ⟨ge4, gf4, h4⟩⟩ := hGG
  haveI := hz.cel
  haveI := hlr.cel
  have zlt : ∀ j, zs.getD j 0 < 256 := fun j => by
    rw [List.getD_eq_getElem?_getD]
    cases hj : zs[j]? with
    | none => decide
    | some x => exact hz8 x (List.mem_of_getElem? hj)
  refine FnX.enter (N := 141) Tryz.func3 rfl rfl rfl fun w => ?_
  refine XC.keep (kp 0 rfl (kp 1 rfl kn)) ?_
  refine XC.reg ?_
  refine XL.q (q_assign rfl) rfl ?_
  refine XL.fin (kp 0 rfl (kp 1 rfl kn)) ?_
  refine XC.seq ?_
  refine XC.reg ?_
  refine XL.callV a0 (by kernel_rfl) (awake22_spec _ hG.up) rfl ?_
  refine XL.q (q_not rfl) rfl ?_
  refine XL.q (q_move rfl) rfl ?_
  refine XL.gy rfl rfl (OpQ.opL (q_move rfl) rfl ?_)
  refine XL.gy rfl rfl (OpQ.opL (q_lenV2 (sz := 3) rfl (by kernel_rfl) hz) rfl ?_)
  refine XL.gy rfl rfl (OpQ.opL (q_bin rfl rfl rfl) rfl ?_)
  refine XL.q (q_pickF rfl rfl) rfl ?_
  refine XL.q (q_move rfl) rfl ?_
  refine XL.split (t := 25) rfl (fun hb => ?_) (fun hb => ?_)
  ·
    refine XL.gn rfl rfl rfl rfl ?_
    refine XL.gn rfl rfl rfl rfl ?_
    refine XL.gn rfl rfl rfl rfl ?_
    refine XL.q (q_pickT rfl rfl) rfl ?_
    refine XL.fin (kp 0 rfl (kp 1 rfl (kp 29 rfl kn))) ?_
    refine XC.condT rfl ?_
    refine XC.reg ?_
    refine XL.callV a0 (by kernel_rfl) (awake22_spec _ hG.up) rfl ?_
    refine XL.q (q_assign rfl) rfl ?_
    refine XL.fin (kp 4 rfl kn) ?_
    refine XC.ret ?_
    refine tr ?_
    exact ⟨_, [], [], res1 rfl rfl, List.nil_sublist _, by simp, rfl, rfl, rfl⟩
  ·
    have hn25 : n ≤ 25 := by simp at hb; omega
    refine XL.gy rfl rfl (OpQ.opL (q_move rfl) rfl ?_)
    refine XL.gy rfl rfl (OpQ.opL (q_lenV2 (sz := 1) rfl (by kernel_rfl) (by first | assumption | exact Sl.rd (by assumption) (fun _ h => h) | exact By.rd (by assumption))) rfl ?_)
    refine XL.gy rfl rfl (OpQ.opL (q_bin rfl rfl rfl) rfl ?_)
    refine XL.q (q_pickF rfl rfl) rfl ?_
    refine XL.fin (kp 0 rfl (kp 1 rfl (kp 29 rfl kn))) ?_
    refine XC.cond rfl (fun hc => ?_) (fun hc => ?_)
    ·
      refine XC.reg ?_
      refine XL.callV a0 (by kernel_rfl) (awake22_spec _ hG.up) rfl ?_
      refine XL.q (q_assign rfl) rfl ?_
      refine XL.fin (kp 4 rfl kn) ?_
      refine XC.ret ?_
      refine tr ?_
      exact ⟨_, [], [], res1 rfl rfl, List.nil_sublist _, by simp, rfl, rfl, rfl⟩
    ·
      have hm10 : ls.length ≤ 10 := by simp at hc; omega
      refine XC.skip ?_
      refine nx (kp 0 rfl (kp 1 rfl kn)) ?_
      refine XC.reg ?_
      refine XL.call a0 (by kernel_rfl) (open22_spec _) rfl ?_
      rintro v31 M31 J31 ⟨pb, rfl, hP31⟩
      refine XL.q (q_assign rfl) rfl ?_
      refine XL.fin (kp 0 rfl (kp 1 rfl (kp 5 rfl kn))) ?_
      refine XC.reg ?_
      refine XL.q (q_move rfl) rfl ?_
      refine XL.q (q_move rfl) rfl ?_
      refine XL.lo rfl (l_call (Mc := M31) (R := _) (aS rfl (aS rfl a0)) (by kernel_rfl) PickC.perm (build_spec pb n lv zs M31 _ hP31 (hz.mono SubC.sub) hzl hz8 (by omega) hG.up) rfl ?_)
      rintro v34 M34 J34 ⟨hP34, hl34⟩
      obtain ⟨vs, hor, hlv⟩ := hl34.ex
      obtain ⟨hk1, hk2, hk3, hk4, hk5⟩ := bok zs n
      obtain ⟨bwf, btk, bgd⟩ := bAt_bw zlt n (by omega)
      obtain ⟨sv, bt, bm, B, MT, rfl, hby, hT⟩ := hP34.ex
      rw [show md (bAt zs n).1.real = 1 by rw [hk1]; rfl] at *
      haveI := hor.cel
      generalize hts : (bAt zs n).1.ts = ts at *
      generalize hou : (bAt zs n).2 = outs at *
      have hmn : ts.length ≤ 1048576 := by omega
      refine XL.q (q_assign rfl) rfl ?_
      refine XL.fin (kp 1 rfl (kp 5 rfl (kp 6 rfl kn))) ?_
      refine XC.reg ?_
      refine XL.q (q_move rfl) rfl ?_
      refine XL.callV (aS rfl a0) (by kernel_rfl) (ptable_spec pb bt _ sv _ At.mem) rfl ?_
      refine XL.q (q_assign rfl) rfl ?_
      refine XL.fin (kp 1 rfl (kp 6 rfl (kp 7 rfl kn))) ?_
      refine XC.reg ?_
      refine XL.q (q_move rfl) rfl ?_
      refine XL.call (aS rfl a0) (by kernel_rfl) (knew_spec bt _) rfl ?_
      rintro v38 M38 J38 ⟨kb, rfl, hK38⟩
      refine XL.q (q_assign rfl) rfl ?_
      refine XL.fin (kp 1 rfl (kp 6 rfl (kp 7 rfl (kp 8 rfl kn)))) ?_
      refine XC.reg ?_
      refine XL.q (q_move rfl) rfl ?_
      refine XL.callV (aS rfl a0) (by kernel_rfl) (lenT_spec bt bm ts MT _ hT SubC.sub) rfl ?_
      refine XL.lo rfl (l_makeB (by_ := 1) (e := 4) ts.length rfl rfl (by kernel_rfl) rfl rfl (by omega) (by omega) rfl fun b41 => ?_)
      refine XL.q (q_assign rfl) rfl ?_
      refine XL.fin (kp 1 rfl (kp 6 rfl (kp 7 rfl (kp 8 rfl (kp 9 rfl kn))))) ?_
      refine XC.seq ?_
      refine XC.reg ?_
      refine XL.q (q_assign rfl) rfl ?_
      refine XL.fin (kp 1 rfl (kp 6 rfl (kp 7 rfl (kp 8 rfl (kp 9 rfl (kp 10 rfl kn)))))) ?_
      refine XC.block ?_
      refine XC.loop (α := Nat × List Bool × List Bool × Mem × Mem × Mem) (fun x => [(1, lv2), (6, v34), (7, .pointer (some ⟨bt, 0, none⟩)), (8, .pointer (some ⟨kb, 0, none⟩)), (9, .slice (some ⟨b41, 0, none⟩) ts.length ts.length), (10, .int .i64 ((x.1 : Nat) : Int))]) (fun x => x.2.2.2.2.2 ++ (x.2.2.2.1 ++ x.2.2.2.2.1)) (fun _ => J34) (fun x => x.1 ≤ ls.length ∧ Knw kb bt x.2.1 x.2.2.2.1 ∧ Tab bt bm ts x.2.2.2.2.1 ∧ x.2.1.length ≤ ts.length ∧ x.2.2.1.length = ts.length ∧ cloF ts x.2.1 = cloF ts x.2.2.1 ∧ Sl 1 (.slice (some ⟨b41, 0, none⟩) ts.length ts.length) ts.length (bools x.2.2.1) x.2.2.2.2.2) (fun x => ls.length - x.1) ⟨0, [], List.replicate ts.length false, M38, MT, [_]⟩ ⟨Nat.zero_le _, hK38, hT, Nat.zero_le _, by simp, clo_empty ts, Sl.fresh (n := ts.length) (sz := 1) (cs := bools (List.replicate ts.length false)) (e := 4) (by simp) (by unfold maxLen; omega)⟩ (kp 1 rfl (kp 6 rfl (kp 7 rfl (kp 8 rfl (kp 9 rfl (kp 10 rfl kn)))))) (Fit.pick (B := [_]) PickC.perm (Fit.pick PickC.perm (Fit.last PickC.perm))) (fun x hx => SubC.sub x hx) ?_
      clear hK38 hT
      rintro ⟨i, h, hv, MK, MT, BH⟩ ⟨hi, hK, hT, hhl, hvl, hcl, hsh⟩
      dsimp only at hi hK hT hhl hvl hcl hsh ⊢
      haveI := hsh.cel
      refine XC.seq ?_
      refine XC.reg ?_
      refine XL.q (q_move rfl) rfl ?_
      refine XL.q (q_move rfl) rfl ?_
      refine XL.q (q_lenV2 (sz := 1) rfl (by kernel_rfl) hlr) rfl ?_
      refine XL.q (q_bin rfl rfl rfl) rfl ?_
      refine XL.fin (kp 1 rfl (kp 6 rfl (kp 7 rfl (kp 8 rfl (kp 9 rfl (kp 10 rfl (kp 45 rfl kn))))))) ?_
      refine XC.cond rfl (fun hc => ?_) (fun hc => ?_)
      ·
        have hlt : i < ls.length := by simp at hc; omega
        obtain ⟨a, ha⟩ : ∃ a, a = ls.getD i 0 := ⟨_, rfl⟩
        have ha8 : a < 256 := by rw [ha, List.getD_eq_getElem?_getD, List.getElem?_eq_getElem hlt]; exact hl8 _ (List.getElem_mem _)
        obtain ⟨va, hva, hba⟩ := pick_at hlv a (by omega)
        haveI := hba.cel
        have ga := bgd _ (pick_mem a (show 0 < outs.length by omega))
        obtain ⟨-, hri⟩ := good_pl ga hmn
        refine XC.skip ?_
        refine nx (kp 1 rfl (kp 6 rfl (kp 7 rfl (kp 8 rfl (kp 9 rfl (kp 10 rfl kn)))))) ?_
        refine XC.seq ?_
        refine XC.block ?_
        refine XC.reg ?_
        refine XL.q (q_move rfl) rfl ?_
        refine XL.q (q_move rfl) rfl ?_
        refine XL.q (q_move rfl) rfl ?_
        refine XL.q (q_atV2 (sz := 1) rfl rfl (by kernel_rfl) rfl hlr hlt) rfl ?_
        refine XL.q (q_ldV (j := i) (u := .int .u8 ((a : Nat) : Int)) (hlr.mono SubC.sub) rfl (by kernel_rfl) (by rw [ha]; exact nums_at hlt)) rfl ?_
        refine XL.q (q_convN a rfl (by kernel_rfl) (wrapI (by omega))) rfl ?_
        refine XL.q (q_move rfl) rfl ?_
        refine XL.q (q_lenV2 (sz := 1) rfl (by kernel_rfl) hor) rfl ?_
        refine XL.q (q_remI (a := a) (b := outs.length) rfl rfl rfl rfl (by omega)) rfl ?_
        refine XL.q (q_atV2 (sz := 1) (a := a % outs.length) rfl rfl (by kernel_rfl) rfl hor (Nat.mod_lt _ (by omega))) rfl ?_
        refine XL.q (q_ldV (j := a % outs.length) (u := va) (hor.mono SubC.sub) rfl (by kernel_rfl) hva) rfl ?_
        refine XL.q (q_assign rfl) rfl ?_
        refine XL.fin (kp 1 rfl (kp 6 rfl (kp 7 rfl (kp 8 rfl (kp 9 rfl (kp 10 rfl (kp 11 rfl kn))))))) ?_
        refine XC.reg ?_
        refine XL.q (q_move rfl) rfl ?_
        refine XL.q (q_move rfl) rfl ?_
        refine XL.lo rfl (l_buildSlice (e := 23) (sz := 1) (z := [.slice none 0 0]) (by kernel_rfl) (eS rfl e0) (bdS 0 1 rfl (by rfl) bd0) rfl fun b61 => ?_)
        refine XL.lo rfl (l_call (Mc := MK ++ MT) (R := _) (aS rfl (aS rfl a0)) (by kernel_rfl) PickC.perm (learn1_spec kb bt bm (ts, h) _ (pick outs a) MK MT _ hK hT ⟨_, Rd.whole (n := 1) At.mem (by rfl), Lst.cons (hba.mono SubC.sub) Lst.nil⟩ (by dsimp only; omega) (by dsimp only; omega) (SubC.sub _ h4)) rfl ?_)
        rintro v62 M62 J62 ⟨MK62, MT62, rfl, hK62, hT62⟩
        rw [lrn_good ga hmn] at hK62 hT62
        dsimp only at hK62 hT62
        refine XL.fin (kp 1 rfl (kp 6 rfl (kp 7 rfl (kp 8 rfl (kp 9 rfl (kp 10 rfl (kp 11 rfl kn))))))) ?_
        refine XC.reg ?_
        refine XL.q (q_move rfl) rfl ?_
        refine XL.q (q_move rfl) rfl ?_
        refine XL.callV (aS rfl (aS rfl a0)) (by kernel_rfl) (place_spec bt bm ts va (pick outs a) MT62 _ hT62 SubC.sub hmn (hba.rd.mono SubC.sub) hba.lt hba.max) rfl ?_
        rw [good_plc ga hmn]
        refine XL.q (q_move rfl) rfl ?_
        refine XL.q (q_x0 rfl) rfl ?_
        refine XL.q (q_x1 rfl) rfl ?_
        refine XL.q (q_assign rfl) rfl ?_
        refine XL.q (q_assign rfl) rfl ?_
        refine XL.fin (kp 1 rfl (kp 6 rfl (kp 7 rfl (kp 8 rfl (kp 9 rfl (kp 10 rfl (kp 12 rfl kn))))))) ?_
        refine XC.reg1 ?_
        refine XL.q (q_move rfl) rfl ?_
        refine XL.q (q_move rfl) rfl ?_
        refine XL.q (q_atV2 (sz := 1) (a := rdI ts (pick outs a)) rfl rfl (by kernel_rfl) rfl (hsh.rd (R := BH) fun _ h => h) hri) rfl ?_
        refine XL.lo rfl (l_stE hsh rfl rfl rfl (by kernel_rfl) hri PickC.perm fun B14 hs14 => ?_)
        refine XL.nil ?_
        refine nb ?_
        refine nx (kp 1 rfl (kp 6 rfl (kp 7 rfl (kp 8 rfl (kp 9 rfl (kp 10 rfl kn)))))) ?_
        refine XC.reg1 ?_
        refine XL.q (q_move rfl) rfl ?_
        refine XL.q (q_addI (b := 1) rfl rfl rfl rfl (by omega)) rfl ?_
        refine XL.q (q_assign rfl) rfl ?_
        refine XL.nil ?_
        exact rn ⟨i + 1, cloF ts ((padB h ts.length).set (rdI ts (pick outs a)) true), hv.set (rdI ts (pick outs a)) true, MK62, MT62, B14⟩ ⟨by dsimp only; omega, hK62, hT62, by dsimp only; rw [(cloF_clo (ts := ts) (h := (padB h ts.length).set (rdI ts (pick outs a)) true) (by rw [List.length_set, padB_len hhl]; exact Nat.le_refl _)).len]; exact Nat.le_refl _, by dsimp only; rw [List.length_set]; exact hvl, learn_more hhl hvl hri hcl, by dsimp only; rw [← bools_set]; exact hs14⟩ (by dsimp only; omega) (kp 1 rfl (kp 6 rfl (kp 7 rfl (kp 8 rfl (kp 9 rfl (kp 10 rfl kn)))))) (Fit.pick PickC.perm (Fit.pick PickC.perm (Fit.last PickC.perm))) (fun x hx => SubC.sub x hx)
      ·
        have hge : i = ls.length := by simp at hc; omega
        subst hge
        refine XC.exit ?_
        refine te ?_
        refine re ?_
        refine be rfl ?_
        refine nx (kp 7 rfl (kp 8 rfl (kp 9 rfl kn))) ?_
        refine XC.reg ?_
        refine XL.q (q_move rfl) rfl ?_
        refine XL.lo rfl (l_call (Mc := MK) (R := _) (aS rfl a0) (by kernel_rfl) PickC.perm (close_spec kb bt bm ts h MK _ hK (hT.tbr SubC.sub) hhl hmn (SubC.sub _ h4)) rfl ?_)
        rintro v73 M73 J73 ⟨h73, hc73, hKE⟩
        rw [Clo.eq hhl hc73, hcl] at hKE
        refine XL.fin (kp 7 rfl (kp 8 rfl (kp 9 rfl kn))) ?_
        refine XC.reg ?_
        refine XL.q (q_move rfl) rfl ?_
        refine XL.q (q_move rfl) rfl ?_
        refine XL.lo rfl (l_call (Mc := BH) (R := _) (aS rfl (aS rfl a0)) (by kernel_rfl) PickC.perm (lknown_spec bt bm ts hv _ BH _ (hT.tbr SubC.sub) bwf hsh hvl hmn) rfl ?_)
        rintro v76 M76 J76 ⟨rfl, hs76⟩
        rw [known_clo hvl] at hs76
        have hgl := (cloF_clo (ts := ts) (h := hv) (by omega)).len
        generalize cloF ts hv = g at *
        haveI := hs76.cel
        refine XL.q (q_assign rfl) rfl ?_
        refine XL.fin (kp 7 rfl (kp 8 rfl (kp 9 rfl kn))) ?_
        refine XC.reg ?_
        refine XL.q (q_assign rfl) rfl ?_
        refine XL.fin (kp 7 rfl (kp 8 rfl (kp 9 rfl (kp 14 rfl kn)))) ?_
        refine XC.seq ?_
        refine XC.reg ?_
        refine XL.q (q_assign rfl) rfl ?_
        refine XL.fin (kp 7 rfl (kp 8 rfl (kp 9 rfl (kp 14 rfl (kp 15 rfl kn))))) ?_
        refine XC.block ?_
        refine XC.loop (α := Nat) (fun x => [(7, .pointer (some ⟨bt, 0, none⟩)), (8, .pointer (some ⟨kb, 0, none⟩)), (9, .slice (some ⟨b41, 0, none⟩) ts.length ts.length), (14, .int .i64 (((keysN ts g x).length : Nat) : Int)), (15, .int .i64 ((x : Nat) : Int))]) (fun _ => M76 ++ (M73 ++ MT)) (fun _ => []) (fun x => x ≤ ts.length) (fun x => ts.length - x) 0 (Nat.zero_le _) (kp 7 rfl (kp 8 rfl (kp 9 rfl (kp 14 rfl (kp 15 rfl kn))))) (Fit.pick PickC.perm (Fit.pick PickC.perm (Fit.last PickC.perm))) (fun _ h => by cases h) ?_
        rintro i hi
        refine XC.seq ?_
        refine XC.reg ?_
        refine XL.q (q_move rfl) rfl ?_
        refine XL.q (q_move rfl) rfl ?_
        refine XL.callV (aS rfl a0) (by kernel_rfl) (lenT_spec bt bm ts MT _ hT SubC.sub) rfl ?_
        refine XL.q (q_bin rfl rfl rfl) rfl ?_
        refine XL.fin (kp 7 rfl (kp 8 rfl (kp 9 rfl (kp 14 rfl (kp 15 rfl (kp 80 rfl kn)))))) ?_
        refine XC.cond rfl (fun hc => ?_) (fun hc => ?_)
        ·
          have hlt : i < ts.length := by simp at hc; omega
          have hkl := keysN_len ts g i
          refine XC.skip ?_
          refine nx (kp 7 rfl (kp 8 rfl (kp 9 rfl (kp 14 rfl (kp 15 rfl kn))))) ?_
          refine XC.seq ?_
          refine XC.block ?_
          refine XC.reg ?_
          refine XL.q (q_move rfl) rfl ?_
          refine XL.q (q_move rfl) rfl ?_
          refine XL.call (aS rfl (aS rfl a0)) (by kernel_rfl) (getT_spec bt bm ts ((i : Nat) : Int) MT _ hT SubC.sub) rfl ?_
          rintro v86 M86 J86 ⟨rfl, rfl, c86, ok86, rfl, hg1, hg2⟩
          obtain ⟨rfl, t, ht, vo, rfl, hvo⟩ := hg1 ⟨by omega, by omega⟩
          rw [Int.toNat_natCast] at ht
          haveI := hvo.cel
          have hkF := keyF_y (h := g) ht
          refine XL.q (q_move rfl) rfl ?_
          refine XL.q (q_x0 rfl) rfl ?_
          refine XL.q (q_x1 rfl) rfl ?_
          refine XL.lo rfl (l_alloc (cs := [.int .u8 0, .slice none 0 0, .string ByteArray.empty, .int .i64 0]) (by kernel_rfl) rfl fun b16 => ?_)
          refine XL.lo rfl (l_storeW rfl rfl rfl (by kernel_rfl) (by rfl) (by intro c hc; simp only [List.mem_cons, List.not_mem_nil, or_false] at hc; rcases hc with rfl | rfl | rfl | rfl <;> first | rfl | exact hvo.one) UpC.upd ?_)
          refine XL.q (q_assign rfl) rfl ?_
          refine XL.fin (kp 7 rfl (kp 8 rfl (kp 9 rfl (kp 14 rfl (kp 15 rfl (kp 16 rfl kn)))))) ?_
          refine XC.seq ?_
          refine XC.drawF [0, 1, 2, 3, 4, 5, 6, 7, 8] [(0, 0), (1, 0), (4, 0), (5, 0), (6, 0), (7, 1), (2, 2), (3, 2), (8, 0)] (by kernel_rfl) (by kernel_rfl) fun hs => ?_
          refine XF.q hs rfl (q_move rfl) rfl ?_
          refine XF.q hs rfl (q_move rfl) rfl ?_
          refine XF.q hs rfl (q_move rfl) rfl ?_
          refine XF.q hs rfl (q_move rfl) rfl ?_
          refine XF.q hs rfl (q_atV2 (sz := 1) (a := i) rfl rfl (by kernel_rfl) rfl (hs76.rd (R := M76) fun _ h => h) hlt) rfl ?_
          refine XF.r hs rfl (q_ldV (j := i) (u := .bool (g.getD i false)) (hs76.rd SubC.sub) rfl (by kernel_rfl) (bools_get (by omega))) rfl ?_
          refine XF.call rfl (aS rfl a0) (by kernel_rfl) (bytesJ_spec _ _) rfl ?_
          rintro v91 M91 J91 ⟨rfl, hb91⟩
          haveI := hb91.cel
          refine XF.callV rfl (aS rfl (aS rfl a0)) (by kernel_rfl) (has_spec kb bt bm ts g v91 (bts ((i : Nat) : Int)) _ (hKE.rd SubC.sub) (hT.tbr SubC.sub) hmn (hb91.mono SubC.sub)) rfl ?_
          rw [has_good (good_bts hlt) hmn, (good_rd hlt hmn).2]
          refine XF.q hs rfl (q_boolNeR false rfl rfl (by kernel_rfl) (by unfold kat; simp)) rfl ?_
          refine XF.fin (kp 7 rfl (kp 8 rfl (kp 9 rfl (kp 14 rfl (kp 15 rfl (kp 16 rfl (kp 97 rfl kn))))))) ?_
          refine XC.condF rfl ?_
          refine XC.skip ?_
          refine nx (kp 7 rfl (kp 8 rfl (kp 9 rfl (kp 14 rfl (kp 15 rfl (kp 16 rfl kn)))))) ?_
          refine XC.reg ?_
          refine XL.q (q_move rfl) rfl ?_
          refine XL.q (q_move rfl) rfl ?_
          refine XL.q (q_atV2 (sz := 1) (a := i) rfl rfl (by kernel_rfl) rfl (hs76.rd (R := M76) fun _ h => h) hlt) rfl ?_
          refine XL.q (q_ldV (j := i) (u := .bool (g.getD i false)) (hs76.rd SubC.sub) rfl (by kernel_rfl) (bools_get (by omega))) rfl ?_
          refine XL.q (q_move rfl) rfl ?_
          refine XL.split (t := 102) rfl (fun hb => ?_) (fun hb => ?_)
          ·
            have hA : kat g i = true := hb
            refine XL.gy rfl rfl (OpQ.opL (q_fieldAddrN 0 (off := 0) rfl (by kernel_rfl) rfl) rfl ?_)
            refine XL.gy rfl rfl (OpQ.opL (q_load rfl (by kernel_rfl) (by first | exact At.mem | exact mA (by assumption)) (by rfl)) rfl ?_)
            refine XL.gy rfl rfl (OpQ.opL (q_bin rfl rfl rfl) rfl ?_)
            refine XL.gy rfl rfl (OpQ.opL (q_move rfl) rfl ?_)
            refine XL.split (t := 106) rfl (fun hb => ?_) (fun hb => ?_)
            ·
              have hk1 : t.kind = 1 := by simp at hb; omega
              have hky : keyF ts g i = true := by rw [hkF, hA]; unfold secK; rw [hk1]; rfl
              obtain ⟨hkn, hkx⟩ := keysN_at hlt hky
              refine XL.gn rfl rfl rfl rfl ?_
              refine XL.gn rfl rfl rfl rfl ?_
              refine XL.gn rfl rfl rfl rfl ?_
              refine XL.gy rfl rfl (OpQ.opL (q_pickT rfl rfl) rfl ?_)
              refine XL.gy rfl rfl (OpQ.opL (q_move rfl) rfl ?_)
              refine XL.gn rfl rfl rfl rfl ?_
              refine XL.gn rfl rfl rfl rfl ?_
              refine XL.gn rfl rfl rfl rfl ?_
              refine XL.gy rfl rfl (OpQ.opL (q_pickT rfl rfl) rfl ?_)
              refine XL.q (q_pickT rfl rfl) rfl ?_
              refine XL.fin (kp 7 rfl (kp 8 rfl (kp 9 rfl (kp 14 rfl (kp 15 rfl (kp 116 rfl kn)))))) ?_
              refine XC.condT rfl ?_
              refine XC.seq ?_
              refine XC.drawF [0, 1, 2, 3, 4, 5, 6, 7, 8, 9, 10, 11, 12, 13, 14, 15, 16] [(0, 0), (1, 0), (2, 2), (3, 0), (4, 0), (5, 0), (6, 0), (8, 0), (12, 0), (7, 2), (9, 0), (10, 1), (11, 1), (13, 2), (14, 1), (15, 0), (16, 0)] (by kernel_rfl) (by kernel_rfl) fun hs => ?_
              refine XF.q hs rfl (q_move rfl) rfl ?_
              refine XF.q hs rfl (q_move rfl) rfl ?_
              refine XF.call rfl (aS rfl a0) (by kernel_rfl) (keys_spec kb bt bm ts g _ (hKE.rd SubC.sub) (hT.tbr SubC.sub) (by omega) (by omega)) rfl ?_
              rintro v119 M119 J119 ⟨rfl, hl119⟩
              rw [hgl] at hl119
              obtain ⟨vs119, hr119, hls119⟩ := hl119.ex
              haveI := hr119.cel
              refine XF.q hs rfl (q_lenV2 (sz := 1) rfl (by kernel_rfl) hr119) rfl ?_
              refine XF.q hs rfl (q_cmp false rfl rfl (geF (by omega))) rfl ?_
              refine XF.q hs rfl (q_move rfl) rfl ?_
              refine XF.qg hs rfl rfl rfl rfl (q_move rfl) rfl ?_
              refine XF.qg hs rfl rfl rfl rfl (q_move rfl) rfl ?_
              refine XF.qg hs rfl rfl rfl rfl (q_move rfl) rfl ?_
              refine XF.callg rfl rfl rfl rfl (aS rfl a0) (by kernel_rfl) (keys_spec kb bt bm ts g _ (hKE.rd SubC.sub) (hT.tbr SubC.sub) (by omega) (by omega)) rfl ?_
              rintro v124 M124 J124 ⟨rfl, hl124⟩
              rw [hgl] at hl124
              obtain ⟨vs124, hr124, hls124⟩ := hl124.ex
              haveI := hr124.cel
              obtain ⟨vk, hvk, hbk⟩ := Lst.by_at hls124 hkx
              haveI := hbk.cel
              refine XF.qg hs rfl rfl rfl rfl (q_atV2 (sz := 1) (a := (keysN ts g i).length) rfl rfl (by kernel_rfl) rfl hr124 hkn) rfl ?_
              refine XF.rg hs rfl rfl rfl rfl (q_ldV (j := (keysN ts g i).length) (u := vk) (hr124.mono SubC.sub) rfl (by kernel_rfl) hvk) rfl ?_
              refine XF.rg hs rfl rfl rfl rfl (q_toStr2 rfl (by kernel_rfl) (hbk.rd.mono SubC.sub)) rfl ?_
              refine XF.callg rfl rfl rfl rfl (aS rfl a0) (by kernel_rfl) (bytesJ_spec _ _) rfl ?_
              rintro v130 M130 J130 ⟨rfl, hb130⟩
              haveI := hb130.cel
              refine XF.rg hs rfl rfl rfl rfl (q_toStr2 rfl (by kernel_rfl) (hb130.rd.mono SubC.sub)) rfl ?_
              refine XF.qg hs rfl rfl rfl rfl (q_sNe (ws := bts ((i : Nat) : Int)) (ws' := bts ((i : Nat) : Int)) rfl rfl rfl rfl (bts_b _) (bts_b _)) rfl ?_
              rw [show (!decide (bts ((i : Nat) : Int) = bts ((i : Nat) : Int))) = false by simp]
              refine XF.q hs rfl (q_pickF rfl rfl) rfl ?_
              refine XF.fin (kp 7 rfl (kp 8 rfl (kp 9 rfl (kp 14 rfl (kp 15 rfl (kp 133 rfl kn)))))) ?_
              refine XC.condF rfl ?_
              refine XC.skip ?_
              refine nx (kp 7 rfl (kp 8 rfl (kp 9 rfl (kp 14 rfl (kp 15 rfl kn))))) ?_
              refine XC.reg1 ?_
              refine XL.q (q_move rfl) rfl ?_
              refine XL.q (q_addI (b := 1) rfl rfl rfl rfl (by omega)) rfl ?_
              refine XL.q (q_assign rfl) rfl ?_
              refine XL.nil ?_
              refine nb ?_
              refine nx (kp 7 rfl (kp 8 rfl (kp 9 rfl (kp 14 rfl (kp 15 rfl kn))))) ?_
              refine XC.reg1 ?_
              refine XL.q (q_move rfl) rfl ?_
              refine XL.q (q_addI (b := 1) rfl rfl rfl rfl (by omega)) rfl ?_
              refine XL.q (q_assign rfl) rfl ?_
              refine XL.nil ?_
              exact rn (i + 1) (by omega) (by omega) (kp 7 rfl (kp 8 rfl (kp 9 rfl (kp 14 (by rw [keysN_y hky, List.length_append]; rfl) (kp 15 rfl kn))))) (Fit.pick PickC.perm (Fit.pick PickC.perm (Fit.last PickC.perm))) (fun _ h => by cases h)
            ·
              have hk1 : ¬ t.kind = 1 := by simp at hb; omega
              refine XL.gy rfl rfl (OpQ.opL (q_fieldAddrN 0 (off := 0) rfl (by kernel_rfl) rfl) rfl ?_)
              refine XL.gy rfl rfl (OpQ.opL (q_load rfl (by kernel_rfl) (by first | exact At.mem | exact mA (by assumption)) (by rfl)) rfl ?_)
              refine XL.gy rfl rfl (OpQ.opL (q_bin rfl rfl rfl) rfl ?_)
              refine XL.gy rfl rfl (OpQ.opL (q_pickF rfl rfl) rfl ?_)
              refine XL.gy rfl rfl (OpQ.opL (q_move rfl) rfl ?_)
              refine XL.split (t := 111) rfl (fun hb => ?_) (fun hb => ?_)
              ·
                have hk4 : t.kind = 4 := by simp at hb; omega
                have hky : keyF ts g i = true := by rw [hkF, hA]; unfold secK; rw [hk4]; rfl
                obtain ⟨hkn, hkx⟩ := keysN_at hlt hky
                refine XL.gn rfl rfl rfl rfl ?_
                refine XL.gn rfl rfl rfl rfl ?_
                refine XL.gn rfl rfl rfl rfl ?_
                refine XL.gy rfl rfl (OpQ.opL (q_pickT rfl rfl) rfl ?_)
                refine XL.q (q_pickT rfl rfl) rfl ?_
                refine XL.fin (kp 7 rfl (kp 8 rfl (kp 9 rfl (kp 14 rfl (kp 15 rfl (kp 116 rfl kn)))))) ?_
                refine XC.condT rfl ?_
                refine XC.seq ?_
                refine XC.drawF [0, 1, 2, 3, 4, 5, 6, 7, 8, 9, 10, 11, 12, 13, 14, 15, 16] [(0, 0), (1, 0), (2, 2), (3, 0), (4, 0), (5, 0), (6, 0), (8, 0), (12, 0), (7, 2), (9, 0), (10, 1), (11, 1), (13, 2), (14, 1), (15, 0), (16, 0)] (by kernel_rfl) (by kernel_rfl) fun hs => ?_
                refine XF.q hs rfl (q_move rfl) rfl ?_
                refine XF.q hs rfl (q_move rfl) rfl ?_
                refine XF.call rfl (aS rfl a0) (by kernel_rfl) (keys_spec kb bt bm ts g _ (hKE.rd SubC.sub) (hT.tbr SubC.sub) (by omega) (by omega)) rfl ?_
                rintro v119 M119 J119 ⟨rfl, hl119⟩
                rw [hgl] at hl119
                obtain ⟨vs119, hr119, hls119⟩ := hl119.ex
                haveI := hr119.cel
                refine XF.q hs rfl (q_lenV2 (sz := 1) rfl (by kernel_rfl) hr119) rfl ?_
                refine XF.q hs rfl (q_cmp false rfl rfl (geF (by omega))) rfl ?_
                refine XF.q hs rfl (q_move rfl) rfl ?_
                refine XF.qg hs rfl rfl rfl rfl (q_move rfl) rfl ?_
                refine XF.qg hs rfl rfl rfl rfl (q_move rfl) rfl ?_
                refine XF.qg hs rfl rfl rfl rfl (q_move rfl) rfl ?_
                refine XF.callg rfl rfl rfl rfl (aS rfl a0) (by kernel_rfl) (keys_spec kb bt bm ts g _ (hKE.rd SubC.sub) (hT.tbr SubC.sub) (by omega) (by omega)) rfl ?_
                rintro v124 M124 J124 ⟨rfl, hl124⟩
                rw [hgl] at hl124
                obtain ⟨vs124, hr124, hls124⟩ := hl124.ex
                haveI := hr124.cel
                obtain ⟨vk, hvk, hbk⟩ := Lst.by_at hls124 hkx
                haveI := hbk.cel
                refine XF.qg hs rfl rfl rfl rfl (q_atV2 (sz := 1) (a := (keysN ts g i).length) rfl rfl (by kernel_rfl) rfl hr124 hkn) rfl ?_
                refine XF.rg hs rfl rfl rfl rfl (q_ldV (j := (keysN ts g i).length) (u := vk) (hr124.mono SubC.sub) rfl (by kernel_rfl) hvk) rfl ?_
                refine XF.rg hs rfl rfl rfl rfl (q_toStr2 rfl (by kernel_rfl) (hbk.rd.mono SubC.sub)) rfl ?_
                refine XF.callg rfl rfl rfl rfl (aS rfl a0) (by kernel_rfl) (bytesJ_spec _ _) rfl ?_
                rintro v130 M130 J130 ⟨rfl, hb130⟩
                haveI := hb130.cel
                refine XF.rg hs rfl rfl rfl rfl (q_toStr2 rfl (by kernel_rfl) (hb130.rd.mono SubC.sub)) rfl ?_
                refine XF.qg hs rfl rfl rfl rfl (q_sNe (ws := bts ((i : Nat) : Int)) (ws' := bts ((i : Nat) : Int)) rfl rfl rfl rfl (bts_b _) (bts_b _)) rfl ?_
                rw [show (!decide (bts ((i : Nat) : Int) = bts ((i : Nat) : Int))) = false by simp]
                refine XF.q hs rfl (q_pickF rfl rfl) rfl ?_
                refine XF.fin (kp 7 rfl (kp 8 rfl (kp 9 rfl (kp 14 rfl (kp 15 rfl (kp 133 rfl kn)))))) ?_
                refine XC.condF rfl ?_
                refine XC.skip ?_
                refine nx (kp 7 rfl (kp 8 rfl (kp 9 rfl (kp 14 rfl (kp 15 rfl kn))))) ?_
                refine XC.reg1 ?_
                refine XL.q (q_move rfl) rfl ?_
                refine XL.q (q_addI (b := 1) rfl rfl rfl rfl (by omega)) rfl ?_
                refine XL.q (q_assign rfl) rfl ?_
                refine XL.nil ?_
                refine nb ?_
                refine nx (kp 7 rfl (kp 8 rfl (kp 9 rfl (kp 14 rfl (kp 15 rfl kn))))) ?_
                refine XC.reg1 ?_
                refine XL.q (q_move rfl) rfl ?_
                refine XL.q (q_addI (b := 1) rfl rfl rfl rfl (by omega)) rfl ?_
                refine XL.q (q_assign rfl) rfl ?_
                refine XL.nil ?_
                exact rn (i + 1) (by omega) (by omega) (kp 7 rfl (kp 8 rfl (kp 9 rfl (kp 14 (by rw [keysN_y hky, List.length_append]; rfl) (kp 15 rfl kn))))) (Fit.pick PickC.perm (Fit.pick PickC.perm (Fit.last PickC.perm))) (fun _ h => by cases h)
              ·
                have hk4 : ¬ t.kind = 4 := by simp at hb; omega
                refine XL.gy rfl rfl (OpQ.opL (q_fieldAddrN 0 (off := 0) rfl (by kernel_rfl) rfl) rfl ?_)
                refine XL.gy rfl rfl (OpQ.opL (q_load rfl (by kernel_rfl) (by first | exact At.mem | exact mA (by assumption)) (by rfl)) rfl ?_)
                refine XL.gy rfl rfl (OpQ.opL (q_bin rfl rfl rfl) rfl ?_)
                refine XL.gy rfl rfl (OpQ.opL (q_pickF rfl rfl) rfl ?_)
                refine XL.q (q_pickT rfl rfl) rfl ?_
                refine XL.fin (kp 7 rfl (kp 8 rfl (kp 9 rfl (kp 14 rfl (kp 15 rfl (kp 116 rfl kn)))))) ?_
                refine XC.cond rfl (fun hc => ?_) (fun hc => ?_)
                ·
                  have hk5 : t.kind = 5 := by simp at hc; omega
                  have hky : keyF ts g i = true := by rw [hkF, hA]; unfold secK; rw [hk5]; rfl
                  obtain ⟨hkn, hkx⟩ := keysN_at hlt hky
                  refine XC.seq ?_
                  refine XC.drawF [0, 1, 2, 3, 4, 5, 6, 7, 8, 9, 10, 11, 12, 13, 14, 15, 16] [(0, 0), (1, 0), (2, 2), (3, 0), (4, 0), (5, 0), (6, 0), (8, 0), (12, 0), (7, 2), (9, 0), (10, 1), (11, 1), (13, 2), (14, 1), (15, 0), (16, 0)] (by kernel_rfl) (by kernel_rfl) fun hs => ?_
                  refine XF.q hs rfl (q_move rfl) rfl ?_
                  refine XF.q hs rfl (q_move rfl) rfl ?_
                  refine XF.call rfl (aS rfl a0) (by kernel_rfl) (keys_spec kb bt bm ts g _ (hKE.rd SubC.sub) (hT.tbr SubC.sub) (by omega) (by omega)) rfl ?_
                  rintro v119 M119 J119 ⟨rfl, hl119⟩
                  rw [hgl] at hl119
                  obtain ⟨vs119, hr119, hls119⟩ := hl119.ex
                  haveI := hr119.cel
                  refine XF.q hs rfl (q_lenV2 (sz := 1) rfl (by kernel_rfl) hr119) rfl ?_
                  refine XF.q hs rfl (q_cmp false rfl rfl (geF (by omega))) rfl ?_
                  refine XF.q hs rfl (q_move rfl) rfl ?_
                  refine XF.qg hs rfl rfl rfl rfl (q_move rfl) rfl ?_
                  refine XF.qg hs rfl rfl rfl rfl (q_move rfl) rfl ?_
                  refine XF.qg hs rfl rfl rfl rfl (q_move rfl) rfl ?_
                  refine XF.callg rfl rfl rfl rfl (aS rfl a0) (by kernel_rfl) (keys_spec kb bt bm ts g _ (hKE.rd SubC.sub) (hT.tbr SubC.sub) (by omega) (by omega)) rfl ?_
                  rintro v124 M124 J124 ⟨rfl, hl124⟩
                  rw [hgl] at hl124
                  obtain ⟨vs124, hr124, hls124⟩ := hl124.ex
                  haveI := hr124.cel
                  obtain ⟨vk, hvk, hbk⟩ := Lst.by_at hls124 hkx
                  haveI := hbk.cel
                  refine XF.qg hs rfl rfl rfl rfl (q_atV2 (sz := 1) (a := (keysN ts g i).length) rfl rfl (by kernel_rfl) rfl hr124 hkn) rfl ?_
                  refine XF.rg hs rfl rfl rfl rfl (q_ldV (j := (keysN ts g i).length) (u := vk) (hr124.mono SubC.sub) rfl (by kernel_rfl) hvk) rfl ?_
                  refine XF.rg hs rfl rfl rfl rfl (q_toStr2 rfl (by kernel_rfl) (hbk.rd.mono SubC.sub)) rfl ?_
                  refine XF.callg rfl rfl rfl rfl (aS rfl a0) (by kernel_rfl) (bytesJ_spec _ _) rfl ?_
                  rintro v130 M130 J130 ⟨rfl, hb130⟩
                  haveI := hb130.cel
                  refine XF.rg hs rfl rfl rfl rfl (q_toStr2 rfl (by kernel_rfl) (hb130.rd.mono SubC.sub)) rfl ?_
                  refine XF.qg hs rfl rfl rfl rfl (q_sNe (ws := bts ((i : Nat) : Int)) (ws' := bts ((i : Nat) : Int)) rfl rfl rfl rfl (bts_b _) (bts_b _)) rfl ?_
                  rw [show (!decide (bts ((i : Nat) : Int) = bts ((i : Nat) : Int))) = false by simp]
                  refine XF.q hs rfl (q_pickF rfl rfl) rfl ?_
                  refine XF.fin (kp 7 rfl (kp 8 rfl (kp 9 rfl (kp 14 rfl (kp 15 rfl (kp 133 rfl kn)))))) ?_
                  refine XC.condF rfl ?_
                  refine XC.skip ?_
                  refine nx (kp 7 rfl (kp 8 rfl (kp 9 rfl (kp 14 rfl (kp 15 rfl kn))))) ?_
                  refine XC.reg1 ?_
                  refine XL.q (q_move rfl) rfl ?_
                  refine XL.q (q_addI (b := 1) rfl rfl rfl rfl (by omega)) rfl ?_
                  refine XL.q (q_assign rfl) rfl ?_
                  refine XL.nil ?_
                  refine nb ?_
                  refine nx (kp 7 rfl (kp 8 rfl (kp 9 rfl (kp 14 rfl (kp 15 rfl kn))))) ?_
                  refine XC.reg1 ?_
                  refine XL.q (q_move rfl) rfl ?_
                  refine XL.q (q_addI (b := 1) rfl rfl rfl rfl (by omega)) rfl ?_
                  refine XL.q (q_assign rfl) rfl ?_
                  refine XL.nil ?_
                  exact rn (i + 1) (by omega) (by omega) (kp 7 rfl (kp 8 rfl (kp 9 rfl (kp 14 (by rw [keysN_y hky, List.length_append]; rfl) (kp 15 rfl kn))))) (Fit.pick PickC.perm (Fit.pick PickC.perm (Fit.last PickC.perm))) (fun _ h => by cases h)
                ·
                  have hk5 : ¬ t.kind = 5 := by simp at hc; omega
                  refine XC.skip ?_
                  refine nb ?_
                  refine nx (kp 7 rfl (kp 8 rfl (kp 9 rfl (kp 14 rfl (kp 15 rfl kn))))) ?_
                  refine XC.reg1 ?_
                  refine XL.q (q_move rfl) rfl ?_
                  refine XL.q (q_addI (b := 1) rfl rfl rfl rfl (by omega)) rfl ?_
                  refine XL.q (q_assign rfl) rfl ?_
                  refine XL.nil ?_
                  exact rn (i + 1) (by omega) (by omega) (kp 7 rfl (kp 8 rfl (kp 9 rfl (kp 14 (by rw [keysN_n (by rw [hkF, show secK t.kind = false by simp [secK, hk1, hk4, hk5]]; simp)]; rfl) (kp 15 rfl kn))))) (Fit.pick PickC.perm (Fit.pick PickC.perm (Fit.last PickC.perm))) (fun _ h => by cases h)
          ·
            have hA : kat g i = false := hb
            refine XL.gn rfl rfl rfl rfl ?_
            refine XL.gn rfl rfl rfl rfl ?_
            refine XL.gn rfl rfl rfl rfl ?_
            refine XL.gn rfl rfl rfl rfl ?_
            refine XL.gu rfl rfl rfl ?_
            refine XL.gu rfl rfl rfl ?_
            refine XL.gu rfl rfl rfl ?_
            refine XL.gn rfl rfl rfl rfl ?_
            refine XL.gn rfl rfl rfl rfl ?_
            refine XL.gu rfl rfl rfl ?_
            refine XL.gu rfl rfl rfl ?_
            refine XL.gu rfl rfl rfl ?_
            refine XL.gn rfl rfl rfl rfl ?_
            refine XL.q (q_pickF rfl rfl) rfl ?_
            refine XL.fin (kp 7 rfl (kp 8 rfl (kp 9 rfl (kp 14 rfl (kp 15 rfl (kp 116 rfl kn)))))) ?_
            refine XC.condF rfl ?_
            refine XC.skip ?_
            refine nb ?_
            refine nx (kp 7 rfl (kp 8 rfl (kp 9 rfl (kp 14 rfl (kp 15 rfl kn))))) ?_
            refine XC.reg1 ?_
            refine XL.q (q_move rfl) rfl ?_
            refine XL.q (q_addI (b := 1) rfl rfl rfl rfl (by omega)) rfl ?_
            refine XL.q (q_assign rfl) rfl ?_
            refine XL.nil ?_
            exact rn (i + 1) (by omega) (by omega) (kp 7 rfl (kp 8 rfl (kp 9 rfl (kp 14 (by rw [keysN_n (by rw [hkF, hA]; rfl)]; rfl) (kp 15 rfl kn))))) (Fit.pick PickC.perm (Fit.pick PickC.perm (Fit.last PickC.perm))) (fun _ h => by cases h)
        ·
          have hge : i = ts.length := by simp at hc; omega
          subst hge
          refine XC.exit ?_
          refine te ?_
          refine re ?_
          refine be rfl ?_
          refine nx (kp 8 rfl (kp 14 rfl kn)) ?_
          refine XC.reg ?_
          refine XL.q (q_move rfl) rfl ?_
          refine XL.call (aS rfl a0) (by kernel_rfl) (keys_spec kb bt bm ts g _ (hKE.rd SubC.sub) (hT.tbr SubC.sub) (by omega) (by omega)) rfl ?_
          rintro v137 M137 J137 ⟨rfl, hl137⟩
          rw [hgl] at hl137
          obtain ⟨vs137, hr137, hls137⟩ := hl137.ex
          haveI := hr137.cel
          refine XL.q (q_lenV2 (sz := 1) rfl (by kernel_rfl) hr137) rfl ?_
          refine XL.q (q_move rfl) rfl ?_
          refine XL.q (q_cmp true rfl rfl (eqT rfl)) rfl ?_
          refine XL.q (q_assign rfl) rfl ?_
          refine XL.fin (kp 4 rfl kn) ?_
          refine XC.ret ?_
          exact ⟨_, [], [], res1 rfl rfl, List.nil_sublist _, by simp, rfl, rfl, rfl⟩

end Go.Proofs.YthmnlkpikgglbaaGreatDoor
/-
  Structs that came in, opened to their leaves; slices of bytes of any length.
-/
set_option linter.unusedVariables false
namespace Go.Px
open Go.ChangeShapes Go.WideShapes Go.ChangeAt Go.RowKit
/-- A slice of bytes of any length that a slice bears. -/
structure Byi (R : Mem) (v : Value) (w : List Nat) : Prop where
  rd : Rd R 1 v w.length (nums .u8 w)
  lt : ∀ x ∈ w, x < 256
  len : w.length ≤ maxLen
theorem Byi.mono {R R' : Mem} {v : Value} {w : List Nat} (h : Byi R v w) (hR : ∀ x, x ∈ R → x ∈ R') : Byi R' v w := ⟨h.rd.mono hR, h.lt, h.len⟩
theorem By.i {R : Mem} {v : Value} {w : List Nat} (h : By R v w) : Byi R v w := ⟨h.rd, h.lt, h.max⟩
theorem Byi.by {R : Mem} {v : Value} {w : List Nat} (h : Byi R v w) (hl : w.length ≤ 16777216) : By R v w := ⟨h.rd, h.lt, hl⟩
theorem Byi.cel {R : Mem} {v : Value} {w : List Nat} (h : Byi R v w) : Cel v [v] := h.rd.cel
theorem Byi.one {R : Mem} {v : Value} {w : List Nat} (h : Byi R v w) : v.oneCell' = true := h.rd.one
section
variable {H : Type} {enc : TypeId × Value → H} {P : Program} {w : World} {spare : Nat → Bool} {held : Bool} {fuel : Nat} {t e : TypeId} {cs : List Value} {x : DataW H × List MemPlace}
theorem st_field {fs : Array Field} {tf : TypeId} {o c : Nat} (ht : P.underlying t = some (.struct fs)) (h : DataW.trod enc P w 0 spare held fuel t cs = some x) (i : Nat) (f : Field) (hf : fs[i]? = some f) (hty : f.type = tf) (ho : f.offset = o) (hc : P.cellsOf tf = c) :
    ∃ m y, DataW.trod enc P w 0 spare held m tf ((cs.drop o).take c) = some y := by
  obtain ⟨xs, m, _, _, h1, h2, h3⟩ := DataW.trod_struct ht h
  have e0 := h3 i f hf
  have hi : i < fs.size := (Array.getElem?_eq_some_iff.1 hf).1
  rw [hty, ho, hc, List.getElem?_eq_getElem (by omega)] at e0
  exact ⟨m, _, e0⟩
theorem in_bytes (ht : P.underlying t = some (.slice e)) (he : P.underlying e = some (.int .u8)) (hc : P.cellsOf e = 1) (h : DataW.trod enc P w 0 spare held fuel t cs = some x) :
    ∃ v ws, cs = [v] ∧ Byi (heapA w) v ws := by
  obtain ⟨v, xss, h1, h2, h3, h4⟩ := in_slice ht hc (by decide) h
  obtain ⟨ws, h5, h6, h7⟩ := uints_of (k := .u8) rfl he h4
  exact ⟨v, ws, h1, by rw [h6, ← h5]; exact h3, h7, by omega⟩
end
end Go.Px

/- Terms that came in; what the rows' lists give. -/
set_option linter.unusedVariables false
set_option linter.unusedSimpArgs false
namespace Go.Proofs.YthmnlkpikgglbaaGreatDoor
open Go.Px Go.ChangeShapes Go.WideShapes Go.ChangeAt Go.RowKit
section
variable {H : Type} {enc : TypeId × Value → H} {P : Program} {w : World} {spare : Nat → Bool} {held : Bool} {fuel : Nat} {t e : TypeId} {cs : List Value} {x : DataW H × List MemPlace} {v : Value} {d : DataW H} {p : List MemPlace} {r : Reach} {base : Nat} {k : IntKind}
theorem ba_txt (s : ByteArray) : ∃ ws : List Nat, s = txt ws ∧ B256 ws ∧ ws.length = s.size := by
  refine ⟨s.data.toList.map UInt8.toNat, ?_, ⟨fun x hx => ?_⟩, by rw [List.length_map, Array.length_toList]; rfl⟩
  · apply ByteArray.ext
    have e : (UInt8.ofNat ∘ UInt8.toNat) = id := by funext c; simp
    simp [txt, e]
  · obtain ⟨c, _, rfl⟩ := List.mem_map.1 hx
    exact c.toNat_lt
theorem ints_of (he : P.underlying e = some (.int k)) {xss : List (List Value)} (h : ∀ c ∈ xss, c.length = 1 ∧ ∃ m y, DataW.trod enc P w 0 spare held m e c = some y) :
    ∃ zs : List Int, xss.flatten = zs.map (.int k) ∧ zs.length = xss.length ∧ ∀ z ∈ zs, (Lit.int k z).wf = true := by
  induction xss with
  | nil => exact ⟨[], rfl, rfl, fun x hx => by cases hx⟩
  | cons c xss ih =>
    obtain ⟨zs, h1, h2, h3⟩ := ih fun c hc => h c (by simp [hc])
    obtain ⟨_, m, y, h4⟩ := h c (by simp)
    obtain ⟨n, rfl, _, h5⟩ := DataW.trod_int he h4
    refine ⟨n :: zs, by rw [List.flatten_cons, h1]; rfl, by simp [h2], fun x hx => ?_⟩
    rcases List.mem_cons.1 hx with rfl | hx
    · exact h5
    · exact h3 x hx
theorem in_tm {tk to te ts tn : TypeId} {f0 f1 f2 f3 : Field} (ht : P.underlying t = some (.struct #[f0, f1, f2, f3])) (hc : P.cellsOf t = 4) (o0 : f0.offset = 0) (o1 : f1.offset = 1) (o2 : f2.offset = 2) (o3 : f3.offset = 3)
    (t0 : f0.type = tk) (t1 : f1.type = to) (t2 : f2.type = ts) (t3 : f3.type = tn) (c0 : P.cellsOf tk = 1) (c1 : P.cellsOf to = 1) (c2 : P.cellsOf ts = 1) (c3 : P.cellsOf tn = 1) (hk : P.underlying tk = some (.int .u8)) (ho : P.underlying to = some (.slice te)) (he : P.underlying te = some (.int .i64)) (ce : P.cellsOf te = 1)
    (hs : P.underlying ts = some .string) (hn : P.underlying tn = some (.int .i64)) (h : DataW.trod enc P w 0 spare held fuel t cs = some x) :
    ∃ (k : Nat) (vo : Value) (tx : List Nat) (n : Int) (zs : List Int), cs = tmc k vo tx n ∧ k < 256 ∧ Rd (heapA w) 1 vo zs.length (ints zs) ∧ zs.length ≤ maxLen ∧ B256 tx ∧ tx.length ≤ maxLen ∧ (Lit.int .i64 n).wf = true ∧ ∀ z ∈ zs, (Lit.int .i64 z).wf = true := by
  obtain ⟨xs, m, _, _, h1, h2, h3⟩ := DataW.trod_struct ht h
  rw [hc] at h1
  match cs, h1 with
  | [a, b, c, d], _ =>
    have hx : xs.length = 4 := by simpa using h2
    have g : ∀ i (hi : i < 4), xs[i]? = some (xs[i]'(by omega)) := fun i hi => List.getElem?_eq_getElem (by omega)
    have e0 := h3 0 f0 rfl
    have e1 := h3 1 f1 rfl
    have e2 := h3 2 f2 rfl
    have e3 := h3 3 f3 rfl
    rw [o0, t0, c0, g 0 (by decide)] at e0
    rw [o1, t1, c1, g 1 (by decide)] at e1
    rw [o2, t2, c2, g 2 (by decide)] at e2
    rw [o3, t3, c3, g 3 (by decide)] at e3
    obtain ⟨n0, k0, _, w0⟩ := DataW.trod_int hk e0
    obtain ⟨q, rfl, hq⟩ := nat_of_wf rfl w0
    obtain ⟨v1, xss, k1, l1, r1, i1⟩ := in_slice ho ce (by decide) e1
    obtain ⟨zs, z1, z2, z3⟩ := ints_of he i1
    obtain ⟨s, k2, _, l2⟩ := DataW.trod_string hs e2
    obtain ⟨tx, rfl, b2, ls⟩ := ba_txt s
    obtain ⟨n3, k3, _, w3⟩ := DataW.trod_int hn e3
    simp only [List.drop, List.take, List.cons.injEq, and_true] at k0 k1 k2 k3
    subst k0 k1 k2 k3
    refine ⟨q, b, tx, n3, zs, rfl, hq, ?_, by omega, b2, by omega, w3, z3⟩
    rw [z2, show ints zs = xss.flatten from z1.symm]; exact r1
end
theorem var_heap {P : Program} {W : World} {name : String} {g : Nat} {cs : Array Value} (hg : P.globalNamed name = some g) (h : W.var? P name = some cs) : ∃ e fr, W.heap[g]? = some (.cells cs e fr) := by
  unfold World.var? at h
  rw [hg] at h
  simp only [Option.bind_some] at h
  split at h
  · rename_i c e fr hh
    cases h
    exact ⟨e, fr, hh⟩
  · cases h
def zints (ws : List Nat) : List Int := ws.map fun n : Nat => (n : Int)
theorem zints_nums (k : IntKind) (ws : List Nat) : ((zints ws).map fun z => Value.int k z).toArray = (nums k ws).toArray := by simp [zints, nums]
set_option maxRecDepth 100000 in
theorem pow_tab {W : World} {a b : String × DataW Unit} {rest : List (String × DataW Unit)} (h : laidMet Tryz.prog (a :: b :: ("internal/strconv.uint64pow10", Rows.laid_internal_strconv_uint64pow10) :: rest) W) : ∃ e fr, W.heap[4]? = some (Obj.cells (nums .u64 pow10T).toArray e fr) := by
  have h' : laidMet Tryz.prog (("internal/strconv.uint64pow10", Lib.tabData .u64 (zints pow10T)) :: rest) W := h.tail.tail
  have h1 := Lib.tabIs_of_head (g := 4) (t := 226) (e := 85) (n := 20) (by kernel_rfl) (by kernel_rfl) (by kernel_rfl) (by kernel_rfl) (by kernel_rfl) (by kernel_rfl) h'
  obtain ⟨ek, fk, h3⟩ := var_heap (g := 4) (by kernel_rfl) h1
  rw [zints_nums] at h3
  exact ⟨ek, fk, h3⟩
end Go.Proofs.YthmnlkpikgglbaaGreatDoor

/- Steps that come in. -/
set_option linter.unusedVariables false
set_option linter.unusedSimpArgs false
namespace Go.Proofs.YthmnlkpikgglbaaGreatDoor
open Go.Px Go.ChangeShapes Go.WideShapes Go.ChangeAt Go.RowKit
theorem rows_u8 {xss : List (List Value)} (h : ∀ c ∈ xss, ∃ ws : List Nat, c = nums .u8 ws ∧ ws.length = 3 ∧ ∀ x ∈ ws, x < 256) : ∃ zs : List Nat, xss.flatten = nums .u8 zs ∧ zs.length = xss.length * 3 ∧ ∀ x ∈ zs, x < 256 := by
  induction xss with
  | nil => exact ⟨[], rfl, rfl, fun x hx => by cases hx⟩
  | cons c xss ih =>
    obtain ⟨zs, h1, h2, h3⟩ := ih fun c hc => h c (by simp [hc])
    obtain ⟨ws, rfl, g2, g3⟩ := h c (by simp)
    refine ⟨ws ++ zs, by rw [List.flatten_cons, h1, nums_append], by simp [g2, h2]; omega, fun x hx => ?_⟩
    rcases List.mem_append.1 hx with hx | hx
    · exact g3 x hx
    · exact h3 x hx
set_option maxRecDepth 100000 in
theorem in_steps {H : Type} {enc : TypeId × Value → H} {w : World} {spare : Nat → Bool} {held : Bool} {r : Reach} {base : Nat} {v : Value} {d : DataW H} {p : List MemPlace} (hv : Value.okWide Tryz.prog w r base 22 v) (h : DataW.Trod enc Tryz.prog w 0 spare held 22 v d p) :
    ∃ (n : Nat) (zs : List Nat), Rd (heapA w) 3 v n (nums .u8 zs) ∧ zs.length = n * 3 ∧ (∀ x ∈ zs, x < 256) ∧ n ≤ maxLen := by
  obtain ⟨a, len, cap, rfl⟩ := okWide_slice Tryz.underlying22 hv
  obtain ⟨f, hf⟩ := h
  obtain ⟨v, xss, h1, h2, h3, h4⟩ := in_slice Tryz.underlying22 (show Tryz.prog.cellsOf 74 = 3 by kernel_rfl) (by decide) hf
  obtain ⟨zs, g1, g2, g3⟩ := rows_u8 (xss := xss) (fun c hc => by
    obtain ⟨hl, m, y, hy⟩ := h4 c hc
    match c, hl with
    | [c0, c1, c2], _ =>
      obtain ⟨m0, y0, e0⟩ := st_field Tryz.underlying74 hy 0 _ rfl (tf := 5) (o := 0) (c := 1) rfl rfl (by kernel_rfl)
      obtain ⟨m1, y1, e1⟩ := st_field Tryz.underlying74 hy 1 _ rfl (tf := 5) (o := 1) (c := 1) rfl rfl (by kernel_rfl)
      obtain ⟨m2, y2, e2⟩ := st_field Tryz.underlying74 hy 2 _ rfl (tf := 5) (o := 2) (c := 1) rfl rfl (by kernel_rfl)
      change DataW.trod enc Tryz.prog w 0 spare held _ 5 [c0] = _ at e0
      change DataW.trod enc Tryz.prog w 0 spare held _ 5 [c1] = _ at e1
      change DataW.trod enc Tryz.prog w 0 spare held _ 5 [c2] = _ at e2
      obtain ⟨z0, q0, _, w0⟩ := DataW.trod_int Tryz.underlying5 e0
      obtain ⟨z1, q1, _, w1⟩ := DataW.trod_int Tryz.underlying5 e1
      obtain ⟨z2, q2, _, w2⟩ := DataW.trod_int Tryz.underlying5 e2
      obtain ⟨n0, rfl, l0⟩ := nat_of_wf rfl w0
      obtain ⟨n1, rfl, l1⟩ := nat_of_wf rfl w1
      obtain ⟨n2, rfl, l2⟩ := nat_of_wf rfl w2
      obtain rfl : c0 = _ := (List.cons.inj q0).1
      obtain rfl : c1 = _ := (List.cons.inj q1).1
      obtain rfl : c2 = _ := (List.cons.inj q2).1
      refine ⟨[n0, n1, n2], rfl, rfl, fun x hx => ?_⟩
      simp only [List.mem_cons, List.not_mem_nil, or_false] at hx
      rcases hx with rfl | rfl | rfl
      · exact l0
      · exact l1
      · exact l2)
  obtain rfl : Value.slice a len cap = v := by simpa [Value.cells] using h1
  exact ⟨xss.length, zs, by rw [← g1]; exact h3, g2, g3, by omega⟩

end Go.Proofs.YthmnlkpikgglbaaGreatDoor
/- What the rows' lists give: the tables of packages sha and strconv. -/
set_option linter.unusedVariables false
set_option linter.unusedSimpArgs false
namespace Go.Proofs.YthmnlkpikgglbaaGreatDoor
open Go.Px
set_option maxRecDepth 100000 in
theorem glb_in {W : World} {a b : String × DataW Unit} {rest : List (String × DataW Unit)} (h : laidMet Tryz.prog (a :: b :: ("internal/strconv.uint64pow10", Rows.laid_internal_strconv_uint64pow10) :: ("pawl/sha.round", Rows.laid_pawl_sha_round) :: ("pawl/sha.first", Rows.laid_pawl_sha_first) :: rest) W) : Glb (heapA W) := by
  obtain ⟨e4, f4, h4⟩ := pow_tab h
  have h' : laidMet Tryz.prog (("pawl/sha.round", Lib.tabData .u32 (zints kTab)) :: ("pawl/sha.first", Lib.tabData .u32 (zints hFirst.list)) :: rest) W := h.tail.tail.tail
  have h1 := Lib.tabIs_of_head (g := 3) (t := 209) (e := 53) (n := 64) (by kernel_rfl) (by kernel_rfl) (by kernel_rfl) (by kernel_rfl) (by kernel_rfl) (by kernel_rfl) h'
  have h2 := Lib.tabIs_of_head (g := 0) (t := 131) (e := 53) (n := 8) (by kernel_rfl) (by kernel_rfl) (by kernel_rfl) (by kernel_rfl) (by kernel_rfl) (by kernel_rfl) h'.tail
  obtain ⟨ek, fk, h3⟩ := var_heap (g := 3) (by kernel_rfl) h1
  obtain ⟨ef, ff, h5⟩ := var_heap (g := 0) (by kernel_rfl) h2
  rw [zints_nums] at h3 h5
  exact ⟨⟨ef, ff, heapA_mem.2 h5⟩, ⟨ek, fk, heapA_mem.2 h3⟩, ⟨e4, f4, heapA_mem.2 h4⟩⟩
end Go.Proofs.YthmnlkpikgglbaaGreatDoor

/- The card of the law ClosureKnows: it returns true for every input; each argument reads behind the call as it read before; the listed package variables are tied to the program's text. No further condition. -/
namespace Go.Proofs.YthmnlkpikgglbaaGreatDoor.closureKnows
open Go.ChangeShapes Go.WideShapes Go.ChangeAt Go.RowKit
set_option linter.unusedVariables false

theorem own : ownKnob Tryz.prog.godebug = none := by kernel_rfl
theorem laidOut : laidOutB Tryz.prog = true := by kernel_rfl

noncomputable def laidWorld (os : Os) : World := World.laidAll Tryz.prog os Rows.closureKnowsRow.laid
theorem laid_met (os : Os) : laidMetH Tryz.prog Rows.closureKnowsRow.laid ((laidWorld os).forCall (fun _ _ => 0) ⟨#[], #[.slice none 0 0, .slice none 0 0], []⟩).memory := by
  rw [MakeChecks.laidMetH_plain _ _ _ (by kernel_rfl)]; exact laidMet_laidAll _ (by kernel_rfl) (by kernel_rfl)
theorem reads (os : Os) {H : Type} (enc : TypeId × Value → H) : ∃ places, DataW.whole enc Tryz.prog ((laidWorld os).forCall (fun _ _ => 0) ⟨#[], #[.slice none 0 0, .slice none 0 0], []⟩).memory Tryz.f3.params.toList Rows.closureKnowsSpec.vars false (#[.slice none 0 0, .slice none 0 0] : Array Value).toList 8 = some ([.nil, .nil], [], places) :=
  ⟨[], by kernel_rfl⟩

set_option maxRecDepth 100000 in
theorem lifted (os : Os) (started : os.Started) (H : Type) (enc : TypeId × Value → H) (F : Stop.Interp) :
    ReturnsInHanded {} Tryz.checked os 3 .any ((OpenSpec.ofChange Rows.closureKnowsSpec).preRow enc Tryz.prog Tryz.f3 Rows.closureKnowsRow.domain false Rows.closureKnowsRow.laid) (((OpenSpec.ofChange Rows.closureKnowsSpec).at F).post enc Tryz.prog Tryz.f3 false true false false) := by
  obtain ⟨places, hx⟩ := reads os enc
  refine returnsInHanded_of_row (C := Tryz.checked) (s := (OpenSpec.ofChange Rows.closureKnowsSpec)) own started (by kernel_rfl) Tryz.func3
    (witness_row_at (enc := enc) (C := Tryz.checked) false (laidWorld os) #[.slice none 0 0, .slice none 0 0] (World.laidAll_os _ _ _) (by kernel_rfl) (by kernel_rfl) (by kernel_rfl)
      (OpenSpec.preRow_of_cond 8 hx (by kernel_rfl) (fun k hk => by cases hk) (by kernel_rfl) (laid_met os))) ?_
  intro W base args ds gs before hval0 hW _ _ _ hL _ _
  have hval : ∀ (j : Nat) t v, Tryz.f3.params[j]? = some t → args[j]? = some v → Value.okWide Tryz.prog W .any base t v := hval0
  have hW' := hW
  obtain ⟨p, q, hA0, hV, rfl, hfz, hnd⟩ := hW
  have hA : DataW.TrodAll enc Tryz.prog W 0 (fun _ => true) true Tryz.f3.params.toList args.toList ds p := hA0
  rw [Tryz.params3] at hA hval
  obtain ⟨v0, vs0, d0, ds0, p0, q0, hargs, rfl, rfl, k0, r0_⟩ := trodAll_cons hA
  obtain ⟨v1, vs1, d1, ds1, p1, q1, rfl, rfl, rfl, k1, r1_⟩ := trodAll_cons r0_
  obtain ⟨rfl, rfl, rfl⟩ := trodAll_nil r1_
  obtain rfl : args = #[v0, v1] := by cases args; simp_all
  obtain ⟨rfl, rfl⟩ := trodVars_none hV
  have lt0 : ∀ x ∈ p0, x.block < W.heap.size := by obtain ⟨m, hm⟩ := k0; exact DataW.trod_lt m _ _ _ hm
  have lt1 : ∀ x ∈ p1, x.block < W.heap.size := by obtain ⟨m, hm⟩ := k1; exact DataW.trod_lt m _ _ _ hm
  obtain ⟨n0, zs0, r0, l0, z0, m0⟩ := in_steps (hval 0 22 v0 rfl rfl) k0
  obtain ⟨x1, r1, hx1, l1⟩ := Px.inSlU Tryz.underlying23 Tryz.underlying5 (by kernel_rfl) rfl (hval 1 23 v1 rfl rfl) k1
  clear hA0 hval0
  rw [MakeChecks.laidMetH_plain _ _ _ (by kernel_rfl)] at hL
  have hG := glb_in hL
  refine Calls.mono ((closureKnows_spec v0 v1 n0 zs0 x1 _ r0 l0 z0 (Nat.le_trans m0 (by decide)) r1 hx1 (Nat.le_trans l1 (by decide)) hG).calls (Px.heapA_fx W)) fun e W' ⟨he, bel⟩ => ?_
  subst he
  exact ⟨_, rfl, _, _, _, [], _, [], hW', trodAll_mk1 (shut_bool Tryz.underlying4 _), (trodAll_cons_mk (Below.trod laidOut (by kernel_rfl) (of_decide_eq_true (by kernel_rfl)) k0 bel lt0) (trodAll_cons_mk (Below.trod laidOut (by kernel_rfl) (of_decide_eq_true (by kernel_rfl)) k1 bel lt1) trodAll_mk0)), rfl, bel.frame _, fun h => by cases h⟩

theorem said : Rows.ClosureKnowsSaid :=
  OpenClaim.holds_of_cond 3 Tryz.f3 rfl rfl rfl rfl rfl rfl rfl ⟨rfl, rfl, rfl, rfl, rfl⟩ rfl rfl rfl rfl rfl (by kernel_rfl) Tryz.func3 (by kernel_rfl)
    (of_decide_eq_true (by kernel_rfl)) (by unfold Func.isWrapper; first | (rw [if_pos (by decide +kernel)]; kernel_rfl) | (rw [if_neg (by decide +kernel)]; exact ⟨rfl, rfl⟩))
    (fun os started H enc _ F => by rw [OpenClaim.pre_eq_preRow]; exact lifted os started H enc F)
theorem plain (f : FuncId) (fn : Func) (hf : Tryz.pinned.checked.prog.funcNamed "pawl/pawllaw22.ClosureKnows" = some f) (hfn : Tryz.pinned.checked.prog.funcs[f]? = some fn) :
    true = Tryz.pinned.checked.prog.looks [] ∧ ∀ (j : Nat) t, fn.params[j]? = some t → Tryz.pinned.checked.prog.wantsStandIn t = false := by
  obtain rfl : f = 3 := Option.some.inj ((show Tryz.prog.funcNamed "pawl/pawllaw22.ClosureKnows" = some 3 by kernel_rfl).symm.trans hf) |>.symm
  obtain rfl : fn = Tryz.f3 := (Option.some.inj (Tryz.func3.symm.trans hfn)).symm
  refine ⟨by kernel_rfl, fun j t ht => ?_⟩
  rw [Tryz.params3] at ht
  have hm := Array.mem_of_getElem? ht
  simp only [List.mem_toArray, List.mem_cons, List.not_mem_nil, or_false] at hm
  rcases hm with rfl | rfl
  · exact (show Tryz.prog.wantsStandIn 22 = false by kernel_rfl)
  · exact (show Tryz.prog.wantsStandIn 23 = false by kernel_rfl)

theorem proved : Rows.ClosureKnowsCardSaid :=
  Claim7.holds_tied_plain_at .later [] _ _ _ _ said (fun _ h => by cases h) (by kernel_rfl) (fun _ h => by cases h) closureKnows_row_tie rfl ⟨rfl, rfl⟩ (by kernel_rfl) rfl plain (by kernel_rfl)
#print axioms proved
end Go.Proofs.YthmnlkpikgglbaaGreatDoor.closureKnows



