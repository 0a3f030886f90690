/- The card of the law ClosureRises: it returns true for every input; each argument reads behind the call as it read before; the listed package variables are tied to the program's text. No further condition. -/
import Derived.Test.YthmnlkpikgglbaaGreatDoorB13
import Derived.Lib.LaidTab
import Derived.Stop.LaidErr
import Derived.MakeChecks
import Derived.Test.YthmnlkpikgglbaaGreatDoorCards
import Derived.Test.YthmnlkpikgglbaaGreatDoorTie
import Derived.Deep.DeepHandedRow
import Derived.Deep.DeepWitnessRowRef
import Derived.Lay
import Derived.LaidMore
set_option linter.unusedVariables false
set_option linter.unusedSimpArgs false
set_option linter.unusedVariables false
set_option linter.unusedSimpArgs false
namespace Go.Proofs.YthmnlkpikgglbaaGreatDoor
open Go.Px
def wsN (ts : List Tm) (h : List Bool) (outs : List (List Nat)) (i : Nat) : List Bool := (List.range i).map fun j => hasF ts h (outs.getD j [])
theorem wsN_succ (ts : List Tm) (h : List Bool) (outs : List (List Nat)) (i : Nat) : wsN ts h outs (i + 1) = wsN ts h outs i ++ [hasF ts h (outs.getD i [])] := by unfold wsN; rw [List.range_succ, List.map_append]; rfl
theorem wsN_len (ts : List Tm) (h : List Bool) (outs : List (List Nat)) (i : Nat) : (wsN ts h outs i).length = i := by simp [wsN]
theorem wsN_get {ts : List Tm} {h : List Bool} {outs : List (List Nat)} {i n : Nat} (hi : i < n) : (bools (wsN ts h outs n))[i]? = some (.bool (hasF ts h (outs.getD i []))) := by
  unfold bools wsN
  rw [List.getElem?_map, List.getElem?_map, List.getElem?_range hi]; rfl
theorem has_up {ts : List Tm} {h h' : List Bool} {w : List Nat} (hw : Good ts w) (hl : ts.length ≤ 1048576) (hle : Le h h') (hy : hasF ts h w = true) : hasF ts h' w = true := by
  rw [has_good hw hl] at hy ⊢
  exact hle _ hy
theorem getD_at {α : Type} {l : List α} {i : Nat} {d : α} (h : i < l.length) : l.getD i d = l[i] := by rw [List.getD_eq_getElem?_getD, List.getElem?_eq_getElem h]; rfl

set_option maxRecDepth 100000 in
theorem closureRises_spec (lv : Value) (n : Nat) (zs : List Nat) (a b : Nat) (A : Mem) (hz : Rd A 3 lv n (nums .u8 zs)) (hzl : zs.length = n * 3) (hz8 : ∀ x ∈ zs, x < 256) (hnm : n ≤ 9223372036854775807) (ha : a < 256) (hb8 : b < 256) (hG : Glb A) : FnV Tryz.prog 4 [lv, .int .u8 ((a : Nat) : Int), .int .u8 ((b : Nat) : Int)] A (.bool true) := by
  have hGG := hG
  obtain ⟨⟨ge0, gf0, h0⟩, ⟨ge1, gf1, h1⟩, ⟨ge4, gf4, h4⟩⟩ := hGG
  haveI := hz.cel
  have zlt : ∀ j, zs.getD j 0 < 256 := fun j => by
    rw [List.getD_eq_getElem?_getD]
    cases hj : zs[j]? with
    | none => decide
    | some x => exact hz8 x (List.mem_of_getElem? hj)
  refine FnX.enter (N := 116) Tryz.func4 rfl rfl rfl fun w => ?_
  refine XC.keep (kp 0 rfl (kp 1 rfl (kp 2 rfl kn))) ?_
  refine XC.reg ?_
  refine XL.q (q_assign rfl) rfl ?_
  refine XL.fin (kp 0 rfl (kp 1 rfl (kp 2 rfl kn))) ?_
  refine XC.seq ?_
  refine XC.reg ?_
  refine XL.callV a0 (by kernel_rfl) (awake22_spec _ hG.up) rfl ?_
  refine XL.q (q_not rfl) rfl ?_
  refine XL.q (q_move rfl) rfl ?_
  refine XL.gy rfl rfl (OpQ.opL (q_move rfl) rfl ?_)
  refine XL.gy rfl rfl (OpQ.opL (q_lenV2 (sz := 3) rfl (by kernel_rfl) hz) rfl ?_)
  refine XL.gy rfl rfl (OpQ.opL (q_bin rfl rfl rfl) rfl ?_)
  refine XL.q (q_pickF rfl rfl) rfl ?_
  refine XL.fin (kp 0 rfl (kp 1 rfl (kp 2 rfl (kp 20 rfl kn)))) ?_
  refine XC.cond rfl (fun hc => ?_) (fun hc => ?_)
  ·
    refine XC.reg ?_
    refine XL.callV a0 (by kernel_rfl) (awake22_spec _ hG.up) rfl ?_
    refine XL.q (q_assign rfl) rfl ?_
    refine XL.fin (kp 6 rfl kn) ?_
    refine XC.ret ?_
    refine tr ?_
    exact ⟨_, [], [], res1 rfl rfl, List.nil_sublist _, by simp, rfl, rfl, rfl⟩
  ·
    have hn25 : n ≤ 25 := by simp at hc; omega
    refine XC.skip ?_
    refine nx (kp 0 rfl (kp 1 rfl (kp 2 rfl kn))) ?_
    refine XC.reg ?_
    refine XL.call a0 (by kernel_rfl) (open22_spec _) rfl ?_
    rintro v22 M22 J22 ⟨pb, rfl, hP22⟩
    refine XL.q (q_assign rfl) rfl ?_
    refine XL.fin (kp 0 rfl (kp 1 rfl (kp 2 rfl (kp 7 rfl kn)))) ?_
    refine XC.reg ?_
    refine XL.q (q_move rfl) rfl ?_
    refine XL.q (q_move rfl) rfl ?_
    refine XL.lo rfl (l_call (Mc := M22) (R := _) (aS rfl (aS rfl a0)) (by kernel_rfl) PickC.perm (build_spec pb n lv zs M22 _ hP22 (hz.mono SubC.sub) hzl hz8 (by omega) hG.up) rfl ?_)
    rintro v25 M25 J25 ⟨hP25, hl25⟩
    obtain ⟨vs, hor, hlv⟩ := hl25.ex
    obtain ⟨hk1, hk2, hk3, hk4, hk5⟩ := bok zs n
    obtain ⟨bwf, btk, bgd⟩ := bAt_bw zlt n (by omega)
    obtain ⟨sv, bt, bm, B, MT, rfl, hby, hT⟩ := hP25.ex
    rw [show md (bAt zs n).1.real = 1 by rw [hk1]; rfl] at *
    haveI := hor.cel
    generalize hts : (bAt zs n).1.ts = ts at *
    generalize hou : (bAt zs n).2 = outs at *
    obtain ⟨va, hva, hba⟩ := pick_at hlv a (by omega)
    obtain ⟨vb, hvb, hbb⟩ := pick_at hlv b (by omega)
    haveI := hba.cel
    haveI := hbb.cel
    have ga := bgd _ (pick_mem a (show 0 < outs.length by omega))
    have gb := bgd _ (pick_mem b (show 0 < outs.length by omega))
    refine XL.q (q_assign rfl) rfl ?_
    refine XL.fin (kp 1 rfl (kp 2 rfl (kp 7 rfl (kp 8 rfl kn)))) ?_
    refine XC.reg ?_
    refine XL.q (q_move rfl) rfl ?_
    refine XL.callV (aS rfl a0) (by kernel_rfl) (ptable_spec pb bt _ sv _ At.mem) rfl ?_
    refine XL.call (aS rfl a0) (by kernel_rfl) (knew_spec bt _) rfl ?_
    rintro v28 M28 J28 ⟨kb, rfl, hK28⟩
    refine XL.q (q_assign rfl) rfl ?_
    refine XL.fin (kp 1 rfl (kp 2 rfl (kp 8 rfl (kp 9 rfl kn)))) ?_
    refine XC.reg ?_
    refine XL.q (q_move rfl) rfl ?_
    refine XL.lo rfl (l_call (Mc := M28) (R := _) (aS rfl a0) (by kernel_rfl) PickC.perm (close_spec kb bt bm ts [] M28 _ hK28 (hT.tbr SubC.sub) (Nat.zero_le _) (by omega) (SubC.sub _ h4)) rfl ?_)
    rintro v30 M30 J30 ⟨h30, hc30, hK30⟩
    have he30 : h30 = List.replicate ts.length false := (Clo.eq (Nat.zero_le _) hc30).trans (clo_none bwf)
    subst he30
    refine XL.fin (kp 1 rfl (kp 2 rfl (kp 8 rfl (kp 9 rfl kn)))) ?_
    refine XC.reg ?_
    refine XL.q (q_move rfl) rfl ?_
    refine XL.call (aS rfl a0) (by kernel_rfl) (keys_spec kb bt bm ts (List.replicate ts.length false) _ (hK30.rd SubC.sub) (hT.tbr SubC.sub) (by simp) (by omega)) rfl ?_
    rintro v32 M32 J32 ⟨rfl, hl32⟩
    rw [keys_none] at hl32
    obtain ⟨vs32, hr32, hls32⟩ := hl32.ex
    haveI := hr32.cel
    refine XL.q (q_lenV2 (n := 0) (sz := 1) rfl (by kernel_rfl) hr32) rfl ?_
    refine XL.q (q_assign rfl) rfl ?_
    refine XL.fin (kp 1 rfl (kp 2 rfl (kp 8 rfl (kp 9 rfl (kp 10 rfl kn))))) ?_
    refine XC.reg ?_
    refine XL.q (q_move rfl) rfl ?_
    refine XL.q (q_move rfl) rfl ?_
    refine XL.q (q_move rfl) rfl ?_
    refine XL.q (q_convN a rfl (by kernel_rfl) (wrapI (by omega))) rfl ?_
    refine XL.q (q_move rfl) rfl ?_
    refine XL.q (q_lenV2 (sz := 1) rfl (by kernel_rfl) hor) rfl ?_
    refine XL.q (q_remI (a := a) (b := outs.length) rfl rfl rfl rfl (by omega)) rfl ?_
    refine XL.q (q_atV2 (sz := 1) (a := a % outs.length) rfl rfl (by kernel_rfl) rfl hor (Nat.mod_lt _ (by omega))) rfl ?_
    refine XL.q (q_ldV (j := a % outs.length) (u := va) (hor.mono SubC.sub) rfl (by kernel_rfl) hva) rfl ?_
    refine XL.lo rfl (l_buildSlice (e := 23) (sz := 1) (z := [.slice none 0 0]) (by kernel_rfl) (eS rfl e0) (bdS 0 1 rfl (by rfl) bd0) rfl fun b43 => ?_)
    refine XL.lo rfl (l_call (Mc := M30 ++ MT) (R := _) (aS rfl (aS rfl a0)) (by kernel_rfl) PickC.perm (learn1_spec kb bt bm (ts, List.replicate ts.length false) _ (pick outs a) M30 MT _ hK30 hT ⟨_, Rd.whole (n := 1) At.mem (by rfl), Lst.cons (hba.mono SubC.sub) Lst.nil⟩ (by simp) (by dsimp only; omega) (SubC.sub _ h4)) rfl ?_)
    rintro v44 M44 J44 ⟨MK44, MT44, rfl, hK44, hT44⟩
    have hkn44 := lrn_knows ga (show ts.length ≤ 1048576 by omega) (h := List.replicate ts.length false) (by first | omega | simp)
    rw [lrn_good ga (show ts.length ≤ 1048576 by omega)] at hK44 hT44 hkn44
    dsimp only at hK44 hT44 hkn44
    have hgl1 := (cloF_clo (ts := ts) (h := (padB (List.replicate ts.length false) ts.length).set (rdI ts (pick outs a)) true) (by rw [List.length_set, padB_len (by first | omega | simp)]; exact Nat.le_refl _)).len
    generalize cloF ts ((padB (List.replicate ts.length false) ts.length).set (rdI ts (pick outs a)) true) = g1 at *
    obtain ⟨hka1, hle1⟩ := hkn44
    refine XL.fin (kp 1 rfl (kp 2 rfl (kp 8 rfl (kp 9 rfl (kp 10 rfl kn))))) ?_
    refine XC.reg ?_
    refine XL.q (q_assign rfl) rfl ?_
    refine XL.fin (kp 1 rfl (kp 2 rfl (kp 8 rfl (kp 9 rfl (kp 10 rfl (kp 11 rfl kn)))))) ?_
    refine XC.seq ?_
    refine XC.reg ?_
    refine XL.q (q_assign rfl) rfl ?_
    refine XL.fin (kp 1 rfl (kp 2 rfl (kp 8 rfl (kp 9 rfl (kp 10 rfl (kp 11 rfl (kp 12 rfl kn))))))) ?_
    refine XC.block ?_
    refine XC.loop (α := Nat × Value × Mem) (fun x => [(1, .int .u8 ((a : Nat) : Int)), (2, .int .u8 ((b : Nat) : Int)), (8, v25), (9, .pointer (some ⟨kb, 0, none⟩)), (10, .int .i64 0), (11, x.2.1), (12, .int .i64 ((x.1 : Nat) : Int))]) (fun x => x.2.2 ++ (MK44 ++ MT44)) (fun _ => J25) (fun x => x.1 ≤ outs.length ∧ Sl 1 x.2.1 x.1 (bools (wsN ts g1 outs x.1)) x.2.2) (fun x => outs.length - x.1) ⟨0, .slice none 0 0, []⟩ ⟨Nat.zero_le _, Sl.nil⟩ (kp 1 rfl (kp 2 rfl (kp 8 rfl (kp 9 rfl (kp 10 rfl (kp 11 rfl (kp 12 rfl kn))))))) (Fit.none (Fit.pick PickC.perm (Fit.last PickC.perm))) (fun x hx => SubC.sub x hx) ?_
    rintro ⟨i, v11, B11⟩ ⟨hi, hs11⟩
    dsimp only at hi hs11 ⊢
    haveI := hs11.cel
    refine XC.seq ?_
    refine XC.reg ?_
    refine XL.q (q_move rfl) rfl ?_
    refine XL.q (q_move rfl) rfl ?_
    refine XL.q (q_lenV2 (sz := 1) rfl (by kernel_rfl) hor) rfl ?_
    refine XL.q (q_bin rfl rfl rfl) rfl ?_
    refine XL.fin (kp 1 rfl (kp 2 rfl (kp 8 rfl (kp 9 rfl (kp 10 rfl (kp 11 rfl (kp 12 rfl (kp 48 rfl kn)))))))) ?_
    refine XC.cond rfl (fun hc => ?_) (fun hc => ?_)
    ·
      have hlt : i < outs.length := by simp at hc; omega
      obtain ⟨vi, hvi, hvib⟩ := hlv.at hlt
      haveI := hvib.cel
      rw [← getD_at (d := []) hlt] at hvib
      refine XC.skip ?_
      refine nx (kp 1 rfl (kp 2 rfl (kp 8 rfl (kp 9 rfl (kp 10 rfl (kp 11 rfl (kp 12 rfl kn))))))) ?_
      refine XC.seq ?_
      refine XC.block ?_
      refine XC.reg1 ?_
      refine XL.q (q_move rfl) rfl ?_
      refine XL.q (q_move rfl) rfl ?_
      refine XL.q (q_move rfl) rfl ?_
      refine XL.q (q_move rfl) rfl ?_
      refine XL.q (q_atV2 (sz := 1) rfl rfl (by kernel_rfl) rfl hor hlt) rfl ?_
      refine XL.q (q_ldV (j := i) (u := vi) (hor.mono SubC.sub) rfl (by kernel_rfl) hvi) rfl ?_
      refine XL.callV (aS rfl (aS rfl a0)) (by kernel_rfl) (has_spec kb bt bm ts g1 vi (outs.getD i []) _ (hK44.rd SubC.sub) (hT44.tbr SubC.sub) (by omega) (hvib.mono SubC.sub)) rfl ?_
      refine XL.lo rfl (l_buildSlice (e := 4) (sz := 1) (z := [.bool false]) (by kernel_rfl) (eS rfl e0) (bdS 0 1 rfl (by rfl) bd0) rfl fun b58 => ?_)
      refine XL.lo rfl (l_append2 (e := 4) (sz := 1) (by_ := 1) rfl rfl (by kernel_rfl) rfl hs11 (Rd.whole (n := 1) At.mem (by rfl)) (by intro c hc; rw [List.mem_singleton.1 hc]; rfl) PickC.perm (by unfold maxLen; omega) (by omega) rfl fun v59 B59 hs59 => ?_)
      refine XL.q (q_assign rfl) rfl ?_
      refine XL.nil ?_
      refine nb ?_
      refine nx (kp 1 rfl (kp 2 rfl (kp 8 rfl (kp 9 rfl (kp 10 rfl (kp 11 rfl (kp 12 rfl kn))))))) ?_
      refine XC.reg1 ?_
      refine XL.q (q_move rfl) rfl ?_
      refine XL.q (q_addI (b := 1) rfl rfl rfl rfl (by omega)) rfl ?_
      refine XL.q (q_assign rfl) rfl ?_
      refine XL.nil ?_
      exact rn ⟨i + 1, v59, B59⟩ ⟨by dsimp only; omega, by dsimp only; rw [wsN_succ, bools_app]; exact hs59⟩ (by dsimp only; omega) (kp 1 rfl (kp 2 rfl (kp 8 rfl (kp 9 rfl (kp 10 rfl (kp 11 rfl (kp 12 rfl kn))))))) (Fit.pick PickC.perm (Fit.pick PickC.perm (Fit.last PickC.perm))) (fun x hx => SubC.sub x hx)
    ·
      have hge : i = outs.length := by simp at hc; omega
      subst hge
      refine XC.exit ?_
      refine te ?_
      refine re ?_
      refine be rfl ?_
      refine nx (kp 1 rfl (kp 2 rfl (kp 8 rfl (kp 9 rfl (kp 10 rfl (kp 11 rfl kn)))))) ?_
      refine XC.reg ?_
      refine XL.q (q_move rfl) rfl ?_
      refine XL.q (q_move rfl) rfl ?_
      refine XL.q (q_move rfl) rfl ?_
      refine XL.q (q_convN b rfl (by kernel_rfl) (wrapI (by omega))) rfl ?_
      refine XL.q (q_move rfl) rfl ?_
      refine XL.q (q_lenV2 (sz := 1) rfl (by kernel_rfl) hor) rfl ?_
      refine XL.q (q_remI (a := b) (b := outs.length) rfl rfl rfl rfl (by omega)) rfl ?_
      refine XL.q (q_atV2 (sz := 1) (a := b % outs.length) rfl rfl (by kernel_rfl) rfl hor (Nat.mod_lt _ (by omega))) rfl ?_
      refine XL.q (q_ldV (j := b % outs.length) (u := vb) (hor.mono SubC.sub) rfl (by kernel_rfl) hvb) rfl ?_
      refine XL.lo rfl (l_buildSlice (e := 23) (sz := 1) (z := [.slice none 0 0]) (by kernel_rfl) (eS rfl e0) (bdS 0 1 rfl (by rfl) bd0) rfl fun b69 => ?_)
      refine XL.lo rfl (l_call (Mc := MK44 ++ MT44) (R := _) (aS rfl (aS rfl a0)) (by kernel_rfl) PickC.perm (learn1_spec kb bt bm (ts, g1) _ (pick outs b) MK44 MT44 _ hK44 hT44 ⟨_, Rd.whole (n := 1) At.mem (by rfl), Lst.cons (hbb.mono SubC.sub) Lst.nil⟩ (by dsimp only; omega) (by dsimp only; omega) (SubC.sub _ h4)) rfl ?_)
      rintro v70 M70 J70 ⟨MK70, MT70, rfl, hK70, hT70⟩
      have hkn70 := lrn_knows gb (show ts.length ≤ 1048576 by omega) (h := g1) (by first | omega | simp)
      rw [lrn_good gb (show ts.length ≤ 1048576 by omega)] at hK70 hT70 hkn70
      dsimp only at hK70 hT70 hkn70
      have hgl2 := (cloF_clo (ts := ts) (h := (padB g1 ts.length).set (rdI ts (pick outs b)) true) (by rw [List.length_set, padB_len (by first | omega | simp)]; exact Nat.le_refl _)).len
      generalize cloF ts ((padB g1 ts.length).set (rdI ts (pick outs b)) true) = g2 at *
      obtain ⟨hka2, hle2⟩ := hkn70
      refine XL.fin (kp 1 rfl (kp 2 rfl (kp 8 rfl (kp 9 rfl (kp 10 rfl (kp 11 rfl kn)))))) ?_
      refine XC.seq ?_
      refine XC.reg ?_
      refine XL.q (q_assign rfl) rfl ?_
      refine XL.fin (kp 1 rfl (kp 2 rfl (kp 8 rfl (kp 9 rfl (kp 10 rfl (kp 11 rfl (kp 13 rfl kn))))))) ?_
      refine XC.block ?_
      refine XC.loop (α := Nat) (fun x => [(1, .int .u8 ((a : Nat) : Int)), (2, .int .u8 ((b : Nat) : Int)), (8, v25), (9, .pointer (some ⟨kb, 0, none⟩)), (10, .int .i64 0), (11, v11), (13, .int .i64 ((x : Nat) : Int))]) (fun x => B11 ++ (MK70 ++ MT70)) (fun _ => J25) (fun x => x ≤ outs.length) (fun x => outs.length - x) 0 (Nat.zero_le _) (kp 1 rfl (kp 2 rfl (kp 8 rfl (kp 9 rfl (kp 10 rfl (kp 11 rfl (kp 13 rfl kn))))))) (Fit.pick PickC.perm (Fit.pick PickC.perm (Fit.last PickC.perm))) (fun x hx => SubC.sub x hx) ?_
      rintro i hi
      refine XC.seq ?_
      refine XC.reg ?_
      refine XL.q (q_move rfl) rfl ?_
      refine XL.q (q_move rfl) rfl ?_
      refine XL.q (q_lenV2 (sz := 1) rfl (by kernel_rfl) hor) rfl ?_
      refine XL.q (q_bin rfl rfl rfl) rfl ?_
      refine XL.fin (kp 1 rfl (kp 2 rfl (kp 8 rfl (kp 9 rfl (kp 10 rfl (kp 11 rfl (kp 13 rfl (kp 74 rfl kn)))))))) ?_
      refine XC.cond rfl (fun hc => ?_) (fun hc => ?_)
      ·
        have hlt : i < outs.length := by simp at hc; omega
        obtain ⟨vi, hvi, hvib⟩ := hlv.at hlt
        haveI := hvib.cel
        rw [← getD_at (d := []) hlt] at hvib
        have hgi : Good ts (outs.getD i []) := bgd _ (by rw [getD_at hlt]; exact List.getElem_mem _)
        refine XC.skip ?_
        refine nx (kp 1 rfl (kp 2 rfl (kp 8 rfl (kp 9 rfl (kp 10 rfl (kp 11 rfl (kp 13 rfl kn))))))) ?_
        refine XC.seq ?_
        refine XC.block ?_
        refine XC.reg ?_
        refine XL.q (q_move rfl) rfl ?_
        refine XL.q (q_move rfl) rfl ?_
        refine XL.q (q_atV2 (sz := 1) rfl rfl (by kernel_rfl) rfl (hs11.rd (R := B11) fun _ h => h) hlt) rfl ?_
        refine XL.q (q_ldV (j := i) (u := .bool (hasF ts g1 (outs.getD i []))) (hs11.rd SubC.sub) rfl (by kernel_rfl) (wsN_get hlt)) rfl ?_
        refine XL.q (q_move rfl) rfl ?_
        refine XL.split (t := 81) rfl (fun hb => ?_) (fun hb => ?_)
        ·
          have hW := has_up hgi (show ts.length ≤ 1048576 by omega) hle2 hb
          refine XL.gy rfl rfl (OpQ.opL (q_move rfl) rfl ?_)
          refine XL.gy rfl rfl (OpQ.opL (q_move rfl) rfl ?_)
          refine XL.gy rfl rfl (OpQ.opL (q_move rfl) rfl ?_)
          refine XL.gy rfl rfl (OpQ.opL (q_atV2 (sz := 1) rfl rfl (by kernel_rfl) rfl hor hlt) rfl ?_)
          refine XL.gy rfl rfl (OpQ.opL (q_ldV (j := i) (u := vi) (hor.mono SubC.sub) rfl (by kernel_rfl) hvi) rfl ?_)
          refine XL.callVg rfl rfl (aS rfl (aS rfl a0)) (by kernel_rfl) (has_spec kb bt bm ts g2 vi (outs.getD i []) _ (hK70.rd SubC.sub) (hT70.tbr SubC.sub) (by omega) (hvib.mono SubC.sub)) rfl ?_
          rw [hW]
          refine XL.gy rfl rfl (OpQ.opL (q_not rfl) rfl ?_)
          refine XL.q (q_pickT rfl rfl) rfl ?_
          refine XL.fin (kp 1 rfl (kp 2 rfl (kp 8 rfl (kp 9 rfl (kp 10 rfl (kp 11 rfl (kp 13 rfl (kp 89 rfl kn)))))))) ?_
          refine XC.condF rfl ?_
          refine XC.skip ?_
          refine nb ?_
          refine nx (kp 1 rfl (kp 2 rfl (kp 8 rfl (kp 9 rfl (kp 10 rfl (kp 11 rfl (kp 13 rfl kn))))))) ?_
          refine XC.reg1 ?_
          refine XL.q (q_move rfl) rfl ?_
          refine XL.q (q_addI (b := 1) rfl rfl rfl rfl (by omega)) rfl ?_
          refine XL.q (q_assign rfl) rfl ?_
          refine XL.nil ?_
          exact rn (i + 1) (by omega) (by omega) (kp 1 rfl (kp 2 rfl (kp 8 rfl (kp 9 rfl (kp 10 rfl (kp 11 rfl (kp 13 rfl kn))))))) (Fit.pick PickC.perm (Fit.pick PickC.perm (Fit.last PickC.perm))) (fun x hx => SubC.sub x hx)
        ·
          refine XL.gn rfl rfl rfl rfl ?_
          refine XL.gn rfl rfl rfl rfl ?_
          refine XL.gn rfl rfl rfl rfl ?_
          refine XL.gn rfl rfl rfl rfl ?_
          refine XL.gn rfl rfl rfl rfl ?_
          refine XL.gn rfl rfl rfl rfl ?_
          refine XL.gn rfl rfl rfl rfl ?_
          refine XL.q (q_pickF rfl rfl) rfl ?_
          refine XL.fin (kp 1 rfl (kp 2 rfl (kp 8 rfl (kp 9 rfl (kp 10 rfl (kp 11 rfl (kp 13 rfl (kp 89 rfl kn)))))))) ?_
          refine XC.condF rfl ?_
          refine XC.skip ?_
          refine nb ?_
          refine nx (kp 1 rfl (kp 2 rfl (kp 8 rfl (kp 9 rfl (kp 10 rfl (kp 11 rfl (kp 13 rfl kn))))))) ?_
          refine XC.reg1 ?_
          refine XL.q (q_move rfl) rfl ?_
          refine XL.q (q_addI (b := 1) rfl rfl rfl rfl (by omega)) rfl ?_
          refine XL.q (q_assign rfl) rfl ?_
          refine XL.nil ?_
          exact rn (i + 1) (by omega) (by omega) (kp 1 rfl (kp 2 rfl (kp 8 rfl (kp 9 rfl (kp 10 rfl (kp 11 rfl (kp 13 rfl kn))))))) (Fit.pick PickC.perm (Fit.pick PickC.perm (Fit.last PickC.perm))) (fun x hx => SubC.sub x hx)
      ·
        refine XC.exit ?_
        refine te ?_
        refine re ?_
        refine be rfl ?_
        refine nx (kp 1 rfl (kp 2 rfl (kp 8 rfl (kp 9 rfl (kp 10 rfl kn))))) ?_
        refine XC.reg ?_
        refine XL.q (q_move rfl) rfl ?_
        refine XL.q (q_cmp true rfl rfl (eqT rfl)) rfl ?_
        refine XL.q (q_move rfl) rfl ?_
        refine XL.gy rfl rfl (OpQ.opL (q_move rfl) rfl ?_)
        refine XL.gy rfl rfl (OpQ.opL (q_move rfl) rfl ?_)
        refine XL.gy rfl rfl (OpQ.opL (q_move rfl) rfl ?_)
        refine XL.gy rfl rfl (OpQ.opL (q_convN a rfl (by kernel_rfl) (wrapI (by omega))) rfl ?_)
        refine XL.gy rfl rfl (OpQ.opL (q_move rfl) rfl ?_)
        refine XL.gy rfl rfl (OpQ.opL (q_lenV2 (sz := 1) rfl (by kernel_rfl) hor) rfl ?_)
        refine XL.gy rfl rfl (OpQ.opL (q_remI (a := a) (b := outs.length) rfl rfl rfl rfl (by omega)) rfl ?_)
        refine XL.gy rfl rfl (OpQ.opL (q_atV2 (sz := 1) (a := a % outs.length) rfl rfl (by kernel_rfl) rfl hor (Nat.mod_lt _ (by omega))) rfl ?_)
        refine XL.gy rfl rfl (OpQ.opL (q_ldV (j := a % outs.length) (u := va) (hor.mono SubC.sub) rfl (by kernel_rfl) hva) rfl ?_)
        refine XL.callVg rfl rfl (aS rfl (aS rfl a0)) (by kernel_rfl) (has_spec kb bt bm ts g2 va (pick outs a) _ (hK70.rd SubC.sub) (hT70.tbr SubC.sub) (by omega) (hba.mono SubC.sub)) rfl ?_
        rw [show hasF ts g2 (pick outs a) = true by rw [has_good ga (by omega)]; exact hle2 _ hka1]
        refine XL.q (q_pickT rfl rfl) rfl ?_
        refine XL.q (q_move rfl) rfl ?_
        refine XL.gy rfl rfl (OpQ.opL (q_move rfl) rfl ?_)
        refine XL.gy rfl rfl (OpQ.opL (q_move rfl) rfl ?_)
        refine XL.gy rfl rfl (OpQ.opL (q_move rfl) rfl ?_)
        refine XL.gy rfl rfl (OpQ.opL (q_convN b rfl (by kernel_rfl) (wrapI (by omega))) rfl ?_)
        refine XL.gy rfl rfl (OpQ.opL (q_move rfl) rfl ?_)
        refine XL.gy rfl rfl (OpQ.opL (q_lenV2 (sz := 1) rfl (by kernel_rfl) hor) rfl ?_)
        refine XL.gy rfl rfl (OpQ.opL (q_remI (a := b) (b := outs.length) rfl rfl rfl rfl (by omega)) rfl ?_)
        refine XL.gy rfl rfl (OpQ.opL (q_atV2 (sz := 1) (a := b % outs.length) rfl rfl (by kernel_rfl) rfl hor (Nat.mod_lt _ (by omega))) rfl ?_)
        refine XL.gy rfl rfl (OpQ.opL (q_ldV (j := b % outs.length) (u := vb) (hor.mono SubC.sub) rfl (by kernel_rfl) hvb) rfl ?_)
        refine XL.callVg rfl rfl (aS rfl (aS rfl a0)) (by kernel_rfl) (has_spec kb bt bm ts g2 vb (pick outs b) _ (hK70.rd SubC.sub) (hT70.tbr SubC.sub) (by omega) (hbb.mono SubC.sub)) rfl ?_
        rw [show hasF ts g2 (pick outs b) = true by rw [has_good gb (by omega)]; exact hka2]
        refine XL.q (q_pickT rfl rfl) rfl ?_
        refine XL.q (q_assign rfl) rfl ?_
        refine XL.fin (kp 6 rfl kn) ?_
        refine XC.ret ?_
        exact ⟨_, [], [], res1 rfl rfl, List.nil_sublist _, by simp, rfl, rfl, rfl⟩

end Go.Proofs.YthmnlkpikgglbaaGreatDoor
/-
  Structs that came in, opened to their leaves; slices of bytes of any length.
-/
set_option linter.unusedVariables false
namespace Go.Px
open Go.ChangeShapes Go.WideShapes Go.ChangeAt Go.RowKit
/-- A slice of bytes of any length that a slice bears. -/
structure Byi (R : Mem) (v : Value) (w : List Nat) : Prop where
  rd : Rd R 1 v w.length (nums .u8 w)
  lt : ∀ x ∈ w, x < 256
  len : w.length ≤ maxLen
theorem Byi.mono {R R' : Mem} {v : Value} {w : List Nat} (h : Byi R v w) (hR : ∀ x, x ∈ R → x ∈ R') : Byi R' v w := ⟨h.rd.mono hR, h.lt, h.len⟩
theorem By.i {R : Mem} {v : Value} {w : List Nat} (h : By R v w) : Byi R v w := ⟨h.rd, h.lt, h.max⟩
theorem Byi.by {R : Mem} {v : Value} {w : List Nat} (h : Byi R v w) (hl : w.length ≤ 16777216) : By R v w := ⟨h.rd, h.lt, hl⟩
theorem Byi.cel {R : Mem} {v : Value} {w : List Nat} (h : Byi R v w) : Cel v [v] := h.rd.cel
theorem Byi.one {R : Mem} {v : Value} {w : List Nat} (h : Byi R v w) : v.oneCell' = true := h.rd.one
section
variable {H : Type} {enc : TypeId × Value → H} {P : Program} {w : World} {spare : Nat → Bool} {held : Bool} {fuel : Nat} {t e : TypeId} {cs : List Value} {x : DataW H × List MemPlace}
theorem st_field {fs : Array Field} {tf : TypeId} {o c : Nat} (ht : P.underlying t = some (.struct fs)) (h : DataW.trod enc P w 0 spare held fuel t cs = some x) (i : Nat) (f : Field) (hf : fs[i]? = some f) (hty : f.type = tf) (ho : f.offset = o) (hc : P.cellsOf tf = c) :
    ∃ m y, DataW.trod enc P w 0 spare held m tf ((cs.drop o).take c) = some y := by
  obtain ⟨xs, m, _, _, h1, h2, h3⟩ := DataW.trod_struct ht h
  have e0 := h3 i f hf
  have hi : i < fs.size := (Array.getElem?_eq_some_iff.1 hf).1
  rw [hty, ho, hc, List.getElem?_eq_getElem (by omega)] at e0
  exact ⟨m, _, e0⟩
theorem in_bytes (ht : P.underlying t = some (.slice e)) (he : P.underlying e = some (.int .u8)) (hc : P.cellsOf e = 1) (h : DataW.trod enc P w 0 spare held fuel t cs = some x) :
    ∃ v ws, cs = [v] ∧ Byi (heapA w) v ws := by
  obtain ⟨v, xss, h1, h2, h3, h4⟩ := in_slice ht hc (by decide) h
  obtain ⟨ws, h5, h6, h7⟩ := uints_of (k := .u8) rfl he h4
  exact ⟨v, ws, h1, by rw [h6, ← h5]; exact h3, h7, by omega⟩
end
end Go.Px

/- Terms that came in; what the rows' lists give. -/
set_option linter.unusedVariables false
set_option linter.unusedSimpArgs false
namespace Go.Proofs.YthmnlkpikgglbaaGreatDoor
open Go.Px Go.ChangeShapes Go.WideShapes Go.ChangeAt Go.RowKit
section
variable {H : Type} {enc : TypeId × Value → H} {P : Program} {w : World} {spare : Nat → Bool} {held : Bool} {fuel : Nat} {t e : TypeId} {cs : List Value} {x : DataW H × List MemPlace} {v : Value} {d : DataW H} {p : List MemPlace} {r : Reach} {base : Nat} {k : IntKind}
theorem ba_txt (s : ByteArray) : ∃ ws : List Nat, s = txt ws ∧ B256 ws ∧ ws.length = s.size := by
  refine ⟨s.data.toList.map UInt8.toNat, ?_, ⟨fun x hx => ?_⟩, by rw [List.length_map, Array.length_toList]; rfl⟩
  · apply ByteArray.ext
    have e : (UInt8.ofNat ∘ UInt8.toNat) = id := by funext c; simp
    simp [txt, e]
  · obtain ⟨c, _, rfl⟩ := List.mem_map.1 hx
    exact c.toNat_lt
theorem ints_of (he : P.underlying e = some (.int k)) {xss : List (List Value)} (h : ∀ c ∈ xss, c.length = 1 ∧ ∃ m y, DataW.trod enc P w 0 spare held m e c = some y) :
    ∃ zs : List Int, xss.flatten = zs.map (.int k) ∧ zs.length = xss.length ∧ ∀ z ∈ zs, (Lit.int k z).wf = true := by
  induction xss with
  | nil => exact ⟨[], rfl, rfl, fun x hx => by cases hx⟩
  | cons c xss ih =>
    obtain ⟨zs, h1, h2, h3⟩ := ih fun c hc => h c (by simp [hc])
    obtain ⟨_, m, y, h4⟩ := h c (by simp)
    obtain ⟨n, rfl, _, h5⟩ := DataW.trod_int he h4
    refine ⟨n :: zs, by rw [List.flatten_cons, h1]; rfl, by simp [h2], fun x hx => ?_⟩
    rcases List.mem_cons.1 hx with rfl | hx
    · exact h5
    · exact h3 x hx
theorem in_tm {tk to te ts tn : TypeId} {f0 f1 f2 f3 : Field} (ht : P.underlying t = some (.struct #[f0, f1, f2, f3])) (hc : P.cellsOf t = 4) (o0 : f0.offset = 0) (o1 : f1.offset = 1) (o2 : f2.offset = 2) (o3 : f3.offset = 3)
    (t0 : f0.type = tk) (t1 : f1.type = to) (t2 : f2.type = ts) (t3 : f3.type = tn) (c0 : P.cellsOf tk = 1) (c1 : P.cellsOf to = 1) (c2 : P.cellsOf ts = 1) (c3 : P.cellsOf tn = 1) (hk : P.underlying tk = some (.int .u8)) (ho : P.underlying to = some (.slice te)) (he : P.underlying te = some (.int .i64)) (ce : P.cellsOf te = 1)
    (hs : P.underlying ts = some .string) (hn : P.underlying tn = some (.int .i64)) (h : DataW.trod enc P w 0 spare held fuel t cs = some x) :
    ∃ (k : Nat) (vo : Value) (tx : List Nat) (n : Int) (zs : List Int), cs = tmc k vo tx n ∧ k < 256 ∧ Rd (heapA w) 1 vo zs.length (ints zs) ∧ zs.length ≤ maxLen ∧ B256 tx ∧ tx.length ≤ maxLen ∧ (Lit.int .i64 n).wf = true ∧ ∀ z ∈ zs, (Lit.int .i64 z).wf = true := by
  obtain ⟨xs, m, _, _, h1, h2, h3⟩ := DataW.trod_struct ht h
  rw [hc] at h1
  match cs, h1 with
  | [a, b, c, d], _ =>
    have hx : xs.length = 4 := by simpa using h2
    have g : ∀ i (hi : i < 4), xs[i]? = some (xs[i]'(by omega)) := fun i hi => List.getElem?_eq_getElem (by omega)
    have e0 := h3 0 f0 rfl
    have e1 := h3 1 f1 rfl
    have e2 := h3 2 f2 rfl
    have e3 := h3 3 f3 rfl
    rw [o0, t0, c0, g 0 (by decide)] at e0
    rw [o1, t1, c1, g 1 (by decide)] at e1
    rw [o2, t2, c2, g 2 (by decide)] at e2
    rw [o3, t3, c3, g 3 (by decide)] at e3
    obtain ⟨n0, k0, _, w0⟩ := DataW.trod_int hk e0
    obtain ⟨q, rfl, hq⟩ := nat_of_wf rfl w0
    obtain ⟨v1, xss, k1, l1, r1, i1⟩ := in_slice ho ce (by decide) e1
    obtain ⟨zs, z1, z2, z3⟩ := ints_of he i1
    obtain ⟨s, k2, _, l2⟩ := DataW.trod_string hs e2
    obtain ⟨tx, rfl, b2, ls⟩ := ba_txt s
    obtain ⟨n3, k3, _, w3⟩ := DataW.trod_int hn e3
    simp only [List.drop, List.take, List.cons.injEq, and_true] at k0 k1 k2 k3
    subst k0 k1 k2 k3
    refine ⟨q, b, tx, n3, zs, rfl, hq, ?_, by omega, b2, by omega, w3, z3⟩
    rw [z2, show ints zs = xss.flatten from z1.symm]; exact r1
end
theorem var_heap {P : Program} {W : World} {name : String} {g : Nat} {cs : Array Value} (hg : P.globalNamed name = some g) (h : W.var? P name = some cs) : ∃ e fr, W.heap[g]? = some (.cells cs e fr) := by
  unfold World.var? at h
  rw [hg] at h
  simp only [Option.bind_some] at h
  split at h
  · rename_i c e fr hh
    cases h
    exact ⟨e, fr, hh⟩
  · cases h
def zints (ws : List Nat) : List Int := ws.map fun n : Nat => (n : Int)
theorem zints_nums (k : IntKind) (ws : List Nat) : ((zints ws).map fun z => Value.int k z).toArray = (nums k ws).toArray := by simp [zints, nums]
set_option maxRecDepth 100000 in
theorem pow_tab {W : World} {a b : String × DataW Unit} {rest : List (String × DataW Unit)} (h : laidMet Tryz.prog (a :: b :: ("internal/strconv.uint64pow10", Rows.laid_internal_strconv_uint64pow10) :: rest) W) : ∃ e fr, W.heap[4]? = some (Obj.cells (nums .u64 pow10T).toArray e fr) := by
  have h' : laidMet Tryz.prog (("internal/strconv.uint64pow10", Lib.tabData .u64 (zints pow10T)) :: rest) W := h.tail.tail
  have h1 := Lib.tabIs_of_head (g := 4) (t := 226) (e := 85) (n := 20) (by kernel_rfl) (by kernel_rfl) (by kernel_rfl) (by kernel_rfl) (by kernel_rfl) (by kernel_rfl) h'
  obtain ⟨ek, fk, h3⟩ := var_heap (g := 4) (by kernel_rfl) h1
  rw [zints_nums] at h3
  exact ⟨ek, fk, h3⟩
end Go.Proofs.YthmnlkpikgglbaaGreatDoor

/- Steps that come in. -/
set_option linter.unusedVariables false
set_option linter.unusedSimpArgs false
namespace Go.Proofs.YthmnlkpikgglbaaGreatDoor
open Go.Px Go.ChangeShapes Go.WideShapes Go.ChangeAt Go.RowKit
theorem rows_u8 {xss : List (List Value)} (h : ∀ c ∈ xss, ∃ ws : List Nat, c = nums .u8 ws ∧ ws.length = 3 ∧ ∀ x ∈ ws, x < 256) : ∃ zs : List Nat, xss.flatten = nums .u8 zs ∧ zs.length = xss.length * 3 ∧ ∀ x ∈ zs, x < 256 := by
  induction xss with
  | nil => exact ⟨[], rfl, rfl, fun x hx => by cases hx⟩
  | cons c xss ih =>
    obtain ⟨zs, h1, h2, h3⟩ := ih fun c hc => h c (by simp [hc])
    obtain ⟨ws, rfl, g2, g3⟩ := h c (by simp)
    refine ⟨ws ++ zs, by rw [List.flatten_cons, h1, nums_append], by simp [g2, h2]; omega, fun x hx => ?_⟩
    rcases List.mem_append.1 hx with hx | hx
    · exact g3 x hx
    · exact h3 x hx
set_option maxRecDepth 100000 in
theorem in_steps {H : Type} {enc : TypeId × Value → H} {w : World} {spare : Nat → Bool} {held : Bool} {r : Reach} {base : Nat} {v : Value} {d : DataW H} {p : List MemPlace} (hv : Value.okWide Tryz.prog w r base 22 v) (h : DataW.Trod enc Tryz.prog w 0 spare held 22 v d p) :
    ∃ (n : Nat) (zs : List Nat), Rd (heapA w) 3 v n (nums .u8 zs) ∧ zs.length = n * 3 ∧ (∀ x ∈ zs, x < 256) ∧ n ≤ maxLen := by
  obtain ⟨a, len, cap, rfl⟩ := okWide_slice Tryz.underlying22 hv
  obtain ⟨f, hf⟩ := h
  obtain ⟨v, xss, h1, h2, h3, h4⟩ := in_slice Tryz.underlying22 (show Tryz.prog.cellsOf 74 = 3 by kernel_rfl) (by decide) hf
  obtain ⟨zs, g1, g2, g3⟩ := rows_u8 (xss := xss) (fun c hc => by
    obtain ⟨hl, m, y, hy⟩ := h4 c hc
    match c, hl with
    | [c0, c1, c2], _ =>
      obtain ⟨m0, y0, e0⟩ := st_field Tryz.underlying74 hy 0 _ rfl (tf := 5) (o := 0) (c := 1) rfl rfl (by kernel_rfl)
      obtain ⟨m1, y1, e1⟩ := st_field Tryz.underlying74 hy 1 _ rfl (tf := 5) (o := 1) (c := 1) rfl rfl (by kernel_rfl)
      obtain ⟨m2, y2, e2⟩ := st_field Tryz.underlying74 hy 2 _ rfl (tf := 5) (o := 2) (c := 1) rfl rfl (by kernel_rfl)
      change DataW.trod enc Tryz.prog w 0 spare held _ 5 [c0] = _ at e0
      change DataW.trod enc Tryz.prog w 0 spare held _ 5 [c1] = _ at e1
      change DataW.trod enc Tryz.prog w 0 spare held _ 5 [c2] = _ at e2
      obtain ⟨z0, q0, _, w0⟩ := DataW.trod_int Tryz.underlying5 e0
      obtain ⟨z1, q1, _, w1⟩ := DataW.trod_int Tryz.underlying5 e1
      obtain ⟨z2, q2, _, w2⟩ := DataW.trod_int Tryz.underlying5 e2
      obtain ⟨n0, rfl, l0⟩ := nat_of_wf rfl w0
      obtain ⟨n1, rfl, l1⟩ := nat_of_wf rfl w1
      obtain ⟨n2, rfl, l2⟩ := nat_of_wf rfl w2
      obtain rfl : c0 = _ := (List.cons.inj q0).1
      obtain rfl : c1 = _ := (List.cons.inj q1).1
      obtain rfl : c2 = _ := (List.cons.inj q2).1
      refine ⟨[n0, n1, n2], rfl, rfl, fun x hx => ?_⟩
      simp only [List.mem_cons, List.not_mem_nil, or_false] at hx
      rcases hx with rfl | rfl | rfl
      · exact l0
      · exact l1
      · exact l2)
  obtain rfl : Value.slice a len cap = v := by simpa [Value.cells] using h1
  exact ⟨xss.length, zs, by rw [← g1]; exact h3, g2, g3, by omega⟩

end Go.Proofs.YthmnlkpikgglbaaGreatDoor
/- What the rows' lists give: the tables of packages sha and strconv. -/
set_option linter.unusedVariables false
set_option linter.unusedSimpArgs false
namespace Go.Proofs.YthmnlkpikgglbaaGreatDoor
open Go.Px
set_option maxRecDepth 100000 in
theorem glb_in {W : World} {a b : String × DataW Unit} {rest : List (String × DataW Unit)} (h : laidMet Tryz.prog (a :: b :: ("internal/strconv.uint64pow10", Rows.laid_internal_strconv_uint64pow10) :: ("pawl/sha.round", Rows.laid_pawl_sha_round) :: ("pawl/sha.first", Rows.laid_pawl_sha_first) :: rest) W) : Glb (heapA W) := by
  obtain ⟨e4, f4, h4⟩ := pow_tab h
  have h' : laidMet Tryz.prog (("pawl/sha.round", Lib.tabData .u32 (zints kTab)) :: ("pawl/sha.first", Lib.tabData .u32 (zints hFirst.list)) :: rest) W := h.tail.tail.tail
  have h1 := Lib.tabIs_of_head (g := 3) (t := 209) (e := 53) (n := 64) (by kernel_rfl) (by kernel_rfl) (by kernel_rfl) (by kernel_rfl) (by kernel_rfl) (by kernel_rfl) h'
  have h2 := Lib.tabIs_of_head (g := 0) (t := 131) (e := 53) (n := 8) (by kernel_rfl) (by kernel_rfl) (by kernel_rfl) (by kernel_rfl) (by kernel_rfl) (by kernel_rfl) h'.tail
  obtain ⟨ek, fk, h3⟩ := var_heap (g := 3) (by kernel_rfl) h1
  obtain ⟨ef, ff, h5⟩ := var_heap (g := 0) (by kernel_rfl) h2
  rw [zints_nums] at h3 h5
  exact ⟨⟨ef, ff, heapA_mem.2 h5⟩, ⟨ek, fk, heapA_mem.2 h3⟩, ⟨e4, f4, heapA_mem.2 h4⟩⟩
end Go.Proofs.YthmnlkpikgglbaaGreatDoor

/- The card of the law ClosureRises: it returns true for every input; each argument reads behind the call as it read before; the listed package variables are tied to the program's text. No further condition. -/
namespace Go.Proofs.YthmnlkpikgglbaaGreatDoor.closureRises
open Go.ChangeShapes Go.WideShapes Go.ChangeAt Go.RowKit
set_option linter.unusedVariables false

theorem own : ownKnob Tryz.prog.godebug = none := by kernel_rfl
theorem laidOut : laidOutB Tryz.prog = true := by kernel_rfl

noncomputable def laidWorld (os : Os) : World := World.laidAll Tryz.prog os Rows.closureRisesRow.laid
theorem laid_met (os : Os) : laidMetH Tryz.prog Rows.closureRisesRow.laid ((laidWorld os).forCall (fun _ _ => 0) ⟨#[], #[.slice none 0 0, .int .u8 0, .int .u8 0], []⟩).memory := by
  rw [MakeChecks.laidMetH_plain _ _ _ (by kernel_rfl)]; exact laidMet_laidAll _ (by kernel_rfl) (by kernel_rfl)
theorem reads (os : Os) {H : Type} (enc : TypeId × Value → H) : ∃ places, DataW.whole enc Tryz.prog ((laidWorld os).forCall (fun _ _ => 0) ⟨#[], #[.slice none 0 0, .int .u8 0, .int .u8 0], []⟩).memory Tryz.f4.params.toList Rows.closureRisesSpec.vars false (#[.slice none 0 0, .int .u8 0, .int .u8 0] : Array Value).toList 8 = some ([.nil, .lit (.int .u8 0), .lit (.int .u8 0)], [], places) :=
  ⟨[], by kernel_rfl⟩

set_option maxRecDepth 100000 in
theorem lifted (os : Os) (started : os.Started) (H : Type) (enc : TypeId × Value → H) (F : Stop.Interp) :
    ReturnsInHanded {} Tryz.checked os 4 .any ((OpenSpec.ofChange Rows.closureRisesSpec).preRow enc Tryz.prog Tryz.f4 Rows.closureRisesRow.domain false Rows.closureRisesRow.laid) (((OpenSpec.ofChange Rows.closureRisesSpec).at F).post enc Tryz.prog Tryz.f4 false true false false) := by
  obtain ⟨places, hx⟩ := reads os enc
  refine returnsInHanded_of_row (C := Tryz.checked) (s := (OpenSpec.ofChange Rows.closureRisesSpec)) own started (by kernel_rfl) Tryz.func4
    (witness_row_at (enc := enc) (C := Tryz.checked) false (laidWorld os) #[.slice none 0 0, .int .u8 0, .int .u8 0] (World.laidAll_os _ _ _) (by kernel_rfl) (by kernel_rfl) (by kernel_rfl)
      (OpenSpec.preRow_of_cond 8 hx (by kernel_rfl) (fun k hk => by cases hk) (by kernel_rfl) (laid_met os))) ?_
  intro W base args ds gs before hval0 hW _ _ _ hL _ _
  have hval : ∀ (j : Nat) t v, Tryz.f4.params[j]? = some t → args[j]? = some v → Value.okWide Tryz.prog W .any base t v := hval0
  have hW' := hW
  obtain ⟨p, q, hA0, hV, rfl, hfz, hnd⟩ := hW
  have hA : DataW.TrodAll enc Tryz.prog W 0 (fun _ => true) true Tryz.f4.params.toList args.toList ds p := hA0
  rw [Tryz.params4] at hA hval
  obtain ⟨v0, vs0, d0, ds0, p0, q0, hargs, rfl, rfl, k0, r0_⟩ := trodAll_cons hA
  obtain ⟨v1, vs1, d1, ds1, p1, q1, rfl, rfl, rfl, k1, r1_⟩ := trodAll_cons r0_
  obtain ⟨v2, vs2, d2, ds2, p2, q2, rfl, rfl, rfl, k2, r2_⟩ := trodAll_cons r1_
  obtain ⟨rfl, rfl, rfl⟩ := trodAll_nil r2_
  obtain rfl : args = #[v0, v1, v2] := by cases args; simp_all
  obtain ⟨rfl, rfl⟩ := trodVars_none hV
  have lt0 : ∀ x ∈ p0, x.block < W.heap.size := by obtain ⟨m, hm⟩ := k0; exact DataW.trod_lt m _ _ _ hm
  have lt1 : ∀ x ∈ p1, x.block < W.heap.size := by obtain ⟨m, hm⟩ := k1; exact DataW.trod_lt m _ _ _ hm
  have lt2 : ∀ x ∈ p2, x.block < W.heap.size := by obtain ⟨m, hm⟩ := k2; exact DataW.trod_lt m _ _ _ hm
  obtain ⟨n0, zs0, r0, l0, z0, m0⟩ := in_steps (hval 0 22 v0 rfl rfl) k0
  obtain ⟨x1, rfl, hx1⟩ := Px.inU Tryz.underlying5 rfl (hval 1 5 v1 rfl rfl) k1
  obtain ⟨x2, rfl, hx2⟩ := Px.inU Tryz.underlying5 rfl (hval 2 5 v2 rfl rfl) k2
  clear hA0 hval0
  rw [MakeChecks.laidMetH_plain _ _ _ (by kernel_rfl)] at hL
  have hG := glb_in hL
  refine Calls.mono ((closureRises_spec v0 n0 zs0 x1 x2 _ r0 l0 z0 (Nat.le_trans m0 (by decide)) hx1 hx2 hG).calls (Px.heapA_fx W)) fun e W' ⟨he, bel⟩ => ?_
  subst he
  exact ⟨_, rfl, _, _, _, [], _, [], hW', trodAll_mk1 (shut_bool Tryz.underlying4 _), (trodAll_cons_mk (Below.trod laidOut (by kernel_rfl) (of_decide_eq_true (by kernel_rfl)) k0 bel lt0) (trodAll_cons_mk (Below.trod laidOut (by kernel_rfl) (of_decide_eq_true (by kernel_rfl)) k1 bel lt1) (trodAll_cons_mk (Below.trod laidOut (by kernel_rfl) (of_decide_eq_true (by kernel_rfl)) k2 bel lt2) trodAll_mk0))), rfl, bel.frame _, fun h => by cases h⟩

theorem said : Rows.ClosureRisesSaid :=
  OpenClaim.holds_of_cond 4 Tryz.f4 rfl rfl rfl rfl rfl rfl rfl ⟨rfl, rfl, rfl, rfl, rfl⟩ rfl rfl rfl rfl rfl (by kernel_rfl) Tryz.func4 (by kernel_rfl)
    (of_decide_eq_true (by kernel_rfl)) (by unfold Func.isWrapper; first | (rw [if_pos (by decide +kernel)]; kernel_rfl) | (rw [if_neg (by decide +kernel)]; exact ⟨rfl, rfl⟩))
    (fun os started H enc _ F => by rw [OpenClaim.pre_eq_preRow]; exact lifted os started H enc F)
theorem plain (f : FuncId) (fn : Func) (hf : Tryz.pinned.checked.prog.funcNamed "pawl/pawllaw22.ClosureRises" = some f) (hfn : Tryz.pinned.checked.prog.funcs[f]? = some fn) :
    true = Tryz.pinned.checked.prog.looks [] ∧ ∀ (j : Nat) t, fn.params[j]? = some t → Tryz.pinned.checked.prog.wantsStandIn t = false := by
  obtain rfl : f = 4 := Option.some.inj ((show Tryz.prog.funcNamed "pawl/pawllaw22.ClosureRises" = some 4 by kernel_rfl).symm.trans hf) |>.symm
  obtain rfl : fn = Tryz.f4 := (Option.some.inj (Tryz.func4.symm.trans hfn)).symm
  refine ⟨by kernel_rfl, fun j t ht => ?_⟩
  rw [Tryz.params4] at ht
  have hm := Array.mem_of_getElem? ht
  simp only [List.mem_toArray, List.mem_cons, List.not_mem_nil, or_false] at hm
  rcases hm with rfl | rfl | rfl
  · exact (show Tryz.prog.wantsStandIn 22 = false by kernel_rfl)
  · exact (show Tryz.prog.wantsStandIn 5 = false by kernel_rfl)
  · exact (show Tryz.prog.wantsStandIn 5 = false by kernel_rfl)

theorem proved : Rows.ClosureRisesCardSaid :=
  Claim7.holds_tied_plain_at .later [] _ _ _ _ said (fun _ h => by cases h) (by kernel_rfl) (fun _ h => by cases h) closureRises_row_tie rfl ⟨rfl, rfl⟩ (by kernel_rfl) rfl plain (by kernel_rfl)
#print axioms proved
end Go.Proofs.YthmnlkpikgglbaaGreatDoor.closureRises



