/- The card of the law SignTold: it returns true for every input; each argument reads behind the call as it read before; the listed package variables are tied to the program's text. No further condition. -/
import Derived.Test.YtcfdeohjhhpmcaaDoorB19
import Derived.Test.YtcfdeohjhhpmcaaDoorCards
import Derived.Test.YtcfdeohjhhpmcaaDoorTie
import Derived.Deep.DeepHandedRow
import Derived.Deep.DeepWitnessRowRef
import Derived.Lib.LaidTab
import Derived.Stop.LaidErr
import Derived.Lay
import Derived.LaidMore
import Derived.MakeChecks
set_option linter.unusedVariables false
set_option linter.unusedSimpArgs false
set_option linter.unusedVariables false
set_option linter.unusedSimpArgs false
namespace Go.Proofs.YtcfdeohjhhpmcaaDoor
open Go.Px Go.Ed
theorem pub_enc (s : List Nat) : encN (FF.nsm (secN s) bPt).1.val (FF.nsm (secN s) bPt).2.val = pubB s := ((own_pt (secN_lt s)).1.bytes).symm
theorem r_enc (s m : List Nat) : encN (FF.nsm (nonN s m) bPt).1.val (FF.nsm (nonN s m) bPt).2.val = rB s m := ((own_pt (nonN_lt s m)).1.bytes).symm
theorem s_eq (s m : List Nat) : (nonN s m + chlN (rB s m) (pubB s) m * secN s) % lN = sN s m := by
  show _ = (chlN (rB s m) (pubB s) m * secN s % lN + nonN s m) % lN
  rw [Nat.mod_add_mod, Nat.add_comm]
theorem ha_le (s m : List Nat) : chlN (rB s m) (pubB s) m * secN s ≤ lN * lN := Nat.mul_le_mul (Nat.le_of_lt (chlN_lt _ _ _)) (Nat.le_of_lt (secN_lt _))

set_option maxRecDepth 100000 in
theorem signTold_f (v vm : Value) (ws wm : List Nat) (A : Mem) (hv0 : Byi A v ws) (hm0 : Byi A vm wm) (hG : GlS A) : FnV Tryd.prog 4 [v, vm] A (.bool true) := by
  haveI := hv0.cel
  haveI := hm0.cel
  have hvl := hv0.len
  have hml := hm0.len
  unfold maxLen at hvl hml
  refine FnX.enter (N := 70) Tryd.func4 rfl rfl rfl fun w => ?_
  refine XC.keep (kp 0 rfl (kp 1 rfl kn)) ?_
  refine XC.reg ?_
  refine XL.q (q_assign rfl) rfl ?_
  refine XL.fin (kp 0 rfl (kp 1 rfl kn)) ?_
  refine XC.seq ?_
  refine XC.reg ?_
  refine XL.callV a0 (by kernel_rfl) (awake06_f _ hG.up) rfl ?_
  refine XL.q (q_not rfl) rfl ?_
  refine XL.q (q_move rfl) rfl ?_
  refine XL.gy rfl rfl (OpQ.opL (q_move rfl) rfl ?_)
  refine XL.gy rfl rfl (OpQ.opL (q_lenV2 (sz := 1) rfl (by kernel_rfl) hv0.rd) rfl ?_)
  refine XL.gy rfl rfl (OpQ.opL (q_bin rfl rfl rfl) rfl ?_)
  refine XL.q (q_pickF rfl rfl) rfl ?_
  refine XL.q (q_move rfl) rfl ?_
  refine XL.split (t := 18) rfl (fun hb => ?_) (fun hb => ?_)
  ·
    have hlen : 40 < ws.length := by simp at hb; omega
    refine XL.gn rfl rfl rfl rfl ?_
    refine XL.gn rfl rfl rfl rfl ?_
    refine XL.gn rfl rfl rfl rfl ?_
    refine XL.q (q_pickT rfl rfl) rfl ?_
    refine XL.fin (kp 0 rfl (kp 1 rfl (kp 22 rfl kn))) ?_
    refine XC.condT rfl ?_
    refine XC.reg ?_
    refine XL.callV a0 (by kernel_rfl) (awake06_f _ hG.up) rfl ?_
    refine XL.q (q_assign rfl) rfl ?_
    refine XL.fin (kp 4 rfl kn) ?_
    refine XC.ret ?_
    refine tr ?_
    exact ⟨_, [], [], res1 rfl rfl, List.nil_sublist _, by simp, rfl, rfl, rfl⟩
  ·
    have hlen : ¬ 40 < ws.length := by simp at hb; omega
    refine XL.gy rfl rfl (OpQ.opL (q_move rfl) rfl ?_)
    refine XL.gy rfl rfl (OpQ.opL (q_lenV2 (sz := 1) rfl (by kernel_rfl) hm0.rd) rfl ?_)
    refine XL.gy rfl rfl (OpQ.opL (q_bin rfl rfl rfl) rfl ?_)
    refine XL.q (q_pickF rfl rfl) rfl ?_
    refine XL.fin (kp 0 rfl (kp 1 rfl (kp 22 rfl kn))) ?_
    refine XC.cond rfl (fun hc => ?_) (fun hc => ?_)
    ·
      refine XC.reg ?_
      refine XL.callV a0 (by kernel_rfl) (awake06_f _ hG.up) rfl ?_
      refine XL.q (q_assign rfl) rfl ?_
      refine XL.fin (kp 4 rfl kn) ?_
      refine XC.ret ?_
      refine tr ?_
      exact ⟨_, [], [], res1 rfl rfl, List.nil_sublist _, by simp, rfl, rfl, rfl⟩
    ·
      have hlm : wm.length ≤ 60 := by simp at hc; omega
      have hv := hv0.by (by omega)
      have hm := hm0.by (by omega)
      have hpl := pubB_len ws
      have hrl := rB_len ws wm
      refine XC.skip ?_
      refine nx (kp 0 rfl (kp 1 rfl kn)) ?_
      refine XC.reg ?_
      refine XL.q (q_move rfl) rfl ?_
      refine XL.lo rfl (l_buildSlice (e := 22) (sz := 1) (z := [.slice none 0 0]) (by kernel_rfl) (eS rfl e0) (bdS 0 1 rfl (by rfl) bd0) rfl fun b25 => ?_)
      refine XL.call (aS rfl (aS rfl a0)) (by kernel_rfl) (rwide_z _ [115, 101, 99, 114, 101, 116] _ [ws] _ (by rfl) (by decide) (Parts.of (Rd.whole (n := 1) m0 (by rfl)) rfl (.cons hv.lt (hv.rd.mono SubC.sub) .nil)) (by simp; omega) (by simp)) rfl ?_
      rintro r26 M26 J26 ⟨rfl, k26⟩
      have h26 : Nz J26 r26 (secN ws) := by
        have h0 := k26.z (by decide)
        simpa [secN, nonN, chlN] using h0
      haveI := h26.cel
      refine XL.q (q_assign rfl) rfl ?_
      refine XL.fin (kp 0 rfl (kp 1 rfl (kp 5 rfl kn))) ?_
      refine XC.reg ?_
      refine XL.call a0 (by kernel_rfl) (rStart_z _) rfl ?_
      rintro r27 M27 J27 ⟨rfl, hs27⟩
      have hs27T := hs27
      clear hs27
      obtain ⟨s27x, s27y, s27z, rfl, hs27⟩ := tp_open hs27T
      haveI := hs27.c1
      haveI := hs27.c2
      haveI := hs27.c3
      refine XL.q (q_move rfl) rfl ?_
      refine XL.call (aS rfl (aS rfl a0)) (by kernel_rfl) (rTimes_z _ _ _ _ bPt (secN ws) _ (hs27.mono SubC.sub) b_on (h26.mono SubC.sub)) rfl ?_
      rintro r29 M29 J29 ⟨rfl, ht29⟩
      have ht29T := ht29
      clear ht29
      obtain ⟨t29x, t29y, t29z, rfl, ht29⟩ := tp_open ht29T
      haveI := ht29.c1
      haveI := ht29.c2
      haveI := ht29.c3
      refine XL.call (aS rfl a0) (by kernel_rfl) ((rTold_z _ _ _ _ _ (ht29.mono SubC.sub)).frz0) rfl ?_
      rintro r30 M30 J30 ⟨rfl, hq30⟩
      rw [pub_enc] at hq30
      have h30 : By J30 r30 (pubB ws) := sl_by hq30 (pubB_len _).symm (pB_lt _) (by rw [pubB_len]; decide) fun _ h => h
      haveI := h30.cel
      refine XL.q (q_assign rfl) rfl ?_
      refine XL.fin (kp 0 rfl (kp 1 rfl (kp 5 rfl (kp 6 rfl kn)))) ?_
      refine XC.reg ?_
      refine XL.q (q_move rfl) rfl ?_
      refine XL.q (q_move rfl) rfl ?_
      refine XL.lo rfl (l_buildSlice (e := 22) (sz := 1) (z := [.slice none 0 0, .slice none 0 0]) (by kernel_rfl) (eS rfl (eS rfl e0)) (bdS 0 1 rfl (by rfl) (bdS 1 1 rfl (by rfl) bd0)) rfl fun b33 => ?_)
      refine XL.call (aS rfl (aS rfl a0)) (by kernel_rfl) (rwide_z _ [110, 111, 110, 99, 101] _ [ws, wm] _ (by rfl) (by decide) (Parts.of (Rd.whole (n := 2) m0 (by rfl)) rfl (.cons hv.lt (hv.rd.mono SubC.sub) (.cons hm.lt (hm.rd.mono SubC.sub) .nil))) (by simp; omega) (by simp)) rfl ?_
      rintro r34 M34 J34 ⟨rfl, k34⟩
      have h34 : Nz J34 r34 (nonN ws wm) := by
        have h0 := k34.z (by decide)
        simpa [secN, nonN, chlN] using h0
      haveI := h34.cel
      refine XL.q (q_assign rfl) rfl ?_
      refine XL.fin (kp 0 rfl (kp 1 rfl (kp 5 rfl (kp 6 rfl (kp 7 rfl kn))))) ?_
      refine XC.reg ?_
      refine XL.call a0 (by kernel_rfl) (rStart_z _) rfl ?_
      rintro r35 M35 J35 ⟨rfl, hs35⟩
      have hs35T := hs35
      clear hs35
      obtain ⟨s35x, s35y, s35z, rfl, hs35⟩ := tp_open hs35T
      haveI := hs35.c1
      haveI := hs35.c2
      haveI := hs35.c3
      refine XL.q (q_move rfl) rfl ?_
      refine XL.call (aS rfl (aS rfl a0)) (by kernel_rfl) (rTimes_z _ _ _ _ bPt (nonN ws wm) _ (hs35.mono SubC.sub) b_on (h34.mono SubC.sub)) rfl ?_
      rintro r37 M37 J37 ⟨rfl, ht37⟩
      have ht37T := ht37
      clear ht37
      obtain ⟨t37x, t37y, t37z, rfl, ht37⟩ := tp_open ht37T
      haveI := ht37.c1
      haveI := ht37.c2
      haveI := ht37.c3
      refine XL.call (aS rfl a0) (by kernel_rfl) ((rTold_z _ _ _ _ _ (ht37.mono SubC.sub)).frz0) rfl ?_
      rintro r38 M38 J38 ⟨rfl, hq38⟩
      rw [r_enc] at hq38
      have h38 : By J38 r38 (rB ws wm) := sl_by hq38 (rB_len _ _).symm (pB_lt _) (by rw [rB_len]; decide) fun _ h => h
      haveI := h38.cel
      refine XL.q (q_assign rfl) rfl ?_
      refine XL.fin (kp 0 rfl (kp 1 rfl (kp 5 rfl (kp 6 rfl (kp 7 rfl (kp 8 rfl kn)))))) ?_
      refine XC.reg ?_
      refine XL.q (q_move rfl) rfl ?_
      refine XL.q (q_move rfl) rfl ?_
      refine XL.q (q_move rfl) rfl ?_
      refine XL.lo rfl (l_buildSlice (e := 22) (sz := 1) (z := [.slice none 0 0, .slice none 0 0, .slice none 0 0]) (by kernel_rfl) (eS rfl (eS rfl (eS rfl e0))) (bdS 0 1 rfl (by rfl) (bdS 1 1 rfl (by rfl) (bdS 2 1 rfl (by rfl) bd0))) rfl fun b42 => ?_)
      refine XL.call (aS rfl (aS rfl a0)) (by kernel_rfl) (rwide_z _ [99, 104, 97, 108, 108, 101, 110, 103, 101] _ [rB ws wm, pubB ws, wm] _ (by rfl) (by decide) (Parts.of (Rd.whole (n := 3) m0 (by rfl)) rfl (.cons h38.lt (h38.rd.mono SubC.sub) (.cons h30.lt (h30.rd.mono SubC.sub) (.cons hm.lt (hm.rd.mono SubC.sub) .nil)))) (by simp; omega) (by simp)) rfl ?_
      rintro r43 M43 J43 ⟨rfl, k43⟩
      have h43 : Nz J43 r43 (chlN (rB ws wm) (pubB ws) wm) := by
        have h0 := k43.z (by decide)
        simpa [secN, nonN, chlN] using h0
      haveI := h43.cel
      refine XL.q (q_assign rfl) rfl ?_
      refine XL.fin (kp 0 rfl (kp 1 rfl (kp 5 rfl (kp 6 rfl (kp 7 rfl (kp 8 rfl (kp 9 rfl kn))))))) ?_
      refine XC.reg ?_
      refine XL.q (q_move rfl) rfl ?_
      refine XL.q (q_move rfl) rfl ?_
      refine XL.q (q_move rfl) rfl ?_
      refine XL.call (aS rfl (aS rfl a0)) (by kernel_rfl) (rtimes_z _ (h43.mono SubC.sub) (h26.mono SubC.sub)) rfl ?_
      rintro r47 M47 J47 ⟨rfl, k47⟩
      have h47 := (k47.s16 (Nat.le_trans (ha_le ws wm) (by decide))).z (by decide)
      haveI := h47.cel
      refine XL.call (aS rfl (aS rfl a0)) (by kernel_rfl) (rplus_z _ (h34.mono SubC.sub) (h47.mono SubC.sub)) rfl ?_
      rintro r48 M48 J48 ⟨rfl, k48⟩
      have h48 := (k48.s16 (Nat.le_trans (Nat.add_le_add (Nat.le_of_lt (nonN_lt ws wm)) (ha_le ws wm)) (by decide))).z (by decide)
      haveI := h48.cel
      refine XL.call a0 (by kernel_rfl) (rN_z _) rfl ?_
      rintro r49 M49 J49 ⟨rfl, h49⟩
      haveI := h49.cel
      refine XL.call (aS rfl (aS rfl a0)) (by kernel_rfl) (rMod_z _ _ _ _ _ (h48.mono SubC.sub) (h49.mono SubC.sub) lN_pos (by decide)) rfl ?_
      rintro r50 M50 J50 ⟨rfl, k50⟩
      rw [s_eq] at k50
      have h50 := k50.z (by decide)
      haveI := h50.cel
      refine XL.q (q_assign rfl) rfl ?_
      refine XL.fin (kp 0 rfl (kp 1 rfl (kp 6 rfl (kp 8 rfl (kp 10 rfl kn))))) ?_
      refine XC.drawF [0, 1, 2, 3, 4, 5, 6, 7, 8, 9, 10, 11, 12, 13, 14, 15, 16, 17, 18, 19] [(0, 0), (3, 0), (1, 3), (2, 3), (4, 4), (5, 0), (6, 0), (7, 0), (8, 0), (11, 0), (13, 0), (9, 3), (10, 3), (12, 3), (14, 3), (15, 3), (16, 4), (17, 0), (18, 0), (19, 0)] (by kernel_rfl) (by kernel_rfl) fun hs => ?_
      refine XF.q hs rfl (q_move rfl) rfl ?_
      refine XF.q hs rfl (q_move rfl) rfl ?_
      refine XF.groupO [⟨1, 52, fun v B R => B = [] ∧ By R v (pubB ws)⟩, ⟨2, 53, fun v B _ => B = [] ∧ v = .string (txt (pubB ws))⟩, ⟨4, 55, fun v B _ => B = [] ∧ v = .string (txt (pubB ws))⟩]
        (allS (fun _ _ _ _ hR h => ⟨h.1, h.2.mono hR⟩) (allS (fun _ _ _ _ _ h => h) (allS (fun _ _ _ _ _ h => h) (all0)))) (show List.Nodup [52, 53, 55] by decide) (show List.Nodup [1, 2, 4] by decide) (allS (blt_lt rfl) (allS (blt_lt rfl) (allS (blt_lt rfl) (all0))))
        (allS ⟨_, rfl, fun vs bs R w hb ha => ⟨.inl rfl, ?_⟩⟩ (allS ⟨_, rfl, fun vs bs R w hb ha => ⟨.inl rfl, ?_⟩⟩ (allS ⟨_, rfl, fun vs bs R w hb ha => ⟨.inl rfl, ?_⟩⟩ (all0)))) ?_
      ·
        refine l_call0 (aS rfl a0) (by kernel_rfl) (public_f v ws _ (hv.mono fun x hx => hb _ (SubC.sub x hx)) (hG.sub fun x hx => hb _ (mA hx))) rfl ?_
        rintro r M1 J1 ⟨rfl, hh⟩
        exact ⟨_, rfl, rfl, hh.mono fun x hx => by simp [hx]⟩
      ·
        have g1 := ha _ (List.mem_of_getElem? (i := 0) rfl) (by kernel_rfl)
        replace g1 : (fun v B R => B = [] ∧ By R v (pubB ws)) (vs 1) (bs 1) R := g1
        dsimp only at g1
        obtain ⟨-, k1⟩ := g1
        exact OpQ.opL (q_toStr2 rfl (by kernel_rfl) k1.rd) rfl ⟨_, rfl, rfl, rfl⟩
      ·
        exact OpQ.opL (q_toStr2 rfl (by kernel_rfl) (h30.rd.mono fun x hx => hb _ (SubC.sub x hx))) rfl ⟨_, rfl, rfl, rfl⟩
      intro vs bs Jn0 hφ
      have g1 := ofH hφ
      dsimp only at g1
      replace hφ := ofT hφ
      have g2 := ofH hφ
      dsimp only at g2
      replace hφ := ofT hφ
      have g4 := ofH hφ
      dsimp only at g4
      clear hφ
      dsimp only [gEnvO, ownOf, List.map, List.flatten, List.cons_append, List.nil_append]
      generalize bs 1 = B52 at *
      generalize bs 2 = B53 at *
      generalize bs 4 = B55 at *
      generalize vs 1 = u52 at *
      generalize vs 2 = u53 at *
      generalize vs 4 = u55 at *
      obtain ⟨rfl, -⟩ := g1
      obtain ⟨rfl, rfl⟩ := g2
      obtain ⟨rfl, rfl⟩ := g4
      dsimp only [List.append_eq, List.nil_append, List.cons_append]
      refine XF.q hs rfl (q_strEqT rfl rfl rfl) rfl ?_
      refine XF.q hs rfl (q_move rfl) rfl ?_
      refine XF.qg hs rfl rfl rfl rfl (q_move rfl) rfl ?_
      refine XF.qg hs rfl rfl rfl rfl (q_move rfl) rfl ?_
      refine XF.qg hs rfl rfl rfl rfl (q_move rfl) rfl ?_
      refine XF.qg hs rfl rfl rfl rfl (q_move rfl) rfl ?_
      refine XF.groupO [⟨9, 60, fun v B R => B = [] ∧ By R v (sigB ws wm)⟩, ⟨10, 61, fun v B _ => B = [] ∧ v = .string (txt (sigB ws wm))⟩, ⟨12, 63, fun v B _ => B = [] ∧ v = .string (txt (rB ws wm))⟩, ⟨14, 65, fun v B R => Sl 1 v 32 (nums .u8 (digs (sN ws wm) 32)) B ∧ ∀ x ∈ B, x ∈ R⟩, ⟨15, 66, fun v B _ => B = [] ∧ v = .string (txt (digs (sN ws wm) 32))⟩, ⟨16, 67, fun v B _ => B = [] ∧ v = .string (txt (rB ws wm ++ digs (sN ws wm) 32))⟩]
        (allS (fun _ _ _ _ hR h => ⟨h.1, h.2.mono hR⟩) (allS (fun _ _ _ _ _ h => h) (allS (fun _ _ _ _ _ h => h) (allS (fun _ _ _ _ hR h => ⟨h.1, fun x hx => hR x (h.2 x hx)⟩) (allS (fun _ _ _ _ _ h => h) (allS (fun _ _ _ _ _ h => h) (all0))))))) (show List.Nodup [60, 61, 63, 65, 66, 67] by decide) (show List.Nodup [9, 10, 12, 14, 15, 16] by decide) (allS (blt_lt rfl) (allS (blt_lt rfl) (allS (blt_lt rfl) (allS (blt_lt rfl) (allS (blt_lt rfl) (allS (blt_lt rfl) (all0)))))))
        (allS ⟨_, rfl, fun vs bs R w hb ha => ⟨.inr ⟨_, _, _, _, rfl, rfl, rfl, rfl⟩, ?_⟩⟩ (allS ⟨_, rfl, fun vs bs R w hb ha => ⟨.inr ⟨_, _, _, _, rfl, rfl, rfl, rfl⟩, ?_⟩⟩ (allS ⟨_, rfl, fun vs bs R w hb ha => ⟨.inr ⟨_, _, _, _, rfl, rfl, rfl, rfl⟩, ?_⟩⟩ (allS ⟨_, rfl, fun vs bs R w hb ha => ⟨.inr ⟨_, _, _, _, rfl, rfl, rfl, rfl⟩, ?_⟩⟩ (allS ⟨_, rfl, fun vs bs R w hb ha => ⟨.inr ⟨_, _, _, _, rfl, rfl, rfl, rfl⟩, ?_⟩⟩ (allS ⟨_, rfl, fun vs bs R w hb ha => ⟨.inr ⟨_, _, _, _, rfl, rfl, rfl, rfl⟩, ?_⟩⟩ (all0))))))) ?_
      ·
        refine l_call0 (aS rfl (aS rfl a0)) (by kernel_rfl) (sign_j _ _ ws wm _ (hv.mono fun x hx => hb _ (SubC.sub x hx)) (hm.mono fun x hx => hb _ (SubC.sub x hx)) (hG.sub fun x hx => hb _ (mA hx))) rfl ?_
        rintro r M1 J1 ⟨rfl, hh⟩
        exact ⟨_, rfl, rfl, hh.mono fun x hx => by simp [hx]⟩
      ·
        have g9 := ha _ (List.mem_of_getElem? (i := 0) rfl) (by kernel_rfl)
        replace g9 : (fun v B R => B = [] ∧ By R v (sigB ws wm)) (vs 9) (bs 9) R := g9
        dsimp only at g9
        obtain ⟨-, k9⟩ := g9
        exact OpQ.opL (q_toStr2 rfl (by kernel_rfl) k9.rd) rfl ⟨_, rfl, rfl, rfl⟩
      ·
        exact OpQ.opL (q_toStr2 rfl (by kernel_rfl) (h38.rd.mono fun x hx => hb _ (SubC.sub x hx))) rfl ⟨_, rfl, rfl, rfl⟩
      ·
        have g9 := ha _ (List.mem_of_getElem? (i := 0) rfl) (by kernel_rfl)
        replace g9 : (fun v B R => B = [] ∧ By R v (sigB ws wm)) (vs 9) (bs 9) R := g9
        dsimp only at g9
        refine l_call0 (aS rfl (aS rfl a0)) (by kernel_rfl) (rbytes_z 32 _ (h50.mono fun x hx => hb _ (SubC.sub x hx)) (by decide)) rfl ?_
        rintro r M1 J1 ⟨rfl, hh⟩
        exact ⟨_, rfl, by simpa using hh, fun x hx => List.mem_append_left _ hx⟩
      ·
        have g9 := ha _ (List.mem_of_getElem? (i := 0) rfl) (by kernel_rfl)
        replace g9 : (fun v B R => B = [] ∧ By R v (sigB ws wm)) (vs 9) (bs 9) R := g9
        dsimp only at g9
        have g14 := ha _ (List.mem_of_getElem? (i := 3) rfl) (by kernel_rfl)
        replace g14 : (fun v B R => Sl 1 v 32 (nums .u8 (digs (sN ws wm) 32)) B ∧ ∀ x ∈ B, x ∈ R) (vs 14) (bs 14) R := g14
        dsimp only at g14
        obtain ⟨k14, k14s⟩ := g14
        exact OpQ.opL (q_toStr2 rfl (by kernel_rfl) (k14.rd fun x hx => k14s x hx)) rfl ⟨_, rfl, rfl, rfl⟩
      ·
        have g9 := ha _ (List.mem_of_getElem? (i := 0) rfl) (by kernel_rfl)
        replace g9 : (fun v B R => B = [] ∧ By R v (sigB ws wm)) (vs 9) (bs 9) R := g9
        dsimp only at g9
        have g12 := ha _ (List.mem_of_getElem? (i := 2) rfl) (by kernel_rfl)
        replace g12 : (fun v B _ => B = [] ∧ v = .string (txt (rB ws wm))) (vs 12) (bs 12) R := g12
        dsimp only at g12
        have g14 := ha _ (List.mem_of_getElem? (i := 3) rfl) (by kernel_rfl)
        replace g14 : (fun v B R => Sl 1 v 32 (nums .u8 (digs (sN ws wm) 32)) B ∧ ∀ x ∈ B, x ∈ R) (vs 14) (bs 14) R := g14
        dsimp only at g14
        have g15 := ha _ (List.mem_of_getElem? (i := 4) rfl) (by kernel_rfl)
        replace g15 : (fun v B _ => B = [] ∧ v = .string (txt (digs (sN ws wm) 32))) (vs 15) (bs 15) R := g15
        dsimp only at g15
        obtain ⟨-, k12⟩ := g12
        obtain ⟨-, k15⟩ := g15
        exact OpQ.opL (q_sAdd (ws := rB ws wm) (ws' := digs (sN ws wm) 32) (by rw [← k12]; rfl) (by rw [← k15]; rfl) rfl rfl (by rw [rB_len, digs_len]; decide)) rfl ⟨_, rfl, rfl, rfl⟩
      intro vs bs Jn1 hφ
      have g9 := ofH hφ
      dsimp only at g9
      replace hφ := ofT hφ
      have g10 := ofH hφ
      dsimp only at g10
      replace hφ := ofT hφ
      have g12 := ofH hφ
      dsimp only at g12
      replace hφ := ofT hφ
      have g14 := ofH hφ
      dsimp only at g14
      replace hφ := ofT hφ
      have g15 := ofH hφ
      dsimp only at g15
      replace hφ := ofT hφ
      have g16 := ofH hφ
      dsimp only at g16
      clear hφ
      dsimp only [gEnvO, ownOf, List.map, List.flatten, List.cons_append, List.nil_append]
      generalize bs 9 = B60 at *
      generalize bs 10 = B61 at *
      generalize bs 12 = B63 at *
      generalize bs 14 = B65 at *
      generalize bs 15 = B66 at *
      generalize bs 16 = B67 at *
      generalize vs 9 = u60 at *
      generalize vs 10 = u61 at *
      generalize vs 12 = u63 at *
      generalize vs 14 = u65 at *
      generalize vs 15 = u66 at *
      generalize vs 16 = u67 at *
      obtain ⟨rfl, -⟩ := g9
      obtain ⟨rfl, rfl⟩ := g10
      obtain ⟨rfl, rfl⟩ := g12
      obtain ⟨k14, -⟩ := g14
      obtain ⟨rfl, rfl⟩ := g15
      obtain ⟨rfl, rfl⟩ := g16
      dsimp only [List.append_eq, List.nil_append, List.cons_append]
      refine XF.qg hs rfl rfl rfl rfl (q_strEqT rfl rfl rfl) rfl ?_
      refine XF.q hs rfl (q_pickT rfl rfl) rfl ?_
      refine XF.q hs rfl (q_assign rfl) rfl ?_
      refine XF.fin (kp 4 rfl kn) ?_
      refine XC.ret ?_
      exact ⟨_, [], [], res1 rfl rfl, List.nil_sublist _, by simp, rfl, rfl, rfl⟩

end Go.Proofs.YtcfdeohjhhpmcaaDoor
/- The card of the law SignTold: it returns true for every input; each argument reads behind the call as it read before; the listed package variables are tied to the program's text. No further condition. -/
namespace Go.Proofs.YtcfdeohjhhpmcaaDoor.signTold
open Go.ChangeShapes Go.WideShapes Go.ChangeAt Go.RowKit
set_option linter.unusedVariables false

theorem own : ownKnob Tryd.prog.godebug = none := by kernel_rfl
theorem laidOut : laidOutB Tryd.prog = true := by kernel_rfl

noncomputable def laidWorld (os : Os) : World := World.laidAll Tryd.prog os Rows.signToldRow.laid
theorem laid_met (os : Os) : laidMetH Tryd.prog Rows.signToldRow.laid ((laidWorld os).forCall (fun _ _ => 0) ⟨#[], #[.slice none 0 0, .slice none 0 0], []⟩).memory := by
  rw [MakeChecks.laidMetH_plain _ _ _ (by kernel_rfl)]; exact laidMet_laidAll _ (by kernel_rfl) (by kernel_rfl)
theorem reads (os : Os) {H : Type} (enc : TypeId × Value → H) : ∃ places, DataW.whole enc Tryd.prog ((laidWorld os).forCall (fun _ _ => 0) ⟨#[], #[.slice none 0 0, .slice none 0 0], []⟩).memory Tryd.f4.params.toList Rows.signToldSpec.vars false (#[.slice none 0 0, .slice none 0 0] : Array Value).toList 8 = some ([.nil, .nil], [], places) :=
  ⟨[], by kernel_rfl⟩

set_option maxRecDepth 100000 in
theorem lifted (os : Os) (started : os.Started) (H : Type) (enc : TypeId × Value → H) (F : Stop.Interp) :
    ReturnsInHanded {} Tryd.checked os 4 .any ((OpenSpec.ofChange Rows.signToldSpec).preRow enc Tryd.prog Tryd.f4 Rows.signToldRow.domain false Rows.signToldRow.laid) (((OpenSpec.ofChange Rows.signToldSpec).at F).post enc Tryd.prog Tryd.f4 false true false false) := by
  obtain ⟨places, hx⟩ := reads os enc
  refine returnsInHanded_of_row (C := Tryd.checked) (s := (OpenSpec.ofChange Rows.signToldSpec)) own started (by kernel_rfl) Tryd.func4
    (witness_row_at (enc := enc) (C := Tryd.checked) false (laidWorld os) #[.slice none 0 0, .slice none 0 0] (World.laidAll_os _ _ _) (by kernel_rfl) (by kernel_rfl) (by kernel_rfl)
      (OpenSpec.preRow_of_cond 8 hx (by kernel_rfl) (fun k hk => by cases hk) (by kernel_rfl) (laid_met os))) ?_
  intro W base args ds gs before hval0 hW _ _ _ hL _ _
  have hval : ∀ (j : Nat) t v, Tryd.f4.params[j]? = some t → args[j]? = some v → Value.okWide Tryd.prog W .any base t v := hval0
  have hW' := hW
  obtain ⟨p, q, hA0, hV, rfl, hfz, hnd⟩ := hW
  have hA : DataW.TrodAll enc Tryd.prog W 0 (fun _ => true) true Tryd.f4.params.toList args.toList ds p := hA0
  rw [Tryd.params4] at hA hval
  obtain ⟨v0, vs0, d0, ds0, p0, q0, hargs, rfl, rfl, k0, r0_⟩ := trodAll_cons hA
  obtain ⟨v1, vs1, d1, ds1, p1, q1, rfl, rfl, rfl, k1, r1_⟩ := trodAll_cons r0_
  obtain ⟨rfl, rfl, rfl⟩ := trodAll_nil r1_
  obtain rfl : args = #[v0, v1] := by cases args; simp_all
  obtain ⟨rfl, rfl⟩ := trodVars_none hV
  have lt0 : ∀ x ∈ p0, x.block < W.heap.size := by obtain ⟨m, hm⟩ := k0; exact DataW.trod_lt m _ _ _ hm
  have lt1 : ∀ x ∈ p1, x.block < W.heap.size := by obtain ⟨m, hm⟩ := k1; exact DataW.trod_lt m _ _ _ hm
  obtain ⟨x0, r0, hx0, l0⟩ := Px.inSlU Tryd.underlying22 Tryd.underlying5 (by kernel_rfl) rfl (hval 0 22 v0 rfl rfl) k0
  obtain ⟨x1, r1, hx1, l1⟩ := Px.inSlU Tryd.underlying22 Tryd.underlying5 (by kernel_rfl) rfl (hval 1 22 v1 rfl rfl) k1
  clear hA0 hval0
  rw [MakeChecks.laidMetH_plain _ _ _ (by kernel_rfl)] at hL
  have hG := gls_in hL
  refine Calls.mono ((signTold_f v0 v1 x0 x1 _ ⟨r0, hx0, l0⟩ ⟨r1, hx1, l1⟩ hG).calls (Px.heapA_fx W)) fun e W' ⟨he, bel⟩ => ?_
  subst he
  exact ⟨_, rfl, _, _, _, [], _, [], hW', trodAll_mk1 (shut_bool Tryd.underlying4 _), (trodAll_cons_mk (Below.trod laidOut (by kernel_rfl) (of_decide_eq_true (by kernel_rfl)) k0 bel lt0) (trodAll_cons_mk (Below.trod laidOut (by kernel_rfl) (of_decide_eq_true (by kernel_rfl)) k1 bel lt1) trodAll_mk0)), rfl, bel.frame _, fun h => by cases h⟩

theorem said : Rows.SignToldSaid :=
  OpenClaim.holds_of_cond 4 Tryd.f4 rfl rfl rfl rfl rfl rfl rfl ⟨rfl, rfl, rfl, rfl, rfl⟩ rfl rfl rfl rfl rfl (by kernel_rfl) Tryd.func4 (by kernel_rfl)
    (of_decide_eq_true (by kernel_rfl)) (by unfold Func.isWrapper; first | (rw [if_pos (by decide +kernel)]; kernel_rfl) | (rw [if_neg (by decide +kernel)]; exact ⟨rfl, rfl⟩))
    (fun os started H enc _ F => by rw [OpenClaim.pre_eq_preRow]; exact lifted os started H enc F)
theorem plain (f : FuncId) (fn : Func) (hf : Tryd.pinned.checked.prog.funcNamed "pawl/pawllaw06.SignTold" = some f) (hfn : Tryd.pinned.checked.prog.funcs[f]? = some fn) :
    false = Tryd.pinned.checked.prog.looks [] ∧ ∀ (j : Nat) t, fn.params[j]? = some t → Tryd.pinned.checked.prog.wantsStandIn t = false := by
  obtain rfl : f = 4 := Option.some.inj ((show Tryd.prog.funcNamed "pawl/pawllaw06.SignTold" = some 4 by kernel_rfl).symm.trans hf) |>.symm
  obtain rfl : fn = Tryd.f4 := (Option.some.inj (Tryd.func4.symm.trans hfn)).symm
  refine ⟨by kernel_rfl, fun j t ht => ?_⟩
  rw [Tryd.params4] at ht
  have hm := Array.mem_of_getElem? ht
  simp only [List.mem_toArray, List.mem_cons, List.not_mem_nil, or_false] at hm
  rcases hm with rfl | rfl
  · exact (show Tryd.prog.wantsStandIn 22 = false by kernel_rfl)
  · exact (show Tryd.prog.wantsStandIn 22 = false by kernel_rfl)

theorem proved : Rows.SignToldCardSaid :=
  Claim7.holds_tied_plain_at .later [] _ _ _ _ said (fun _ h => by cases h) (by kernel_rfl) (fun _ h => by cases h) signTold_row_tie rfl ⟨rfl, rfl⟩ (by kernel_rfl) rfl plain (by kernel_rfl)
#print axioms proved
end Go.Proofs.YtcfdeohjhhpmcaaDoor.signTold



