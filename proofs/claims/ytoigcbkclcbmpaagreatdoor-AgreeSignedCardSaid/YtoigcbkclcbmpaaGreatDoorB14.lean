/- Part 14 of the texts of this claim, one behind the other. -/
import Derived.Test.YtoigcbkclcbmpaaGreatDoorB13
import Derived.SizedLaws
set_option linter.unusedVariables false
set_option linter.unusedSimpArgs false
set_option maxRecDepth 100000
namespace Go.Proofs.YtoigcbkclcbmpaaGreatDoor
open Go.Px
theorem A7Y {r : Value} {a b : LN} (h : Sc r (bv (A9y a) % lN)) (e : a = b) : Sc r (bv (A9y b) % lN) := e ▸ h
theorem A85 (v : Value) (ws : LN) (A : Mem) (hv : By A v ws) (hl : ws.length ≤ 100000000) (hG : GlS A) : FnX Tryz.prog 71 [v] [] A fun r M J => M = [] ∧ J = [] ∧ Sc r (A5M ws) := by
 haveI := hv.cel
 have hvl := hv.len
 obtain ⟨⟨ge0, gf0, h0⟩, ⟨ge1, gf1, h1⟩⟩ := hG
 refine FnX.enter (N := 9) Tryz.func71 rfl rfl rfl fun w => ?_
 refine C4 (D8 0) (A3 ?_)
 refine A6 rfl (C5 (cs := [G4, G4, G4, G4, G4, G4, G4, G4]) kR rfl fun b2 => ?_)
 refine A0 (D5 0 2) (A3 ?_)
 refine A6 rfl (C6 (e := 5) (sz := 1) (z := [zu8, zu8, zu8, zu8, zu8, zu8]) kR (eS rfl (eS rfl (eS rfl (eS rfl (eS rfl (eS rfl e0)))))) (bdS 0 1 rfl qR (bdS 1 1 rfl qR (bdS 2 1 rfl qR (bdS 3 1 rfl qR (bdS 4 1 rfl qR (bdS 5 1 rfl qR bd0)))))) rfl fun b3 => ?_)
 refine A6 rfl (A4s rfl kR UpC.upd rfl ?_)
 refine mv_ ?_
 refine A6 rfl (C6 (e := 27) (sz := 1) (z := [vS, vS]) kR (eS rfl (eS rfl e0)) (bdS 0 1 rfl qR (bdS 1 1 rfl qR bd0)) rfl fun b6 => ?_)
 refine C9 (aS rfl a0) kR (A3v _ [[115, 101, 99, 114, 101, 116], ws] _ (A7x.of (Rd.whole (n := 2) m0 qR) rfl (.cons qD (Rd.whole (n := 6) (cs := nums .u8 [115, 101, 99, 114, 101, 116]) At.mem qR) (.cons hv.lt (hv.rd.mono qS) .nil))) (by simp; omega) qM (mA h0) (mA h1)) rfl ?_
 rintro r7 M7 J7 ⟨rfl, h7⟩
 refine C9 (aS rfl a0) kR (A2g _ _ _ (A1n (h7.rd qS) (A1k _).symm rfl) (A7X _) (by rw [A1k]; decide)) rfl ?_
 rintro r8 M8 J8 ⟨rfl, rfl, hq8⟩
 have hs8 : Sc r8 (A5M ws) := A7Y hq8 qM
 have hz8 := hs8
 obtain ⟨s, rfl, s8, s32, sv⟩ := hs8
 refine A6 rfl (A8 (vs := nums .u32 s) rfl rfl rfl (by rw [nums_len, s8]; kernel_rfl) (by rw [nums_len, s8]; rfl) E8 UpC.upd ?_)
 refine A0 (D8 2) (C3 ?_)
 exact ⟨_, [], [], A1x (n := 8) rfl rfl kR At.mem (by rw [nums_len]; omega), List.nil_sublist _, by simp, rfl, rfl, hz8⟩
theorem A3Y (vr vp vm : Value) (wr wp wm : LN) (A : Mem) (hr : By A vr wr) (hp : By A vp wp) (hm : By A vm wm) (hG : GlS A) : FnX Tryz.prog 76 [vr, vp, vm] [] A fun r M J => M = [] ∧ J = [] ∧ Sc r (A1N wr wp wm) := by
 haveI := hr.cel
 haveI := hp.cel
 haveI := hm.cel
 have hrl := hr.len
 have hpl := hp.len
 have hml := hm.len
 obtain ⟨⟨ge0, gf0, h0⟩, ⟨ge1, gf1, h1⟩⟩ := hG
 refine FnX.enter (N := 15) Tryz.func76 rfl rfl rfl fun w => ?_
 refine C4 (E2 0 1 2) (A3 ?_)
 refine A6 rfl (C5 (cs := [G4, G4, G4, G4, G4, G4, G4, G4]) kR rfl fun b6 => ?_)
 refine A0 (E7 0 1 2 6) (A3 ?_)
 refine A6 rfl (C6 (e := 5) (sz := 1) (z := [zu8, zu8, zu8, zu8, zu8, zu8, zu8, zu8, zu8]) kR (eS rfl (eS rfl (eS rfl (eS rfl (eS rfl (eS rfl (eS rfl (eS rfl (eS rfl e0))))))))) (bdS 0 1 rfl qR (bdS 1 1 rfl qR (bdS 2 1 rfl qR (bdS 3 1 rfl qR (bdS 4 1 rfl qR (bdS 5 1 rfl qR (bdS 6 1 rfl qR (bdS 7 1 rfl qR (bdS 8 1 rfl qR bd0))))))))) rfl fun b7 => ?_)
 refine A6 rfl (A4s rfl kR UpC.upd rfl ?_)
 refine mv_ (mv_ (mv_ ?_))
 refine A6 rfl (C6 (e := 27) (sz := 1) (z := [vS, vS, vS, vS]) kR (eS rfl (eS rfl (eS rfl (eS rfl e0)))) (bdS 0 1 rfl qR (bdS 1 1 rfl qR (bdS 2 1 rfl qR (bdS 3 1 rfl qR bd0)))) rfl fun b12 => ?_)
 refine C9 (aS rfl a0) kR (A3v _ [[99, 104, 97, 108, 108, 101, 110, 103, 101], wr, wp, wm] _ (A7x.of (Rd.whole (n := 4) m0 qR) rfl (.cons qD (Rd.whole (n := 9) (cs := nums .u8 [99, 104, 97, 108, 108, 101, 110, 103, 101]) At.mem qR) (.cons hr.lt (hr.rd.mono qS) (.cons hp.lt (hp.rd.mono qS) (.cons hm.lt (hm.rd.mono qS) .nil))))) (by simp; omega) qM (mA h0) (mA h1)) rfl ?_
 rintro r13 M13 J13 ⟨rfl, h13⟩
 refine C9 (aS rfl a0) kR (A2g _ _ _ (A1n (h13.rd qS) (A1k _).symm rfl) (A7X _) (by rw [A1k]; decide)) rfl ?_
 rintro r14 M14 J14 ⟨rfl, rfl, hq14⟩
 have hs14 : Sc r14 (A1N wr wp wm) := A7Y hq14 qM
 have hz14 := hs14
 obtain ⟨s, rfl, s8, s32, sv⟩ := hs14
 refine A6 rfl (A8 (vs := nums .u32 s) rfl rfl rfl (by rw [nums_len, s8]; kernel_rfl) (by rw [nums_len, s8]; rfl) E8 UpC.upd ?_)
 refine A0 (D8 6) (C3 ?_)
 exact ⟨_, [], [], A1x (n := 8) rfl rfl kR At.mem (by rw [nums_len]; omega), List.nil_sublist _, by simp, rfl, rfl, hz14⟩
theorem A86 (v : Value) (ws : LN) (A : Mem) (hv : By A v ws) (hG : GlS A) : FnX Tryz.prog 38 [v] [] A fun r M J => M = [] ∧ By J r (A2T ws) := by
 haveI := hv.cel
 have hvl := hv.len
 refine FnX.enterZ (N := 9) Tryz.func38 rfl rfl rfl fun w_ => ?_
 refine C4 (D8 0) (A3 (as_ (A0 (D8 0) (A3 ?_))))
 refine C9 a0 kR (A7S _) rfl ?_
 rintro r3 M3 J3 ⟨rfl, rfl, h3⟩
 refine mv_ ?_
 refine C9 (aS rfl a0) kR (A85 v ws _ (hv.mono qS) qO hG.up) rfl ?_
 rintro r5 M5 J5 ⟨rfl, rfl, h5⟩
 refine F6 (aS rfl a0) kR (A2h _ _ h5 _) rfl ?_
 refine C9 (aS rfl (aS rfl a0)) kR (A5A _ pS (N9 (A5M ws) 32) h3 (L8 _ _) (A5C _ _) _) rfl ?_
 rintro r7 M7 J7 ⟨rfl, rfl, h7⟩
 rw [B7Y (A5N _)] at h7
 refine C9 (aS rfl a0) kR ((A5B _ _ h7 _).frz0) rfl ?_
 rintro r8 M8 J8 ⟨rfl, h8⟩
 haveI := h8.cel
 refine as_ (A0 (D8 2) (C3 ?_))
 exact ⟨_, [], [], K2 rfl rfl, Fit.nil, rfl, B4A h8 (A83 _).symm (B4n _) (by rw [A83]; decide) qS⟩
theorem C0a (v vm : Value) (ws wm : LN) (A : Mem) (hv : By A v ws) (hm : By A vm wm) (hG : GlS A) : FnX Tryz.prog 82 [v, vm] [] A fun r M J => J = [] ∧ Sl 1 r 64 (nums .u8 (A4a ws wm)) M := by
 haveI := hv.cel
 haveI := hm.cel
 have hvl := hv.len
 have hml := hm.len
 have hG0 := hG
 obtain ⟨⟨ge0, gf0, h0⟩, ⟨ge1, gf1, h1⟩⟩ := hG
 have hG := hG0
 refine FnX.enter (N := 34) Tryz.func82 rfl rfl rfl fun w => ?_
 refine C4 (D5 0 1) (A3 (as_ (A0 (D5 0 1) (A3 ?_))))
 refine A6 rfl (C6 (e := 5) (sz := 1) (z := [zu8, zu8, zu8, zu8, zu8]) kR (eS rfl (eS rfl (eS rfl (eS rfl (eS rfl e0))))) (bdS 0 1 rfl qR (bdS 1 1 rfl qR (bdS 2 1 rfl qR (bdS 3 1 rfl qR (bdS 4 1 rfl qR bd0))))) rfl fun b8 => ?_)
 refine A6 rfl (A4s rfl kR UpC.upd rfl ?_)
 refine mv_ (mv_ ?_)
 refine A6 rfl (C6 (e := 27) (sz := 1) (z := [vS, vS, vS]) kR (eS rfl (eS rfl (eS rfl e0))) (bdS 0 1 rfl qR (bdS 1 1 rfl qR (bdS 2 1 rfl qR bd0))) rfl fun b12 => ?_)
 refine C9 (aS rfl a0) kR (A3v _ [[110, 111, 110, 99, 101], ws, wm] _ (A7x.of (Rd.whole (n := 3) m0 qR) rfl (.cons qD (Rd.whole (n := 5) (cs := nums .u8 [110, 111, 110, 99, 101]) At.mem qR) (.cons hv.lt (hv.rd.mono qS) (.cons hm.lt (hm.rd.mono qS) .nil)))) (by simp; omega) qM (mA h0) (mA h1)) rfl ?_
 rintro r13 M13 J13 ⟨rfl, h13⟩
 refine C9 (aS rfl a0) kR (A2g _ _ _ (A1n (h13.rd qS) (A1k _).symm rfl) (A7X _) (by rw [A1k]; decide)) rfl ?_
 rintro r14 M14 J14 ⟨rfl, rfl, hq14⟩
 have hs14 : Sc r14 (B1T ws wm) := A7Y hq14 qM
 have hz14 := hs14
 obtain ⟨s, rfl, s8, s32, sv⟩ := hs14
 refine A6 rfl (C5 (cs := [G4, G4, G4, G4, G4, G4, G4, G4]) kR rfl fun b5 => ?_)
 refine A6 rfl (A8 (vs := nums .u32 s) rfl rfl rfl (by rw [nums_len, s8]; kernel_rfl) (by rw [nums_len, s8]; rfl) E8 UpC.upd ?_)
 refine A0 (E2 0 1 5) ?_
 refine D2 [0, 1, 2, 3, 4, 5] [(1, 1), (0, 2), (2, 2), (3, 2), (4, 2), (5, 0)] kR kR fun hs => ?_
 refine F7 hs rfl (H6 (n := 8) (cs := nums .u32 s) rfl kR At.mem (by rw [nums_len]; omega)) rfl ?_
 refine G1 rfl a0 kR (A7S _) rfl ?_
 rintro r15 M15 J15 ⟨rfl, rfl, h15⟩
 refine T6 rfl (aS rfl a0) kR (A2h _ _ hz14 _) rfl ?_
 refine G1 rfl (aS rfl (aS rfl a0)) kR (A5A _ pS (N9 (B1T ws wm) 32) h15 (L8 _ _) (A5C _ _) _) rfl ?_
 rintro r18 M18 J18 ⟨rfl, rfl, h18⟩
 rw [B7Y (A7V _ _)] at h18
 refine G1 rfl (aS rfl a0) kR (A5B _ _ h18 _) rfl ?_
 rintro r19 M19 J19 ⟨rfl, h19⟩
 haveI := h19.cel
 replace h19 : Sl 1 r19 32 (nums .u8 (rB ws wm)) M19 := h19
 refine fa_ hs ?_
 refine E4 (E7 0 1 5 6) ?_
 refine D2 (.range 12) [(0, 0), (1, 0), (3, 0), (5, 0), (8, 1), (2, 3), (4, 3), (6, 3), (7, 3), (9, 3), (10, 3), (11, 4), (12, 2)] kR kR fun hs => ?_
 refine fm_ hs ?_
 refine fm_ hs ?_
 refine fm_ hs ?_
 refine fm_ hs ?_
 refine F7 hs rfl (H6 (n := 8) (cs := nums .u32 s) rfl kR At.mem (by rw [nums_len]; omega)) rfl ?_
 refine N5 [⟨2, 22, fun v B R => B = [] ∧ By R v (A2T ws)⟩, ⟨4, 24, fun v B _ => B = [] ∧ Sc v (A1N (rB ws wm) (A2T ws) wm)⟩, ⟨6, 26, fun v B _ => B = [] ∧ Sc v (A5M ws)⟩, ⟨7, 27, fun v B _ => B = [] ∧ Sc v (A1N (rB ws wm) (A2T ws) wm * A5M ws % lN)⟩, ⟨9, 29, fun v B _ => B = [] ∧ Sc v (sN ws wm)⟩, ⟨10, 30, fun v B _ => B = [] ∧ v = .agg (nums .u8 (N9 (sN ws wm) 32)).toArray⟩, ⟨11, 7, fun v B _ => ∃ b, v = (vP b) ∧ B = [(b, blk [.int .u8 0, .int .u8 0, .int .u8 0, .int .u8 0, .int .u8 0, .int .u8 0, .int .u8 0, .int .u8 0, .int .u8 0, .int .u8 0, .int .u8 0, .int .u8 0, .int .u8 0, .int .u8 0, .int .u8 0, .int .u8 0, .int .u8 0, .int .u8 0, .int .u8 0, .int .u8 0, .int .u8 0, .int .u8 0, .int .u8 0, .int .u8 0, .int .u8 0, .int .u8 0, .int .u8 0, .int .u8 0, .int .u8 0, .int .u8 0, .int .u8 0, .int .u8 0] 110)]⟩]
  (C1 (fun _ _ _ _ hR h => ⟨h.1, h.2.mono hR⟩) (C1 (fun _ _ _ _ _ h => h) (C1 (fun _ _ _ _ _ h => h) (C1 (fun _ _ _ _ _ h => h) (C1 (fun _ _ _ _ _ h => h) (C1 (fun _ _ _ _ _ h => h) (C1 (fun _ _ _ _ _ h => h) (K7)))))))) (show List.Nodup [22, 24, 26, 27, 29, 30, 7] by decide) (show List.Nodup [2, 4, 6, 7, 9, 10, 11] by decide) (C1 (C8 rfl) (C1 (C8 rfl) (C1 (C8 rfl) (C1 (C8 rfl) (C1 (C8 rfl) (C1 (C8 rfl) (C1 (C8 rfl) (K7))))))))
  (C1 ⟨_, rfl, fun vs bs R w hb ha => ⟨.inl rfl, ?_⟩⟩ (C1 ⟨_, rfl, fun vs bs R w hb ha => ⟨.inl rfl, ?_⟩⟩ (C1 ⟨_, rfl, fun vs bs R w hb ha => ⟨.inl rfl, ?_⟩⟩ (C1 ⟨_, rfl, fun vs bs R w hb ha => ⟨.inl rfl, ?_⟩⟩ (C1 ⟨_, rfl, fun vs bs R w hb ha => ⟨.inl rfl, ?_⟩⟩ (C1 ⟨_, rfl, fun vs bs R w hb ha => ⟨.inl rfl, ?_⟩⟩ (C1 ⟨_, rfl, fun vs bs R w hb ha => ⟨.inl rfl, ?_⟩⟩ (K7)))))))) ?_
 ·
  refine D7 (aS rfl a0) kR (A86 v ws _ (hv.mono fun x hx => hb _ (qS x hx)) (hG.sub fun x hx => hb _ (mA hx))) rfl ?_
  rintro r M1 J1 ⟨rfl, hh⟩
  exact ⟨_, rfl, rfl, hh.mono fun x hx => by simp [hx]⟩
 ·
  have g2 := ha _ (List.mem_of_getElem? (i := 0) rfl) kR
  replace g2 : (fun v B R => B = [] ∧ By R v (A2T ws)) (vs 2) (bs 2) R := g2
  dsimp only at g2
  obtain ⟨-, k2⟩ := g2
  refine D7 (aS rfl (aS rfl (aS rfl (a0)))) kR (A3Y _ _ _ (rB ws wm) (A2T ws) wm _ (B4A h19 (A3X _ _).symm (B4n _) (by rw [A3X]; decide) (fun x hx => hb _ (qS x hx))) k2 (hm.mono fun x hx => hb _ (qS x hx)) (hG.sub fun x hx => hb _ (mA hx))) rfl ?_
  rintro r M1 J1 ⟨rfl, rfl, hh⟩
  exact ⟨_, rfl, rfl, hh⟩
 ·
  refine D7 (aS rfl (a0)) kR (A85 v ws _ (hv.mono fun x hx => hb _ (qS x hx)) qO (hG.sub fun x hx => hb _ (mA hx))) rfl ?_
  rintro r M1 J1 ⟨rfl, rfl, hh⟩
  exact ⟨_, rfl, rfl, hh⟩
 ·
  have g4 := ha _ (List.mem_of_getElem? (i := 1) rfl) kR
  replace g4 : (fun v B _ => B = [] ∧ Sc v (A1N (rB ws wm) (A2T ws) wm)) (vs 4) (bs 4) R := g4
  dsimp only at g4
  have g6 := ha _ (List.mem_of_getElem? (i := 2) rfl) kR
  replace g6 : (fun v B _ => B = [] ∧ Sc v (A5M ws)) (vs 6) (bs 6) R := g6
  dsimp only at g6
  obtain ⟨-, k4⟩ := g4
  obtain ⟨-, k6⟩ := g6
  refine D7 (aS rfl (aS rfl (a0))) kR (B4q _ _ _ _ k4 k6 (A5N _) _) rfl ?_
  rintro r M1 J1 ⟨rfl, rfl, hh⟩
  exact ⟨_, rfl, rfl, hh⟩
 ·
  have g7 := ha _ (List.mem_of_getElem? (i := 3) rfl) kR
  replace g7 : (fun v B _ => B = [] ∧ Sc v (A1N (rB ws wm) (A2T ws) wm * A5M ws % lN)) (vs 7) (bs 7) R := g7
  dsimp only at g7
  obtain ⟨-, k7⟩ := g7
  refine D7 (aS rfl (aS rfl (a0))) kR (A6V _ _ _ _ k7 hz14 (Nat.mod_lt _ A1u) (A7V _ _) _) rfl ?_
  rintro r M1 J1 ⟨rfl, rfl, hh⟩
  exact ⟨_, rfl, rfl, hh⟩
 ·
  have g9 := ha _ (List.mem_of_getElem? (i := 4) rfl) kR
  replace g9 : (fun v B _ => B = [] ∧ Sc v (sN ws wm)) (vs 9) (bs 9) R := g9
  dsimp only at g9
  obtain ⟨-, k9⟩ := g9
  exact W2 (aS rfl a0) kR (A2h _ _ k9 _) rfl ⟨_, rfl, rfl, rfl⟩
 ·
  exact C5 (cs := [zu8, zu8, zu8, zu8, zu8, zu8, zu8, zu8, zu8, zu8, zu8, zu8, zu8, zu8, zu8, zu8, zu8, zu8, zu8, zu8, zu8, zu8, zu8, zu8, zu8, zu8, zu8, zu8, zu8, zu8, zu8, zu8]) kR rfl fun b => ⟨_, rfl, b, rfl, rfl⟩
 intro vs bs Jn0 hφ
 have g2 := ofH hφ
 dsimp only at g2
 replace hφ := ofT hφ
 have g4 := ofH hφ
 dsimp only at g4
 replace hφ := ofT hφ
 have g6 := ofH hφ
 dsimp only at g6
 replace hφ := ofT hφ
 have g7 := ofH hφ
 dsimp only at g7
 replace hφ := ofT hφ
 have g9 := ofH hφ
 dsimp only at g9
 replace hφ := ofT hφ
 have g10 := ofH hφ
 dsimp only at g10
 replace hφ := ofT hφ
 have g11 := ofH hφ
 dsimp only at g11
 clear hφ
 dsimp only [U9, Q4, List.map, List.flatten, List.cons_append, List.nil_append]
 generalize bs 2 = B22 at *
 generalize bs 4 = B24 at *
 generalize bs 6 = B26 at *
 generalize bs 7 = B27 at *
 generalize bs 9 = B29 at *
 generalize bs 10 = B30 at *
 generalize bs 11 = B7 at *
 generalize vs 2 = u22 at *
 generalize vs 4 = u24 at *
 generalize vs 6 = u26 at *
 generalize vs 7 = u27 at *
 generalize vs 9 = u29 at *
 generalize vs 10 = u30 at *
 generalize vs 11 = u7 at *
 obtain ⟨rfl, -⟩ := g2
 obtain ⟨rfl, -⟩ := g4
 obtain ⟨rfl, -⟩ := g6
 obtain ⟨rfl, -⟩ := g7
 obtain ⟨rfl, -⟩ := g9
 obtain ⟨rfl, rfl⟩ := g10
 obtain ⟨b7, rfl, rfl⟩ := g11
 dsimp only [List.append_eq, List.nil_append, List.cons_append]
 refine G5 rfl rfl rfl (A8 (vs := nums .u8 (N9 (sN ws wm) 32)) rfl rfl rfl (by rw [nums_len, L8]; kernel_rfl) (by rw [nums_len, L8]; rfl) E8 UpC.upd ?_)
 refine E4 (D5 6 7) (A3 (mv_ ?_))
 refine A4 (B0E (sz := 1) (e := 5) (n := 32) rfl kR kR) rfl ?_
 refine A6 rfl (I3 (e := 5) (sz := 1) (by_ := 1) (n := 32) (m := 32) rfl rfl kR rfl h19 (Rd.whole (n := 32) (cs := nums .u8 (N9 (sN ws wm) 32)) At.mem (by rw [nums_len, L8])) E8 qP (by unfold maxLen; omega) qO rfl fun v33 B33 hs33 => ?_)
 haveI := hs33.cel
 rw [← K3] at hs33
 refine as_ (A0 (D8 4) (C3 ?_))
 exact ⟨_, B33, [], K2 rfl rfl, List.sublist_append_left _ _, by simp, rfl, hs33⟩

end Go.Proofs.YtoigcbkclcbmpaaGreatDoor
namespace Go.Px
open Go.ChangeShapes Go.WideShapes Go.ChangeAt Go.RowKit
structure Byi (R : Mem) (v : Value) (w : List Nat) : Prop where
  rd : Rd R 1 v w.length (nums .u8 w)
  lt : ∀ x ∈ w, x < 256
  len : w.length ≤ maxLen
theorem Byi.mono {R R' : Mem} {v : Value} {w : List Nat} (h : Byi R v w) (hR : ∀ x, x ∈ R → x ∈ R') : Byi R' v w := ⟨h.rd.mono hR, h.lt, h.len⟩
theorem By.i {R : Mem} {v : Value} {w : List Nat} (h : By R v w) : Byi R v w := ⟨h.rd, h.lt, h.max⟩
theorem Byi.cel {R : Mem} {v : Value} {w : List Nat} (h : Byi R v w) : Cel v [v] := h.rd.cel
theorem Byi.one {R : Mem} {v : Value} {w : List Nat} (h : Byi R v w) : v.oneCell' = true := h.rd.one
structure Byz (R : Mem) (v : Value) (w : List Nat) : Prop extends Byi R v w where
  sz : w.length ≤ reachBytes
theorem Byz.mono {R R' : Mem} {v : Value} {w : List Nat} (h : Byz R v w) (hR : ∀ x, x ∈ R → x ∈ R') : Byz R' v w := ⟨h.toByi.mono hR, h.sz⟩
section
variable {H : Type} {enc : TypeId × Value → H} {P : Program} {w : World} {spare : Nat → Bool} {held : Bool} {fuel : Nat} {t e : TypeId} {cs : List Value} {x : DataW H × List MemPlace}
end
end Go.Px

namespace Go.Proofs.YtoigcbkclcbmpaaGreatDoor
open Go.Px
theorem C0b {R : Mem} {v : Value} {w : LN} (h : By R v w) {k : Nat} (hk : k ≤ w.length) : By R (vHi k v) (w.take k) := ⟨by
  have h1 := h.rd.hiV k hk
  rw [Nat.mul_one, ← A0Z] at h1
  rw [List.length_take, Nat.min_eq_left hk]
  exact h1, fun x hx => h.lt x (List.mem_of_mem_take hx), by rw [List.length_take]; have := h.len; omega⟩
theorem C11 {R : Mem} {v : Value} {w : LN} (h : By R v w) {k : Nat} (hk : k ≤ w.length) : By R (vLo k 1 v) (w.drop k) := ⟨by
  have h1 := h.rd.loV k hk
  rw [Nat.mul_one, ← A0r] at h1
  rw [List.length_drop]
  exact h1, fun x hx => h.lt x (List.mem_of_mem_drop hx), by rw [List.length_drop]; have := h.len; omega⟩
theorem B1Y {p m s : LN} (h : ¬ s.length = 64) : A2U p m s = false := by
  unfold A2U; rw [decide_eq_false h, Bool.false_and]
theorem B72 {p m s : LN} (h : P8 p = none) : A2U p m s = false := by
  unfold A2U; rw [h, B4w, Bool.and_false]
theorem B73 {p m s : LN} (h : P8 (s.take 32) = none) : A2U p m s = false := by
  unfold A2U; rw [h, A81, Bool.and_false]
theorem C0c {p m s : LN} {a r : Pt} (h1 : P8 p = some a) (h2 : P8 (s.take 32) = some r) (h : ¬ N9 (bv (s.drop 32) % lN) 32 = s.drop 32) : A2U p m s = false := by
  unfold A2U; rw [h1, h2, A2i, decide_eq_false h, Bool.false_and, Bool.and_false]
theorem C0d {p m s : LN} {a r : Pt} (h0 : s.length = 64) (h1 : P8 p = some a) (h2 : P8 (s.take 32) = some r) (h : N9 (bv (s.drop 32) % lN) 32 = s.drop 32) : A2U p m s = A5H (V9 pS (bv (s.drop 32) % lN)) (A56 d2N r (V9 a (A1N (s.take 32) p m))) := by
  unfold A2U; rw [decide_eq_true h0, h1, h2, A2i, decide_eq_true h, Bool.true_and, Bool.true_and]
theorem A87 {V : Value} {b : Bool} {w : LN} (h : (∃ P, P8 w = some P ∧ b = true ∧ FeP V P) ∨ (P8 w = none ∧ b = false ∧ FeP V pZ)) : ∃ P, FeP V P ∧ ((P8 w = some P ∧ b = true) ∨ (P8 w = none ∧ b = false)) := by
  rcases h with ⟨P, h1, h2, h3⟩ | ⟨h1, h2, h3⟩
  · exact ⟨P, h3, .inl ⟨h1, h2⟩⟩
  · exact ⟨_, h3, .inr ⟨h1, h2⟩⟩
theorem A88 (V : Value) (P : Pt) (n : Nat) (hP : FeP V P) (hn : n < lN) (A : Mem) : FnX Tryz.prog 68 [V, .agg (nums .u8 (N9 n 32)).toArray] [] A fun r M J => M = [] ∧ J = [] ∧ FeP r (V9 P n) := by
  have h := A5A V P (N9 n 32) hP (L8 _ _) (A5C _ _) A
  rwa [B7Y hn] at h
theorem B1Z {R : Mem} {v : Value} {w : LN} (h : By R v w) (hp : 0 < w.length) : ∃ (b o cap : Nat) (cs : List Value) (e : TypeId) (fr : Nat × Nat), v = .slice (some ⟨b, o, none⟩) w.length cap ∧ (b, Obj.cells cs.toArray e fr) ∈ R ∧ ∀ j u, (nums .u8 w)[j]? = some u → cs[o + j]? = some u := by
  obtain ⟨p, cap, hv, h1, h2, h3 | ⟨b, o, cs, e, fr, hb, hm, hg⟩⟩ := h.rd
  · omega
  · subst hb; exact ⟨b, o, cap, cs, e, fr, hv, hm, hg⟩
theorem B74 (vp vm vs : Value) (wp wm ws : LN) (A : Mem) (hp : By A vp wp) (hm : By A vm wm) (hsg : By A vs ws) (hG : GlS A) : FnV Tryz.prog 43 [vp, vm, vs] A (.bool (A2U wp wm ws)) := by
  haveI := hp.cel
  haveI := hm.cel
  haveI := hsg.cel
  have hpl := hp.len
  have hml := hm.len
  have hsl := hsg.len
  refine FnX.enter (N := 64) Tryz.func43 rfl rfl rfl fun w => ?_
  refine C4 (E2 0 1 2) (A3 (as_ (A0 (E2 0 1 2) (A5 (A3 (mv_ ?_))))))
  refine A4 (K1 (sz := 1) rfl kR hsg.rd) rfl ?_
  refine A4 (F1 rfl rfl rfl) rfl ?_
  refine A0 (E7 0 1 2 17) ?_
  refine C7 rfl ?_ ?_ <;> intro hc
  ·
    have h64 : ¬ ws.length = 64 := by simp at hc; omega
    refine A3 (as_ (A0 (D8 6) (C3 (tr ?_))))
    exact ⟨_, [], [], K2 rfl rfl, List.nil_sublist _, by simp, by rw [B1Y h64], rfl, rfl⟩
  ·
    have h64 : ws.length = 64 := by simp at hc; omega
    have hr := C0b hsg (show 32 ≤ ws.length by omega)
    obtain ⟨vr, hvr⟩ : ∃ vr, vHi 32 vs = vr := ⟨_, rfl⟩
    rw [hvr] at hr
    haveI := hr.cel
    have hl := C11 hsg (show 32 ≤ ws.length by omega)
    obtain ⟨vl, hvl⟩ : ∃ vl, vLo 32 1 vs = vl := ⟨_, rfl⟩
    rw [hvl] at hl
    have hll : (ws.drop 32).length = 32 := by rw [List.length_drop]; omega
    obtain ⟨lb, lo, lcap, lcs, le_, lfr, rfl, hlm, hlg⟩ := B1Z hl qO
    haveI := hl.cel
    refine A9 (nx (E2 0 1 2) (A3 (mv_ ?_)))
    refine C9 (aS rfl a0) kR (B1W vp wp _ (hp.mono qS)) rfl ?_
    rintro r20 M20 J20 ⟨rfl, rfl, VA, bA, rfl, hA⟩
    obtain ⟨PA, hPA, hAb⟩ := A87 hA
    have hPA0 := hPA
    obtain ⟨xspa, rfl, pa0, pa1, pa2, pa3, pa4, pa5, pa6, pa7, pa8, pa9, pa10, pa11, pa12, pa13, pa14, pa15, pa16, pa17, pa18, pa19, rfl, hPAX, hPAY, hPAZ, hPAT⟩ := hPA
    dsimp only [nums, List.map]
    refine mv_ ?_
    refine A4 (A4e rfl) rfl ?_
    refine A4 (A38 rfl) rfl ?_
    refine A6 rfl (C5 (cs := [A7, A7, A7, A7, A7, A7, A7, A7, A7, A7, A7, A7, A7, A7, A7, A7, A7, A7, A7, A7]) kR rfl fun b7 => ?_)
    refine A6 rfl (A8 rfl rfl Cel.cel kR A26 A27 UpC.upd ?_)
    refine as_ (A0 (F5 0 1 2 7 8) (A3 (mv_ ?_)))
    refine A4 (hvr ▸ A6m (sz := 1) (a := 32) rfl rfl kR rfl hsg.rd qO) rfl ?_
    refine C9 (aS rfl a0) kR (B1W vr (ws.take 32) _ (hr.mono qS)) rfl ?_
    rintro r26 M26 J26 ⟨rfl, rfl, VR, bR, rfl, hR⟩
    obtain ⟨PR, hPR, hRb⟩ := A87 hR
    have hPR0 := hPR
    obtain ⟨xspr, rfl, pr0, pr1, pr2, pr3, pr4, pr5, pr6, pr7, pr8, pr9, pr10, pr11, pr12, pr13, pr14, pr15, pr16, pr17, pr18, pr19, rfl, hPRX, hPRY, hPRZ, hPRT⟩ := hPR
    dsimp only [nums, List.map]
    refine mv_ ?_
    refine A4 (A4e rfl) rfl ?_
    refine A4 (A38 rfl) rfl ?_
    refine A6 rfl (C5 (cs := [A7, A7, A7, A7, A7, A7, A7, A7, A7, A7, A7, A7, A7, A7, A7, A7, A7, A7, A7, A7]) kR rfl fun b9 => ?_)
    refine A6 rfl (A8 rfl rfl Cel.cel kR A26 A27 UpC.upd ?_)
    refine as_ (A0 (Y0 0 1 2 7 8 9 10) (A3 (mv_ ?_)))
    refine A4 (hvl ▸ A8s (sz := 1) (a := 32) rfl rfl kR rfl hsg.rd qO) rfl ?_
    refine C9 (aS rfl a0) kR (A2g _ (ws.drop 32) _ (hl.rd.mono qS) hl.lt qO) rfl ?_
    rintro r31 M31 J31 ⟨rfl, rfl, hq⟩
    have hz := hq
    obtain ⟨s, rfl, s8, s32, sv⟩ := hq
    refine A6 rfl (C5 (cs := [G4, G4, G4, G4, G4, G4, G4, G4]) kR rfl fun b11 => ?_)
    refine A6 rfl (A8 (vs := nums .u32 s) rfl rfl rfl (by rw [nums_len, s8]; kernel_rfl) (by rw [nums_len, s8]; rfl) E8 UpC.upd ?_)
    refine A0 (A2o 0 1 2 7 8 9 10 11) (A3 ?_)
    refine A4 (H6 (n := 8) (cs := nums .u32 s) rfl kR At.mem (by rw [nums_len]; omega)) rfl ?_
    refine F6 (aS rfl a0) kR (A2h _ _ hz _) rfl ?_
    refine A6 rfl (C5 (cs := [zu8, zu8, zu8, zu8, zu8, zu8, zu8, zu8, zu8, zu8, zu8, zu8, zu8, zu8, zu8, zu8, zu8, zu8, zu8, zu8, zu8, zu8, zu8, zu8, zu8, zu8, zu8, zu8, zu8, zu8, zu8, zu8]) kR rfl fun b12 => ?_)
    refine A6 rfl (A8 (vs := nums .u8 (N9 (bv (ws.drop 32) % lN) 32)) rfl rfl rfl (by rw [nums_len, L8]; kernel_rfl) (by rw [nums_len, L8]; rfl) E8 UpC.upd ?_)
    refine A0 (A2o 0 1 2 7 8 9 10 12) (A5 ?_)
    have h3 : (P8 wp = none ∧ bA = false) ∨ ((P8 wp = some PA ∧ bA = true) ∧ (P8 (ws.take 32) = none ∧ bR = false)) ∨ ((P8 wp = some PA ∧ bA = true) ∧ (P8 (ws.take 32) = some PR ∧ bR = true)) := by
      rcases hAb with h | h
      · rcases hRb with h2 | h2
        · exact .inr (.inr ⟨h, h2⟩)
        · exact .inr (.inl ⟨h, h2⟩)
      · exact .inl h
    clear hAb hRb
    rcases h3 with ⟨hA1, rfl⟩ | ⟨⟨hA1, rfl⟩, hR1, rfl⟩ | ⟨⟨hA1, rfl⟩, hR1, rfl⟩
    ·
      refine D2 (.range 14) (zp 0 [0, 0, 0, 0, 0, 0, 0, 1, 0, 0, 0, 1, 0, 0]) kR kR fun hs => ?_
      refine fm_ hs ?_
      refine D1 hs rfl (A0o rfl) rfl ?_
      refine fm_ hs ?_
      refine L7 hs ?_
      refine L7 hs ?_
      refine D1 hs rfl (I5 rfl rfl) rfl ?_
      refine fm_ hs ?_
      refine U8 hs ?_
      refine L7 hs ?_
      refine L7 hs ?_
      refine L7 hs ?_
      refine U8 hs ?_
      refine L7 hs ?_
      refine D1 hs rfl (I5 rfl rfl) rfl ?_
      refine E4 (Y0 0 1 2 7 9 12 47) ?_
      refine E0 rfl ?_
      refine A3 (as_ (A0 (D8 6) (C3 (tr ?_))))
      exact ⟨_, [], [], K2 rfl rfl, List.nil_sublist _, by simp, by rw [B72 hA1], rfl, rfl⟩
    ·
      refine D2 (.range 14) (zp 0 [0, 0, 0, 0, 0, 0, 0, 1, 0, 0, 0, 1, 0, 0]) kR kR fun hs => ?_
      refine fm_ hs ?_
      refine D1 hs rfl (A0o rfl) rfl ?_
      refine fm_ hs ?_
      refine L6 hs rfl rfl rfl rfl qm_ rfl ?_
      refine L6 hs rfl rfl rfl rfl (A0o rfl) rfl ?_
      refine D1 hs rfl (E9 rfl rfl) rfl ?_
      refine fm_ hs ?_
      refine U8 hs ?_
      refine L7 hs ?_
      refine L7 hs ?_
      refine L7 hs ?_
      refine U8 hs ?_
      refine L7 hs ?_
      refine D1 hs rfl (I5 rfl rfl) rfl ?_
      refine E4 (Y0 0 1 2 7 9 12 47) ?_
      refine E0 rfl ?_
      refine A3 (as_ (A0 (D8 6) (C3 (tr ?_))))
      exact ⟨_, [], [], K2 rfl rfl, List.nil_sublist _, by simp, by rw [B73 hR1], rfl, rfl⟩
    ·
      refine D2 (.range 14) (zp 0 [0, 0, 0, 0, 0, 0, 0, 1, 0, 0, 0, 1, 0, 0]) kR kR fun hs => ?_
      refine fm_ hs ?_
      refine D1 hs rfl (A0o rfl) rfl ?_
      refine fm_ hs ?_
      refine L6 hs rfl rfl rfl rfl qm_ rfl ?_
      refine L6 hs rfl rfl rfl rfl (A0o rfl) rfl ?_
      refine D1 hs rfl (E9 rfl rfl) rfl ?_
      refine fm_ hs ?_
      refine Y6 hs rfl rfl rfl rfl (H6 (n := 32) (cs := nums .u8 (N9 (bv (ws.drop 32) % lN) 32)) rfl kR At.mem (by rw [nums_len, L8])) rfl ?_
      refine L6 hs rfl rfl rfl rfl qm_ rfl ?_
      refine L6 hs rfl rfl rfl rfl (hvl ▸ A8s (sz := 1) (a := 32) rfl rfl kR rfl hsg.rd qO) rfl ?_
      refine L6 hs rfl rfl rfl rfl (B4z (k := .u8) (n := 32) rfl kR qO) rfl ?_
      refine Y6 hs rfl rfl rfl rfl (H2 (n := 32) (vs := nums .u8 (ws.drop 32)) rfl kR (mA hlm) ⟨by rw [nums_len]; omega, hlg⟩) rfl ?_
      refine L6 hs rfl rfl rfl rfl (B7V (n := 32) (k := .u8) rfl rfl kR kR (L8 _ _) qO) rfl ?_
      refine D1 hs rfl (E9 rfl rfl) rfl ?_
      refine E4 (Y0 0 1 2 7 9 12 47) ?_
      refine C7 rfl ?_ ?_ <;> intro hc
      ·
        have hne : ¬ N9 (bv (ws.drop 32) % lN) 32 = ws.drop 32 := by simpa using hc
        refine A3 (as_ (A0 (D8 6) (C3 (tr ?_))))
        exact ⟨_, [], [], K2 rfl rfl, List.nil_sublist _, by simp, by rw [C0c hA1 hR1 hne], rfl, rfl⟩
      ·
        have hne : N9 (bv (ws.drop 32) % lN) 32 = ws.drop 32 := by simpa using hc
        refine A9 (nx (I1 0 1 2 7 9 12) ?_)
        refine D2 [0, 1, 2, 3] [(1, 1), (0, 3), (2, 3), (3, 4), (4, 2)] kR kR fun hs => ?_
        refine F7 hs rfl (H6 (n := 32) (cs := nums .u8 (N9 (bv (ws.drop 32) % lN) 32)) rfl kR At.mem (by rw [nums_len, L8])) rfl ?_
        refine N5 [⟨0, 48, fun v B _ => B = [] ∧ FeP v pS⟩, ⟨2, 50, fun v B _ => B = [] ∧ FeP v (V9 pS (bv (ws.drop 32) % lN))⟩, ⟨3, 13, fun v B _ => ∃ b, v = (vP b) ∧ B = [(b, blk [.int .u64 0, .int .u64 0, .int .u64 0, .int .u64 0, .int .u64 0, .int .u64 0, .int .u64 0, .int .u64 0, .int .u64 0, .int .u64 0, .int .u64 0, .int .u64 0, .int .u64 0, .int .u64 0, .int .u64 0, .int .u64 0, .int .u64 0, .int .u64 0, .int .u64 0, .int .u64 0] 126)]⟩]
          (C1 (fun _ _ _ _ _ h => h) (C1 (fun _ _ _ _ _ h => h) (C1 (fun _ _ _ _ _ h => h) (K7)))) (show List.Nodup [48, 50, 13] by decide) (show List.Nodup [0, 2, 3] by decide) (C1 (C8 rfl) (C1 (C8 rfl) (C1 (C8 rfl) (K7))))
          (C1 ⟨_, rfl, fun vs bs R w hb ha => ⟨.inl rfl, ?_⟩⟩ (C1 ⟨_, rfl, fun vs bs R w hb ha => ⟨.inl rfl, ?_⟩⟩ (C1 ⟨_, rfl, fun vs bs R w hb ha => ⟨.inl rfl, ?_⟩⟩ (K7)))) ?_
        ·
          refine D7 (a0) kR (A7S _) rfl ?_
          rintro r M1 J1 ⟨rfl, rfl, hh⟩
          exact ⟨_, rfl, rfl, hh⟩
        ·
          have g0 := ha _ (List.mem_of_getElem? (i := 0) rfl) kR
          replace g0 : (fun v B _ => B = [] ∧ FeP v pS) (vs 0) (bs 0) R := g0
          dsimp only at g0
          obtain ⟨-, k0⟩ := g0
          refine D7 (aS rfl (aS rfl (a0))) kR (A88 _ pS (bv (ws.drop 32) % lN) k0 (Nat.mod_lt _ A1u) _) rfl ?_
          rintro r M1 J1 ⟨rfl, rfl, hh⟩
          exact ⟨_, rfl, rfl, hh⟩
        ·
          exact C5 (cs := [A7, A7, A7, A7, A7, A7, A7, A7, A7, A7, A7, A7, A7, A7, A7, A7, A7, A7, A7, A7]) kR rfl fun b => ⟨_, rfl, b, rfl, rfl⟩
        intro vs bs Jn0 hφ
        have g0 := ofH hφ
        dsimp only at g0
        replace hφ := ofT hφ
        have g2 := ofH hφ
        dsimp only at g2
        replace hφ := ofT hφ
        have g3 := ofH hφ
        dsimp only at g3
        clear hφ
        dsimp only [U9, Q4, List.map, List.flatten, List.cons_append, List.nil_append]
        generalize bs 0 = B48 at *
        generalize bs 2 = B50 at *
        generalize bs 3 = B13 at *
        generalize vs 0 = u48 at *
        generalize vs 2 = u50 at *
        generalize vs 3 = u13 at *
        obtain ⟨rfl, -⟩ := g0
        obtain ⟨rfl, hL⟩ := g2
        obtain ⟨b13, rfl, rfl⟩ := g3
        have hL0 := hL
        obtain ⟨xspl, rfl, pl0, pl1, pl2, pl3, pl4, pl5, pl6, pl7, pl8, pl9, pl10, pl11, pl12, pl13, pl14, pl15, pl16, pl17, pl18, pl19, rfl, hLX, hLY, hLZ, hLT⟩ := hL
        dsimp only [nums, List.map]
        dsimp only [List.append_eq, List.nil_append, List.cons_append]
        refine G5 rfl rfl rfl (A8 rfl rfl Cel.cel kR A26 A27 UpC.upd ?_)
        refine E4 (I1 0 1 2 7 9 13) ?_
        refine D2 (.range 11) (zp 0 [1, 1, 0, 0, 0, 0, 3, 3, 3, 3, 4, 2]) kR kR fun hs => ?_
        refine F7 hs rfl (qw_ 20) rfl ?_
        refine F7 hs rfl (qw_ 20) rfl ?_
        refine fm_ hs ?_
        refine D1 hs rfl (hvr ▸ A6m (sz := 1) (a := 32) rfl rfl kR rfl hsg.rd qO) rfl ?_
        refine fm_ hs ?_
        refine fm_ hs ?_
        refine N5 [⟨6, 57, fun v B _ => B = [] ∧ Sc v (A1N (ws.take 32) wp wm)⟩, ⟨7, 58, fun v B _ => B = [] ∧ v = .agg (nums .u8 (N9 (A1N (ws.take 32) wp wm) 32)).toArray⟩, ⟨8, 59, fun v B _ => B = [] ∧ FeP v (V9 PA (A1N (ws.take 32) wp wm))⟩, ⟨9, 60, fun v B _ => B = [] ∧ FeP v (A56 d2N PR (V9 PA (A1N (ws.take 32) wp wm)))⟩, ⟨10, 14, fun v B _ => ∃ b, v = (vP b) ∧ B = [(b, blk [.int .u64 0, .int .u64 0, .int .u64 0, .int .u64 0, .int .u64 0, .int .u64 0, .int .u64 0, .int .u64 0, .int .u64 0, .int .u64 0, .int .u64 0, .int .u64 0, .int .u64 0, .int .u64 0, .int .u64 0, .int .u64 0, .int .u64 0, .int .u64 0, .int .u64 0, .int .u64 0] 126)]⟩]
          (C1 (fun _ _ _ _ _ h => h) (C1 (fun _ _ _ _ _ h => h) (C1 (fun _ _ _ _ _ h => h) (C1 (fun _ _ _ _ _ h => h) (C1 (fun _ _ _ _ _ h => h) (K7)))))) (show List.Nodup [57, 58, 59, 60, 14] by decide) (show List.Nodup [6, 7, 8, 9, 10] by decide) (C1 (C8 rfl) (C1 (C8 rfl) (C1 (C8 rfl) (C1 (C8 rfl) (C1 (C8 rfl) (K7))))))
          (C1 ⟨_, rfl, fun vs bs R w hb ha => ⟨.inl rfl, ?_⟩⟩ (C1 ⟨_, rfl, fun vs bs R w hb ha => ⟨.inl rfl, ?_⟩⟩ (C1 ⟨_, rfl, fun vs bs R w hb ha => ⟨.inl rfl, ?_⟩⟩ (C1 ⟨_, rfl, fun vs bs R w hb ha => ⟨.inl rfl, ?_⟩⟩ (C1 ⟨_, rfl, fun vs bs R w hb ha => ⟨.inl rfl, ?_⟩⟩ (K7)))))) ?_
        ·
          refine D7 (aS rfl (aS rfl (aS rfl (a0)))) kR (A3Y _ _ _ (ws.take 32) wp wm _ (hr.mono fun x hx => hb _ (qS x hx)) (hp.mono fun x hx => hb _ (qS x hx)) (hm.mono fun x hx => hb _ (qS x hx)) (hG.sub fun x hx => hb _ (mA hx))) rfl ?_
          rintro r M1 J1 ⟨rfl, rfl, hh⟩
          exact ⟨_, rfl, rfl, hh⟩
        ·
          have g6 := ha _ (List.mem_of_getElem? (i := 0) rfl) kR
          replace g6 : (fun v B _ => B = [] ∧ Sc v (A1N (ws.take 32) wp wm)) (vs 6) (bs 6) R := g6
          dsimp only at g6
          obtain ⟨-, k6⟩ := g6
          exact W2 (aS rfl a0) kR (A2h _ _ k6 _) rfl ⟨_, rfl, rfl, rfl⟩
        ·
          have g7 := ha _ (List.mem_of_getElem? (i := 1) rfl) kR
          replace g7 : (fun v B _ => B = [] ∧ v = .agg (nums .u8 (N9 (A1N (ws.take 32) wp wm) 32)).toArray) (vs 7) (bs 7) R := g7
          dsimp only at g7
          obtain ⟨-, k7⟩ := g7
          refine D7 (vs := [_, .agg (nums .u8 (N9 (A1N (ws.take 32) wp wm) 32)).toArray]) (aS rfl (aS (by rw [← k7]; rfl) a0)) kR (A88 _ PA (A1N (ws.take 32) wp wm) hPA0 (A7W _ _ _) _) rfl ?_
          rintro r M1 J1 ⟨rfl, rfl, hh⟩
          exact ⟨_, rfl, rfl, hh⟩
        ·
          have g8 := ha _ (List.mem_of_getElem? (i := 2) rfl) kR
          replace g8 : (fun v B _ => B = [] ∧ FeP v (V9 PA (A1N (ws.take 32) wp wm))) (vs 8) (bs 8) R := g8
          dsimp only at g8
          obtain ⟨-, k8⟩ := g8
          refine D7 (aS rfl (aS rfl (a0))) kR (B7Z _ _ PR _ hPR0 k8 _) rfl ?_
          rintro r M1 J1 ⟨rfl, rfl, hh⟩
          exact ⟨_, rfl, rfl, hh⟩
        ·
          exact C5 (cs := [A7, A7, A7, A7, A7, A7, A7, A7, A7, A7, A7, A7, A7, A7, A7, A7, A7, A7, A7, A7]) kR rfl fun b => ⟨_, rfl, b, rfl, rfl⟩
        intro vs bs Jn0 hφ
        have g6 := ofH hφ
        dsimp only at g6
        replace hφ := ofT hφ
        have g7 := ofH hφ
        dsimp only at g7
        replace hφ := ofT hφ
        have g8 := ofH hφ
        dsimp only at g8
        replace hφ := ofT hφ
        have g9 := ofH hφ
        dsimp only at g9
        replace hφ := ofT hφ
        have g10 := ofH hφ
        dsimp only at g10
        clear hφ
        dsimp only [U9, Q4, List.map, List.flatten, List.cons_append, List.nil_append]
        generalize bs 6 = B57 at *
        generalize bs 7 = B58 at *
        generalize bs 8 = B59 at *
        generalize bs 9 = B60 at *
        generalize bs 10 = B14 at *
        generalize vs 6 = u57 at *
        generalize vs 7 = u58 at *
        generalize vs 8 = u59 at *
        generalize vs 9 = u60 at *
        generalize vs 10 = u14 at *
        obtain ⟨rfl, -⟩ := g6
        obtain ⟨rfl, -⟩ := g7
        obtain ⟨rfl, -⟩ := g8
        obtain ⟨rfl, hU⟩ := g9
        obtain ⟨b14, rfl, rfl⟩ := g10
        have hU0 := hU
        obtain ⟨xspu, rfl, pu0, pu1, pu2, pu3, pu4, pu5, pu6, pu7, pu8, pu9, pu10, pu11, pu12, pu13, pu14, pu15, pu16, pu17, pu18, pu19, rfl, hUX, hUY, hUZ, hUT⟩ := hU
        dsimp only [nums, List.map]
        dsimp only [List.append_eq, List.nil_append, List.cons_append]
        refine G5 rfl rfl rfl (A8 rfl rfl Cel.cel kR A26 A27 UpC.upd ?_)
        refine E4 (D5 13 14) (A3 ?_)
        refine A4 (qw_ 20) rfl ?_
        refine A4 (qw_ 20) rfl ?_
        refine F6 (aS rfl (aS rfl a0)) kR (B70 _ _ _ _ hL0 hU0 _) rfl ?_
        refine as_ (A0 (D8 6) (C3 ?_))
        exact ⟨_, [], [], K2 rfl rfl, List.nil_sublist _, by simp, by rw [C0d h64 hA1 hR1 hne], rfl, rfl⟩

theorem Glb.s {A : Mem} (h : Glb A) : GlS A := ⟨h.first, h.round⟩
def I7 (s : Ps) (w : LN) : Ps := if s.real then s else B1e s w
noncomputable def K9 (s : Ps) (w : LN) : LN := if s.real then V4 (R5 w 32) else B3T s w
noncomputable def B75 (s : Ps) (w : LN) : LN := if s.real then A2T (R5 w 32) else B3T s w
def N0 (s : Ps) (w u : LN) : Ps := if s.real then s else B7m s w u
noncomputable def A3Z (s : Ps) (w u : LN) : LN := if s.real then x25 (R5 w 32) (R5 u 32) else B8P s w u
def A5R (s : Ps) (w m : LN) : Ps := if s.real then s else B3c s w fun x => A39 x m
noncomputable def B2a (s : Ps) (w m : LN) : LN := if s.real then A4a (R5 w 32) m else R5 (B8Q s w fun x => A39 x m) 64
theorem C0e (s m : LN) : ∀ x ∈ A4a s m, x < 256 := by
  intro x hx
  rcases List.mem_append.1 hx with h | h
  · exact B4n _ x h
  · exact A5C _ _ x h
theorem C0f (v vm : Value) (ws wm : LN) (A : Mem) (hv : By A v ws) (hm : By A vm wm) (hG : GlS A) : FnX Tryz.prog 82 [v, vm] [] A fun r M J => M = [] ∧ By J r (A4a ws wm) :=
  ((C0a v vm ws wm A hv hm hG).frz0).mono fun r M J ⟨h1, h2⟩ => ⟨h1, B4A h2 (A5O _ _).symm (C0e _ _) (by rw [A5O]; decide) fun _ h => h⟩
theorem B4E (pb : Nat) (s : Ps) (hr : s.real = true) (v : Value) (w : LN) (MP A : Mem) (hP : Prm pb s MP) (hv : By A v w) : FnX Tryz.prog 7 [(vP pb), v] MP A fun q M J => Prm pb s M ∧ By J q (V4 (R5 w 32)) := by
 obtain ⟨sv, bt, bm, B, MT, rfl, hby, hT⟩ := hP.ex
 haveI := hv.cel
 haveI := hby.cel
 have hvl := hv.len
 refine FnX.enterZ (N := 26) Tryz.func7 rfl rfl rfl fun w_ => ?_
 refine C4 (D5 0 1) (A3 (as_ (A0 (D5 0 1) (A5 (A3 (mv_ ?_))))))
 refine A4 (F0 (e := 62) rfl rfl kR) rfl ?_
 refine A0 (E2 0 1 6) ?_
 refine D3 rfl ?_
 refine A9 (nx (D5 0 1) (A5 (A3 (mv_ ?_))))
 refine A4 (F9 rfl) rfl ?_
 refine A4 (qf_ 0 0) rfl ?_
 refine A4 ql_ rfl ?_
 refine A4 (F4 true rfl rfl (eqT (by rw [hr]; rfl))) rfl ?_
 refine A0 (E2 0 1 11) ?_
 refine E0 rfl ?_
 refine A3 (mv_ ?_)
 refine C9 (aS rfl (aS rfl a0)) kR (A0f v w 32 _ (hv.mono qS) qD) rfl ?_
 rintro r13 M13 J13 ⟨rfl, h13⟩
 haveI := h13.cel
 refine C9 (aS rfl a0) kR (B99 _ _ _ (h13.mono qS)) rfl ?_
 rintro r14 M14 J14 ⟨rfl, h14⟩
 haveI := h14.cel
 refine as_ (A0 (D8 4) (C3 (tr ?_)))
 exact ⟨_, (pb, blk [.int .u8 (md s.real), sv, .int .i64 (((s.n : Nat) : Int)), (vP bt)] 62) :: (B ++ MT), [], K2 rfl rfl, (Fit.none (Fit.pick (B := [_]) qP (Fit.pick qP (Fit.last qP)))), ⟨sv, bt, bm, B, MT, rfl, hby, hT⟩, h14.mono qS⟩
theorem B2b (pb : Nat) (s : Ps) (hr : s.real = true) (v : Value) (w : LN) (MP A : Mem) (hP : Prm pb s MP) (hv : By A v w) (hG : Glb A) : FnX Tryz.prog 22 [(vP pb), v] MP A fun q M J => Prm pb s M ∧ By J q (A2T (R5 w 32)) := by
 obtain ⟨sv, bt, bm, B, MT, rfl, hby, hT⟩ := hP.ex
 haveI := hv.cel
 haveI := hby.cel
 have hvl := hv.len
 refine FnX.enterZ (N := 18) Tryz.func22 rfl rfl rfl fun w_ => ?_
 refine C4 (D5 0 1) (A3 (as_ (A0 (D5 0 1) (A5 (A3 (mv_ ?_))))))
 refine A4 (F0 (e := 62) rfl rfl kR) rfl ?_
 refine A0 (E2 0 1 6) ?_
 refine D3 rfl ?_
 refine A9 (nx (D5 0 1) (A5 (A3 (mv_ ?_))))
 refine A4 (F9 rfl) rfl ?_
 refine A4 (qf_ 0 0) rfl ?_
 refine A4 ql_ rfl ?_
 refine A4 (F4 true rfl rfl (eqT (by rw [hr]; rfl))) rfl ?_
 refine A0 (E2 0 1 11) ?_
 refine E0 rfl ?_
 refine A3 (mv_ ?_)
 refine C9 (aS rfl (aS rfl a0)) kR (A0f v w 32 _ (hv.mono qS) qD) rfl ?_
 rintro r13 M13 J13 ⟨rfl, h13⟩
 haveI := h13.cel
 refine C9 (aS rfl a0) kR (A86 _ _ _ (h13.mono qS) hG.s.up) rfl ?_
 rintro r14 M14 J14 ⟨rfl, h14⟩
 haveI := h14.cel
 refine as_ (A0 (D8 4) (C3 (tr ?_)))
 exact ⟨_, (pb, blk [.int .u8 (md s.real), sv, .int .i64 (((s.n : Nat) : Int)), (vP bt)] 62) :: (B ++ MT), [], K2 rfl rfl, (Fit.none (Fit.pick (B := [_]) qP (Fit.pick qP (Fit.last qP)))), ⟨sv, bt, bm, B, MT, rfl, hby, hT⟩, h14.mono qS⟩
theorem B76 (pb : Nat) (s : Ps) (hr : s.real = true) (v v2 : Value) (w u : LN) (MP A : Mem) (hP : Prm pb s MP) (hv : By A v w) (hu : By A v2 u) : FnX Tryz.prog 23 [(vP pb), v, v2] MP A fun q M J => Prm pb s M ∧ By J q (x25 (R5 w 32) (R5 u 32)) := by
 obtain ⟨sv, bt, bm, B, MT, rfl, hby, hT⟩ := hP.ex
 haveI := hv.cel
 haveI := hby.cel
 have hvl := hv.len
 haveI := hu.cel
 refine FnX.enterZ (N := 31) Tryz.func23 rfl rfl rfl fun w_ => ?_
 refine C4 (E2 0 1 2) (A3 (as_ (A0 (E2 0 1 2) (A5 (A3 (mv_ ?_))))))
 refine A4 (F0 (e := 62) rfl rfl kR) rfl ?_
 refine A0 (E7 0 1 2 8) ?_
 refine D3 rfl ?_
 refine A9 (nx (E2 0 1 2) (A5 (A3 (mv_ ?_))))
 refine A4 (F9 rfl) rfl ?_
 refine A4 (qf_ 0 0) rfl ?_
 refine A4 ql_ rfl ?_
 refine A4 (F4 true rfl rfl (eqT (by rw [hr]; rfl))) rfl ?_
 refine A0 (E7 0 1 2 13) ?_
 refine E0 rfl ?_
 refine A3 (mv_ ?_)
 refine C9 (aS rfl (aS rfl a0)) kR (A0f v w 32 _ (hv.mono qS) qD) rfl ?_
 rintro r15 M15 J15 ⟨rfl, h15⟩
 haveI := h15.cel
 refine mv_ ?_
 refine C9 (aS rfl (aS rfl a0)) kR (A0f v2 u 32 _ (hu.mono qS) qD) rfl ?_
 rintro r17 M17 J17 ⟨rfl, h17⟩
 haveI := h17.cel
 refine C9 (aS rfl (aS rfl a0)) kR (B6j _ _ _ _ _ (h15.mono qS) (h17.mono qS)) rfl ?_
 rintro r18 M18 J18 ⟨rfl, h18⟩
 haveI := h18.cel
 refine as_ (A0 (D8 6) (C3 (tr ?_)))
 exact ⟨_, (pb, blk [.int .u8 (md s.real), sv, .int .i64 (((s.n : Nat) : Int)), (vP bt)] 62) :: (B ++ MT), [], K2 rfl rfl, (Fit.none (Fit.pick (B := [_]) qP (Fit.pick qP (Fit.last qP)))), ⟨sv, bt, bm, B, MT, rfl, hby, hT⟩, h18.mono qS⟩
theorem B77 (pb : Nat) (s : Ps) (hr : s.real = true) (v v2 : Value) (w u : LN) (MP A : Mem) (hP : Prm pb s MP) (hv : By A v w) (hu : By A v2 u) (hG : Glb A) : FnX Tryz.prog 53 [(vP pb), v, v2] MP A fun q M J => Prm pb s M ∧ By J q (A4a (R5 w 32) u) := by
 obtain ⟨sv, bt, bm, B, MT, rfl, hby, hT⟩ := hP.ex
 haveI := hv.cel
 haveI := hby.cel
 have hvl := hv.len
 haveI := hu.cel
 refine FnX.enterZ (N := 32) Tryz.func53 rfl rfl rfl fun w_ => ?_
 refine C4 (E2 0 1 2) (A3 (as_ (A0 (E2 0 1 2) (A5 (A3 (mv_ ?_))))))
 refine A4 (F0 (e := 62) rfl rfl kR) rfl ?_
 refine A0 (E7 0 1 2 8) ?_
 refine D3 rfl ?_
 refine A9 (nx (E2 0 1 2) (A5 (A3 (mv_ ?_))))
 refine A4 (F9 rfl) rfl ?_
 refine A4 (qf_ 0 0) rfl ?_
 refine A4 ql_ rfl ?_
 refine A4 (F4 true rfl rfl (eqT (by rw [hr]; rfl))) rfl ?_
 refine A0 (E7 0 1 2 13) ?_
 refine E0 rfl ?_
 refine A3 (mv_ ?_)
 refine C9 (aS rfl (aS rfl a0)) kR (A0f v w 32 _ (hv.mono qS) qD) rfl ?_
 rintro r15 M15 J15 ⟨rfl, h15⟩
 haveI := h15.cel
 refine mv_ ?_
 refine C9 (aS rfl (aS rfl a0)) kR (C0f _ _ _ _ _ (h15.mono qS) (hu.mono qS) hG.s.up) rfl ?_
 rintro r17 M17 J17 ⟨rfl, h17⟩
 haveI := h17.cel
 refine as_ (A0 (D8 6) (C3 (tr ?_)))
 exact ⟨_, (pb, blk [.int .u8 (md s.real), sv, .int .i64 (((s.n : Nat) : Int)), (vP bt)] 62) :: (B ++ MT), [], K2 rfl rfl, (Fit.none (Fit.pick (B := [_]) qP (Fit.pick qP (Fit.last qP)))), ⟨sv, bt, bm, B, MT, rfl, hby, hT⟩, h17.mono qS⟩
theorem B2c (pb : Nat) (s : Ps) (hr : s.real = false) (v : Value) (w : LN) (MP A : Mem) (hP : Prm pb s MP) (hv : By A v w) (hn : s.ts.length < 1048576) (hG : Glb A) : FnX Tryz.prog 22 [(vP pb), v] MP A fun q M J => Prm pb (B1e s w) M ∧ By J q (B3T s w) := by
 obtain ⟨sv, bt, bm, B, MT, rfl, hby, hT⟩ := hP.ex
 haveI := hv.cel
 haveI := hby.cel
 have hvl := hv.len
 refine FnX.enterZ (N := 18) Tryz.func22 rfl rfl rfl fun w_ => ?_
 refine C4 (D5 0 1) (A3 (as_ (A0 (D5 0 1) (A5 (A3 (mv_ ?_))))))
 refine A4 (F0 (e := 62) rfl rfl kR) rfl ?_
 refine A0 (E2 0 1 6) ?_
 refine D3 rfl ?_
 refine A9 (nx (D5 0 1) (A5 (A3 (mv_ ?_))))
 refine A4 (F9 rfl) rfl ?_
 refine A4 (qf_ 0 0) rfl ?_
 refine A4 ql_ rfl ?_
 refine A4 (F4 false rfl rfl (eqF (by rw [hr]; decide))) rfl ?_
 refine A0 (E2 0 1 11) ?_
 refine D3 rfl ?_
 refine A9 (nx (D5 0 1) (A3 (mv_ (mv_ ?_))))
 refine A6 rfl (E1 (Mc := (pb, blk [.int .u8 (md s.real), sv, .int .i64 (((s.n : Nat) : Int)), (vP bt)] 62) :: (B ++ MT)) (R := _) (aS rfl (aS rfl a0)) kR qP (A8I pb s hr v w _ _ ⟨sv, bt, bm, B, MT, rfl, hby, hT⟩ hn (hv.mono qS) hG.up) rfl ?_)
 rintro v17 M17 J17 ⟨hP17, h17⟩
 haveI := h17.cel
 refine as_ (A0 (D8 4) (C3 ?_))
 exact ⟨_, M17, [], K2 rfl rfl, Fit.none (Fit.last qP), hP17, h17.mono qS⟩
theorem A0m (pb : Nat) (s : Ps) (v : Value) (w : LN) (MP A : Mem) (hP : Prm pb s MP) (hn : s.ts.length < 1048576) (hv : By A v w) (hG : Glb A) : FnX Tryz.prog 7 [(vP pb), v] MP A fun q M J => Prm pb (I7 s w) M ∧ By J q (K9 s w) := by
  cases hr : s.real with
  | true => unfold I7 K9; rw [hr]; exact B4E pb s hr v w MP A hP hv
  | false => unfold I7 K9; rw [hr]; exact A8I pb s hr v w MP A hP hn hv hG
theorem B2d (pb : Nat) (s : Ps) (v : Value) (w : LN) (MP A : Mem) (hP : Prm pb s MP) (hn : s.ts.length < 1048576) (hv : By A v w) (hG : Glb A) : FnX Tryz.prog 22 [(vP pb), v] MP A fun q M J => Prm pb (I7 s w) M ∧ By J q (B75 s w) := by
  cases hr : s.real with
  | true => unfold I7 B75; rw [hr]; exact B2b pb s hr v w MP A hP hv hG
  | false => unfold I7 B75; rw [hr]; exact B2c pb s hr v w MP A hP hv hn hG
theorem A08 (pb : Nat) (s : Ps) (v v2 : Value) (w u : LN) (MP A : Mem) (hP : Prm pb s MP) (hn : s.ts.length + 1 < 1048576) (hv : By A v w) (hu : By A v2 u) (hG : Glb A) : FnX Tryz.prog 23 [(vP pb), v, v2] MP A fun q M J => Prm pb (N0 s w u) M ∧ By J q (A3Z s w u) := by
  cases hr : s.real with
  | true => unfold N0 A3Z; rw [hr]; exact B76 pb s hr v v2 w u MP A hP hv hu
  | false => unfold N0 A3Z; rw [hr]; exact B3U pb s hr v v2 w u MP A hP hn hv hu hG
theorem B78 (pb : Nat) (s : Ps) (v v2 : Value) (w m : LN) (MP A : Mem) (hP : Prm pb s MP) (hn : s.ts.length < 1048576) (hv : By A v w) (hm : By A v2 m) (hG : Glb A) : FnX Tryz.prog 53 [(vP pb), v, v2] MP A fun q M J => Prm pb (A5R s w m) M ∧ By J q (B2a s w m) := by
  cases hr : s.real with
  | true => unfold A5R B2a; rw [hr]; exact B77 pb s hr v v2 w m MP A hP hv hm hG
  | false =>
    unfold A5R B2a; rw [hr]
    obtain ⟨bt, bm, h⟩ := hP.t
    exact (B1f pb bt bm s hr v v2 w m MP A h hn hv hm hG).mono fun q M J ⟨h1, h2⟩ => ⟨h1.p, h2⟩

structure Ext (s s' : Ps) : Prop where
  p : Pext s s'
  seed : s'.seed = s.seed
  n : s.n ≤ s'.n
theorem Ext.refl (s : Ps) : Ext s s := ⟨Pext.refl s, rfl, Nat.le_refl _⟩
theorem Ext.trans {a b c : Ps} (h : Ext a b) (h' : Ext b c) : Ext a c := ⟨h.p.trans h'.p, h'.seed.trans h.seed, Nat.le_trans h.n h'.n⟩
theorem A7Z (ts : List Tm) (t : Tm) : ∃ l, add ts t = ts ++ l := by
  unfold add
  split
  · exact ⟨[], by simp⟩
  · exact ⟨_, rfl⟩
theorem A1K (ts : List Tm) (w : LN) : ∃ l, rdT ts w = ts ++ l := by
  cases hp : plc w ts.length with
  | some j => exact ⟨[], by rw [(V6 hp).1]; simp⟩
  | none => rw [(X0 hp).1]; exact A7Z _ _
theorem A89 (ts : List Tm) (w : LN) (t : Tm) : ∃ l, add (rdT ts w) t = ts ++ l := by
  obtain ⟨l1, e1⟩ := A1K ts w
  obtain ⟨l2, e2⟩ := A7Z (rdT ts w) t
  exact ⟨l1 ++ l2, by rw [e2, e1, List.append_assoc]⟩
theorem A0n (s : Ps) : Ext s (D4 s) := ⟨A6G s, by unfold D4; split <;> rfl, by unfold D4; split <;> exact Nat.le_succ _⟩
theorem A1v (s : Ps) (w : LN) : Ext s (I7 s w) := by
  unfold I7
  split
  · exact Ext.refl s
  · exact ⟨⟨rfl, A89 _ _ _⟩, rfl, Nat.le_refl _⟩
theorem B6k (s : Ps) (w m : LN) : Ext s (A5R s w m) := by
  unfold A5R
  split
  · exact Ext.refl s
  · exact ⟨⟨rfl, A89 _ _ _⟩, rfl, Nat.le_refl _⟩
theorem C0g {s : Ps} {i : Nat} (hi : i < s.ts.length) (hl : s.ts.length ≤ 1048576) : B1e s (bts ((i : Nat) : Int)) = { s with ts := add s.ts (B0c ((i : Nat) : Int)) } ∧ B3T s (bts ((i : Nat) : Int)) = bts ((at_ s.ts (B0c ((i : Nat) : Int)) : Nat) : Int) := by
  obtain ⟨h1, h2⟩ := A5q hi hl
  unfold B1e B3T
  rw [h1, h2]
  exact ⟨rfl, rfl⟩
theorem C12 {s : Ps} {i : Nat} (hi : i < s.ts.length) (hl : s.ts.length ≤ 1048576) (f : Int → Tm) : B3c s (bts ((i : Nat) : Int)) f = { s with ts := add s.ts (f ((i : Nat) : Int)) } ∧ B8Q s (bts ((i : Nat) : Int)) f = bts ((at_ s.ts (f ((i : Nat) : Int)) : Nat) : Int) := by
  obtain ⟨h1, h2⟩ := A5q hi hl
  unfold B3c B8Q
  rw [h1, h2]
  exact ⟨rfl, rfl⟩
theorem A5S {i : Nat} (h : i ≤ 1048576) : i64 ((i : Nat) : Int) := by unfold i64; omega
def B8S (s : Ps) (w p : LN) : Prop := ∃ i j : Nat, i < s.ts.length ∧ w = bts ((i : Nat) : Int) ∧ s.ts[j]? = some (B0c ((i : Nat) : Int)) ∧ p = bts ((j : Nat) : Int)
def V1 (s : Ps) (w p : LN) : Prop := if s.real then p = V4 (R5 w 32) else B8S s w p
def B2e (s : Ps) (w p : LN) : Prop := if s.real then p = A2T (R5 w 32) else B8S s w p
def A2V (s : Ps) (w m g : LN) : Prop := if s.real then g = A4a (R5 w 32) m else ∃ i j : Nat, i < s.ts.length ∧ w = bts ((i : Nat) : Int) ∧ s.ts[j]? = some (A39 ((i : Nat) : Int) m) ∧ g = R5 (bts ((j : Nat) : Int)) 64
theorem B8S.ext {s s' : Ps} {w p : LN} (h : B8S s w p) (he : Pext s s') : B8S s' w p := by
  obtain ⟨l, e⟩ := he.ts
  obtain ⟨i, j, h1, h2, h3, h4⟩ := h
  exact ⟨i, j, by rw [e, List.length_append]; omega, h2, by rw [e]; exact A4E h3, h4⟩
theorem V1.ext {s s' : Ps} {w p : LN} (h : V1 s w p) (he : Pext s s') : V1 s' w p := by
  unfold V1 at *
  rw [he.real]
  split
  · rename_i hr; rwa [if_pos hr] at h
  · rename_i hr; rw [if_neg hr] at h; exact h.ext he
theorem B2e.ext {s s' : Ps} {w p : LN} (h : B2e s w p) (he : Pext s s') : B2e s' w p := by
  unfold B2e at *
  rw [he.real]
  split
  · rename_i hr; rwa [if_pos hr] at h
  · rename_i hr; rw [if_neg hr] at h; exact h.ext he
theorem A2V.ext {s s' : Ps} {w m g : LN} (h : A2V s w m g) (he : Pext s s') : A2V s' w m g := by
  unfold A2V at *
  rw [he.real]
  split
  · rename_i hr; rwa [if_pos hr] at h
  · rename_i hr
    rw [if_neg hr] at h
    obtain ⟨l, e⟩ := he.ts
    obtain ⟨i, j, h1, h2, h3, h4⟩ := h
    exact ⟨i, j, by rw [e, List.length_append]; omega, h2, by rw [e]; exact A4E h3, h4⟩
theorem B79 {s : Ps} {w : LN} (h : B7l s.ts w) (ht : Tok s.ts) (hl : s.ts.length ≤ 1048576) : B8S (B1e s w) w (B3T s w) ∧ Tok (B1e s w).ts := by
  obtain ⟨i, hi, rfl⟩ := h
  obtain ⟨e1, e2⟩ := C0g hi hl
  obtain ⟨l, g1, g2, g3, g4⟩ := A6D (B5U (A5S (show i ≤ 1048576 by omega))) ht
  rw [e1, e2]
  exact ⟨⟨i, _, by show i < (add s.ts _).length; rw [g1, List.length_append]; omega, rfl, g3, rfl⟩, g4⟩
theorem A4K {s : Ps} {w : LN} (h : Kok s w) (ht : Tok s.ts) (hl : s.ts.length ≤ 1048576) : V1 (I7 s w) w (K9 s w) ∧ B2e (I7 s w) w (B75 s w) ∧ Tok (I7 s w).ts := by
  unfold V1 B2e I7 K9 B75
  cases hr : s.real with
  | true => simp [hr, ht]
  | false =>
    obtain ⟨h1, h2⟩ := B79 (h hr) ht hl
    have h3 : (B1e s w).real = false := hr
    simp only [Bool.false_eq_true, if_false, h3]
    exact ⟨h1, h1, h2⟩
theorem B8S.eq {s : Ps} {w p : LN} (h : B8S s w p) (ht : Tok s.ts) (hl : s.ts.length ≤ 1048576) : B1e s w = s ∧ B3T s w = p := by
  obtain ⟨i, j, h1, rfl, h3, rfl⟩ := h
  obtain ⟨e1, e2⟩ := C0g h1 hl
  obtain ⟨e3, e4⟩ := B3R ht h3
  rw [e1, e2, e3, e4]
  exact ⟨rfl, rfl⟩
theorem V1.eq {s : Ps} {w p : LN} (h : V1 s w p) (ht : Tok s.ts) (hl : s.ts.length ≤ 1048576) : I7 s w = s ∧ K9 s w = p := by
  unfold V1 at h
  unfold I7 K9
  cases hr : s.real with
  | true => rw [hr] at h; exact ⟨rfl, h.symm⟩
  | false => rw [hr] at h; exact B8S.eq h ht hl
theorem B8a {s : Ps} {i : Nat} {m : LN} (hi : i < s.ts.length) (ht : Tok s.ts) (hl : s.ts.length ≤ 1048576) (hm : ∀ y ∈ m, y < 256) (lm : m.length ≤ 16777216) : ∃ j, i < (B3c s (bts ((i : Nat) : Int)) fun x => A39 x m).ts.length ∧ (B3c s (bts ((i : Nat) : Int)) fun x => A39 x m).ts[j]? = some (A39 ((i : Nat) : Int) m) ∧ (B8Q s (bts ((i : Nat) : Int)) fun x => A39 x m) = bts ((j : Nat) : Int) ∧ Tok (B3c s (bts ((i : Nat) : Int)) fun x => A39 x m).ts := by
  obtain ⟨e1, e2⟩ := C12 hi hl fun x => A39 x m
  have hT : Tmo (A39 ((i : Nat) : Int) m) := B5V (A5S (show i ≤ 1048576 by omega)) hm lm
  rw [e1, e2]
  generalize A39 ((i : Nat) : Int) m = t at *
  obtain ⟨l, g1, g2, g3, g4⟩ := A6D hT ht
  refine ⟨at_ s.ts t, ?_, g3, rfl, g4⟩
  show i < (add s.ts t).length
  rw [g1, List.length_append]; omega
theorem B2f (s : Ps) (w : LN) (f : Int → Tm) : (B3c s w f).real = s.real := rfl
theorem A2V.t {s : Ps} (h : s.real = true) {w m g : LN} : A2V s w m g ↔ g = A4a (R5 w 32) m := by unfold A2V; rw [if_pos h]
theorem A2V.f {s : Ps} (h : s.real = false) {w m g : LN} : A2V s w m g ↔ ∃ i j : Nat, i < s.ts.length ∧ w = bts ((i : Nat) : Int) ∧ s.ts[j]? = some (A39 ((i : Nat) : Int) m) ∧ g = R5 (bts ((j : Nat) : Int)) 64 := by unfold A2V; rw [if_neg (by rw [h]; decide)]
theorem C0h {s : Ps} (h : s.real = true) (w m : LN) : A5R s w m = s := by unfold A5R; rw [if_pos h]
theorem C0i {s : Ps} (h : s.real = false) (w m : LN) : A5R s w m = B3c s w fun x => A39 x m := by unfold A5R; rw [if_neg (by rw [h]; decide)]
theorem C0j {s : Ps} (h : s.real = true) (w m : LN) : B2a s w m = A4a (R5 w 32) m := by unfold B2a; rw [if_pos h]
theorem C0k {s : Ps} (h : s.real = false) (w m : LN) : B2a s w m = R5 (B8Q s w fun x => A39 x m) 64 := by unfold B2a; rw [if_neg (by rw [h]; decide)]
theorem C0l {s : Ps} {w m : LN} (h : Kok s w) (ht : Tok s.ts) (hl : s.ts.length ≤ 1048576) (hm : ∀ y ∈ m, y < 256) (lm : m.length ≤ 16777216) : A2V (A5R s w m) w m (B2a s w m) ∧ Tok (A5R s w m).ts := by
  cases hr : s.real with
  | true =>
    rw [C0h hr, C0j hr, A2V.t hr]
    exact ⟨rfl, ht⟩
  | false =>
    obtain ⟨i, hi, e⟩ := h hr
    rw [C0i hr, C0k hr, e]
    obtain ⟨j, g1, g2, g3, g4⟩ := B8a hi ht hl hm lm
    rw [A2V.f ((B2f _ _ _).trans hr), g3]
    exact ⟨⟨i, j, g1, rfl, g2, rfl⟩, g4⟩
def B2g (ts : List Tm) (p m g : LN) : Bool := decide (g.length = 64) && match plc g ts.length, plc p ts.length with
  | some i, some k => decide (p.length = 32) && match ts[i]?, ts[k]? with
    | some t, some u => decide (t.kind = 7) && decide (t.text = m) && decide (u.kind = 3) && decide (u.of.getD 0 0 = t.of.getD 0 0)
    | _, _ => false
  | _, _ => false
noncomputable def A4k (s : Ps) (p m g : LN) : Bool := if s.real then A2U p m g else B2g s.ts p m g
def Ar (ts : List Tm) : Prop := ∀ t ∈ ts, (t.kind = 3 ∨ t.kind = 6 ∨ t.kind = 7) → 0 < t.of.length
theorem B8b {i n : Nat} (h : i < n) (hn : n ≤ 1048576) : plc (R5 (bts ((i : Nat) : Int)) 64) n = some i := by
  have h1 := A2w ((i : Nat) : Int) n
  have e : u64 ((i : Nat) : Int) = i := by unfold u64; omega
  rw [e, if_pos h] at h1
  have hl : (bts ((i : Nat) : Int)).length = 32 := A0C _ qD
  have ef : R5 (bts ((i : Nat) : Int)) 64 = bts ((i : Nat) : Int) ++ List.replicate 32 0 := by unfold R5; rw [List.take_of_length_le qO, hl]
  rw [ef]
  unfold plc at h1 ⊢
  have hle : ∀ k, k ≤ 8 → le8 (bts ((i : Nat) : Int) ++ List.replicate 32 0) k = le8 (bts ((i : Nat) : Int)) k := by
    intro k
    induction k with
    | zero => intro _; rfl
    | succ k ih =>
      intro hk
      unfold le8
      rw [ih qO]
      congr 2
      rw [List.getD_eq_getElem?_getD, List.getD_eq_getElem?_getD, List.getElem?_append_left qO]
  rw [hle 8 (Nat.le_refl _)]
  split at h1
  · rename_i hc
    obtain ⟨c1, c2, c3, c4⟩ := hc
    have c0 : ∀ c ∈ (bts ((i : Nat) : Int) ++ List.replicate 32 0).drop 9, c = 0 := fun c hc => by
      rw [List.drop_append_of_le_length qO] at hc
      rcases List.mem_append.1 hc with hc | hc
      · exact c3 c hc
      · exact (List.mem_replicate.1 hc).2
    rw [if_pos ⟨by rw [List.length_append]; omega, by rw [List.getD_eq_getElem?_getD, List.getElem?_append_left qO, ← List.getD_eq_getElem?_getD]; exact c2, c0, c4⟩]
    exact h1
  · cases h1
theorem C0m {s : Ps} {w p m g : LN} (hl : s.ts.length ≤ 1048576) (hp : B2e s w p) (hg : A2V s w m g) : A4k s p m g = true := by
  unfold B2e at hp
  unfold A2V at hg
  unfold A4k
  cases hr : s.real with
  | true =>
    rw [hr] at hp hg
    simp only [if_true] at hp hg ⊢
    rw [hp, hg]; exact B7U _ _
  | false =>
    rw [hr] at hp hg
    simp only [Bool.false_eq_true, if_false] at hp hg ⊢
    obtain ⟨i, j, h1, h2, h3, rfl⟩ := hp
    obtain ⟨i', j', h1', h2', h3', rfl⟩ := hg
    have e := A5p qO qO (h2.symm.trans h2')
    subst e
    have b1 := (List.getElem?_eq_some_iff.1 h3).1
    have b2 := (List.getElem?_eq_some_iff.1 h3').1
    have p1 := B8b b2 hl
    have p2 := A2w ((j : Nat) : Int) s.ts.length
    have e : u64 ((j : Nat) : Int) = j := by unfold u64; omega
    rw [e, if_pos b1] at p2
    have hbl : (bts ((j : Nat) : Int)).length = 32 := A0C _ qD
    unfold B2g
    rw [p1, p2, U6]
    simp only [h3, h3', hbl]
    simp [A39, B0c]
theorem Ar.nil : Ar [] := fun t h => by cases h
theorem Ar.add {ts : List Tm} (h : Ar ts) {t : Tm} (ht : (t.kind = 3 ∨ t.kind = 6 ∨ t.kind = 7) → 0 < t.of.length) : Ar (add ts t) := by
  unfold Go.Proofs.YtoigcbkclcbmpaaGreatDoor.add
  split
  · exact h
  · intro u hu
    rcases List.mem_append.1 hu with h1 | h1
    · exact h u h1
    · rw [List.mem_singleton.1 h1]; exact ht
theorem Ar.rd {ts : List Tm} (h : Ar ts) (w : LN) : Ar (rdT ts w) := by
  cases hp : plc w ts.length with
  | some j => rw [(V6 hp).1]; exact h
  | none => rw [(X0 hp).1]; exact h.add (by intro h; rcases h with h | h | h <;> cases h)
theorem Ar.fresh {s : Ps} (h : Ar s.ts) : Ar (D4 s).ts := by
  cases hr : s.real with
  | true => rw [A5o hr]; exact h
  | false => rw [A3c hr]; exact h.add (by intro h; rcases h with h | h | h <;> cases h)
theorem Ar.pub {s : Ps} (h : Ar s.ts) (w : LN) : Ar (I7 s w).ts := by
  unfold I7
  split
  · exact h
  · exact (h.rd w).add fun _ => Nat.one_pos
theorem Ar.sgn {s : Ps} (h : Ar s.ts) (w m : LN) : Ar (A5R s w m).ts := by
  unfold A5R
  split
  · exact h
  · exact (h.rd w).add fun _ => Nat.one_pos

structure Rok (ts : List Tm) (w : LN) : Prop where
  lt : ∀ x ∈ w, x < 256
  len : w.length ≤ 1000000000
  st : (∀ n, plc w n = none) ∨ B7l ts w
theorem Rok.ext {ts l : List Tm} {w : LN} (h : Rok ts w) : Rok (ts ++ l) w := ⟨h.lt, h.len, h.st.imp id B7l.ext⟩
theorem B7l.rok {ts : List Tm} {w : LN} (h : B7l ts w) : Rok ts w := by
  obtain ⟨i, hi, rfl⟩ := h
  exact ⟨B0X _, by rw [show (bts ((i : Nat) : Int)).length = 32 from A0C _ qD]; decide, .inr ⟨i, hi, rfl⟩⟩
theorem B6l {ts : List Tm} {w : LN} (ht : Tok ts) (hw : ∀ x ∈ w, x < 256) (hl : w.length ≤ 1000000000) : Tok (rdT ts w) := by
  cases hp : plc w ts.length with
  | some j => rw [(V6 hp).1]; exact ht
  | none =>
    rw [(X0 hp).1]
    obtain ⟨l, h1, h2, h3, h4⟩ := A6D (A3F hw qO) ht
    exact h4
theorem B4F {ts l : List Tm} {w : LN} (h : Rok ts w) (ht : Tok ts) (ht' : Tok (rdT ts w ++ l)) (hl : (rdT ts w ++ l).length ≤ 1048576) : rdT (rdT ts w ++ l) w = rdT ts w ++ l ∧ rdI (rdT ts w ++ l) w = rdI ts w := by
  have hge := B5T (ts := ts) (w := w)
  rw [List.length_append] at hl
  cases hp : plc w ts.length with
  | some j =>
    obtain ⟨e1, e2⟩ := V6 hp
    obtain ⟨a1, a2⟩ := A8C hp
    rw [e1, e2]
    exact V6 (a2 _ (by rw [List.length_append]; omega))
  | none =>
    have hn : ∀ n, plc w n = none := by
      rcases h.st with h | ⟨i, hi, rfl⟩
      · exact h
      · rw [A2w, show u64 ((i : Nat) : Int) = i by unfold u64; omega, if_pos hi] at hp; cases hp
    obtain ⟨e1, e2⟩ := X0 hp
    obtain ⟨l0, g1, g2, g3, g4⟩ := A6D (A3F h.lt (by have := h.len; omega)) ht
    rw [e1] at ht' ⊢
    rw [e2]
    obtain ⟨b1, b2⟩ := X0 (hn (add ts (B5N w) ++ l).length)
    rw [b1, b2]
    exact B3R ht' (A4E g3)
theorem A70 : ∀ (ws : List (LN)) (st : List Tm × List Int), ∃ l, (ws.foldl Z8 st).1 = st.1 ++ l
  | [], st => ⟨[], by simp⟩
  | w :: ws, st => by
    obtain ⟨l1, e1⟩ := A70 ws (Z8 st w)
    obtain ⟨l2, e2⟩ := A1K st.1 w
    exact ⟨l2 ++ l1, by rw [List.foldl_cons, e1, show (Z8 st w).1 = rdT st.1 w from rfl, e2, List.append_assoc]⟩
theorem B2h : ∀ (ws : List (LN)) (st : List Tm × List Int), (∀ w ∈ ws, Rok st.1 w) → Tok st.1 → Tok (ws.foldl Z8 st).1
  | [], st, _, ht => ht
  | w :: ws, st, h, ht => by
    obtain ⟨l2, e2⟩ := A1K st.1 w
    have hw := h w qM
    exact B2h ws (Z8 st w) (fun v hv => by show Rok (rdT st.1 w) v; rw [e2]; exact (h v (by simp [hv])).ext) (B6l ht hw.lt hw.len)
theorem A62 : ∀ (ws : List (LN)) (st : List Tm × List Int) (l : List Tm), (∀ w ∈ ws, Rok st.1 w) → Tok st.1 → Tok ((ws.foldl Z8 st).1 ++ l) → ((ws.foldl Z8 st).1 ++ l).length ≤ 1048576 → ws.foldl Z8 ((ws.foldl Z8 st).1 ++ l, st.2) = ((ws.foldl Z8 st).1 ++ l, (ws.foldl Z8 st).2)
  | [], st, l, _, _, _, _ => rfl
  | w :: ws, st, l, h, ht, ht', hl => by
    have hw := h w qM
    obtain ⟨l1, e1⟩ := A70 ws (Z8 st w)
    have e2 : (Z8 st w).1 = rdT st.1 w := rfl
    rw [List.foldl_cons] at ht' hl ⊢
    have hrest : ∀ v ∈ ws, Rok (Z8 st w).1 v := fun v hv => by
      obtain ⟨l2, e3⟩ := A1K st.1 w
      rw [e2, e3]; exact (h v (by simp [hv])).ext
    have ih := A62 ws (Z8 st w) l hrest (B6l ht hw.lt hw.len) ht' hl
    have e4 : (ws.foldl Z8 (Z8 st w)).1 ++ l = rdT st.1 w ++ (l1 ++ l) := by rw [e1, e2, List.append_assoc]
    obtain ⟨a1, a2⟩ := B4F hw ht (l := l1 ++ l) (by rw [← e4]; exact ht') (by rw [← e4]; exact hl)
    rw [List.foldl_cons]
    have e5 : Z8 ((ws.foldl Z8 (Z8 st w)).1 ++ l, st.2) w = ((ws.foldl Z8 (Z8 st w)).1 ++ l, (Z8 st w).2) := by
      show (rdT _ w, st.2 ++ [((rdI _ w : Nat) : Int)]) = (_, st.2 ++ [((rdI st.1 w : Nat) : Int)])
      rw [e4, a1, a2]
    rw [e5]; exact ih
theorem B6m : ∀ (ws : List (LN)) {n0 k : Nat} {st : List Tm × List Int}, RdOk n0 k st → (∀ w ∈ ws, Rok st.1 w) → RdOk n0 (k + ws.length) (ws.foldl Z8 st)
  | [], _, _, _, h, _ => h
  | w :: ws, n0, k, st, h, hw => by
    have h1 := hw w qM
    have h2 := h.step h1.lt (by have := h1.len; omega)
    have h3 := B6m ws h2 (fun v hv => by
      obtain ⟨l2, e3⟩ := A1K st.1 w
      show Rok (rdT st.1 w) v
      rw [e3]; exact (hw v (by simp [hv])).ext)
    rw [List.length_cons, show k + (ws.length + 1) = k + 1 + ws.length by omega]
    exact h3
theorem A30 (ts : List Tm) (ofs : List Int) (lb : LN) : ∀ n, ∃ l, (P9 ts ofs lb n).1 = ts ++ l
  | 0 => ⟨[], by show ts = _; simp⟩
  | n + 1 => by
    obtain ⟨l1, e1⟩ := A30 ts ofs lb n
    obtain ⟨l2, e2⟩ := A6E ts ofs lb n
    exact ⟨l1 ++ l2, by rw [e2, e1, List.append_assoc]⟩
theorem A63 {ts : List Tm} {key lb : LN} {ws : List (LN)} (ht : Tok ts) (h : ∀ w ∈ key :: ws, Rok ts w) (hb : B256 lb) (hbl : lb.length ≤ 1000) (hl : ts.length + ws.length + 1 ≤ 1048576) :
    Tok (V0 ts key ws).1 ∧ (∀ k, k < 100 → Tmo (drv (V0 ts key ws).2 lb k)) := by
  have h0 : RdOk ts.length 0 (ts, []) := ⟨Nat.le_refl _, rfl, (fun x hx => by cases hx), ht.tmo⟩
  have h1 := B6m (key :: ws) h0 h
  have e : V0 ts key ws = (key :: ws).foldl Z8 (ts, []) := rfl
  rw [← e, List.length_cons] at h1
  refine ⟨B2h (key :: ws) (ts, []) h ht, fun k hk => B5S (fun x hx => ?_) (by rw [h1.ofl]; omega) hb qO qO⟩
  have h2 := h1.of x hx
  have h3 := h1.len
  unfold i64; omega
theorem C0n (s : Ps) (key : LN) (ws : List (LN)) (lb : LN) (n : Nat) : Ext s (A7G s key ws lb n) := by
  cases hr : s.real with
  | true => rw [A6A hr]; exact Ext.refl s
  | false =>
    rw [A4D hr]
    obtain ⟨l1, e1⟩ := A70 (key :: ws) (s.ts, [])
    obtain ⟨l2, e2⟩ := A30 (V0 s.ts key ws).1 (V0 s.ts key ws).2 lb n
    refine ⟨⟨rfl, l1 ++ l2, ?_⟩, rfl, Nat.le_refl _⟩
    show (P9 _ _ _ _).1 = _
    rw [e2, show (V0 s.ts key ws).1 = _ from e1, List.append_assoc]
theorem B8c {s : Ps} {key lb : LN} {ws : List (LN)} {n : Nat} (ht : Tok s.ts) (h : s.real = false → ∀ w ∈ key :: ws, Rok s.ts w) (hb : B256 lb) (hbl : lb.length ≤ 1000) (hn : n ≤ 100) (hl : s.ts.length + ws.length + 1 ≤ 1048576) : Tok (A7G s key ws lb n).ts := by
  cases hr : s.real with
  | true => rw [A6A hr]; exact ht
  | false =>
    obtain ⟨t1, hd⟩ := A63 ht (h hr) hb hbl hl
    rw [A4D hr]
    exact A6F t1 hd hn
theorem B2i {s s' : Ps} {key lb : LN} {ws : List (LN)} {n : Nat} (ht : Tok s.ts) (h : s.real = false → ∀ w ∈ key :: ws, Rok s.ts w) (hb : B256 lb) (hbl : lb.length ≤ 1000) (hn : n ≤ 100) (hl0 : s.ts.length + ws.length + 1 ≤ 1048576) (he : Pext (A7G s key ws lb n) s') (ht' : Tok s'.ts) (hl : s'.ts.length ≤ 1048576) :
    A7G s' key ws lb n = s' ∧ A9L s' key ws lb n = A9L s key ws lb n := by
  have hrr : s'.real = s.real := by rw [he.real, (A3J s key ws lb n).1]
  cases hr : s.real with
  | true => exact ⟨A6A (hrr.trans hr), by rw [A6B hr, A6B (hrr.trans hr)]⟩
  | false =>
    have hr' : s'.real = false := hrr.trans hr
    have h := h hr
    obtain ⟨l, e⟩ := he.ts
    rw [A4D hr] at e
    change s'.ts = (P9 (V0 s.ts key ws).1 (V0 s.ts key ws).2 lb n).1 ++ l at e
    obtain ⟨l2, e2⟩ := A30 (V0 s.ts key ws).1 (V0 s.ts key ws).2 lb n
    have e3 : s'.ts = (V0 s.ts key ws).1 ++ (l2 ++ l) := by rw [e, e2, List.append_assoc]
    obtain ⟨t1, hd⟩ := A63 ht h hb hbl hl0
    have a := A62 (key :: ws) (s.ts, []) (l2 ++ l) h ht (by show Tok ((V0 s.ts key ws).1 ++ (l2 ++ l)); rw [← e3]; exact ht') (by show ((V0 s.ts key ws).1 ++ (l2 ++ l)).length ≤ _; rw [← e3]; exact hl)
    change V0 ((V0 s.ts key ws).1 ++ (l2 ++ l)) key ws = ((V0 s.ts key ws).1 ++ (l2 ++ l), (V0 s.ts key ws).2) at a
    rw [← e3] at a
    have b := A7I t1 hd hn (l := l) e ht'
    have c : A9K s'.ts key ws lb n = (s'.ts, (A9K s.ts key ws lb n).2) := by unfold A9K; rw [a]; exact b
    rw [A4D hr', A6C hr', A6C hr, c]
    exact ⟨rfl, rfl⟩
theorem B2j (s : Ps) (key : LN) (ws : List (LN)) (lb : LN) (n : Nat) : (A9L s key ws lb n).length = n := by
  cases hr : s.real with
  | true => rw [A6B hr]; exact A8G _ _
  | false => rw [A6C hr]; exact (A3I _ _ _ _).1
theorem A64 {ts : List Tm} {ofs : List Int} {lb : LN} : ∀ {n : Nat}, ∀ w ∈ (P9 ts ofs lb n).2, ∃ j : Nat, w = bts ((j : Nat) : Int)
  | 0, w, h => by cases h
  | n + 1, w, h => by
    rw [show P9 ts ofs lb (n + 1) = B1a ofs lb (P9 ts ofs lb n) n from R9 n] at h
    rcases List.mem_append.1 (show w ∈ _ ++ [_] from h) with h | h
    · exact A64 w h
    · exact ⟨_, List.mem_singleton.1 h⟩
theorem B8d {s : Ps} {key lb : LN} {ws : List (LN)} {n : Nat} (hn : n ≤ 8) : ∀ w ∈ A9L s key ws lb n, (∀ x ∈ w, x < 256) ∧ w.length = 32 := by
  intro w hw
  cases hr : s.real with
  | true =>
    rw [A6B hr] at hw
    obtain ⟨i, hi, rfl⟩ := List.mem_map.1 hw
    have h1 := List.mem_range.1 hi
    have h2 := A8H key ws lb hn
    refine ⟨fun x hx => A15 _ _ _ x (List.mem_of_mem_take (List.mem_of_mem_drop hx)), ?_⟩
    rw [List.length_drop, List.length_take, h2]; omega
  | false =>
    rw [A6C hr] at hw
    obtain ⟨j, rfl⟩ := A64 w hw
    exact ⟨B0X _, A0C _ qD⟩
theorem B8e {s : Ps} {key lb : LN} {ws : List (LN)} {n i : Nat} (hn : n ≤ 8) (hi : i < n) : (∀ x ∈ (A9L s key ws lb n).getD i [], x < 256) ∧ ((A9L s key ws lb n).getD i []).length = 32 := by
  have hl := B2j s key ws lb n
  rw [List.getD_eq_getElem?_getD, List.getElem?_eq_getElem qO]
  exact B8d hn _ (List.getElem_mem _)
theorem Ar.der {s : Ps} (h : Ar s.ts) (key : LN) (ws : List (LN)) (lb : LN) (n : Nat) : Ar (A7G s key ws lb n).ts := by
  cases hr : s.real with
  | true => rw [A6A hr]; exact h
  | false =>
    rw [A4D hr]
    have h1 : ∀ (ws : List (LN)) (st : List Tm × List Int), Ar st.1 → Ar (ws.foldl Z8 st).1 := by
      intro ws
      induction ws with
      | nil => intro st h; exact h
      | cons w ws ih => intro st h; exact ih _ (h.rd w)
    have h2 : ∀ (ts : List Tm) (ofs : List Int) (n : Nat), Ar ts → Ar (P9 ts ofs lb n).1 := by
      intro ts ofs n
      induction n with
      | zero => exact id
      | succ n ih =>
        intro h
        rw [show P9 ts ofs lb (n + 1) = B1a ofs lb (P9 ts ofs lb n) n from R9 n]
        exact (ih h).add fun hk => by simp [drv] at hk
    exact h2 _ _ n (h1 (key :: ws) (s.ts, []) h)

end Go.Proofs.YtoigcbkclcbmpaaGreatDoor
