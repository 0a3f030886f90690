/- Part 15 of the texts of this claim, one behind the other. -/
import Derived.Test.YthbhpfefdnffaaaGreatDoorB14
import Derived.SizedLaws
set_option linter.unusedVariables false
set_option linter.unusedSimpArgs false
set_option maxRecDepth 100000
namespace Go.Proofs.YthbhpfefdnffaaaGreatDoor
open Go.Px
theorem A7v {r : Value} {a b : List Nat} (h : Sc r (bv (B2z a) % lN)) (e : a = b) : Sc r (bv (B2z b) % lN) := e ▸ h
theorem A8C (v : Value) (ws : List Nat) (A : Mem) (hv : By A v ws) (hl : ws.length ≤ 100000000) (hG : GlS A) : FnX Tryz.prog 143 [v] [] A fun r M J => M = [] ∧ J = [] ∧ Sc r (A9r ws) := by
 haveI := hv.cel
 have hvl := hv.len
 obtain ⟨⟨ge0, gf0, h0⟩, ⟨ge1, gf1, h1⟩⟩ := hG
 refine FnX.enter (N := 9) Tryz.func143 rfl rfl rfl fun w => ?_
 refine C4 (D8 0) (A3 ?_)
 refine A6 rfl (C5 (cs := [G4, G4, G4, G4, G4, G4, G4, G4]) kR rfl fun b2 => ?_)
 refine A0 (D5 0 2) (A3 ?_)
 refine A6 rfl (C6 (e := 5) (sz := 1) (z := [zu8, zu8, zu8, zu8, zu8, zu8]) kR (eS rfl (eS rfl (eS rfl (eS rfl (eS rfl (eS rfl e0)))))) (bdS 0 1 rfl (by rfl) (bdS 1 1 rfl (by rfl) (bdS 2 1 rfl (by rfl) (bdS 3 1 rfl (by rfl) (bdS 4 1 rfl (by rfl) (bdS 5 1 rfl (by rfl) bd0)))))) rfl fun b3 => ?_)
 refine A6 rfl (A38 rfl kR UpC.upd rfl ?_)
 refine mv_ ?_
 refine A6 rfl (C6 (e := 27) (sz := 1) (z := [.slice none 0 0, .slice none 0 0]) kR (eS rfl (eS rfl e0)) (bdS 0 1 rfl (by rfl) (bdS 1 1 rfl (by rfl) bd0)) rfl fun b6 => ?_)
 refine C9 (aS rfl a0) kR (A3d _ [[115, 101, 99, 114, 101, 116], ws] _ (A60.of (Rd.whole (n := 2) m0 (by rfl)) rfl (.cons (by decide) (Rd.whole (n := 6) (cs := nums .u8 [115, 101, 99, 114, 101, 116]) At.mem (by rfl)) (.cons hv.lt (hv.rd.mono SubC.sub) .nil))) (by simp; omega) (by simp) (mA h0) (mA h1)) rfl ?_
 rintro r7 M7 J7 ⟨rfl, h7⟩
 refine C9 (aS rfl a0) kR (A10 _ _ _ (A1c (h7.rd SubC.sub) (A07 _).symm rfl) (A7u _) (by rw [A07]; decide)) rfl ?_
 rintro r8 M8 J8 ⟨rfl, rfl, hq8⟩
 have hs8 : Sc r8 (A9r ws) := A7v hq8 (by simp)
 have hz8 := hs8
 obtain ⟨s, rfl, s8, s32, sv⟩ := hs8
 refine A6 rfl (A8 (vs := nums .u32 s) rfl rfl rfl (by rw [nums_len, s8]; kernel_rfl) (by rw [nums_len, s8]; rfl) E8 UpC.upd ?_)
 refine A0 (D8 2) (C2 ?_)
 exact ⟨_, [], [], A1k (n := 8) rfl rfl kR At.mem (by rw [nums_len]; omega), List.nil_sublist _, by simp, rfl, rfl, hz8⟩
theorem A3J (vr vp vm : Value) (wr wp wm : List Nat) (A : Mem) (hr : By A vr wr) (hp : By A vp wp) (hm : By A vm wm) (hG : GlS A) : FnX Tryz.prog 148 [vr, vp, vm] [] A fun r M J => M = [] ∧ J = [] ∧ Sc r (A30 wr wp wm) := by
 haveI := hr.cel
 haveI := hp.cel
 haveI := hm.cel
 have hrl := hr.len
 have hpl := hp.len
 have hml := hm.len
 obtain ⟨⟨ge0, gf0, h0⟩, ⟨ge1, gf1, h1⟩⟩ := hG
 refine FnX.enter (N := 15) Tryz.func148 rfl rfl rfl fun w => ?_
 refine C4 (E1 0 1 2) (A3 ?_)
 refine A6 rfl (C5 (cs := [G4, G4, G4, G4, G4, G4, G4, G4]) kR rfl fun b6 => ?_)
 refine A0 (E7 0 1 2 6) (A3 ?_)
 refine A6 rfl (C6 (e := 5) (sz := 1) (z := [zu8, zu8, zu8, zu8, zu8, zu8, zu8, zu8, zu8]) kR (eS rfl (eS rfl (eS rfl (eS rfl (eS rfl (eS rfl (eS rfl (eS rfl (eS rfl e0))))))))) (bdS 0 1 rfl (by rfl) (bdS 1 1 rfl (by rfl) (bdS 2 1 rfl (by rfl) (bdS 3 1 rfl (by rfl) (bdS 4 1 rfl (by rfl) (bdS 5 1 rfl (by rfl) (bdS 6 1 rfl (by rfl) (bdS 7 1 rfl (by rfl) (bdS 8 1 rfl (by rfl) bd0))))))))) rfl fun b7 => ?_)
 refine A6 rfl (A38 rfl kR UpC.upd rfl ?_)
 refine mv_ (mv_ (mv_ ?_))
 refine A6 rfl (C6 (e := 27) (sz := 1) (z := [.slice none 0 0, .slice none 0 0, .slice none 0 0, .slice none 0 0]) kR (eS rfl (eS rfl (eS rfl (eS rfl e0)))) (bdS 0 1 rfl (by rfl) (bdS 1 1 rfl (by rfl) (bdS 2 1 rfl (by rfl) (bdS 3 1 rfl (by rfl) bd0)))) rfl fun b12 => ?_)
 refine C9 (aS rfl a0) kR (A3d _ [[99, 104, 97, 108, 108, 101, 110, 103, 101], wr, wp, wm] _ (A60.of (Rd.whole (n := 4) m0 (by rfl)) rfl (.cons (by decide) (Rd.whole (n := 9) (cs := nums .u8 [99, 104, 97, 108, 108, 101, 110, 103, 101]) At.mem (by rfl)) (.cons hr.lt (hr.rd.mono SubC.sub) (.cons hp.lt (hp.rd.mono SubC.sub) (.cons hm.lt (hm.rd.mono SubC.sub) .nil))))) (by simp; omega) (by simp) (mA h0) (mA h1)) rfl ?_
 rintro r13 M13 J13 ⟨rfl, h13⟩
 refine C9 (aS rfl a0) kR (A10 _ _ _ (A1c (h13.rd SubC.sub) (A07 _).symm rfl) (A7u _) (by rw [A07]; decide)) rfl ?_
 rintro r14 M14 J14 ⟨rfl, rfl, hq14⟩
 have hs14 : Sc r14 (A30 wr wp wm) := A7v hq14 (by simp)
 have hz14 := hs14
 obtain ⟨s, rfl, s8, s32, sv⟩ := hs14
 refine A6 rfl (A8 (vs := nums .u32 s) rfl rfl rfl (by rw [nums_len, s8]; kernel_rfl) (by rw [nums_len, s8]; rfl) E8 UpC.upd ?_)
 refine A0 (D8 6) (C2 ?_)
 exact ⟨_, [], [], A1k (n := 8) rfl rfl kR At.mem (by rw [nums_len]; omega), List.nil_sublist _, by simp, rfl, rfl, hz14⟩
theorem A8D (v : Value) (ws : List Nat) (A : Mem) (hv : By A v ws) (hG : GlS A) : FnX Tryz.prog 103 [v] [] A fun r M J => M = [] ∧ By J r (A5E ws) := by
 haveI := hv.cel
 have hvl := hv.len
 refine FnX.enterZ (N := 9) Tryz.func103 rfl rfl rfl fun w_ => ?_
 refine C4 (D8 0) (A3 (as_ (A0 (D8 0) (A3 ?_))))
 refine C9 a0 kR (A7l _) rfl ?_
 rintro r3 M3 J3 ⟨rfl, rfl, h3⟩
 refine mv_ ?_
 refine C9 (aS rfl a0) kR (A8C v ws _ (hv.mono SubC.sub) (by omega) hG.up) rfl ?_
 rintro r5 M5 J5 ⟨rfl, rfl, h5⟩
 refine F8 (aS rfl a0) kR (A11 _ _ h5 _) rfl ?_
 refine C9 (aS rfl (aS rfl a0)) kR (A5d _ pS (T0 (A9r ws) 32) h3 (K7 _ _) (A5f _ _) _) rfl ?_
 rintro r7 M7 J7 ⟨rfl, rfl, h7⟩
 rw [B67 (A7s _)] at h7
 refine C9 (aS rfl a0) kR ((A5e _ _ h7 _).frz0) rfl ?_
 rintro r8 M8 J8 ⟨rfl, h8⟩
 haveI := h8.cel
 refine as_ (A0 (D8 2) (C2 ?_))
 exact ⟨_, [], [], I4 rfl rfl, Fit.nil, rfl, B3L h8 (A8B _).symm (B3x _) (by rw [A8B]; decide) SubC.sub⟩
theorem B87 (v vm : Value) (ws wm : List Nat) (A : Mem) (hv : By A v ws) (hm : By A vm wm) (hG : GlS A) : FnX Tryz.prog 114 [v, vm] [] A fun r M J => J = [] ∧ Sl 1 r 64 (nums .u8 (A7q ws wm)) M := by
 haveI := hv.cel
 haveI := hm.cel
 have hvl := hv.len
 have hml := hm.len
 have hG0 := hG
 obtain ⟨⟨ge0, gf0, h0⟩, ⟨ge1, gf1, h1⟩⟩ := hG
 have hG := hG0
 refine FnX.enter (N := 34) Tryz.func114 rfl rfl rfl fun w => ?_
 refine C4 (D5 0 1) (A3 (as_ (A0 (D5 0 1) (A3 ?_))))
 refine A6 rfl (C6 (e := 5) (sz := 1) (z := [zu8, zu8, zu8, zu8, zu8]) kR (eS rfl (eS rfl (eS rfl (eS rfl (eS rfl e0))))) (bdS 0 1 rfl (by rfl) (bdS 1 1 rfl (by rfl) (bdS 2 1 rfl (by rfl) (bdS 3 1 rfl (by rfl) (bdS 4 1 rfl (by rfl) bd0))))) rfl fun b8 => ?_)
 refine A6 rfl (A38 rfl kR UpC.upd rfl ?_)
 refine mv_ (mv_ ?_)
 refine A6 rfl (C6 (e := 27) (sz := 1) (z := [.slice none 0 0, .slice none 0 0, .slice none 0 0]) kR (eS rfl (eS rfl (eS rfl e0))) (bdS 0 1 rfl (by rfl) (bdS 1 1 rfl (by rfl) (bdS 2 1 rfl (by rfl) bd0))) rfl fun b12 => ?_)
 refine C9 (aS rfl a0) kR (A3d _ [[110, 111, 110, 99, 101], ws, wm] _ (A60.of (Rd.whole (n := 3) m0 (by rfl)) rfl (.cons (by decide) (Rd.whole (n := 5) (cs := nums .u8 [110, 111, 110, 99, 101]) At.mem (by rfl)) (.cons hv.lt (hv.rd.mono SubC.sub) (.cons hm.lt (hm.rd.mono SubC.sub) .nil)))) (by simp; omega) (by simp) (mA h0) (mA h1)) rfl ?_
 rintro r13 M13 J13 ⟨rfl, h13⟩
 refine C9 (aS rfl a0) kR (A10 _ _ _ (A1c (h13.rd SubC.sub) (A07 _).symm rfl) (A7u _) (by rw [A07]; decide)) rfl ?_
 rintro r14 M14 J14 ⟨rfl, rfl, hq14⟩
 have hs14 : Sc r14 (B5k ws wm) := A7v hq14 (by simp)
 have hz14 := hs14
 obtain ⟨s, rfl, s8, s32, sv⟩ := hs14
 refine A6 rfl (C5 (cs := [G4, G4, G4, G4, G4, G4, G4, G4]) kR rfl fun b5 => ?_)
 refine A6 rfl (A8 (vs := nums .u32 s) rfl rfl rfl (by rw [nums_len, s8]; kernel_rfl) (by rw [nums_len, s8]; rfl) E8 UpC.upd ?_)
 refine A0 (E1 0 1 5) ?_
 refine D2 [0, 1, 2, 3, 4, 5] [(1, 1), (0, 2), (2, 2), (3, 2), (4, 2), (5, 0)] kR kR fun hs => ?_
 refine F6 hs rfl (H7 (n := 8) (cs := nums .u32 s) rfl kR At.mem (by rw [nums_len]; omega)) rfl ?_
 refine G1 rfl a0 kR (A7l _) rfl ?_
 rintro r15 M15 J15 ⟨rfl, rfl, h15⟩
 refine R9 rfl (aS rfl a0) kR (A11 _ _ hz14 _) rfl ?_
 refine G1 rfl (aS rfl (aS rfl a0)) kR (A5d _ pS (T0 (B5k ws wm) 32) h15 (K7 _ _) (A5f _ _) _) rfl ?_
 rintro r18 M18 J18 ⟨rfl, rfl, h18⟩
 rw [B67 (A7t _ _)] at h18
 refine G1 rfl (aS rfl a0) kR (A5e _ _ h18 _) rfl ?_
 rintro r19 M19 J19 ⟨rfl, h19⟩
 haveI := h19.cel
 replace h19 : Sl 1 r19 32 (nums .u8 (rB ws wm)) M19 := h19
 refine fa_ hs ?_
 refine E3 (E7 0 1 5 6) ?_
 refine D2 (.range 12) [(0, 0), (1, 0), (3, 0), (5, 0), (8, 1), (2, 3), (4, 3), (6, 3), (7, 3), (9, 3), (10, 3), (11, 4), (12, 2)] kR kR fun hs => ?_
 refine fm_ hs ?_
 refine fm_ hs ?_
 refine fm_ hs ?_
 refine fm_ hs ?_
 refine F6 hs rfl (H7 (n := 8) (cs := nums .u32 s) rfl kR At.mem (by rw [nums_len]; omega)) rfl ?_
 refine N0 [⟨2, 22, fun v B R => B = [] ∧ By R v (A5E ws)⟩, ⟨4, 24, fun v B _ => B = [] ∧ Sc v (A30 (rB ws wm) (A5E ws) wm)⟩, ⟨6, 26, fun v B _ => B = [] ∧ Sc v (A9r ws)⟩, ⟨7, 27, fun v B _ => B = [] ∧ Sc v (A30 (rB ws wm) (A5E ws) wm * A9r ws % lN)⟩, ⟨9, 29, fun v B _ => B = [] ∧ Sc v (sN ws wm)⟩, ⟨10, 30, fun v B _ => B = [] ∧ v = .agg (nums .u8 (T0 (sN ws wm) 32)).toArray⟩, ⟨11, 7, fun v B _ => ∃ b, v = .pointer (some ⟨b, 0, none⟩) ∧ B = [(b, blk [.int .u8 0, .int .u8 0, .int .u8 0, .int .u8 0, .int .u8 0, .int .u8 0, .int .u8 0, .int .u8 0, .int .u8 0, .int .u8 0, .int .u8 0, .int .u8 0, .int .u8 0, .int .u8 0, .int .u8 0, .int .u8 0, .int .u8 0, .int .u8 0, .int .u8 0, .int .u8 0, .int .u8 0, .int .u8 0, .int .u8 0, .int .u8 0, .int .u8 0, .int .u8 0, .int .u8 0, .int .u8 0, .int .u8 0, .int .u8 0, .int .u8 0, .int .u8 0] 202)]⟩]
  (C1 (fun _ _ _ _ hR h => ⟨h.1, h.2.mono hR⟩) (C1 (fun _ _ _ _ _ h => h) (C1 (fun _ _ _ _ _ h => h) (C1 (fun _ _ _ _ _ h => h) (C1 (fun _ _ _ _ _ h => h) (C1 (fun _ _ _ _ _ h => h) (C1 (fun _ _ _ _ _ h => h) (K3)))))))) (show List.Nodup [22, 24, 26, 27, 29, 30, 7] by decide) (show List.Nodup [2, 4, 6, 7, 9, 10, 11] by decide) (C1 (C7 rfl) (C1 (C7 rfl) (C1 (C7 rfl) (C1 (C7 rfl) (C1 (C7 rfl) (C1 (C7 rfl) (C1 (C7 rfl) (K3))))))))
  (C1 ⟨_, rfl, fun vs bs R w hb ha => ⟨.inl rfl, ?_⟩⟩ (C1 ⟨_, rfl, fun vs bs R w hb ha => ⟨.inl rfl, ?_⟩⟩ (C1 ⟨_, rfl, fun vs bs R w hb ha => ⟨.inl rfl, ?_⟩⟩ (C1 ⟨_, rfl, fun vs bs R w hb ha => ⟨.inl rfl, ?_⟩⟩ (C1 ⟨_, rfl, fun vs bs R w hb ha => ⟨.inl rfl, ?_⟩⟩ (C1 ⟨_, rfl, fun vs bs R w hb ha => ⟨.inl rfl, ?_⟩⟩ (C1 ⟨_, rfl, fun vs bs R w hb ha => ⟨.inl rfl, ?_⟩⟩ (K3)))))))) ?_
 ·
  refine D7 (aS rfl a0) kR (A8D v ws _ (hv.mono fun x hx => hb _ (SubC.sub x hx)) (hG.sub fun x hx => hb _ (mA hx))) rfl ?_
  rintro r M1 J1 ⟨rfl, hh⟩
  exact ⟨_, rfl, rfl, hh.mono fun x hx => by simp [hx]⟩
 ·
  have g2 := ha _ (List.mem_of_getElem? (i := 0) rfl) kR
  replace g2 : (fun v B R => B = [] ∧ By R v (A5E ws)) (vs 2) (bs 2) R := g2
  dsimp only at g2
  obtain ⟨-, k2⟩ := g2
  refine D7 (aS rfl (aS rfl (aS rfl (a0)))) kR (A3J _ _ _ (rB ws wm) (A5E ws) wm _ (B3L h19 (A3I _ _).symm (B3x _) (by rw [A3I]; decide) (fun x hx => hb _ (SubC.sub x hx))) k2 (hm.mono fun x hx => hb _ (SubC.sub x hx)) (hG.sub fun x hx => hb _ (mA hx))) rfl ?_
  rintro r M1 J1 ⟨rfl, rfl, hh⟩
  exact ⟨_, rfl, rfl, hh⟩
 ·
  refine D7 (aS rfl (a0)) kR (A8C v ws _ (hv.mono fun x hx => hb _ (SubC.sub x hx)) (by omega) (hG.sub fun x hx => hb _ (mA hx))) rfl ?_
  rintro r M1 J1 ⟨rfl, rfl, hh⟩
  exact ⟨_, rfl, rfl, hh⟩
 ·
  have g4 := ha _ (List.mem_of_getElem? (i := 1) rfl) kR
  replace g4 : (fun v B _ => B = [] ∧ Sc v (A30 (rB ws wm) (A5E ws) wm)) (vs 4) (bs 4) R := g4
  dsimp only at g4
  have g6 := ha _ (List.mem_of_getElem? (i := 2) rfl) kR
  replace g6 : (fun v B _ => B = [] ∧ Sc v (A9r ws)) (vs 6) (bs 6) R := g6
  dsimp only at g6
  obtain ⟨-, k4⟩ := g4
  obtain ⟨-, k6⟩ := g6
  refine D7 (aS rfl (aS rfl (a0))) kR (B3A _ _ _ _ k4 k6 (A7s _) _) rfl ?_
  rintro r M1 J1 ⟨rfl, rfl, hh⟩
  exact ⟨_, rfl, rfl, hh⟩
 ·
  have g7 := ha _ (List.mem_of_getElem? (i := 3) rfl) kR
  replace g7 : (fun v B _ => B = [] ∧ Sc v (A30 (rB ws wm) (A5E ws) wm * A9r ws % lN)) (vs 7) (bs 7) R := g7
  dsimp only at g7
  obtain ⟨-, k7⟩ := g7
  refine D7 (aS rfl (aS rfl (a0))) kR (A6s _ _ _ _ k7 hz14 (Nat.mod_lt _ A4q) (A7t _ _) _) rfl ?_
  rintro r M1 J1 ⟨rfl, rfl, hh⟩
  exact ⟨_, rfl, rfl, hh⟩
 ·
  have g9 := ha _ (List.mem_of_getElem? (i := 4) rfl) kR
  replace g9 : (fun v B _ => B = [] ∧ Sc v (sN ws wm)) (vs 9) (bs 9) R := g9
  dsimp only at g9
  obtain ⟨-, k9⟩ := g9
  exact V4 (aS rfl a0) kR (A11 _ _ k9 _) rfl ⟨_, rfl, rfl, rfl⟩
 ·
  exact C5 (cs := [zu8, zu8, zu8, zu8, zu8, zu8, zu8, zu8, zu8, zu8, zu8, zu8, zu8, zu8, zu8, zu8, zu8, zu8, zu8, zu8, zu8, zu8, zu8, zu8, zu8, zu8, zu8, zu8, zu8, zu8, zu8, zu8]) kR rfl fun b => ⟨_, rfl, b, rfl, rfl⟩
 intro vs bs Jn0 hφ
 have g2 := ofH hφ
 dsimp only at g2
 replace hφ := ofT hφ
 have g4 := ofH hφ
 dsimp only at g4
 replace hφ := ofT hφ
 have g6 := ofH hφ
 dsimp only at g6
 replace hφ := ofT hφ
 have g7 := ofH hφ
 dsimp only at g7
 replace hφ := ofT hφ
 have g9 := ofH hφ
 dsimp only at g9
 replace hφ := ofT hφ
 have g10 := ofH hφ
 dsimp only at g10
 replace hφ := ofT hφ
 have g11 := ofH hφ
 dsimp only at g11
 clear hφ
 dsimp only [U0, P5, List.map, List.flatten, List.cons_append, List.nil_append]
 generalize bs 2 = B22 at *
 generalize bs 4 = B24 at *
 generalize bs 6 = B26 at *
 generalize bs 7 = B27 at *
 generalize bs 9 = B29 at *
 generalize bs 10 = B30 at *
 generalize bs 11 = B7 at *
 generalize vs 2 = u22 at *
 generalize vs 4 = u24 at *
 generalize vs 6 = u26 at *
 generalize vs 7 = u27 at *
 generalize vs 9 = u29 at *
 generalize vs 10 = u30 at *
 generalize vs 11 = u7 at *
 obtain ⟨rfl, -⟩ := g2
 obtain ⟨rfl, -⟩ := g4
 obtain ⟨rfl, -⟩ := g6
 obtain ⟨rfl, -⟩ := g7
 obtain ⟨rfl, -⟩ := g9
 obtain ⟨rfl, rfl⟩ := g10
 obtain ⟨b7, rfl, rfl⟩ := g11
 dsimp only [List.append_eq, List.nil_append, List.cons_append]
 refine G2 rfl rfl rfl (A8 (vs := nums .u8 (T0 (sN ws wm) 32)) rfl rfl rfl (by rw [nums_len, K7]; kernel_rfl) (by rw [nums_len, K7]; rfl) E8 UpC.upd ?_)
 refine E3 (D5 6 7) (A3 (mv_ ?_))
 refine A4 (A92 (sz := 1) (e := 5) (n := 32) rfl kR kR) rfl ?_
 refine A6 rfl (I8 (e := 5) (sz := 1) (by_ := 1) (n := 32) (m := 32) rfl rfl kR rfl h19 (Rd.whole (n := 32) (cs := nums .u8 (T0 (sN ws wm) 32)) At.mem (by rw [nums_len, K7])) E8 PickC.perm (by unfold maxLen; omega) (by omega) rfl fun v33 B33 hs33 => ?_)
 haveI := hs33.cel
 rw [← I9] at hs33
 refine as_ (A0 (D8 4) (C2 ?_))
 exact ⟨_, B33, [], I4 rfl rfl, List.sublist_append_left _ _, by simp, rfl, hs33⟩

end Go.Proofs.YthbhpfefdnffaaaGreatDoor
namespace Go.Px
open Go.ChangeShapes Go.WideShapes Go.ChangeAt Go.RowKit
structure Byi (R : Mem) (v : Value) (w : List Nat) : Prop where
  rd : Rd R 1 v w.length (nums .u8 w)
  lt : ∀ x ∈ w, x < 256
  len : w.length ≤ maxLen
theorem Byi.mono {R R' : Mem} {v : Value} {w : List Nat} (h : Byi R v w) (hR : ∀ x, x ∈ R → x ∈ R') : Byi R' v w := ⟨h.rd.mono hR, h.lt, h.len⟩
theorem By.i {R : Mem} {v : Value} {w : List Nat} (h : By R v w) : Byi R v w := ⟨h.rd, h.lt, h.max⟩
theorem Byi.cel {R : Mem} {v : Value} {w : List Nat} (h : Byi R v w) : Cel v [v] := h.rd.cel
theorem Byi.one {R : Mem} {v : Value} {w : List Nat} (h : Byi R v w) : v.oneCell' = true := h.rd.one
structure Byz (R : Mem) (v : Value) (w : List Nat) : Prop extends Byi R v w where
  sz : w.length ≤ reachBytes
theorem Byz.mono {R R' : Mem} {v : Value} {w : List Nat} (h : Byz R v w) (hR : ∀ x, x ∈ R → x ∈ R') : Byz R' v w := ⟨h.toByi.mono hR, h.sz⟩
section
variable {H : Type} {enc : TypeId × Value → H} {P : Program} {w : World} {spare : Nat → Bool} {held : Bool} {fuel : Nat} {t e : TypeId} {cs : List Value} {x : DataW H × List MemPlace}
end
end Go.Px

namespace Go.Proofs.YthbhpfefdnffaaaGreatDoor
open Go.Px
theorem C0B {R : Mem} {v : Value} {w : List Nat} (h : By R v w) {k : Nat} (hk : k ≤ w.length) : By R (vHi k v) (w.take k) := ⟨by
  have h1 := h.rd.hiV k hk
  rw [Nat.mul_one, ← A0L] at h1
  rw [List.length_take, Nat.min_eq_left hk]
  exact h1, fun x hx => h.lt x (List.mem_of_mem_take hx), by rw [List.length_take]; have := h.len; omega⟩
theorem C0C {R : Mem} {v : Value} {w : List Nat} (h : By R v w) {k : Nat} (hk : k ≤ w.length) : By R (vLo k 1 v) (w.drop k) := ⟨by
  have h1 := h.rd.loV k hk
  rw [Nat.mul_one, ← A0g] at h1
  rw [List.length_drop]
  exact h1, fun x hx => h.lt x (List.mem_of_mem_drop hx), by rw [List.length_drop]; have := h.len; omega⟩
theorem B1o {p m s : List Nat} (h : ¬ s.length = 64) : A7r p m s = false := by
  unfold A7r; rw [decide_eq_false h, Bool.false_and]
theorem B7c {p m s : List Nat} (h : S9 p = none) : A7r p m s = false := by
  unfold A7r; rw [h, B3G, Bool.and_false]
theorem B7d {p m s : List Nat} (h : S9 (s.take 32) = none) : A7r p m s = false := by
  unfold A7r; rw [h, B3H, Bool.and_false]
theorem B88 {p m s : List Nat} {a r : Pt} (h1 : S9 p = some a) (h2 : S9 (s.take 32) = some r) (h : ¬ T0 (bv (s.drop 32) % lN) 32 = s.drop 32) : A7r p m s = false := by
  unfold A7r; rw [h1, h2, A3H, decide_eq_false h, Bool.false_and, Bool.and_false]
theorem B89 {p m s : List Nat} {a r : Pt} (h0 : s.length = 64) (h1 : S9 p = some a) (h2 : S9 (s.take 32) = some r) (h : T0 (bv (s.drop 32) % lN) 32 = s.drop 32) : A7r p m s = A7o (V2 pS (bv (s.drop 32) % lN)) (A6q d2N r (V2 a (A30 (s.take 32) p m))) := by
  unfold A7r; rw [decide_eq_true h0, h1, h2, A3H, decide_eq_true h, Bool.true_and, Bool.true_and]
theorem A8E {V : Value} {b : Bool} {w : List Nat} (h : (∃ P, S9 w = some P ∧ b = true ∧ FeP V P) ∨ (S9 w = none ∧ b = false ∧ FeP V pZ)) : ∃ P, FeP V P ∧ ((S9 w = some P ∧ b = true) ∨ (S9 w = none ∧ b = false)) := by
  rcases h with ⟨P, h1, h2, h3⟩ | ⟨h1, h2, h3⟩
  · exact ⟨P, h3, .inl ⟨h1, h2⟩⟩
  · exact ⟨_, h3, .inr ⟨h1, h2⟩⟩
theorem A8F (V : Value) (P : Pt) (n : Nat) (hP : FeP V P) (hn : n < lN) (A : Mem) : FnX Tryz.prog 140 [V, .agg (nums .u8 (T0 n 32)).toArray] [] A fun r M J => M = [] ∧ J = [] ∧ FeP r (V2 P n) := by
  have h := A5d V P (T0 n 32) hP (K7 _ _) (A5f _ _) A
  rwa [B67 hn] at h
theorem B1p {R : Mem} {v : Value} {w : List Nat} (h : By R v w) (hp : 0 < w.length) : ∃ (b o cap : Nat) (cs : List Value) (e : TypeId) (fr : Nat × Nat), v = .slice (some ⟨b, o, none⟩) w.length cap ∧ (b, Obj.cells cs.toArray e fr) ∈ R ∧ ∀ j u, (nums .u8 w)[j]? = some u → cs[o + j]? = some u := by
  obtain ⟨p, cap, hv, h1, h2, h3 | ⟨b, o, cs, e, fr, hb, hm, hg⟩⟩ := h.rd
  · omega
  · subst hb; exact ⟨b, o, cap, cs, e, fr, hv, hm, hg⟩
theorem B7e (vp vm vs : Value) (wp wm ws : List Nat) (A : Mem) (hp : By A vp wp) (hm : By A vm wm) (hsg : By A vs ws) (hG : GlS A) : FnV Tryz.prog 107 [vp, vm, vs] A (.bool (A7r wp wm ws)) := by
  haveI := hp.cel
  haveI := hm.cel
  haveI := hsg.cel
  have hpl := hp.len
  have hml := hm.len
  have hsl := hsg.len
  refine FnX.enter (N := 64) Tryz.func107 rfl rfl rfl fun w => ?_
  refine C4 (E1 0 1 2) (A3 (as_ (A0 (E1 0 1 2) (A5 (A3 (mv_ ?_))))))
  refine A4 (I3 (sz := 1) rfl kR hsg.rd) rfl ?_
  refine A4 (F1 rfl rfl rfl) rfl ?_
  refine A0 (E7 0 1 2 17) ?_
  refine C8 rfl (fun hc => ?_) (fun hc => ?_)
  ·
    have h64 : ¬ ws.length = 64 := by simp at hc; omega
    refine A3 (as_ (A0 (D8 6) (C2 (tr ?_))))
    exact ⟨_, [], [], I4 rfl rfl, List.nil_sublist _, by simp, by rw [B1o h64], rfl, rfl⟩
  ·
    have h64 : ws.length = 64 := by simp at hc; omega
    have hr := C0B hsg (show 32 ≤ ws.length by omega)
    obtain ⟨vr, hvr⟩ : ∃ vr, vHi 32 vs = vr := ⟨_, rfl⟩
    rw [hvr] at hr
    haveI := hr.cel
    have hl := C0C hsg (show 32 ≤ ws.length by omega)
    obtain ⟨vl, hvl⟩ : ∃ vl, vLo 32 1 vs = vl := ⟨_, rfl⟩
    rw [hvl] at hl
    have hll : (ws.drop 32).length = 32 := by rw [List.length_drop]; omega
    obtain ⟨lb, lo, lcap, lcs, le_, lfr, rfl, hlm, hlg⟩ := B1p hl (by omega)
    haveI := hl.cel
    refine A9 (nx (E1 0 1 2) (A3 (mv_ ?_)))
    refine C9 (aS rfl a0) kR (B1m vp wp _ (hp.mono SubC.sub)) rfl ?_
    rintro r20 M20 J20 ⟨rfl, rfl, VA, bA, rfl, hA⟩
    obtain ⟨PA, hPA, hAb⟩ := A8E hA
    have hPA0 := hPA
    obtain ⟨xspa, rfl, pa0, pa1, pa2, pa3, pa4, pa5, pa6, pa7, pa8, pa9, pa10, pa11, pa12, pa13, pa14, pa15, pa16, pa17, pa18, pa19, rfl, hPAX, hPAY, hPAZ, hPAT⟩ := hPA
    dsimp only [nums, List.map]
    refine mv_ ?_
    refine A4 (A2O rfl) rfl ?_
    refine A4 (A2z rfl) rfl ?_
    refine A6 rfl (C5 (cs := [A7, A7, A7, A7, A7, A7, A7, A7, A7, A7, A7, A7, A7, A7, A7, A7, A7, A7, A7, A7]) kR rfl fun b7 => ?_)
    refine A6 rfl (A8 rfl rfl Cel.cel kR A2L A2M UpC.upd ?_)
    refine as_ (A0 (F7 0 1 2 7 8) (A3 (mv_ ?_)))
    refine A4 (hvr ▸ A7Y (sz := 1) (a := 32) rfl rfl kR rfl hsg.rd (by omega)) rfl ?_
    refine C9 (aS rfl a0) kR (B1m vr (ws.take 32) _ (hr.mono SubC.sub)) rfl ?_
    rintro r26 M26 J26 ⟨rfl, rfl, VR, bR, rfl, hR⟩
    obtain ⟨PR, hPR, hRb⟩ := A8E hR
    have hPR0 := hPR
    obtain ⟨xspr, rfl, pr0, pr1, pr2, pr3, pr4, pr5, pr6, pr7, pr8, pr9, pr10, pr11, pr12, pr13, pr14, pr15, pr16, pr17, pr18, pr19, rfl, hPRX, hPRY, hPRZ, hPRT⟩ := hPR
    dsimp only [nums, List.map]
    refine mv_ ?_
    refine A4 (A2O rfl) rfl ?_
    refine A4 (A2z rfl) rfl ?_
    refine A6 rfl (C5 (cs := [A7, A7, A7, A7, A7, A7, A7, A7, A7, A7, A7, A7, A7, A7, A7, A7, A7, A7, A7, A7]) kR rfl fun b9 => ?_)
    refine A6 rfl (A8 rfl rfl Cel.cel kR A2L A2M UpC.upd ?_)
    refine as_ (A0 (X3 0 1 2 7 8 9 10) (A3 (mv_ ?_)))
    refine A4 (hvl ▸ A7Z (sz := 1) (a := 32) rfl rfl kR rfl hsg.rd (by omega)) rfl ?_
    refine C9 (aS rfl a0) kR (A10 _ (ws.drop 32) _ (hl.rd.mono SubC.sub) hl.lt (by omega)) rfl ?_
    rintro r31 M31 J31 ⟨rfl, rfl, hq⟩
    have hz := hq
    obtain ⟨s, rfl, s8, s32, sv⟩ := hq
    refine A6 rfl (C5 (cs := [G4, G4, G4, G4, G4, G4, G4, G4]) kR rfl fun b11 => ?_)
    refine A6 rfl (A8 (vs := nums .u32 s) rfl rfl rfl (by rw [nums_len, s8]; kernel_rfl) (by rw [nums_len, s8]; rfl) E8 UpC.upd ?_)
    refine A0 (A14 0 1 2 7 8 9 10 11) (A3 ?_)
    refine A4 (H7 (n := 8) (cs := nums .u32 s) rfl kR At.mem (by rw [nums_len]; omega)) rfl ?_
    refine F8 (aS rfl a0) kR (A11 _ _ hz _) rfl ?_
    refine A6 rfl (C5 (cs := [zu8, zu8, zu8, zu8, zu8, zu8, zu8, zu8, zu8, zu8, zu8, zu8, zu8, zu8, zu8, zu8, zu8, zu8, zu8, zu8, zu8, zu8, zu8, zu8, zu8, zu8, zu8, zu8, zu8, zu8, zu8, zu8]) kR rfl fun b12 => ?_)
    refine A6 rfl (A8 (vs := nums .u8 (T0 (bv (ws.drop 32) % lN) 32)) rfl rfl rfl (by rw [nums_len, K7]; kernel_rfl) (by rw [nums_len, K7]; rfl) E8 UpC.upd ?_)
    refine A0 (A14 0 1 2 7 8 9 10 12) (A5 ?_)
    have h3 : (S9 wp = none ∧ bA = false) ∨ ((S9 wp = some PA ∧ bA = true) ∧ (S9 (ws.take 32) = none ∧ bR = false)) ∨ ((S9 wp = some PA ∧ bA = true) ∧ (S9 (ws.take 32) = some PR ∧ bR = true)) := by
      rcases hAb with h | h
      · rcases hRb with h2 | h2
        · exact .inr (.inr ⟨h, h2⟩)
        · exact .inr (.inl ⟨h, h2⟩)
      · exact .inl h
    clear hAb hRb
    rcases h3 with ⟨hA1, rfl⟩ | ⟨⟨hA1, rfl⟩, hR1, rfl⟩ | ⟨⟨hA1, rfl⟩, hR1, rfl⟩
    ·
      refine D2 (.range 14) (zp 0 [0, 0, 0, 0, 0, 0, 0, 1, 0, 0, 0, 1, 0, 0]) kR kR fun hs => ?_
      refine fm_ hs ?_
      refine D1 hs rfl (A0e rfl) rfl ?_
      refine fm_ hs ?_
      refine L4 hs ?_
      refine L4 hs ?_
      refine D1 hs rfl (H4 rfl rfl) rfl ?_
      refine fm_ hs ?_
      refine T9 hs ?_
      refine L4 hs ?_
      refine L4 hs ?_
      refine L4 hs ?_
      refine T9 hs ?_
      refine L4 hs ?_
      refine D1 hs rfl (H4 rfl rfl) rfl ?_
      refine E3 (X3 0 1 2 7 9 12 47) ?_
      refine E2 rfl ?_
      refine A3 (as_ (A0 (D8 6) (C2 (tr ?_))))
      exact ⟨_, [], [], I4 rfl rfl, List.nil_sublist _, by simp, by rw [B7c hA1], rfl, rfl⟩
    ·
      refine D2 (.range 14) (zp 0 [0, 0, 0, 0, 0, 0, 0, 1, 0, 0, 0, 1, 0, 0]) kR kR fun hs => ?_
      refine fm_ hs ?_
      refine D1 hs rfl (A0e rfl) rfl ?_
      refine fm_ hs ?_
      refine N3 hs rfl rfl rfl rfl qm_ rfl ?_
      refine N3 hs rfl rfl rfl rfl (A0e rfl) rfl ?_
      refine D1 hs rfl (E9 rfl rfl) rfl ?_
      refine fm_ hs ?_
      refine T9 hs ?_
      refine L4 hs ?_
      refine L4 hs ?_
      refine L4 hs ?_
      refine T9 hs ?_
      refine L4 hs ?_
      refine D1 hs rfl (H4 rfl rfl) rfl ?_
      refine E3 (X3 0 1 2 7 9 12 47) ?_
      refine E2 rfl ?_
      refine A3 (as_ (A0 (D8 6) (C2 (tr ?_))))
      exact ⟨_, [], [], I4 rfl rfl, List.nil_sublist _, by simp, by rw [B7d hR1], rfl, rfl⟩
    ·
      refine D2 (.range 14) (zp 0 [0, 0, 0, 0, 0, 0, 0, 1, 0, 0, 0, 1, 0, 0]) kR kR fun hs => ?_
      refine fm_ hs ?_
      refine D1 hs rfl (A0e rfl) rfl ?_
      refine fm_ hs ?_
      refine N3 hs rfl rfl rfl rfl qm_ rfl ?_
      refine N3 hs rfl rfl rfl rfl (A0e rfl) rfl ?_
      refine D1 hs rfl (E9 rfl rfl) rfl ?_
      refine fm_ hs ?_
      refine A0d hs rfl rfl rfl rfl (H7 (n := 32) (cs := nums .u8 (T0 (bv (ws.drop 32) % lN) 32)) rfl kR At.mem (by rw [nums_len, K7])) rfl ?_
      refine N3 hs rfl rfl rfl rfl qm_ rfl ?_
      refine N3 hs rfl rfl rfl rfl (hvl ▸ A7Z (sz := 1) (a := 32) rfl rfl kR rfl hsg.rd (by omega)) rfl ?_
      refine N3 hs rfl rfl rfl rfl (B3K (k := .u8) (n := 32) rfl kR (by omega)) rfl ?_
      refine A0d hs rfl rfl rfl rfl (G5 (n := 32) (vs := nums .u8 (ws.drop 32)) rfl kR (mA hlm) ⟨by rw [nums_len]; omega, hlg⟩) rfl ?_
      refine N3 hs rfl rfl rfl rfl (B61 (n := 32) (k := .u8) rfl rfl kR kR (K7 _ _) (by omega)) rfl ?_
      refine D1 hs rfl (E9 rfl rfl) rfl ?_
      refine E3 (X3 0 1 2 7 9 12 47) ?_
      refine C8 rfl (fun hc => ?_) (fun hc => ?_)
      ·
        have hne : ¬ T0 (bv (ws.drop 32) % lN) 32 = ws.drop 32 := by simpa using hc
        refine A3 (as_ (A0 (D8 6) (C2 (tr ?_))))
        exact ⟨_, [], [], I4 rfl rfl, List.nil_sublist _, by simp, by rw [B88 hA1 hR1 hne], rfl, rfl⟩
      ·
        have hne : T0 (bv (ws.drop 32) % lN) 32 = ws.drop 32 := by simpa using hc
        refine A9 (nx (I5 0 1 2 7 9 12) ?_)
        refine D2 [0, 1, 2, 3] [(1, 1), (0, 3), (2, 3), (3, 4), (4, 2)] kR kR fun hs => ?_
        refine F6 hs rfl (H7 (n := 32) (cs := nums .u8 (T0 (bv (ws.drop 32) % lN) 32)) rfl kR At.mem (by rw [nums_len, K7])) rfl ?_
        refine N0 [⟨0, 48, fun v B _ => B = [] ∧ FeP v pS⟩, ⟨2, 50, fun v B _ => B = [] ∧ FeP v (V2 pS (bv (ws.drop 32) % lN))⟩, ⟨3, 13, fun v B _ => ∃ b, v = .pointer (some ⟨b, 0, none⟩) ∧ B = [(b, blk [.int .u64 0, .int .u64 0, .int .u64 0, .int .u64 0, .int .u64 0, .int .u64 0, .int .u64 0, .int .u64 0, .int .u64 0, .int .u64 0, .int .u64 0, .int .u64 0, .int .u64 0, .int .u64 0, .int .u64 0, .int .u64 0, .int .u64 0, .int .u64 0, .int .u64 0, .int .u64 0] 218)]⟩]
          (C1 (fun _ _ _ _ _ h => h) (C1 (fun _ _ _ _ _ h => h) (C1 (fun _ _ _ _ _ h => h) (K3)))) (show List.Nodup [48, 50, 13] by decide) (show List.Nodup [0, 2, 3] by decide) (C1 (C7 rfl) (C1 (C7 rfl) (C1 (C7 rfl) (K3))))
          (C1 ⟨_, rfl, fun vs bs R w hb ha => ⟨.inl rfl, ?_⟩⟩ (C1 ⟨_, rfl, fun vs bs R w hb ha => ⟨.inl rfl, ?_⟩⟩ (C1 ⟨_, rfl, fun vs bs R w hb ha => ⟨.inl rfl, ?_⟩⟩ (K3)))) ?_
        ·
          refine D7 (a0) kR (A7l _) rfl ?_
          rintro r M1 J1 ⟨rfl, rfl, hh⟩
          exact ⟨_, rfl, rfl, hh⟩
        ·
          have g0 := ha _ (List.mem_of_getElem? (i := 0) rfl) kR
          replace g0 : (fun v B _ => B = [] ∧ FeP v pS) (vs 0) (bs 0) R := g0
          dsimp only at g0
          obtain ⟨-, k0⟩ := g0
          refine D7 (aS rfl (aS rfl (a0))) kR (A8F _ pS (bv (ws.drop 32) % lN) k0 (Nat.mod_lt _ A4q) _) rfl ?_
          rintro r M1 J1 ⟨rfl, rfl, hh⟩
          exact ⟨_, rfl, rfl, hh⟩
        ·
          exact C5 (cs := [A7, A7, A7, A7, A7, A7, A7, A7, A7, A7, A7, A7, A7, A7, A7, A7, A7, A7, A7, A7]) kR rfl fun b => ⟨_, rfl, b, rfl, rfl⟩
        intro vs bs Jn0 hφ
        have g0 := ofH hφ
        dsimp only at g0
        replace hφ := ofT hφ
        have g2 := ofH hφ
        dsimp only at g2
        replace hφ := ofT hφ
        have g3 := ofH hφ
        dsimp only at g3
        clear hφ
        dsimp only [U0, P5, List.map, List.flatten, List.cons_append, List.nil_append]
        generalize bs 0 = B48 at *
        generalize bs 2 = B50 at *
        generalize bs 3 = B13 at *
        generalize vs 0 = u48 at *
        generalize vs 2 = u50 at *
        generalize vs 3 = u13 at *
        obtain ⟨rfl, -⟩ := g0
        obtain ⟨rfl, hL⟩ := g2
        obtain ⟨b13, rfl, rfl⟩ := g3
        have hL0 := hL
        obtain ⟨xspl, rfl, pl0, pl1, pl2, pl3, pl4, pl5, pl6, pl7, pl8, pl9, pl10, pl11, pl12, pl13, pl14, pl15, pl16, pl17, pl18, pl19, rfl, hLX, hLY, hLZ, hLT⟩ := hL
        dsimp only [nums, List.map]
        dsimp only [List.append_eq, List.nil_append, List.cons_append]
        refine G2 rfl rfl rfl (A8 rfl rfl Cel.cel kR A2L A2M UpC.upd ?_)
        refine E3 (I5 0 1 2 7 9 13) ?_
        refine D2 (.range 11) (zp 0 [1, 1, 0, 0, 0, 0, 3, 3, 3, 3, 4, 2]) kR kR fun hs => ?_
        refine F6 hs rfl (qw_ 20) rfl ?_
        refine F6 hs rfl (qw_ 20) rfl ?_
        refine fm_ hs ?_
        refine D1 hs rfl (hvr ▸ A7Y (sz := 1) (a := 32) rfl rfl kR rfl hsg.rd (by omega)) rfl ?_
        refine fm_ hs ?_
        refine fm_ hs ?_
        refine N0 [⟨6, 57, fun v B _ => B = [] ∧ Sc v (A30 (ws.take 32) wp wm)⟩, ⟨7, 58, fun v B _ => B = [] ∧ v = .agg (nums .u8 (T0 (A30 (ws.take 32) wp wm) 32)).toArray⟩, ⟨8, 59, fun v B _ => B = [] ∧ FeP v (V2 PA (A30 (ws.take 32) wp wm))⟩, ⟨9, 60, fun v B _ => B = [] ∧ FeP v (A6q d2N PR (V2 PA (A30 (ws.take 32) wp wm)))⟩, ⟨10, 14, fun v B _ => ∃ b, v = .pointer (some ⟨b, 0, none⟩) ∧ B = [(b, blk [.int .u64 0, .int .u64 0, .int .u64 0, .int .u64 0, .int .u64 0, .int .u64 0, .int .u64 0, .int .u64 0, .int .u64 0, .int .u64 0, .int .u64 0, .int .u64 0, .int .u64 0, .int .u64 0, .int .u64 0, .int .u64 0, .int .u64 0, .int .u64 0, .int .u64 0, .int .u64 0] 218)]⟩]
          (C1 (fun _ _ _ _ _ h => h) (C1 (fun _ _ _ _ _ h => h) (C1 (fun _ _ _ _ _ h => h) (C1 (fun _ _ _ _ _ h => h) (C1 (fun _ _ _ _ _ h => h) (K3)))))) (show List.Nodup [57, 58, 59, 60, 14] by decide) (show List.Nodup [6, 7, 8, 9, 10] by decide) (C1 (C7 rfl) (C1 (C7 rfl) (C1 (C7 rfl) (C1 (C7 rfl) (C1 (C7 rfl) (K3))))))
          (C1 ⟨_, rfl, fun vs bs R w hb ha => ⟨.inl rfl, ?_⟩⟩ (C1 ⟨_, rfl, fun vs bs R w hb ha => ⟨.inl rfl, ?_⟩⟩ (C1 ⟨_, rfl, fun vs bs R w hb ha => ⟨.inl rfl, ?_⟩⟩ (C1 ⟨_, rfl, fun vs bs R w hb ha => ⟨.inl rfl, ?_⟩⟩ (C1 ⟨_, rfl, fun vs bs R w hb ha => ⟨.inl rfl, ?_⟩⟩ (K3)))))) ?_
        ·
          refine D7 (aS rfl (aS rfl (aS rfl (a0)))) kR (A3J _ _ _ (ws.take 32) wp wm _ (hr.mono fun x hx => hb _ (SubC.sub x hx)) (hp.mono fun x hx => hb _ (SubC.sub x hx)) (hm.mono fun x hx => hb _ (SubC.sub x hx)) (hG.sub fun x hx => hb _ (mA hx))) rfl ?_
          rintro r M1 J1 ⟨rfl, rfl, hh⟩
          exact ⟨_, rfl, rfl, hh⟩
        ·
          have g6 := ha _ (List.mem_of_getElem? (i := 0) rfl) kR
          replace g6 : (fun v B _ => B = [] ∧ Sc v (A30 (ws.take 32) wp wm)) (vs 6) (bs 6) R := g6
          dsimp only at g6
          obtain ⟨-, k6⟩ := g6
          exact V4 (aS rfl a0) kR (A11 _ _ k6 _) rfl ⟨_, rfl, rfl, rfl⟩
        ·
          have g7 := ha _ (List.mem_of_getElem? (i := 1) rfl) kR
          replace g7 : (fun v B _ => B = [] ∧ v = .agg (nums .u8 (T0 (A30 (ws.take 32) wp wm) 32)).toArray) (vs 7) (bs 7) R := g7
          dsimp only at g7
          obtain ⟨-, k7⟩ := g7
          refine D7 (vs := [_, .agg (nums .u8 (T0 (A30 (ws.take 32) wp wm) 32)).toArray]) (aS rfl (aS (by rw [← k7]; rfl) a0)) kR (A8F _ PA (A30 (ws.take 32) wp wm) hPA0 (B1i _ _ _) _) rfl ?_
          rintro r M1 J1 ⟨rfl, rfl, hh⟩
          exact ⟨_, rfl, rfl, hh⟩
        ·
          have g8 := ha _ (List.mem_of_getElem? (i := 2) rfl) kR
          replace g8 : (fun v B _ => B = [] ∧ FeP v (V2 PA (A30 (ws.take 32) wp wm))) (vs 8) (bs 8) R := g8
          dsimp only at g8
          obtain ⟨-, k8⟩ := g8
          refine D7 (aS rfl (aS rfl (a0))) kR (B69 _ _ PR _ hPR0 k8 _) rfl ?_
          rintro r M1 J1 ⟨rfl, rfl, hh⟩
          exact ⟨_, rfl, rfl, hh⟩
        ·
          exact C5 (cs := [A7, A7, A7, A7, A7, A7, A7, A7, A7, A7, A7, A7, A7, A7, A7, A7, A7, A7, A7, A7]) kR rfl fun b => ⟨_, rfl, b, rfl, rfl⟩
        intro vs bs Jn0 hφ
        have g6 := ofH hφ
        dsimp only at g6
        replace hφ := ofT hφ
        have g7 := ofH hφ
        dsimp only at g7
        replace hφ := ofT hφ
        have g8 := ofH hφ
        dsimp only at g8
        replace hφ := ofT hφ
        have g9 := ofH hφ
        dsimp only at g9
        replace hφ := ofT hφ
        have g10 := ofH hφ
        dsimp only at g10
        clear hφ
        dsimp only [U0, P5, List.map, List.flatten, List.cons_append, List.nil_append]
        generalize bs 6 = B57 at *
        generalize bs 7 = B58 at *
        generalize bs 8 = B59 at *
        generalize bs 9 = B60 at *
        generalize bs 10 = B14 at *
        generalize vs 6 = u57 at *
        generalize vs 7 = u58 at *
        generalize vs 8 = u59 at *
        generalize vs 9 = u60 at *
        generalize vs 10 = u14 at *
        obtain ⟨rfl, -⟩ := g6
        obtain ⟨rfl, -⟩ := g7
        obtain ⟨rfl, -⟩ := g8
        obtain ⟨rfl, hU⟩ := g9
        obtain ⟨b14, rfl, rfl⟩ := g10
        have hU0 := hU
        obtain ⟨xspu, rfl, pu0, pu1, pu2, pu3, pu4, pu5, pu6, pu7, pu8, pu9, pu10, pu11, pu12, pu13, pu14, pu15, pu16, pu17, pu18, pu19, rfl, hUX, hUY, hUZ, hUT⟩ := hU
        dsimp only [nums, List.map]
        dsimp only [List.append_eq, List.nil_append, List.cons_append]
        refine G2 rfl rfl rfl (A8 rfl rfl Cel.cel kR A2L A2M UpC.upd ?_)
        refine E3 (D5 13 14) (A3 ?_)
        refine A4 (qw_ 20) rfl ?_
        refine A4 (qw_ 20) rfl ?_
        refine F8 (aS rfl (aS rfl a0)) kR (B7a _ _ _ _ hL0 hU0 _) rfl ?_
        refine as_ (A0 (D8 6) (C2 ?_))
        exact ⟨_, [], [], I4 rfl rfl, List.nil_sublist _, by simp, by rw [B89 h64 hA1 hR1 hne], rfl, rfl⟩

theorem Glb.s {A : Mem} (h : Glb A) : GlS A := ⟨h.first, h.round⟩
def H6 (s : Ps) (w : List Nat) : Ps := if s.real then s else B0B s w
noncomputable def K9 (s : Ps) (w : List Nat) : List Nat := if s.real then V3 (P6 w 32) else B3b s w
noncomputable def B7W (s : Ps) (w : List Nat) : List Nat := if s.real then A5E (P6 w 32) else B3b s w
def L3 (s : Ps) (w u : List Nat) : Ps := if s.real then s else B6q s w u
noncomputable def A2i (s : Ps) (w u : List Nat) : List Nat := if s.real then x25 (P6 w 32) (P6 u 32) else B7S s w u
def A5n (s : Ps) (w m : List Nat) : Ps := if s.real then s else B2g s w fun x => A3S x m
noncomputable def B2k (s : Ps) (w m : List Nat) : List Nat := if s.real then A7q (P6 w 32) m else P6 (B7T s w fun x => A3S x m) 64
theorem B9a (s m : List Nat) : ∀ x ∈ A7q s m, x < 256 := by
  intro x hx
  rcases List.mem_append.1 hx with h | h
  · exact B3x _ x h
  · exact A5f _ _ x h
theorem B9b (v vm : Value) (ws wm : List Nat) (A : Mem) (hv : By A v ws) (hm : By A vm wm) (hG : GlS A) : FnX Tryz.prog 114 [v, vm] [] A fun r M J => M = [] ∧ By J r (A7q ws wm) :=
  ((B87 v vm ws wm A hv hm hG).frz0).mono fun r M J ⟨h1, h2⟩ => ⟨h1, B3L h2 (A5k _ _).symm (B9a _ _) (by rw [A5k]; decide) fun _ h => h⟩
theorem B3P (pb : Nat) (s : Ps) (hr : s.real = true) (v : Value) (w : List Nat) (MP A : Mem) (hP : Prm pb s MP) (hv : By A v w) : FnX Tryz.prog 17 [.pointer (some ⟨pb, 0, none⟩), v] MP A fun q M J => Prm pb s M ∧ By J q (V3 (P6 w 32)) := by
 obtain ⟨sv, bt, bm, B, MT, rfl, hby, hT⟩ := hP.ex
 haveI := hv.cel
 haveI := hby.cel
 have hvl := hv.len
 refine FnX.enterZ (N := 26) Tryz.func17 rfl rfl rfl fun w_ => ?_
 refine C4 (D5 0 1) (A3 (as_ (A0 (D5 0 1) (A5 (A3 (mv_ ?_))))))
 refine A4 (F0 (e := 117) rfl rfl kR) rfl ?_
 refine A0 (E1 0 1 6) ?_
 refine D4 rfl ?_
 refine A9 (nx (D5 0 1) (A5 (A3 (mv_ ?_))))
 refine A4 (F5 rfl) rfl ?_
 refine A4 (qf_ 0 0) rfl ?_
 refine A4 ql_ rfl ?_
 refine A4 (F9 true rfl rfl (eqT (by rw [hr]; rfl))) rfl ?_
 refine A0 (E1 0 1 11) ?_
 refine E2 rfl ?_
 refine A3 (mv_ ?_)
 refine C9 (aS rfl (aS rfl a0)) kR (Z7 v w 32 _ (hv.mono SubC.sub) (by decide)) rfl ?_
 rintro r13 M13 J13 ⟨rfl, h13⟩
 haveI := h13.cel
 refine C9 (aS rfl a0) kR (B85 _ _ _ (h13.mono SubC.sub)) rfl ?_
 rintro r14 M14 J14 ⟨rfl, h14⟩
 haveI := h14.cel
 refine as_ (A0 (D8 4) (C2 (tr ?_)))
 exact ⟨_, (pb, blk [.int .u8 (md s.real), sv, .int .i64 (((s.n : Nat) : Int)), .pointer (some ⟨bt, 0, none⟩)] 117) :: (B ++ MT), [], I4 rfl rfl, (Fit.none (Fit.pick (B := [_]) PickC.perm (Fit.pick PickC.perm (Fit.last PickC.perm)))), ⟨sv, bt, bm, B, MT, rfl, hby, hT⟩, h14.mono SubC.sub⟩
theorem B1q (pb : Nat) (s : Ps) (hr : s.real = true) (v : Value) (w : List Nat) (MP A : Mem) (hP : Prm pb s MP) (hv : By A v w) (hG : Glb A) : FnX Tryz.prog 59 [.pointer (some ⟨pb, 0, none⟩), v] MP A fun q M J => Prm pb s M ∧ By J q (A5E (P6 w 32)) := by
 obtain ⟨sv, bt, bm, B, MT, rfl, hby, hT⟩ := hP.ex
 haveI := hv.cel
 haveI := hby.cel
 have hvl := hv.len
 refine FnX.enterZ (N := 18) Tryz.func59 rfl rfl rfl fun w_ => ?_
 refine C4 (D5 0 1) (A3 (as_ (A0 (D5 0 1) (A5 (A3 (mv_ ?_))))))
 refine A4 (F0 (e := 117) rfl rfl kR) rfl ?_
 refine A0 (E1 0 1 6) ?_
 refine D4 rfl ?_
 refine A9 (nx (D5 0 1) (A5 (A3 (mv_ ?_))))
 refine A4 (F5 rfl) rfl ?_
 refine A4 (qf_ 0 0) rfl ?_
 refine A4 ql_ rfl ?_
 refine A4 (F9 true rfl rfl (eqT (by rw [hr]; rfl))) rfl ?_
 refine A0 (E1 0 1 11) ?_
 refine E2 rfl ?_
 refine A3 (mv_ ?_)
 refine C9 (aS rfl (aS rfl a0)) kR (Z7 v w 32 _ (hv.mono SubC.sub) (by decide)) rfl ?_
 rintro r13 M13 J13 ⟨rfl, h13⟩
 haveI := h13.cel
 refine C9 (aS rfl a0) kR (A8D _ _ _ (h13.mono SubC.sub) hG.s.up) rfl ?_
 rintro r14 M14 J14 ⟨rfl, h14⟩
 haveI := h14.cel
 refine as_ (A0 (D8 4) (C2 (tr ?_)))
 exact ⟨_, (pb, blk [.int .u8 (md s.real), sv, .int .i64 (((s.n : Nat) : Int)), .pointer (some ⟨bt, 0, none⟩)] 117) :: (B ++ MT), [], I4 rfl rfl, (Fit.none (Fit.pick (B := [_]) PickC.perm (Fit.pick PickC.perm (Fit.last PickC.perm)))), ⟨sv, bt, bm, B, MT, rfl, hby, hT⟩, h14.mono SubC.sub⟩
theorem B7f (pb : Nat) (s : Ps) (hr : s.real = true) (v v2 : Value) (w u : List Nat) (MP A : Mem) (hP : Prm pb s MP) (hv : By A v w) (hu : By A v2 u) : FnX Tryz.prog 60 [.pointer (some ⟨pb, 0, none⟩), v, v2] MP A fun q M J => Prm pb s M ∧ By J q (x25 (P6 w 32) (P6 u 32)) := by
 obtain ⟨sv, bt, bm, B, MT, rfl, hby, hT⟩ := hP.ex
 haveI := hv.cel
 haveI := hby.cel
 have hvl := hv.len
 haveI := hu.cel
 refine FnX.enterZ (N := 31) Tryz.func60 rfl rfl rfl fun w_ => ?_
 refine C4 (E1 0 1 2) (A3 (as_ (A0 (E1 0 1 2) (A5 (A3 (mv_ ?_))))))
 refine A4 (F0 (e := 117) rfl rfl kR) rfl ?_
 refine A0 (E7 0 1 2 8) ?_
 refine D4 rfl ?_
 refine A9 (nx (E1 0 1 2) (A5 (A3 (mv_ ?_))))
 refine A4 (F5 rfl) rfl ?_
 refine A4 (qf_ 0 0) rfl ?_
 refine A4 ql_ rfl ?_
 refine A4 (F9 true rfl rfl (eqT (by rw [hr]; rfl))) rfl ?_
 refine A0 (E7 0 1 2 13) ?_
 refine E2 rfl ?_
 refine A3 (mv_ ?_)
 refine C9 (aS rfl (aS rfl a0)) kR (Z7 v w 32 _ (hv.mono SubC.sub) (by decide)) rfl ?_
 rintro r15 M15 J15 ⟨rfl, h15⟩
 haveI := h15.cel
 refine mv_ ?_
 refine C9 (aS rfl (aS rfl a0)) kR (Z7 v2 u 32 _ (hu.mono SubC.sub) (by decide)) rfl ?_
 rintro r17 M17 J17 ⟨rfl, h17⟩
 haveI := h17.cel
 refine C9 (aS rfl (aS rfl a0)) kR (B5p _ _ _ _ _ (h15.mono SubC.sub) (h17.mono SubC.sub)) rfl ?_
 rintro r18 M18 J18 ⟨rfl, h18⟩
 haveI := h18.cel
 refine as_ (A0 (D8 6) (C2 (tr ?_)))
 exact ⟨_, (pb, blk [.int .u8 (md s.real), sv, .int .i64 (((s.n : Nat) : Int)), .pointer (some ⟨bt, 0, none⟩)] 117) :: (B ++ MT), [], I4 rfl rfl, (Fit.none (Fit.pick (B := [_]) PickC.perm (Fit.pick PickC.perm (Fit.last PickC.perm)))), ⟨sv, bt, bm, B, MT, rfl, hby, hT⟩, h18.mono SubC.sub⟩
theorem B7g (pb : Nat) (s : Ps) (hr : s.real = true) (v v2 : Value) (w u : List Nat) (MP A : Mem) (hP : Prm pb s MP) (hv : By A v w) (hu : By A v2 u) (hG : Glb A) : FnX Tryz.prog 68 [.pointer (some ⟨pb, 0, none⟩), v, v2] MP A fun q M J => Prm pb s M ∧ By J q (A7q (P6 w 32) u) := by
 obtain ⟨sv, bt, bm, B, MT, rfl, hby, hT⟩ := hP.ex
 haveI := hv.cel
 haveI := hby.cel
 have hvl := hv.len
 haveI := hu.cel
 refine FnX.enterZ (N := 32) Tryz.func68 rfl rfl rfl fun w_ => ?_
 refine C4 (E1 0 1 2) (A3 (as_ (A0 (E1 0 1 2) (A5 (A3 (mv_ ?_))))))
 refine A4 (F0 (e := 117) rfl rfl kR) rfl ?_
 refine A0 (E7 0 1 2 8) ?_
 refine D4 rfl ?_
 refine A9 (nx (E1 0 1 2) (A5 (A3 (mv_ ?_))))
 refine A4 (F5 rfl) rfl ?_
 refine A4 (qf_ 0 0) rfl ?_
 refine A4 ql_ rfl ?_
 refine A4 (F9 true rfl rfl (eqT (by rw [hr]; rfl))) rfl ?_
 refine A0 (E7 0 1 2 13) ?_
 refine E2 rfl ?_
 refine A3 (mv_ ?_)
 refine C9 (aS rfl (aS rfl a0)) kR (Z7 v w 32 _ (hv.mono SubC.sub) (by decide)) rfl ?_
 rintro r15 M15 J15 ⟨rfl, h15⟩
 haveI := h15.cel
 refine mv_ ?_
 refine C9 (aS rfl (aS rfl a0)) kR (B9b _ _ _ _ _ (h15.mono SubC.sub) (hu.mono SubC.sub) hG.s.up) rfl ?_
 rintro r17 M17 J17 ⟨rfl, h17⟩
 haveI := h17.cel
 refine as_ (A0 (D8 6) (C2 (tr ?_)))
 exact ⟨_, (pb, blk [.int .u8 (md s.real), sv, .int .i64 (((s.n : Nat) : Int)), .pointer (some ⟨bt, 0, none⟩)] 117) :: (B ++ MT), [], I4 rfl rfl, (Fit.none (Fit.pick (B := [_]) PickC.perm (Fit.pick PickC.perm (Fit.last PickC.perm)))), ⟨sv, bt, bm, B, MT, rfl, hby, hT⟩, h17.mono SubC.sub⟩
theorem B1r (pb : Nat) (s : Ps) (hr : s.real = false) (v : Value) (w : List Nat) (MP A : Mem) (hP : Prm pb s MP) (hv : By A v w) (hn : s.ts.length < 1048576) (hG : Glb A) : FnX Tryz.prog 59 [.pointer (some ⟨pb, 0, none⟩), v] MP A fun q M J => Prm pb (B0B s w) M ∧ By J q (B3b s w) := by
 obtain ⟨sv, bt, bm, B, MT, rfl, hby, hT⟩ := hP.ex
 haveI := hv.cel
 haveI := hby.cel
 have hvl := hv.len
 refine FnX.enterZ (N := 18) Tryz.func59 rfl rfl rfl fun w_ => ?_
 refine C4 (D5 0 1) (A3 (as_ (A0 (D5 0 1) (A5 (A3 (mv_ ?_))))))
 refine A4 (F0 (e := 117) rfl rfl kR) rfl ?_
 refine A0 (E1 0 1 6) ?_
 refine D4 rfl ?_
 refine A9 (nx (D5 0 1) (A5 (A3 (mv_ ?_))))
 refine A4 (F5 rfl) rfl ?_
 refine A4 (qf_ 0 0) rfl ?_
 refine A4 ql_ rfl ?_
 refine A4 (F9 false rfl rfl (eqF (by rw [hr]; decide))) rfl ?_
 refine A0 (E1 0 1 11) ?_
 refine D4 rfl ?_
 refine A9 (nx (D5 0 1) (A3 (mv_ (mv_ ?_))))
 refine A6 rfl (E0 (Mc := (pb, blk [.int .u8 (md s.real), sv, .int .i64 (((s.n : Nat) : Int)), .pointer (some ⟨bt, 0, none⟩)] 117) :: (B ++ MT)) (R := _) (aS rfl (aS rfl a0)) kR PickC.perm (A8g pb s hr v w _ _ ⟨sv, bt, bm, B, MT, rfl, hby, hT⟩ hn (hv.mono SubC.sub) hG.up) rfl ?_)
 rintro v17 M17 J17 ⟨hP17, h17⟩
 haveI := h17.cel
 refine as_ (A0 (D8 4) (C2 ?_))
 exact ⟨_, M17, [], I4 rfl rfl, Fit.none (Fit.last PickC.perm), hP17, h17.mono SubC.sub⟩
theorem W5 (pb : Nat) (s : Ps) (v : Value) (w : List Nat) (MP A : Mem) (hP : Prm pb s MP) (hn : s.ts.length < 1048576) (hv : By A v w) (hG : Glb A) : FnX Tryz.prog 17 [.pointer (some ⟨pb, 0, none⟩), v] MP A fun q M J => Prm pb (H6 s w) M ∧ By J q (K9 s w) := by
  cases hr : s.real with
  | true => unfold H6 K9; rw [hr]; exact B3P pb s hr v w MP A hP hv
  | false => unfold H6 K9; rw [hr]; exact A8g pb s hr v w MP A hP hn hv hG
theorem B1s (pb : Nat) (s : Ps) (v : Value) (w : List Nat) (MP A : Mem) (hP : Prm pb s MP) (hn : s.ts.length < 1048576) (hv : By A v w) (hG : Glb A) : FnX Tryz.prog 59 [.pointer (some ⟨pb, 0, none⟩), v] MP A fun q M J => Prm pb (H6 s w) M ∧ By J q (B7W s w) := by
  cases hr : s.real with
  | true => unfold H6 B7W; rw [hr]; exact B1q pb s hr v w MP A hP hv hG
  | false => unfold H6 B7W; rw [hr]; exact B1r pb s hr v w MP A hP hv hn hG
theorem A0T (pb : Nat) (s : Ps) (v v2 : Value) (w u : List Nat) (MP A : Mem) (hP : Prm pb s MP) (hn : s.ts.length + 1 < 1048576) (hv : By A v w) (hu : By A v2 u) (hG : Glb A) : FnX Tryz.prog 60 [.pointer (some ⟨pb, 0, none⟩), v, v2] MP A fun q M J => Prm pb (L3 s w u) M ∧ By J q (A2i s w u) := by
  cases hr : s.real with
  | true => unfold L3 A2i; rw [hr]; exact B7f pb s hr v v2 w u MP A hP hv hu
  | false => unfold L3 A2i; rw [hr]; exact B3c pb s hr v v2 w u MP A hP hn hv hu hG
theorem B7h (pb : Nat) (s : Ps) (v v2 : Value) (w m : List Nat) (MP A : Mem) (hP : Prm pb s MP) (hn : s.ts.length < 1048576) (hv : By A v w) (hm : By A v2 m) (hG : Glb A) : FnX Tryz.prog 68 [.pointer (some ⟨pb, 0, none⟩), v, v2] MP A fun q M J => Prm pb (A5n s w m) M ∧ By J q (B2k s w m) := by
  cases hr : s.real with
  | true => unfold A5n B2k; rw [hr]; exact B7g pb s hr v v2 w m MP A hP hv hm hG
  | false =>
    unfold A5n B2k; rw [hr]
    obtain ⟨bt, bm, h⟩ := hP.t
    exact (B0C pb bt bm s hr v v2 w m MP A h hn hv hm hG).mono fun q M J ⟨h1, h2⟩ => ⟨h1.p, h2⟩

structure Ext (s s' : Ps) : Prop where
  p : Pext s s'
  seed : s'.seed = s.seed
  n : s.n ≤ s'.n
theorem Ext.refl (s : Ps) : Ext s s := ⟨Pext.refl s, rfl, Nat.le_refl _⟩
theorem Ext.trans {a b c : Ps} (h : Ext a b) (h' : Ext b c) : Ext a c := ⟨h.p.trans h'.p, h'.seed.trans h.seed, Nat.le_trans h.n h'.n⟩
theorem A7w (ts : List Tm) (t : Tm) : ∃ l, add ts t = ts ++ l := by
  unfold add
  split
  · exact ⟨[], by simp⟩
  · exact ⟨_, rfl⟩
theorem A1x (ts : List Tm) (w : List Nat) : ∃ l, rdT ts w = ts ++ l := by
  cases hp : plc w ts.length with
  | some j => exact ⟨[], by rw [(U7 hp).1]; simp⟩
  | none => rw [(W2 hp).1]; exact A7w _ _
theorem A8G (ts : List Tm) (w : List Nat) (t : Tm) : ∃ l, add (rdT ts w) t = ts ++ l := by
  obtain ⟨l1, e1⟩ := A1x ts w
  obtain ⟨l2, e2⟩ := A7w (rdT ts w) t
  exact ⟨l1 ++ l2, by rw [e2, e1, List.append_assoc]⟩
theorem W6 (s : Ps) : Ext s (D3 s) := ⟨A6e s, by unfold D3; split <;> rfl, by unfold D3; split <;> exact Nat.le_succ _⟩
theorem A0m (s : Ps) (w : List Nat) : Ext s (H6 s w) := by
  unfold H6
  split
  · exact Ext.refl s
  · exact ⟨⟨rfl, A8G _ _ _⟩, rfl, Nat.le_refl _⟩
theorem B5q (s : Ps) (w m : List Nat) : Ext s (A5n s w m) := by
  unfold A5n
  split
  · exact Ext.refl s
  · exact ⟨⟨rfl, A8G _ _ _⟩, rfl, Nat.le_refl _⟩
theorem B9c {s : Ps} {i : Nat} (hi : i < s.ts.length) (hl : s.ts.length ≤ 1048576) : B0B s (bts ((i : Nat) : Int)) = { s with ts := add s.ts (A9D ((i : Nat) : Int)) } ∧ B3b s (bts ((i : Nat) : Int)) = bts ((at_ s.ts (A9D ((i : Nat) : Int)) : Nat) : Int) := by
  obtain ⟨h1, h2⟩ := A44 hi hl
  unfold B0B B3b
  rw [h1, h2]
  exact ⟨rfl, rfl⟩
theorem C0D {s : Ps} {i : Nat} (hi : i < s.ts.length) (hl : s.ts.length ≤ 1048576) (f : Int → Tm) : B2g s (bts ((i : Nat) : Int)) f = { s with ts := add s.ts (f ((i : Nat) : Int)) } ∧ B7T s (bts ((i : Nat) : Int)) f = bts ((at_ s.ts (f ((i : Nat) : Int)) : Nat) : Int) := by
  obtain ⟨h1, h2⟩ := A44 hi hl
  unfold B2g B7T
  rw [h1, h2]
  exact ⟨rfl, rfl⟩
theorem A5o {i : Nat} (h : i ≤ 1048576) : i64 ((i : Nat) : Int) := by unfold i64; omega
def B7X (s : Ps) (w p : List Nat) : Prop := ∃ i j : Nat, i < s.ts.length ∧ w = bts ((i : Nat) : Int) ∧ s.ts[j]? = some (A9D ((i : Nat) : Int)) ∧ p = bts ((j : Nat) : Int)
def U2 (s : Ps) (w p : List Nat) : Prop := if s.real then p = V3 (P6 w 32) else B7X s w p
def B1t (s : Ps) (w p : List Nat) : Prop := if s.real then p = A5E (P6 w 32) else B7X s w p
def A2B (s : Ps) (w m g : List Nat) : Prop := if s.real then g = A7q (P6 w 32) m else ∃ i j : Nat, i < s.ts.length ∧ w = bts ((i : Nat) : Int) ∧ s.ts[j]? = some (A3S ((i : Nat) : Int) m) ∧ g = P6 (bts ((j : Nat) : Int)) 64
theorem B7X.ext {s s' : Ps} {w p : List Nat} (h : B7X s w p) (he : Pext s s') : B7X s' w p := by
  obtain ⟨l, e⟩ := he.ts
  obtain ⟨i, j, h1, h2, h3, h4⟩ := h
  exact ⟨i, j, by rw [e, List.length_append]; omega, h2, by rw [e]; exact A4k h3, h4⟩
theorem U2.ext {s s' : Ps} {w p : List Nat} (h : U2 s w p) (he : Pext s s') : U2 s' w p := by
  unfold U2 at *
  rw [he.real]
  split
  · rename_i hr; rwa [if_pos hr] at h
  · rename_i hr; rw [if_neg hr] at h; exact h.ext he
theorem B1t.ext {s s' : Ps} {w p : List Nat} (h : B1t s w p) (he : Pext s s') : B1t s' w p := by
  unfold B1t at *
  rw [he.real]
  split
  · rename_i hr; rwa [if_pos hr] at h
  · rename_i hr; rw [if_neg hr] at h; exact h.ext he
theorem A2B.ext {s s' : Ps} {w m g : List Nat} (h : A2B s w m g) (he : Pext s s') : A2B s' w m g := by
  unfold A2B at *
  rw [he.real]
  split
  · rename_i hr; rwa [if_pos hr] at h
  · rename_i hr
    rw [if_neg hr] at h
    obtain ⟨l, e⟩ := he.ts
    obtain ⟨i, j, h1, h2, h3, h4⟩ := h
    exact ⟨i, j, by rw [e, List.length_append]; omega, h2, by rw [e]; exact A4k h3, h4⟩
theorem B7i {s : Ps} {w : List Nat} (h : B6p s.ts w) (ht : Tok s.ts) (hl : s.ts.length ≤ 1048576) : B7X (B0B s w) w (B3b s w) ∧ Tok (B0B s w).ts := by
  obtain ⟨i, hi, rfl⟩ := h
  obtain ⟨e1, e2⟩ := B9c hi hl
  obtain ⟨l, g1, g2, g3, g4⟩ := A6b (B4T (A5o (show i ≤ 1048576 by omega))) ht
  rw [e1, e2]
  exact ⟨⟨i, _, by show i < (add s.ts _).length; rw [g1, List.length_append]; omega, rfl, g3, rfl⟩, g4⟩
theorem A4r {s : Ps} {w : List Nat} (h : Kok s w) (ht : Tok s.ts) (hl : s.ts.length ≤ 1048576) : U2 (H6 s w) w (K9 s w) ∧ B1t (H6 s w) w (B7W s w) ∧ Tok (H6 s w).ts := by
  unfold U2 B1t H6 K9 B7W
  cases hr : s.real with
  | true => simp [hr, ht]
  | false =>
    obtain ⟨h1, h2⟩ := B7i (h hr) ht hl
    have h3 : (B0B s w).real = false := hr
    simp only [Bool.false_eq_true, if_false, h3]
    exact ⟨h1, h1, h2⟩
theorem B7X.eq {s : Ps} {w p : List Nat} (h : B7X s w p) (ht : Tok s.ts) (hl : s.ts.length ≤ 1048576) : B0B s w = s ∧ B3b s w = p := by
  obtain ⟨i, j, h1, rfl, h3, rfl⟩ := h
  obtain ⟨e1, e2⟩ := B9c h1 hl
  obtain ⟨e3, e4⟩ := B2Z ht h3
  rw [e1, e2, e3, e4]
  exact ⟨rfl, rfl⟩
theorem U2.eq {s : Ps} {w p : List Nat} (h : U2 s w p) (ht : Tok s.ts) (hl : s.ts.length ≤ 1048576) : H6 s w = s ∧ K9 s w = p := by
  unfold U2 at h
  unfold H6 K9
  cases hr : s.real with
  | true => rw [hr] at h; exact ⟨rfl, h.symm⟩
  | false => rw [hr] at h; exact B7X.eq h ht hl
theorem B7j {s : Ps} {i : Nat} {m : List Nat} (hi : i < s.ts.length) (ht : Tok s.ts) (hl : s.ts.length ≤ 1048576) (hm : ∀ y ∈ m, y < 256) (lm : m.length ≤ 16777216) : ∃ j, i < (B2g s (bts ((i : Nat) : Int)) fun x => A3S x m).ts.length ∧ (B2g s (bts ((i : Nat) : Int)) fun x => A3S x m).ts[j]? = some (A3S ((i : Nat) : Int) m) ∧ (B7T s (bts ((i : Nat) : Int)) fun x => A3S x m) = bts ((j : Nat) : Int) ∧ Tok (B2g s (bts ((i : Nat) : Int)) fun x => A3S x m).ts := by
  obtain ⟨e1, e2⟩ := C0D hi hl fun x => A3S x m
  have hT : Tmo (A3S ((i : Nat) : Int) m) := B4U (A5o (show i ≤ 1048576 by omega)) hm lm
  rw [e1, e2]
  generalize A3S ((i : Nat) : Int) m = t at *
  obtain ⟨l, g1, g2, g3, g4⟩ := A6b hT ht
  refine ⟨at_ s.ts t, ?_, g3, rfl, g4⟩
  show i < (add s.ts t).length
  rw [g1, List.length_append]; omega
theorem B1u (s : Ps) (w : List Nat) (f : Int → Tm) : (B2g s w f).real = s.real := rfl
theorem A2B.t {s : Ps} (h : s.real = true) {w m g : List Nat} : A2B s w m g ↔ g = A7q (P6 w 32) m := by unfold A2B; rw [if_pos h]
theorem A2B.f {s : Ps} (h : s.real = false) {w m g : List Nat} : A2B s w m g ↔ ∃ i j : Nat, i < s.ts.length ∧ w = bts ((i : Nat) : Int) ∧ s.ts[j]? = some (A3S ((i : Nat) : Int) m) ∧ g = P6 (bts ((j : Nat) : Int)) 64 := by unfold A2B; rw [if_neg (by rw [h]; decide)]
theorem B9d {s : Ps} (h : s.real = true) (w m : List Nat) : A5n s w m = s := by unfold A5n; rw [if_pos h]
theorem B9e {s : Ps} (h : s.real = false) (w m : List Nat) : A5n s w m = B2g s w fun x => A3S x m := by unfold A5n; rw [if_neg (by rw [h]; decide)]
theorem B9f {s : Ps} (h : s.real = true) (w m : List Nat) : B2k s w m = A7q (P6 w 32) m := by unfold B2k; rw [if_pos h]
theorem B9g {s : Ps} (h : s.real = false) (w m : List Nat) : B2k s w m = P6 (B7T s w fun x => A3S x m) 64 := by unfold B2k; rw [if_neg (by rw [h]; decide)]
theorem B9h {s : Ps} {w m : List Nat} (h : Kok s w) (ht : Tok s.ts) (hl : s.ts.length ≤ 1048576) (hm : ∀ y ∈ m, y < 256) (lm : m.length ≤ 16777216) : A2B (A5n s w m) w m (B2k s w m) ∧ Tok (A5n s w m).ts := by
  cases hr : s.real with
  | true =>
    rw [B9d hr, B9f hr, A2B.t hr]
    exact ⟨rfl, ht⟩
  | false =>
    obtain ⟨i, hi, e⟩ := h hr
    rw [B9e hr, B9g hr, e]
    obtain ⟨j, g1, g2, g3, g4⟩ := B7j hi ht hl hm lm
    rw [A2B.f ((B1u _ _ _).trans hr), g3]
    exact ⟨⟨i, j, g1, rfl, g2, rfl⟩, g4⟩
def B1v (ts : List Tm) (p m g : List Nat) : Bool := decide (g.length = 64) && match plc g ts.length, plc p ts.length with
  | some i, some k => decide (p.length = 32) && match ts[i]?, ts[k]? with
    | some t, some u => decide (t.kind = 7) && decide (t.text = m) && decide (u.kind = 3) && decide (u.of.getD 0 0 = t.of.getD 0 0)
    | _, _ => false
  | _, _ => false
noncomputable def B2l (s : Ps) (p m g : List Nat) : Bool := if s.real then A7r p m g else B1v s.ts p m g
def Ar (ts : List Tm) : Prop := ∀ t ∈ ts, (t.kind = 3 ∨ t.kind = 6 ∨ t.kind = 7) → 0 < t.of.length
theorem B7k {i n : Nat} (h : i < n) (hn : n ≤ 1048576) : plc (P6 (bts ((i : Nat) : Int)) 64) n = some i := by
  have h1 := A2d ((i : Nat) : Int) n
  have e : u64 ((i : Nat) : Int) = i := by unfold u64; omega
  rw [e, if_pos h] at h1
  have hl : (bts ((i : Nat) : Int)).length = 32 := A0t _ (by decide)
  have ef : P6 (bts ((i : Nat) : Int)) 64 = bts ((i : Nat) : Int) ++ List.replicate 32 0 := by unfold P6; rw [List.take_of_length_le (by omega), hl]
  rw [ef]
  unfold plc at h1 ⊢
  have hle : ∀ k, k ≤ 8 → le8 (bts ((i : Nat) : Int) ++ List.replicate 32 0) k = le8 (bts ((i : Nat) : Int)) k := by
    intro k
    induction k with
    | zero => intro _; rfl
    | succ k ih =>
      intro hk
      unfold le8
      rw [ih (by omega)]
      congr 2
      rw [List.getD_eq_getElem?_getD, List.getD_eq_getElem?_getD, List.getElem?_append_left (by omega)]
  rw [hle 8 (Nat.le_refl _)]
  split at h1
  · rename_i hc
    obtain ⟨c1, c2, c3, c4⟩ := hc
    have c0 : ∀ c ∈ (bts ((i : Nat) : Int) ++ List.replicate 32 0).drop 9, c = 0 := fun c hc => by
      rw [List.drop_append_of_le_length (by omega)] at hc
      rcases List.mem_append.1 hc with hc | hc
      · exact c3 c hc
      · exact (List.mem_replicate.1 hc).2
    rw [if_pos ⟨by rw [List.length_append]; omega, by rw [List.getD_eq_getElem?_getD, List.getElem?_append_left (by omega), ← List.getD_eq_getElem?_getD]; exact c2, c0, c4⟩]
    exact h1
  · cases h1
theorem B9i {s : Ps} {w p m g : List Nat} (hl : s.ts.length ≤ 1048576) (hp : B1t s w p) (hg : A2B s w m g) : B2l s p m g = true := by
  unfold B1t at hp
  unfold A2B at hg
  unfold B2l
  cases hr : s.real with
  | true =>
    rw [hr] at hp hg
    simp only [if_true] at hp hg ⊢
    rw [hp, hg]; exact B6Z _ _
  | false =>
    rw [hr] at hp hg
    simp only [Bool.false_eq_true, if_false] at hp hg ⊢
    obtain ⟨i, j, h1, h2, h3, rfl⟩ := hp
    obtain ⟨i', j', h1', h2', h3', rfl⟩ := hg
    have e := A43 (by omega) (by omega) (h2.symm.trans h2')
    subst e
    have b1 := (List.getElem?_eq_some_iff.1 h3).1
    have b2 := (List.getElem?_eq_some_iff.1 h3').1
    have p1 := B7k b2 hl
    have p2 := A2d ((j : Nat) : Int) s.ts.length
    have e : u64 ((j : Nat) : Int) = j := by unfold u64; omega
    rw [e, if_pos b1] at p2
    have hbl : (bts ((j : Nat) : Int)).length = 32 := A0t _ (by decide)
    unfold B1v
    rw [p1, p2, T7]
    simp only [h3, h3', hbl]
    simp [A3S, A9D]
theorem Ar.nil : Ar [] := fun t h => by cases h
theorem Ar.add {ts : List Tm} (h : Ar ts) {t : Tm} (ht : (t.kind = 3 ∨ t.kind = 6 ∨ t.kind = 7) → 0 < t.of.length) : Ar (add ts t) := by
  unfold Go.Proofs.YthbhpfefdnffaaaGreatDoor.add
  split
  · exact h
  · intro u hu
    rcases List.mem_append.1 hu with h1 | h1
    · exact h u h1
    · rw [List.mem_singleton.1 h1]; exact ht
theorem Ar.rd {ts : List Tm} (h : Ar ts) (w : List Nat) : Ar (rdT ts w) := by
  cases hp : plc w ts.length with
  | some j => rw [(U7 hp).1]; exact h
  | none => rw [(W2 hp).1]; exact h.add (by intro h; rcases h with h | h | h <;> cases h)
theorem Ar.fresh {s : Ps} (h : Ar s.ts) : Ar (D3 s).ts := by
  cases hr : s.real with
  | true => rw [A42 hr]; exact h
  | false => rw [A2S hr]; exact h.add (by intro h; rcases h with h | h | h <;> cases h)
theorem Ar.pub {s : Ps} (h : Ar s.ts) (w : List Nat) : Ar (H6 s w).ts := by
  unfold H6
  split
  · exact h
  · exact (h.rd w).add fun _ => Nat.one_pos
theorem Ar.sgn {s : Ps} (h : Ar s.ts) (w m : List Nat) : Ar (A5n s w m).ts := by
  unfold A5n
  split
  · exact h
  · exact (h.rd w).add fun _ => Nat.one_pos

structure Rok (ts : List Tm) (w : List Nat) : Prop where
  lt : ∀ x ∈ w, x < 256
  len : w.length ≤ 1000000000
  st : (∀ n, plc w n = none) ∨ B6p ts w
theorem Rok.ext {ts l : List Tm} {w : List Nat} (h : Rok ts w) : Rok (ts ++ l) w := ⟨h.lt, h.len, h.st.imp id B6p.ext⟩
theorem B6p.rok {ts : List Tm} {w : List Nat} (h : B6p ts w) : Rok ts w := by
  obtain ⟨i, hi, rfl⟩ := h
  exact ⟨B0k _, by rw [show (bts ((i : Nat) : Int)).length = 32 from A0t _ (by decide)]; decide, .inr ⟨i, hi, rfl⟩⟩
theorem B5r {ts : List Tm} {w : List Nat} (ht : Tok ts) (hw : ∀ x ∈ w, x < 256) (hl : w.length ≤ 1000000000) : Tok (rdT ts w) := by
  cases hp : plc w ts.length with
  | some j => rw [(U7 hp).1]; exact ht
  | none =>
    rw [(W2 hp).1]
    obtain ⟨l, h1, h2, h3, h4⟩ := A6b (A3o hw (by omega)) ht
    exact h4
theorem B3Q {ts l : List Tm} {w : List Nat} (h : Rok ts w) (ht : Tok ts) (ht' : Tok (rdT ts w ++ l)) (hl : (rdT ts w ++ l).length ≤ 1048576) : rdT (rdT ts w ++ l) w = rdT ts w ++ l ∧ rdI (rdT ts w ++ l) w = rdI ts w := by
  have hge := B4S (ts := ts) (w := w)
  rw [List.length_append] at hl
  cases hp : plc w ts.length with
  | some j =>
    obtain ⟨e1, e2⟩ := U7 hp
    obtain ⟨a1, a2⟩ := A79 hp
    rw [e1, e2]
    exact U7 (a2 _ (by rw [List.length_append]; omega))
  | none =>
    have hn : ∀ n, plc w n = none := by
      rcases h.st with h | ⟨i, hi, rfl⟩
      · exact h
      · rw [A2d, show u64 ((i : Nat) : Int) = i by unfold u64; omega, if_pos hi] at hp; cases hp
    obtain ⟨e1, e2⟩ := W2 hp
    obtain ⟨l0, g1, g2, g3, g4⟩ := A6b (A3o h.lt (by have := h.len; omega)) ht
    rw [e1] at ht' ⊢
    rw [e2]
    obtain ⟨b1, b2⟩ := W2 (hn (add ts (B4N w) ++ l).length)
    rw [b1, b2]
    exact B2Z ht' (A4k g3)
theorem A7x : ∀ (ws : List (List Nat)) (st : List Tm × List Int), ∃ l, (ws.foldl Y7 st).1 = st.1 ++ l
  | [], st => ⟨[], by simp⟩
  | w :: ws, st => by
    obtain ⟨l1, e1⟩ := A7x ws (Y7 st w)
    obtain ⟨l2, e2⟩ := A1x st.1 w
    exact ⟨l2 ++ l1, by rw [List.foldl_cons, e1, show (Y7 st w).1 = rdT st.1 w from rfl, e2, List.append_assoc]⟩
theorem B1w : ∀ (ws : List (List Nat)) (st : List Tm × List Int), (∀ w ∈ ws, Rok st.1 w) → Tok st.1 → Tok (ws.foldl Y7 st).1
  | [], st, _, ht => ht
  | w :: ws, st, h, ht => by
    obtain ⟨l2, e2⟩ := A1x st.1 w
    have hw := h w (by simp)
    exact B1w ws (Y7 st w) (fun v hv => by show Rok (rdT st.1 w) v; rw [e2]; exact (h v (by simp [hv])).ext) (B5r ht hw.lt hw.len)
theorem A6y : ∀ (ws : List (List Nat)) (st : List Tm × List Int) (l : List Tm), (∀ w ∈ ws, Rok st.1 w) → Tok st.1 → Tok ((ws.foldl Y7 st).1 ++ l) → ((ws.foldl Y7 st).1 ++ l).length ≤ 1048576 → ws.foldl Y7 ((ws.foldl Y7 st).1 ++ l, st.2) = ((ws.foldl Y7 st).1 ++ l, (ws.foldl Y7 st).2)
  | [], st, l, _, _, _, _ => rfl
  | w :: ws, st, l, h, ht, ht', hl => by
    have hw := h w (by simp)
    obtain ⟨l1, e1⟩ := A7x ws (Y7 st w)
    have e2 : (Y7 st w).1 = rdT st.1 w := rfl
    rw [List.foldl_cons] at ht' hl ⊢
    have hrest : ∀ v ∈ ws, Rok (Y7 st w).1 v := fun v hv => by
      obtain ⟨l2, e3⟩ := A1x st.1 w
      rw [e2, e3]; exact (h v (by simp [hv])).ext
    have ih := A6y ws (Y7 st w) l hrest (B5r ht hw.lt hw.len) ht' hl
    have e4 : (ws.foldl Y7 (Y7 st w)).1 ++ l = rdT st.1 w ++ (l1 ++ l) := by rw [e1, e2, List.append_assoc]
    obtain ⟨a1, a2⟩ := B3Q hw ht (l := l1 ++ l) (by rw [← e4]; exact ht') (by rw [← e4]; exact hl)
    rw [List.foldl_cons]
    have e5 : Y7 ((ws.foldl Y7 (Y7 st w)).1 ++ l, st.2) w = ((ws.foldl Y7 (Y7 st w)).1 ++ l, (Y7 st w).2) := by
      show (rdT _ w, st.2 ++ [((rdI _ w : Nat) : Int)]) = (_, st.2 ++ [((rdI st.1 w : Nat) : Int)])
      rw [e4, a1, a2]
    rw [e5]; exact ih
theorem B5s : ∀ (ws : List (List Nat)) {n0 k : Nat} {st : List Tm × List Int}, RdOk n0 k st → (∀ w ∈ ws, Rok st.1 w) → RdOk n0 (k + ws.length) (ws.foldl Y7 st)
  | [], _, _, _, h, _ => h
  | w :: ws, n0, k, st, h, hw => by
    have h1 := hw w (by simp)
    have h2 := h.step h1.lt (by have := h1.len; omega)
    have h3 := B5s ws h2 (fun v hv => by
      obtain ⟨l2, e3⟩ := A1x st.1 w
      show Rok (rdT st.1 w) v
      rw [e3]; exact (hw v (by simp [hv])).ext)
    rw [List.length_cons, show k + (ws.length + 1) = k + 1 + ws.length by omega]
    exact h3
theorem A3K (ts : List Tm) (ofs : List Int) (lb : List Nat) : ∀ n, ∃ l, (N9 ts ofs lb n).1 = ts ++ l
  | 0 => ⟨[], by show ts = _; simp⟩
  | n + 1 => by
    obtain ⟨l1, e1⟩ := A3K ts ofs lb n
    obtain ⟨l2, e2⟩ := A6c ts ofs lb n
    exact ⟨l1 ++ l2, by rw [e2, e1, List.append_assoc]⟩
theorem A6z {ts : List Tm} {key lb : List Nat} {ws : List (List Nat)} (ht : Tok ts) (h : ∀ w ∈ key :: ws, Rok ts w) (hb : B256 lb) (hbl : lb.length ≤ 1000) (hl : ts.length + ws.length + 1 ≤ 1048576) :
    Tok (U1 ts key ws).1 ∧ (∀ k, k < 100 → Tmo (drv (U1 ts key ws).2 lb k)) := by
  have h0 : RdOk ts.length 0 (ts, []) := ⟨Nat.le_refl _, rfl, (fun x hx => by cases hx), ht.tmo⟩
  have h1 := B5s (key :: ws) h0 h
  have e : U1 ts key ws = (key :: ws).foldl Y7 (ts, []) := rfl
  rw [← e, List.length_cons] at h1
  refine ⟨B1w (key :: ws) (ts, []) h ht, fun k hk => B4R (fun x hx => ?_) (by rw [h1.ofl]; omega) hb (by omega) (by omega)⟩
  have h2 := h1.of x hx
  have h3 := h1.len
  unfold i64; omega
theorem B9j (s : Ps) (key : List Nat) (ws : List (List Nat)) (lb : List Nat) (n : Nat) : Ext s (A69 s key ws lb n) := by
  cases hr : s.real with
  | true => rw [A58 hr]; exact Ext.refl s
  | false =>
    rw [A4j hr]
    obtain ⟨l1, e1⟩ := A7x (key :: ws) (s.ts, [])
    obtain ⟨l2, e2⟩ := A3K (U1 s.ts key ws).1 (U1 s.ts key ws).2 lb n
    refine ⟨⟨rfl, l1 ++ l2, ?_⟩, rfl, Nat.le_refl _⟩
    show (N9 _ _ _ _).1 = _
    rw [e2, show (U1 s.ts key ws).1 = _ from e1, List.append_assoc]
theorem B7l {s : Ps} {key lb : List Nat} {ws : List (List Nat)} {n : Nat} (ht : Tok s.ts) (h : s.real = false → ∀ w ∈ key :: ws, Rok s.ts w) (hb : B256 lb) (hbl : lb.length ≤ 1000) (hn : n ≤ 100) (hl : s.ts.length + ws.length + 1 ≤ 1048576) : Tok (A69 s key ws lb n).ts := by
  cases hr : s.real with
  | true => rw [A58 hr]; exact ht
  | false =>
    obtain ⟨t1, hd⟩ := A6z ht (h hr) hb hbl hl
    rw [A4j hr]
    exact A6d t1 hd hn
theorem B1x {s s' : Ps} {key lb : List Nat} {ws : List (List Nat)} {n : Nat} (ht : Tok s.ts) (h : s.real = false → ∀ w ∈ key :: ws, Rok s.ts w) (hb : B256 lb) (hbl : lb.length ≤ 1000) (hn : n ≤ 100) (hl0 : s.ts.length + ws.length + 1 ≤ 1048576) (he : Pext (A69 s key ws lb n) s') (ht' : Tok s'.ts) (hl : s'.ts.length ≤ 1048576) :
    A69 s' key ws lb n = s' ∧ A8d s' key ws lb n = A8d s key ws lb n := by
  have hrr : s'.real = s.real := by rw [he.real, (A3s s key ws lb n).1]
  cases hr : s.real with
  | true => exact ⟨A58 (hrr.trans hr), by rw [A59 hr, A59 (hrr.trans hr)]⟩
  | false =>
    have hr' : s'.real = false := hrr.trans hr
    have h := h hr
    obtain ⟨l, e⟩ := he.ts
    rw [A4j hr] at e
    change s'.ts = (N9 (U1 s.ts key ws).1 (U1 s.ts key ws).2 lb n).1 ++ l at e
    obtain ⟨l2, e2⟩ := A3K (U1 s.ts key ws).1 (U1 s.ts key ws).2 lb n
    have e3 : s'.ts = (U1 s.ts key ws).1 ++ (l2 ++ l) := by rw [e, e2, List.append_assoc]
    obtain ⟨t1, hd⟩ := A6z ht h hb hbl hl0
    have a := A6y (key :: ws) (s.ts, []) (l2 ++ l) h ht (by show Tok ((U1 s.ts key ws).1 ++ (l2 ++ l)); rw [← e3]; exact ht') (by show ((U1 s.ts key ws).1 ++ (l2 ++ l)).length ≤ _; rw [← e3]; exact hl)
    change U1 ((U1 s.ts key ws).1 ++ (l2 ++ l)) key ws = ((U1 s.ts key ws).1 ++ (l2 ++ l), (U1 s.ts key ws).2) at a
    rw [← e3] at a
    have b := A7b t1 hd hn (l := l) e ht'
    have c : A9c s'.ts key ws lb n = (s'.ts, (A9c s.ts key ws lb n).2) := by unfold A9c; rw [a]; exact b
    rw [A4j hr', A6a hr', A6a hr, c]
    exact ⟨rfl, rfl⟩
theorem B1y (s : Ps) (key : List Nat) (ws : List (List Nat)) (lb : List Nat) (n : Nat) : (A8d s key ws lb n).length = n := by
  cases hr : s.real with
  | true => rw [A59 hr]; exact A8e _ _
  | false => rw [A6a hr]; exact (A3r _ _ _ _).1
theorem A6A {ts : List Tm} {ofs : List Int} {lb : List Nat} : ∀ {n : Nat}, ∀ w ∈ (N9 ts ofs lb n).2, ∃ j : Nat, w = bts ((j : Nat) : Int)
  | 0, w, h => by cases h
  | n + 1, w, h => by
    rw [show N9 ts ofs lb (n + 1) = B0x ofs lb (N9 ts ofs lb n) n from Q7 n] at h
    rcases List.mem_append.1 (show w ∈ _ ++ [_] from h) with h | h
    · exact A6A w h
    · exact ⟨_, List.mem_singleton.1 h⟩
theorem B7m {s : Ps} {key lb : List Nat} {ws : List (List Nat)} {n : Nat} (hn : n ≤ 8) : ∀ w ∈ A8d s key ws lb n, (∀ x ∈ w, x < 256) ∧ w.length = 32 := by
  intro w hw
  cases hr : s.real with
  | true =>
    rw [A59 hr] at hw
    obtain ⟨i, hi, rfl⟩ := List.mem_map.1 hw
    have h1 := List.mem_range.1 hi
    have h2 := A8f key ws lb hn
    refine ⟨fun x hx => A1Q _ _ _ x (List.mem_of_mem_take (List.mem_of_mem_drop hx)), ?_⟩
    rw [List.length_drop, List.length_take, h2]; omega
  | false =>
    rw [A6a hr] at hw
    obtain ⟨j, rfl⟩ := A6A w hw
    exact ⟨B0k _, A0t _ (by decide)⟩
theorem B7n {s : Ps} {key lb : List Nat} {ws : List (List Nat)} {n i : Nat} (hn : n ≤ 8) (hi : i < n) : (∀ x ∈ (A8d s key ws lb n).getD i [], x < 256) ∧ ((A8d s key ws lb n).getD i []).length = 32 := by
  have hl := B1y s key ws lb n
  rw [List.getD_eq_getElem?_getD, List.getElem?_eq_getElem (by omega)]
  exact B7m hn _ (List.getElem_mem _)
theorem Ar.der {s : Ps} (h : Ar s.ts) (key : List Nat) (ws : List (List Nat)) (lb : List Nat) (n : Nat) : Ar (A69 s key ws lb n).ts := by
  cases hr : s.real with
  | true => rw [A58 hr]; exact h
  | false =>
    rw [A4j hr]
    have h1 : ∀ (ws : List (List Nat)) (st : List Tm × List Int), Ar st.1 → Ar (ws.foldl Y7 st).1 := by
      intro ws
      induction ws with
      | nil => intro st h; exact h
      | cons w ws ih => intro st h; exact ih _ (h.rd w)
    have h2 : ∀ (ts : List Tm) (ofs : List Int) (n : Nat), Ar ts → Ar (N9 ts ofs lb n).1 := by
      intro ts ofs n
      induction n with
      | zero => exact id
      | succ n ih =>
        intro h
        rw [show N9 ts ofs lb (n + 1) = B0x ofs lb (N9 ts ofs lb n) n from Q7 n]
        exact (ih h).add fun hk => by simp [drv] at hk
    exact h2 _ _ n (h1 (key :: ws) (s.ts, []) h)

end Go.Proofs.YthbhpfefdnffaaaGreatDoor
