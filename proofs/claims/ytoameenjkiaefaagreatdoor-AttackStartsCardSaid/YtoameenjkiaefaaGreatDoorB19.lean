/- Part 19 of the texts of this claim, one behind the other. -/
import Derived.Test.YtoameenjkiaefaaGreatDoorB18
import Derived.Laws.StructEq
import Derived.ChangeKeysEq
import Derived.Lib.LaidTab
import Derived.Stop.LaidErr
import Derived.MakeChecks
set_option linter.unusedVariables false
set_option linter.unusedSimpArgs false
set_option maxRecDepth 100000
namespace Go.Proofs.YtoameenjkiaefaaGreatDoor
open Go.Px
set_option maxHeartbeats 2000000 in
theorem B2a (f : Bool) (vb kb : Nat) (pb : Nat × Nat) (k3 : Nat) (h : List Bool) (n : Nat) (wt : Value) (text : LN) (w1 w2 w3 w4 w5 va vg vq vo0 vm : Value) (rs ro rm : List (List Value)) (MA MP R A : Mem) (hA : Adv R vb kb pb h [aV] [k3] MA) (hK : KyR A k3 aC.1 va vg vq vo0 vm rs ro rm) (hP : Prm pb aC.2 MP) (hh : HR h) (g1 : By A w1 bY.ia) (g2 : By A w2 bY.ig) (g3 : By A w3 bY.key) (g4 : By A w4 bY.sig) (g5 : By A w5 bY.oncek) (gs : bY.signed < 4294967296) (go : bY.once < 4294967296) (hn : n < 4294967296) (hwt : By A wt text) (htl : text.length ≤ 200) (hG : Glb A) : FnX Tryz.prog 84 [(vP vb), .agg #[.int .u8 3, .int .i64 0, .int .i64 0, .int .i64 (bF f), .int .i64 1, .int .i64 1, .int .i64 1, (vU n), wt], .agg #[.int .i64 bY.user, .int .i64 bY.dev, w1, w2, (vU bY.signed), w3, w4, .bool bY.has, (vU bY.once), w5]] (MA ++ MP) A fun q M J => ∃ vs p r u vk vg h' MA' MP', q = .tuple #[.agg (evC vs p r u vk vg (bQ f)).toArray, .int .i64 0] ∧ M = MA' ++ MP' ∧ Adv R vb kb pb h' [aV] [k3] MA' ∧ Prm pb (bE f (S6 1 n text)) MP' ∧ EvR (J ++ A) (bQ f) vs p r u vk vg ∧ HK f (S6 1 n text) h' := by
 obtain ⟨u1, u2, rows, B1, B2, MK, rfl, hs1, hrw, hs2, hKw⟩ := hA.ex
 obtain ⟨ge4, gf4, h4⟩ := hG.pow
 haveI := hs1.cel
 haveI := hs2.cel
 have hr2 : Rd B2 1 u2 1 [(vP k3)] := hs2.rd fun _ h => h
 haveI := hwt.cel
 haveI := g1.cel
 haveI := g2.cel
 haveI := g3.cel
 haveI := g4.cel
 haveI := g5.cel
 have hS := bf2.2.1
 have q1 := hS.1
 have q2 := hS.2.1
 have q3 := af2.1.1
 have q4 := af2.1.2.1
 have q5 := bf2.2.2.2.2.2.2.2.2.2.2.2.2.2
 have hxl : (S6 1 n text).length = 12 + text.length := A34 _ _ _
 have hBE : BE f (S6 1 n text) := B8M f (A5Y hwt.lt) qO
 have hel := hBE.l
 have hle : bD.ts.length ≤ (bE f (S6 1 n text)).ts.length := by obtain ⟨l, z⟩ := hBE.ext.p.ts; rw [z, List.length_append]; omega
 have hwl : (wiW bX bX.he (bF f) 1 1 1).length ≤ 1000000 := by have y1 := bf2.2.2.1.1; have y2 := bf2.2.2.1.2.1; cases f; exact Nat.le_trans y2 qD; exact Nat.le_trans y1 qD
 refine FnX.enterZ (N := 101) Tryz.func84 rfl rfl rfl fun w_ => ?_
 refine A8 (E5 0 1 2) (A1 ?_)
 refine A4 rfl (bx_ fun b4 => ?_)
 refine A4 rfl (bx_ fun b5 => ?_)
 refine A4 rfl (D2 (cs := [G8, G8, G8, G8, vS, .bool false, vS, vS, vS, E4, .bool false, E4, vS, E4, E4, vS]) kR rfl fun b6 => ?_)
 refine as_ (A0 (F4 0 4 5 6) ?_)
 refine G5 (.range 9) (zp 0 [0, 1, 0, 0, 0, 1, 0, 2, 0]) kR kR fun hs => ?_
 refine E8 hs rfl (qf_ 2 2) rfl ?_
 refine R5 hs rfl ql_ rfl ?_
 refine fm_ hs ?_
 refine E8 hs rfl (D8 rfl) rfl ?_
 refine E8 hs rfl (qf_ 3 3) rfl ?_
 refine R5 hs rfl ql_ rfl ?_
 refine E8 hs rfl (E2 (sz := 1) rfl kR hr2) rfl ?_
 refine Q2 rfl (aS rfl (aS rfl a0)) kR (B8T 0 _) rfl ?_
 refine fa_ hs ?_
 refine I2 (G6 0 4 5 6 8) (A6 (A1 (mv_ ?_)))
 refine A2 (F0 false rfl rfl (ltF qD)) rfl ?_
 refine A0 (I7 0 4 5 6 8 23) ?_
 refine B0 rfl ?_
 refine A5 (nx (G6 0 4 5 6 8) ?_)
 refine A1T (M' := MP ++ ([(b6, blk [.int .i64 0, .int .i64 0, .int .i64 0, .int .i64 0, vS, .bool false, vS, vS, vS, .int .u32 0, .bool false, .int .u32 0, vS, .int .u32 0, .int .u32 0, vS] 37), (b5, blk [.int .i64 bY.user, .int .i64 bY.dev, w1, w2, (vU bY.signed), w3, w4, .bool bY.has, (vU bY.once), w5] 59), (b4, blk [.int .u8 3, .int .i64 0, .int .i64 0, .int .i64 (bF f), .int .i64 1, .int .i64 1, .int .i64 1, (vU n), wt] 57)] ++ ((vb, blk [.pointer (some ⟨pb.1, 0, none⟩), (vP kb), u1, u2] 93) :: (B1 ++ (B2 ++ MK))))) (J' := []) (Fit.pick qP (Fit.pick (B := [_]) qP (Fit.pick (B := [_]) qP (Fit.pick (B := [_]) qP (Fit.pick (B := [_]) qP (Fit.pick qP (Fit.pick qP (Fit.last qP)))))))) (fun z hz => hz) ?_
 refine E6 (MP) (_) true [0, 1, 2, 3, 4, 5, 6, 7, 8, 9, 10, 11, 12, 13, 14, 15, 16, 18] [(0, 0), (1, 0), (2, 0), (3, 1), (4, 0), (5, 0), (6, 0), (7, 1), (8, 0), (9, 0), (10, 1), (11, 1), (12, 8), (13, 8), (14, 8), (16, 8), (15, 10), (17, 2), (18, 0)] kR kR qP fun hs K n0 hKm hKs hKn => ?_
 refine km_ hs ?_
 refine F1 hs rfl (D8 rfl) rfl ?_
 refine F1 hs rfl (qf_ 0 0) rfl ?_
 refine I1 hs rfl hKs ql_ ?_
 refine km_ hs ?_
 refine F1 hs rfl (D8 rfl) rfl ?_
 refine F1 hs rfl (qf_ 3 3) rfl ?_
 refine I1 hs rfl hKs ql_ ?_
 refine km_ hs ?_
 refine F1 hs rfl (F2 (sz := 1) (a := 0) rfl rfl kR rfl hr2 Nat.zero_lt_one) rfl ?_
 refine I1 hs rfl hKs (L0 (u := (vP k3)) (hr2.mono qS) rfl kR rfl) ?_
 refine I1 hs rfl hKs (E7 (n := 10) (vs := [.int .i64 bY.user, .int .i64 bY.dev, w1, w2, (vU bY.signed), w3, w4, .bool bY.has, (vU bY.once), w5]) rfl kR At.mem rfl (D3 [] [.int .i64 bY.user, .int .i64 bY.dev, w1, w2, (vU bY.signed), w3, w4, .bool bY.has, (vU bY.once), w5] [])) ?_
 refine A0b [⟨12, 38, none, MP, fun v B R => ∃ q1, v = .tuple #[q1, .int .i64 0] ∧ Prm pb bD B ∧ A2L R q1 bX⟩, ⟨13, 25, none, [], fun v B R => B = [] ∧ ∃ q1, v = .tuple #[q1, .int .i64 0] ∧ A2L R q1 bX⟩, ⟨14, 39, none, [], fun v B R => B = [] ∧ A2L R v bX⟩, ⟨16, 9, none, [], fun v B _ => ∃ b, v = (vP b) ∧ B = [(b, blk [vS, vS, vS, vS, vS, .int .u32 0, .bool false, .int .u32 0, .bool false, vS, vS, vS, vS, .int .u32 0, vS, .int .u32 0, .int .u32 0, .pointer none] 74)]⟩] [⟨15, 40, none, [], fun v B R => B = [] ∧ v = .int .i64 0⟩] (([(b6, blk [.int .i64 0, .int .i64 0, .int .i64 0, .int .i64 0, vS, .bool false, vS, vS, vS, .int .u32 0, .bool false, .int .u32 0, vS, .int .u32 0, .int .u32 0, vS] 37), (b5, blk [.int .i64 bY.user, .int .i64 bY.dev, w1, w2, (vU bY.signed), w3, w4, .bool bY.has, (vU bY.once), w5] 59), (b4, blk [.int .u8 3, .int .i64 0, .int .i64 0, .int .i64 (bF f), .int .i64 1, .int .i64 1, .int .i64 1, (vU n), wt] 57)] ++ ((vb, blk [.pointer (some ⟨pb.1, 0, none⟩), (vP kb), u1, u2] 93) :: (B1 ++ (B2 ++ MK))))) (fun bs => [bs 12, bs 13, bs 14, bs 16, bs 15]) (hKn rfl) (by simp [Q6, W4]) (show ∀ m ∈ ([MP, [], [], [], []] : List Mem), ∀ x ∈ m, K x.1 from A3 (hKm) (A3 (fun _ h => by cases h) (A3 (fun _ h => by cases h) (A3 (fun _ h => by cases h) (A3 (fun _ h => by cases h) (H9)))))) kR (fun _ => by first | rfl | kernel_rfl)
  (A3 (fun _ _ _ _ h ⟨q1, e, p1, p2⟩ => ⟨q1, e, p1, p2.mono h⟩) (A3 (fun _ _ _ _ h ⟨e0, q1, e, p2⟩ => ⟨e0, q1, e, p2.mono h⟩) (A3 (fun _ _ _ _ h hp => ⟨hp.1, hp.2.mono h⟩) (A3 (fun _ _ _ _ _ h => h) (A3 (fun _ _ _ _ _ h => h) (H9)))))) (show List.Nodup [38, 25, 39, 9, 40] by decide) (show List.Nodup [12, 13, 14, 16, 15] by decide) (A3 (D5 rfl) (A3 (D5 rfl) (A3 (D5 rfl) (A3 (D5 rfl) (A3 (D5 rfl) (H9))))))
  hs (List.cons_ne_nil _ _) (A3 ⟨_, rfl, fun vs bs R Rj wG hb hj hjr ha => ⟨.inl rfl, ?_⟩⟩ (A3 ⟨_, rfl, fun vs bs R Rj wG hb hj hjr ha => ⟨.inl rfl, ?_⟩⟩ (A3 ⟨_, rfl, fun vs bs R Rj wG hb hj hjr ha => ⟨.inl rfl, ?_⟩⟩ (A3 ⟨_, rfl, fun vs bs R Rj wG hb hj hjr ha => ⟨.inl rfl, ?_⟩⟩ (H9))))) (A3 ⟨rfl, rfl, _, _, _, _, rfl, fun vs bs Rj hj ha => ?_⟩ (H9)) ?_
 ·
  dsimp only [Gc.inp]
  refine A9 (Mc := MP) (R := []) (aS rfl (aS rfl (aS rfl (a0)))) kR qM (FnX.amb (A := Rj) (fun x hx => by have := hjr x hx; simp [this]) (A6S pb aC.2 k3 aC.1 va vg vq vo0 vm rs ro rm bY w1 w2 w3 w4 w5 MP Rj (hK.mono (fun x hx => hj x (qS x hx))) hP b_ar qO qO (g1.mono (fun x hx => hj x (qS x hx))) (g2.mono (fun x hx => hj x (qS x hx))) (g3.mono (fun x hx => hj x (qS x hx))) (g4.mono (fun x hx => hj x (qS x hx))) (g5.mono (fun x hx => hj x (qS x hx))) gs go bf.1.2.2.2.2.2 B8R (hG.sub (fun x hx => hj x (qS x hx))))) rfl ?_
  rintro v38 M38 J38 ⟨vi, vw, p, r, u, xo, xt, xr, xk, xl, xq, rfl, hP38, hx⟩
  exact ⟨_, rfl, _, rfl, (by have hz := (show Prm pb bD M38 from hP38); simpa using hz), ⟨_, _, _, _, _, _, _, _, _, _, _, rfl, (show SeR _ bX vi vw p r u xo xt xr xk xl xq from hx).mono (fun x hx => by simpa using hx)⟩⟩
 ·
  dsimp only [Gc.inp]
  have g12 := ha _ (List.mem_of_getElem? (i := 0) rfl) kR
  replace g12 : (fun v B R => ∃ q1, v = .tuple #[q1, .int .i64 0] ∧ Prm pb bD B ∧ A2L R q1 bX) (vs 12) (bs 12) Rj := g12
  dsimp only at g12
  obtain ⟨q1, e_, -, k⟩ := g12
  exact OpQ.opL qm_ rfl ⟨_, rfl, rfl, q1, e_, k⟩
 ·
  dsimp only [Gc.inp]
  have g13 := ha _ (List.mem_of_getElem? (i := 1) rfl) kR
  replace g13 : (fun v B R => B = [] ∧ ∃ q1, v = .tuple #[q1, .int .i64 0] ∧ A2L R q1 bX) (vs 13) (bs 13) Rj := g13
  dsimp only at g13
  obtain ⟨-, q1, e_, k⟩ := g13
  exact OpQ.opL (H6 (vs := #[q1, .int .i64 0]) (by rw [← e_]; rfl) rfl) rfl ⟨_, rfl, rfl, k⟩
 ·
  dsimp only [Gc.inp]
  exact D2 (cs := [vS, vS, vS, vS, vS, E4, .bool false, E4, .bool false, vS, vS, vS, vS, E4, vS, E4, E4, .pointer none]) kR rfl fun b => ⟨_, rfl, b, rfl, rfl⟩
 ·
  have g13 := ha _ (List.mem_of_getElem? (i := 1) rfl) kR
  replace g13 : (fun v B R => B = [] ∧ ∃ q1, v = .tuple #[q1, .int .i64 0] ∧ A2L R q1 bX) (vs 13) (bs 13) Rj := g13
  dsimp only at g13
  obtain ⟨-, q1, e_, -⟩ := g13
  exact ⟨_, H6 (vs := #[q1, .int .i64 0]) (by rw [← e_]; rfl) rfl, rfl, rfl⟩
 intro vs bs Jn0 hφ hKK
 have kk12 := hKK _ (List.mem_of_getElem? (i := 0) rfl)
 dsimp only at kk12
 have kk13 := hKK _ (List.mem_of_getElem? (i := 1) rfl)
 dsimp only at kk13
 have kk14 := hKK _ (List.mem_of_getElem? (i := 2) rfl)
 dsimp only at kk14
 have kk16 := hKK _ (List.mem_of_getElem? (i := 3) rfl)
 dsimp only at kk16
 have kk15 := hKK _ (List.mem_of_getElem? (i := 4) rfl)
 dsimp only at kk15
 clear hKK
 have g12 := ofH hφ
 dsimp only at g12
 replace hφ := ofT hφ
 have g13 := ofH hφ
 dsimp only at g13
 replace hφ := ofT hφ
 have g14 := ofH hφ
 dsimp only at g14
 replace hφ := ofT hφ
 have g16 := ofH hφ
 dsimp only at g16
 replace hφ := ofT hφ
 have g15 := ofH hφ
 dsimp only at g15
 clear hφ
 dsimp only [N3, Q6, List.foldr, List.map, List.cons_append, List.nil_append]
 generalize bs 12 = B38 at *
 generalize bs 13 = B25 at *
 generalize bs 14 = B39 at *
 generalize bs 16 = B9 at *
 generalize bs 15 = B40 at *
 generalize vs 12 = u38 at *
 generalize vs 13 = u25 at *
 generalize vs 14 = u39 at *
 generalize vs 16 = u9 at *
 generalize vs 15 = u40 at *
 obtain ⟨-, -, hP38, -⟩ := g12
 clear g13
 obtain ⟨rfl, vi, vw, p, r, u, xo, xt, xr, xk, xl, xq, rfl, hx⟩ := g14
 obtain ⟨rfl, rfl⟩ := g15
 obtain ⟨b9, rfl, rfl⟩ := g16
 haveI := hx.id.cel
 haveI := hx.wi.cel
 haveI := hx.he.ia.cel
 haveI := hx.he.ig.cel
 haveI := hx.he.key.cel
 haveI := hx.r.own.cel
 haveI := hx.r.their.cel
 haveI := hx.r.root.cel
 haveI := hx.r.sk.cel
 haveI := hx.r.tk.cel
 haveI := hx.r.st.cel
 unfold seC
 refine K2 rfl rfl rfl (B8 (vs := [vi, vw, p, r, u, (vU bX.he.signed), .bool bX.he.has, (vU bX.he.once), .bool bX.tell, xo, xt, xr, xk, (vU bX.r.sn), xl, (vU bX.r.tn), (vU bX.r.prev), xq]) rfl rfl rfl kR qR (A3 hx.id.one (A3 hx.wi.one (A3 hx.he.ia.one (A3 hx.he.ig.one (A3 hx.he.key.one (A3 rfl (A3 rfl (A3 rfl (A3 rfl (A3 hx.r.own.one (A3 hx.r.their.one (A3 hx.r.root.one (A3 hx.r.sk.one (A3 rfl (A3 hx.r.tk.one (A3 rfl (A3 rfl (A3 hx.r.st.one H9)))))))))))))))))) UpC.upd ?_)
 refine F1 hs rfl (F5 rfl) rfl ?_
 refine G7 (G6 0 4 6 9 10) (A6 ?_)
 obtain ⟨sv, bm, B, MT, rfl, hby, hT⟩ := hP38.tb
 haveI := hby.cel
 refine A1 (mv_ ?_)
 refine A2 (F0 false rfl rfl (neF rfl)) rfl ?_
 refine A0 (I7 0 4 6 9 10 42) ?_
 refine B0 rfl ?_
 refine A5 (nx (F4 0 4 6 9) ?_)
 refine E6 (MK ++ MT) (_) true (.range 7) (zp 0 [0, 0, 0, 1, 1, 2, 2]) kR kR qP fun hs K n0 hKm hKs hKn => ?_
 refine km_ hs ?_
 refine F1 hs rfl (D8 rfl) rfl ?_
 refine F1 hs rfl (qf_ 1 1) rfl ?_
 refine I1 hs rfl hKs ql_ ?_
 refine I1 hs rfl hKs (E7 (n := 18) (vs := [vi, vw, p, r, u, (vU bX.he.signed), .bool bX.he.has, (vU bX.he.once), .bool bX.tell, xo, xt, xr, xk, (vU bX.r.sn), xl, (vU bX.r.tn), (vU bX.r.prev), xq]) rfl kR At.mem rfl (D3 [] [vi, vw, p, r, u, (vU bX.he.signed), .bool bX.he.has, (vU bX.he.once), .bool bX.tell, xo, xt, xr, xk, (vU bX.r.sn), xl, (vU bX.r.tn), (vU bX.r.prev), xq] [])) ?_
 refine F9 [] _ rfl rfl (List.Perm.refl _) (fun _ h => by cases h) fun w0 => (K0 (aS rfl a0) kR (FnX.amb qS (B5q bX vi vw p r u xo xt xr xk xl xq _ hx rfl)) rfl ?_)
 rintro v50 M50 J50 ⟨us, hs50, hl50⟩ _
 haveI := hs50.cel
 dsimp only [List.nil_append, List.append_eq]
 refine F9 (MK ++ MT) _ rfl rfl qP (fun x hx => hKm x hx) fun w0 => (A9 (Mc := MK ++ MT) (R := _) (aS rfl (aS rfl (a0))) kR qP (T8 kb pb.2 bm bD.ts h v50 (scR bX.r) MK MT _ hKw hT ⟨us, hs50.rd qS, hl50.mono qS⟩ (by have := hh.len; have := bf4.1; omega) qO (qS _ h4)) rfl ?_)
 rintro v51 M51 J51 ⟨h3, MK3, MT3, rfl, hclo3, hK3, hT3⟩ hKx51
 obtain ⟨hts3, hh3⟩ := B8O hh hclo3
 rw [hts3] at hT3
 refine G7 (F4 0 4 6 9) ?_
 refine E6 (MK3 ++ MT3) (_) true (.range 9) (zp 0 [0, 0, 0, 1, 0, 0, 1, 2, 2]) kR kR qP fun hs K n0 hKm hKs hKn => ?_
 refine km_ hs ?_
 refine F1 hs rfl (D8 rfl) rfl ?_
 refine F1 hs rfl (qf_ 1 1) rfl ?_
 refine I1 hs rfl hKs ql_ ?_
 refine F1 hs rfl (qf_ 2 2) rfl ?_
 refine F1 hs rfl (qf_ 4 2) rfl ?_
 refine I1 hs rfl hKs ql_ ?_
 refine F9 [] _ rfl rfl (List.Perm.refl _) (fun _ h => by cases h) fun w0 => (C4 (e := 22) (sz := 1) (z := [vS]) kR (eS rfl e0) (bdS 0 1 rfl qR bd0) rfl fun b59 => fun hk59 => ?_)
 dsimp only [List.cons_append, List.nil_append, List.append_eq]
 refine F9 (MK3 ++ MT3) _ rfl rfl qP (fun x hx => hKm x hx) fun w0 => (A9 (Mc := MK3 ++ MT3) (R := _) (aS rfl (aS rfl (a0))) kR qP (T8 kb pb.2 bm bD.ts h3 (.slice (some ⟨b59, 0, none⟩) 1 1) [bX.he.key] MK3 MT3 _ hK3 hT3 ⟨_, Rd.whole (n := 1) At.mem qR, Lst.cons (hx.he.key.mono qS) Lst.nil⟩ (Nat.le_of_eq hh3.len) (by show _ + 1 ≤ _; omega) (qS _ h4)) rfl ?_)
 rintro v60 M60 J60 ⟨h5, MK5, MT5, rfl, hclo5, hK5, hT5⟩ hKx60
 obtain ⟨hts5, hh5⟩ := B8P hh3 hclo5
 rw [hts5] at hT5
 refine G7 (F4 0 4 6 9) (A1 ?_)
 refine A2 (qf_ 5 5) rfl ?_
 refine A2 (qf_ 5 0) rfl ?_
 refine A2 ql_ rfl ?_
 refine A2 (qf_ 7 7) rfl ?_
 refine A2 ql_ rfl ?_
 refine A2 (qf_ 8 8) rfl ?_
 refine A2 ql_ rfl ?_
 refine A2 (D6 (place := fun x => #[(0, 1), (1, 1), (2, 1)][x]?) (z := [.int .i64 0, .int .u32 0, vS]) (fun _ => by kernel_rfl) (eS rfl (eS rfl (eS rfl e0))) (bdS 0 1 rfl qR (bdS 1 1 rfl qR (bdS 2 1 rfl qR bd0)))) rfl ?_
 refine E0 (aS rfl a0) kR (A2C 1 n wt text _ hn (hwt.mono qS) qO) rfl ?_
 rintro v69 M69 J69 ⟨rfl, h69⟩
 haveI := h69.cel
 refine as_ (A0 (G6 0 4 6 9 11) ?_)
 obtain ⟨MPb, eP⟩ : ∃ m, m = (pb.1, blk [.int .u8 1, sv, (vI bD.n), .pointer (some ⟨pb.2, 0, none⟩)] 118) :: (B ++ MT5) := ⟨_, rfl⟩
 have hPb : Prm pb bD MPb := by rw [eP]; exact Prm.of hby hT5
 refine A1T (M' := ((pb.1, blk [.int .u8 1, sv, (vI bD.n), .pointer (some ⟨pb.2, 0, none⟩)] 118) :: (B ++ MT5)) ++ ([(b9, blk [vi, vw, p, r, u, (vU bX.he.signed), .bool bX.he.has, (vU bX.he.once), .bool bX.tell, xo, xt, xr, xk, (vU bX.r.sn), xl, (vU bX.r.tn), (vU bX.r.prev), xq] 74), (b6, blk [.int .i64 0, .int .i64 0, .int .i64 0, .int .i64 0, vS, .bool false, vS, vS, vS, .int .u32 0, .bool false, .int .u32 0, vS, .int .u32 0, .int .u32 0, vS] 37), (b5, blk [.int .i64 bY.user, .int .i64 bY.dev, w1, w2, (vU bY.signed), w3, w4, .bool bY.has, (vU bY.once), w5] 59), (b4, blk [.int .u8 3, .int .i64 0, .int .i64 0, .int .i64 (bF f), .int .i64 1, .int .i64 1, .int .i64 1, (vU n), wt] 57)] ++ ((vb, blk [.pointer (some ⟨pb.1, 0, none⟩), (vP kb), u1, u2] 93) :: (B1 ++ (B2 ++ MK5))))) (J' := _) (Fit.pick (B := [_]) qP (Fit.pick qP (Fit.pick (B := [_]) qP (Fit.pick (B := [_]) qP (Fit.pick (B := [_]) qP (Fit.pick (B := [_]) qP (Fit.pick (B := [_]) qP (Fit.pick qP (Fit.pick qP (Fit.last qP)))))))))) (fun z hz => hz) ?_
 rw [← eP]
 refine E6 (MPb) (_) true [0, 1, 2, 3, 4, 5, 6, 7, 8, 9, 10, 11, 12, 13, 14, 15, 16, 19] [(0, 0), (1, 0), (2, 0), (3, 1), (4, 1), (5, 0), (6, 1), (7, 0), (8, 1), (9, 0), (10, 8), (11, 8), (12, 8), (15, 8), (16, 8), (13, 9), (14, 10), (17, 2), (18, 2), (19, 0)] kR kR qP fun hs K n0 hKm hKs hKn => ?_
 refine km_ hs ?_
 refine F1 hs rfl (D8 rfl) rfl ?_
 refine F1 hs rfl (qf_ 0 0) rfl ?_
 refine I1 hs rfl hKs ql_ ?_
 refine I1 hs rfl hKs (E7 (n := 18) (vs := [vi, vw, p, r, u, (vU bX.he.signed), .bool bX.he.has, (vU bX.he.once), .bool bX.tell, xo, xt, xr, xk, (vU bX.r.sn), xl, (vU bX.r.tn), (vU bX.r.prev), xq]) rfl kR At.mem rfl (D3 [] [vi, vw, p, r, u, (vU bX.he.signed), .bool bX.he.has, (vU bX.he.once), .bool bX.tell, xo, xt, xr, xk, (vU bX.r.sn), xl, (vU bX.r.tn), (vU bX.r.prev), xq] [])) ?_
 refine F1 hs rfl (qf_ 3 3) rfl ?_
 refine I1 hs rfl hKs (E7 (n := 2) (vs := [.int .i64 (bF f), .int .i64 1]) rfl kR At.mem rfl (D3 [.int .u8 3, .int .i64 0, .int .i64 0] [.int .i64 (bF f), .int .i64 1] [.int .i64 1, .int .i64 1, (vU n), wt])) ?_
 refine F1 hs rfl (qf_ 5 5) rfl ?_
 refine I1 hs rfl hKs (E7 (n := 2) (vs := [.int .i64 1, .int .i64 1]) rfl kR At.mem rfl (D3 [.int .u8 3, .int .i64 0, .int .i64 0, .int .i64 (bF f), .int .i64 1] [.int .i64 1, .int .i64 1] [(vU n), wt])) ?_
 refine km_ hs ?_
 refine A0b [⟨10, 81, none, MPb, fun v B R => ∃ q1 q2, v = .tuple #[q1, q2, .int .i64 0] ∧ Prm pb (bE f (S6 1 n text)) B ∧ A2L R q1 (A0P bX (P1 bD bX.r)) ∧ EvV R q2 (bQ f)⟩, ⟨11, 70, none, [], fun v B R => B = [] ∧ ∃ q1 q2, v = .tuple #[q1, q2, .int .i64 0] ∧ A2L R q1 (A0P bX (P1 bD bX.r)) ∧ EvV R q2 (bQ f)⟩, ⟨12, 82, none, [], fun v B R => B = [] ∧ A2L R v (A0P bX (P1 bD bX.r))⟩, ⟨15, 12, none, [], fun v B _ => ∃ b, v = (vP b) ∧ B = [(b, blk [vS, vS, vS, vS, vS, .int .u32 0, .bool false, .int .u32 0, .bool false, vS, vS, vS, vS, .int .u32 0, vS, .int .u32 0, .int .u32 0, .pointer none] 74)]⟩, ⟨16, 13, none, [], fun v B _ => ∃ b, v = (vP b) ∧ B = [(b, blk [.int .i64 0, .int .i64 0, .int .i64 0, .int .i64 0, vS, .bool false, vS, vS, vS, .int .u32 0, .bool false, .int .u32 0, vS, .int .u32 0, .int .u32 0, vS] 37)]⟩] [⟨13, 83, none, [], fun v B R => B = [] ∧ EvV R v (bQ f)⟩, ⟨14, 84, none, [], fun v B R => B = [] ∧ v = .int .i64 0⟩] (([(b9, blk [vi, vw, p, r, u, (vU bX.he.signed), .bool bX.he.has, (vU bX.he.once), .bool bX.tell, xo, xt, xr, xk, (vU bX.r.sn), xl, (vU bX.r.tn), (vU bX.r.prev), xq] 74), (b6, blk [.int .i64 0, .int .i64 0, .int .i64 0, .int .i64 0, vS, .bool false, vS, vS, vS, .int .u32 0, .bool false, .int .u32 0, vS, .int .u32 0, .int .u32 0, vS] 37), (b5, blk [.int .i64 bY.user, .int .i64 bY.dev, w1, w2, (vU bY.signed), w3, w4, .bool bY.has, (vU bY.once), w5] 59), (b4, blk [.int .u8 3, .int .i64 0, .int .i64 0, .int .i64 (bF f), .int .i64 1, .int .i64 1, .int .i64 1, (vU n), wt] 57)] ++ ((vb, blk [.pointer (some ⟨pb.1, 0, none⟩), (vP kb), u1, u2] 93) :: (B1 ++ (B2 ++ MK5))))) (fun bs => [bs 10, bs 11, bs 12, bs 15, bs 16, bs 13, bs 14]) (hKn rfl) (by simp [Q6, W4]) (show ∀ m ∈ ([MPb, [], [], [], [], [], []] : List Mem), ∀ x ∈ m, K x.1 from A3 (hKm) (A3 (fun _ h => by cases h) (A3 (fun _ h => by cases h) (A3 (fun _ h => by cases h) (A3 (fun _ h => by cases h) (A3 (fun _ h => by cases h) (A3 (fun _ h => by cases h) (H9)))))))) kR (fun _ => by first | rfl | kernel_rfl)
  (A3 (fun _ _ _ _ h ⟨q1, q2, e, p1, p2, p3⟩ => ⟨q1, q2, e, p1, p2.mono h, p3.mono h⟩) (A3 (fun _ _ _ _ h ⟨e0, q1, q2, e, p2, p3⟩ => ⟨e0, q1, q2, e, p2.mono h, p3.mono h⟩) (A3 (fun _ _ _ _ h hp => ⟨hp.1, hp.2.mono h⟩) (A3 (fun _ _ _ _ _ h => h) (A3 (fun _ _ _ _ _ h => h) (A3 (fun _ _ _ _ h hp => ⟨hp.1, hp.2.mono h⟩) (A3 (fun _ _ _ _ _ h => h) (H9)))))))) (show List.Nodup [81, 70, 82, 12, 13, 83, 84] by decide) (show List.Nodup [10, 11, 12, 15, 16, 13, 14] by decide) (A3 (D5 rfl) (A3 (D5 rfl) (A3 (D5 rfl) (A3 (D5 rfl) (A3 (D5 rfl) (A3 (D5 rfl) (A3 (D5 rfl) (H9))))))))
  hs (List.cons_ne_nil _ _) (A3 ⟨_, rfl, fun vs bs R Rj wG hb hj hjr ha => ⟨.inl rfl, ?_⟩⟩ (A3 ⟨_, rfl, fun vs bs R Rj wG hb hj hjr ha => ⟨.inl rfl, ?_⟩⟩ (A3 ⟨_, rfl, fun vs bs R Rj wG hb hj hjr ha => ⟨.inl rfl, ?_⟩⟩ (A3 ⟨_, rfl, fun vs bs R Rj wG hb hj hjr ha => ⟨.inl rfl, ?_⟩⟩ (A3 ⟨_, rfl, fun vs bs R Rj wG hb hj hjr ha => ⟨.inl rfl, ?_⟩⟩ (H9)))))) (A3 ⟨rfl, rfl, _, _, _, _, rfl, fun vs bs Rj hj ha => ?_⟩ (A3 ⟨rfl, rfl, _, _, _, _, rfl, fun vs bs Rj hj ha => ?_⟩ (H9))) ?_
 ·
  dsimp only [Gc.inp]
  refine A9 (Mc := MPb) (R := []) (aS rfl (aS rfl (aS rfl (aS rfl (aS rfl (a0)))))) kR qM (FnX.amb (A := Rj) (fun x hx => by have := hjr x hx; simp [this]) (A94 pb bD bX vi vw p r u xo xt xr xk xl xq v69 (bF f) 1 1 1 (S6 1 n text) MPb Rj hPb qO (hx.mono (fun x hx => hj x (qS x hx))) hS.2.2.2.2.2.1 hS.2.2.1 hS.2.2.2.1 hS.2.2.2.2.1 hwl (h69.mono (fun x hx => hj x (qS x hx))) qO (hG.sub (fun x hx => hj x (qS x hx))))) rfl ?_
  rintro v125 M125 J125 ⟨wo, wt_, wr, wk, wl, wq, vid, q2, q3, rfl, hP25, p2, p3⟩
  exact ⟨_, rfl, _, _, rfl, (by have hz := (show Prm pb (bE f (S6 1 n text)) M125 from hP25); simpa using hz), ⟨_, _, _, _, _, _, _, _, _, _, _, rfl, p2.mono (fun x hx => by simpa using hx)⟩, ⟨_, _, _, _, _, _, rfl, (hBE.V ▸ (show EvR _ (bV f (S6 1 n text)) vid p r u q2 q3 from p3)).mono (fun x hx => by simpa using hx)⟩⟩
 ·
  dsimp only [Gc.inp]
  have g10 := ha _ (List.mem_of_getElem? (i := 0) rfl) kR
  replace g10 : (fun v B R => ∃ q1 q2, v = .tuple #[q1, q2, .int .i64 0] ∧ Prm pb (bE f (S6 1 n text)) B ∧ A2L R q1 (A0P bX (P1 bD bX.r)) ∧ EvV R q2 (bQ f)) (vs 10) (bs 10) Rj := g10
  dsimp only at g10
  obtain ⟨q1, q2, e_, -, k⟩ := g10
  exact OpQ.opL qm_ rfl ⟨_, rfl, rfl, q1, q2, e_, k⟩
 ·
  dsimp only [Gc.inp]
  have g11 := ha _ (List.mem_of_getElem? (i := 1) rfl) kR
  replace g11 : (fun v B R => B = [] ∧ ∃ q1 q2, v = .tuple #[q1, q2, .int .i64 0] ∧ A2L R q1 (A0P bX (P1 bD bX.r)) ∧ EvV R q2 (bQ f)) (vs 11) (bs 11) Rj := g11
  dsimp only at g11
  obtain ⟨-, q1, q2, e_, k, -⟩ := g11
  exact OpQ.opL (H6 (vs := #[q1, q2, .int .i64 0]) (by rw [← e_]; rfl) rfl) rfl ⟨_, rfl, rfl, k⟩
 ·
  dsimp only [Gc.inp]
  exact D2 (cs := [vS, vS, vS, vS, vS, E4, .bool false, E4, .bool false, vS, vS, vS, vS, E4, vS, E4, E4, .pointer none]) kR rfl fun b => ⟨_, rfl, b, rfl, rfl⟩
 ·
  dsimp only [Gc.inp]
  exact D2 (cs := [G8, G8, G8, G8, vS, .bool false, vS, vS, vS, E4, .bool false, E4, vS, E4, E4, vS]) kR rfl fun b => ⟨_, rfl, b, rfl, rfl⟩
 ·
  have g11 := ha _ (List.mem_of_getElem? (i := 1) rfl) kR
  replace g11 : (fun v B R => B = [] ∧ ∃ q1 q2, v = .tuple #[q1, q2, .int .i64 0] ∧ A2L R q1 (A0P bX (P1 bD bX.r)) ∧ EvV R q2 (bQ f)) (vs 11) (bs 11) Rj := g11
  dsimp only at g11
  obtain ⟨-, q1, q2, e_, -, k⟩ := g11
  exact ⟨_, H6 (vs := #[q1, q2, .int .i64 0]) (by rw [← e_]; rfl) rfl, rfl, k⟩
 ·
  have g11 := ha _ (List.mem_of_getElem? (i := 1) rfl) kR
  replace g11 : (fun v B R => B = [] ∧ ∃ q1 q2, v = .tuple #[q1, q2, .int .i64 0] ∧ A2L R q1 (A0P bX (P1 bD bX.r)) ∧ EvV R q2 (bQ f)) (vs 11) (bs 11) Rj := g11
  dsimp only at g11
  obtain ⟨-, q1, q2, e_, -⟩ := g11
  exact ⟨_, H6 (vs := #[q1, q2, .int .i64 0]) (by rw [← e_]; rfl) rfl, rfl, rfl⟩
 intro vs bs Jn0 hφ hKK
 have kk10 := hKK _ (List.mem_of_getElem? (i := 0) rfl)
 dsimp only at kk10
 have kk11 := hKK _ (List.mem_of_getElem? (i := 1) rfl)
 dsimp only at kk11
 have kk12 := hKK _ (List.mem_of_getElem? (i := 2) rfl)
 dsimp only at kk12
 have kk15 := hKK _ (List.mem_of_getElem? (i := 3) rfl)
 dsimp only at kk15
 have kk16 := hKK _ (List.mem_of_getElem? (i := 4) rfl)
 dsimp only at kk16
 have kk13 := hKK _ (List.mem_of_getElem? (i := 5) rfl)
 dsimp only at kk13
 have kk14 := hKK _ (List.mem_of_getElem? (i := 6) rfl)
 dsimp only at kk14
 clear hKK
 have g10 := ofH hφ
 dsimp only at g10
 replace hφ := ofT hφ
 have g11 := ofH hφ
 dsimp only at g11
 replace hφ := ofT hφ
 have g12 := ofH hφ
 dsimp only at g12
 replace hφ := ofT hφ
 have g15 := ofH hφ
 dsimp only at g15
 replace hφ := ofT hφ
 have g16 := ofH hφ
 dsimp only at g16
 replace hφ := ofT hφ
 have g13 := ofH hφ
 dsimp only at g13
 replace hφ := ofT hφ
 have g14 := ofH hφ
 dsimp only at g14
 clear hφ
 dsimp only [N3, Q6, List.foldr, List.map, List.cons_append, List.nil_append]
 generalize bs 10 = B81 at *
 generalize bs 11 = B70 at *
 generalize bs 12 = B82 at *
 generalize bs 15 = B12 at *
 generalize bs 16 = B13 at *
 generalize bs 13 = B83 at *
 generalize bs 14 = B84 at *
 generalize vs 10 = u81 at *
 generalize vs 11 = u70 at *
 generalize vs 12 = u82 at *
 generalize vs 15 = u12 at *
 generalize vs 16 = u13 at *
 generalize vs 13 = u83 at *
 generalize vs 14 = u84 at *
 obtain ⟨-, -, -, hP81, -⟩ := g10
 clear g11
 obtain ⟨rfl, ni, nw, np, nr, nu, no_, nt, nrr, nk, nl, nst, rfl, hx2⟩ := g12
 obtain ⟨rfl, es, ep, er, eu, ek, eg, rfl, hE2⟩ := g13
 obtain ⟨rfl, rfl⟩ := g14
 obtain ⟨b12, rfl, rfl⟩ := g15
 obtain ⟨b13, rfl, rfl⟩ := g16
 haveI := hx2.id.cel
 haveI := hx2.wi.cel
 haveI := hx2.he.ia.cel
 haveI := hx2.he.ig.cel
 haveI := hx2.he.key.cel
 haveI := hx2.r.own.cel
 haveI := hx2.r.their.cel
 haveI := hx2.r.root.cel
 haveI := hx2.r.sk.cel
 haveI := hx2.r.tk.cel
 haveI := hx2.r.st.cel
 haveI := hE2.ses.cel
 haveI := hE2.he.ia.cel
 haveI := hE2.he.ig.cel
 haveI := hE2.he.key.cel
 haveI := hE2.hk.cel
 haveI := hE2.g.cel
 unfold seC evC
 refine K2 rfl rfl rfl (B8 (vs := [ni, nw, np, nr, nu, .int .u32 (((A0P bX (P1 bD bX.r)).he.signed : Nat) : Int), .bool (A0P bX (P1 bD bX.r)).he.has, .int .u32 (((A0P bX (P1 bD bX.r)).he.once : Nat) : Int), .bool (A0P bX (P1 bD bX.r)).tell, no_, nt, nrr, nk, .int .u32 (((A0P bX (P1 bD bX.r)).r.sn : Nat) : Int), nl, .int .u32 (((A0P bX (P1 bD bX.r)).r.tn : Nat) : Int), .int .u32 (((A0P bX (P1 bD bX.r)).r.prev : Nat) : Int), nst]) rfl rfl rfl kR qR (A3 hx2.id.one (A3 hx2.wi.one (A3 hx2.he.ia.one (A3 hx2.he.ig.one (A3 hx2.he.key.one (A3 rfl (A3 rfl (A3 rfl (A3 rfl (A3 hx2.r.own.one (A3 hx2.r.their.one (A3 hx2.r.root.one (A3 hx2.r.sk.one (A3 rfl (A3 hx2.r.tk.one (A3 rfl (A3 rfl (A3 hx2.r.st.one H9)))))))))))))))))) UpC.upd ?_)
 refine K2 rfl rfl rfl (B8 (vs := [.int .i64 (bF f), .int .i64 1, .int .i64 1, .int .i64 1, es, .bool (bQ f).has, ep, er, eu, .int .u32 (((bQ f).he.signed : Nat) : Int), .bool (bQ f).he.has, .int .u32 (((bQ f).he.once : Nat) : Int), ek, .int .u32 (((bQ f).hp : Nat) : Int), .int .u32 (((bQ f).hn : Nat) : Int), eg]) rfl rfl rfl kR qR (A3 rfl (A3 rfl (A3 rfl (A3 rfl (A3 hE2.ses.one (A3 rfl (A3 hE2.he.ia.one (A3 hE2.he.ig.one (A3 hE2.he.key.one (A3 rfl (A3 rfl (A3 rfl (A3 hE2.hk.one (A3 rfl (A3 rfl (A3 hE2.g.one H9)))))))))))))))) UpC.upd ?_)
 refine F1 hs rfl (F5 rfl) rfl ?_
 refine G7 (F4 0 6 10 13) (A6 ?_)
 obtain ⟨sv2, bm2, B6, MT6, rfl, hby2, hT6⟩ := hP81.tb
 haveI := hby2.cel
 refine A1 (mv_ ?_)
 refine A2 (F0 false rfl rfl (neF rfl)) rfl ?_
 refine A0 (G6 0 6 10 13 86) ?_
 refine B0 rfl ?_
 refine A5 (nx (E5 0 6 13) ?_)
 refine E6 (MK5 ++ MT6) (_) true (.range 11) (zp 0 [0, 0, 0, 1, 0, 0, 1, 0, 1, 2, 2]) kR kR qP fun hs K n0 hKm hKs hKn => ?_
 refine km_ hs ?_
 refine F1 hs rfl (D8 rfl) rfl ?_
 refine F1 hs rfl (qf_ 1 1) rfl ?_
 refine I1 hs rfl hKs ql_ ?_
 refine F1 hs rfl (qf_ 12 12) rfl ?_
 refine F1 hs rfl (qf_ 12 0) rfl ?_
 refine I1 hs rfl hKs ql_ ?_
 refine F1 hs rfl (qf_ 15 15) rfl ?_
 refine I1 hs rfl hKs ql_ ?_
 refine F9 [] _ rfl rfl (List.Perm.refl _) (fun _ h => by cases h) fun w0 => (C4 (e := 22) (sz := 1) (z := [vS, vS]) kR (eS rfl (eS rfl e0)) (bdS 0 1 rfl qR (bdS 1 1 rfl qR bd0)) rfl fun b98 => fun hk98 => ?_)
 dsimp only [List.cons_append, List.nil_append, List.append_eq]
 refine F9 (MK5 ++ MT6) _ rfl rfl qP (fun x hx => hKm x hx) fun w0 => (A9 (Mc := MK5 ++ MT6) (R := _) (aS rfl (aS rfl (a0))) kR qP (T8 kb pb.2 bm2 (bE f (S6 1 n text)).ts h5 (.slice (some ⟨b98, 0, none⟩) 2 2) [(bQ f).hk, bG] MK5 MT6 _ hK5 hT6 ⟨_, Rd.whole (n := 2) At.mem qR, Lst.cons (hE2.hk.mono qS) (Lst.cons (hE2.g.mono qS) Lst.nil)⟩ (by rw [hh5.len]; exact hle) (by show _ + 2 ≤ _; omega) (qS _ h4)) rfl ?_)
 rintro v99 M99 J99 ⟨h7, MK7, MT7, rfl, hclo7, hK7, hT7⟩ hKx99
 obtain ⟨hts7, hh7⟩ := B8Q hBE hh5 hclo7
 rw [hts7] at hT7
 refine G7 (D0 6 13) (A1 ?_)
 refine A2 (E7 (n := 16) (vs := [.int .i64 (bF f), .int .i64 1, .int .i64 1, .int .i64 1, es, .bool (bQ f).has, ep, er, eu, .int .u32 (((bQ f).he.signed : Nat) : Int), .bool (bQ f).he.has, .int .u32 (((bQ f).he.once : Nat) : Int), ek, .int .u32 (((bQ f).hp : Nat) : Int), .int .u32 (((bQ f).hn : Nat) : Int), eg]) rfl kR At.mem rfl (D3 [] [.int .i64 (bF f), .int .i64 1, .int .i64 1, .int .i64 1, es, .bool (bQ f).has, ep, er, eu, .int .u32 (((bQ f).he.signed : Nat) : Int), .bool (bQ f).he.has, .int .u32 (((bQ f).he.once : Nat) : Int), ek, .int .u32 (((bQ f).hp : Nat) : Int), .int .u32 (((bQ f).hn : Nat) : Int), eg] [])) rfl ?_
 refine A4 rfl (B8 (vs := [.int .i64 (bF f), .int .i64 1, .int .i64 1, .int .i64 1, es, .bool (bQ f).has, ep, er, eu, .int .u32 (((bQ f).he.signed : Nat) : Int), .bool (bQ f).he.has, .int .u32 (((bQ f).he.once : Nat) : Int), ek, .int .u32 (((bQ f).hp : Nat) : Int), .int .u32 (((bQ f).hn : Nat) : Int), eg]) rfl rfl rfl kR qR (A3 rfl (A3 rfl (A3 rfl (A3 rfl (A3 hE2.ses.one (A3 rfl (A3 hE2.he.ia.one (A3 hE2.he.ig.one (A3 hE2.he.key.one (A3 rfl (A3 rfl (A3 rfl (A3 hE2.hk.one (A3 rfl (A3 rfl (A3 hE2.g.one H9)))))))))))))))) UpC.upd ?_)
 refine as_ (A0 (D0 6 7) (A7 ?_))
 exact ⟨_, (vb, blk [.pointer (some ⟨pb.1, 0, none⟩), (vP kb), u1, u2] 93) :: (B1 ++ (B2 ++ (MK7 ++ ((pb.1, blk [.int .u8 1, sv2, .int .i64 (((bE f (S6 1 n text)).n : Nat) : Int), .pointer (some ⟨pb.2, 0, none⟩)] 118) :: (B6 ++ MT7))))), [], W0 (n := 16) rfl rfl rfl kR At.mem qR, Fit.none (Fit.pick (B := [_]) qP (Fit.pick qP (Fit.pick qP (Fit.pick qP (Fit.pick (B := [_]) qP (Fit.pick qP (Fit.last qP))))))), es, ep, er, eu, ek, eg, h7, (vb, blk [.pointer (some ⟨pb.1, 0, none⟩), (vP kb), u1, u2] 93) :: (B1 ++ (B2 ++ MK7)), (pb.1, blk [.int .u8 1, sv2, .int .i64 (((bE f (S6 1 n text)).n : Nat) : Int), .pointer (some ⟨pb.2, 0, none⟩)] 118) :: (B6 ++ MT7), rfl, by simp, ⟨u1, u2, rows, B1, B2, MK7, rfl, hs1, hrw, hs2, hK7⟩, Prm.of hby2 hT7, hE2.mono qS, hh7⟩

theorem B7y (f : Bool) : (bQ f).ses.length + (bQ f).he.ia.length + (bQ f).he.ig.length + (bQ f).he.key.length + (bQ f).hk.length + (bQ f).g.length ≤ 10000000 := by
  have h1 := bf2.2.1.2.2.2.2.1
  obtain ⟨-, -, -, -, -, -, -, -, h2, -⟩ := bf2
  simp only [Bool.and_eq_true, decide_eq_true_eq] at h2
  have h3 := h2.2
  change bX.id.length + bX.he.ia.length + bX.he.ig.length + bX.he.key.length + (bQ true).hk.length + (bQ true).g.length ≤ 10000000
  omega
set_option maxHeartbeats 2000000 in
theorem B2b (f : Bool) (vb kb : Nat) (pb : Nat × Nat) (k3 : Nat) (h : List Bool) (n : Nat) (wt : Value) (text : LN) (w1 w2 w3 w4 w5 va vg vq vo0 vm : Value) (rs ro rm : List (List Value)) (MA MP R A : Mem) (hA : Adv R vb kb pb h [aV] [k3] MA) (hK : KyR A k3 aC.1 va vg vq vo0 vm rs ro rm) (hP : Prm pb aC.2 MP) (hh : HR h) (g1 : By A w1 bY.ia) (g2 : By A w2 bY.ig) (g3 : By A w3 bY.key) (g4 : By A w4 bY.sig) (g5 : By A w5 bY.oncek) (gs : bY.signed < 4294967296) (go : bY.once < 4294967296) (hn : n < 4294967296) (hwt : By A wt text) (htl : text.length ≤ 200) (hG : Glb A) : FnX Tryz.prog 48 [(vP vb), .agg #[.int .u8 3, .int .i64 0, .int .i64 0, .int .i64 (bF f), .int .i64 1, .int .i64 1, .int .i64 1, (vU n), wt], .agg #[.int .i64 bY.user, .int .i64 bY.dev, w1, w2, (vU bY.signed), w3, w4, .bool bY.has, (vU bY.once), w5]] (MA ++ MP) A fun q M J => ∃ vs p r u vk vg h' MA' MP', q = .tuple #[.agg (evC vs p r u vk vg (bQ f)).toArray, .int .i64 0] ∧ M = MA' ++ MP' ∧ Adv R vb kb pb h' [aV] [k3] MA' ∧ Prm pb (bE f (S6 1 n text)) MP' ∧ EvR (J ++ A) (bQ f) vs p r u vk vg ∧ HK f (S6 1 n text) h' := by
 haveI := g1.cel
 haveI := g2.cel
 haveI := g3.cel
 haveI := g4.cel
 haveI := g5.cel
 haveI := hwt.cel
 refine FnX.enterZ (N := 154) Tryz.func48 rfl rfl rfl fun w_ => ?_
 refine A8 (E5 0 1 2) (A1 ?_)
 refine A4 rfl (bx_ fun b4 => ?_)
 refine A4 rfl (bx_ fun b5 => ?_)
 refine A4 rfl (D2 (cs := [G8, G8, G8, G8, vS, .bool false, vS, vS, vS, E4, .bool false, E4, vS, E4, E4, vS]) kR rfl fun b6 => ?_)
 refine as_ (A0 (F4 0 4 5 6) (A6 (A1 ?_)))
 refine A2 (qf_ 0 0) rfl ?_
 refine A2 ql_ rfl ?_
 refine A2 (F0 true rfl rfl (eqT rfl)) rfl ?_
 refine A0 (G6 0 4 5 6 17) ?_
 refine E9 rfl ?_
 refine A1 (mv_ ?_)
 refine A2 (qw_ 9) rfl ?_
 refine A2 (qw_ 10) rfl ?_
 refine A4 rfl (A9 (Mc := MA ++ MP) (R := _) (aS rfl (aS rfl (aS rfl (a0)))) kR qP (FnX.amb qS (B2a f vb kb pb k3 h n wt text w1 w2 w3 w4 w5 va vg vq vo0 vm rs ro rm MA MP R A hA hK hP hh g1 g2 g3 g4 g5 gs go hn hwt htl hG)) rfl ?_)
 rintro v21 M21 J21 ⟨es, ep, er, eu, ek, eg, h7, MA7, MP7, rfl, rfl, hA7, hP7, hE2, hh7⟩
 haveI := hE2.ses.cel
 haveI := hE2.he.ia.cel
 haveI := hE2.he.ig.cel
 haveI := hE2.he.key.cel
 haveI := hE2.hk.cel
 haveI := hE2.g.cel
 unfold evC
 refine A2 (R6 rfl) rfl ?_
 refine A2 (R4 rfl) rfl ?_
 refine A4 rfl (B8 (vs := [.int .i64 (bF f), .int .i64 1, .int .i64 1, .int .i64 1, es, .bool (bQ f).has, ep, er, eu, .int .u32 (((bQ f).he.signed : Nat) : Int), .bool (bQ f).he.has, .int .u32 (((bQ f).he.once : Nat) : Int), ek, .int .u32 (((bQ f).hp : Nat) : Int), .int .u32 (((bQ f).hn : Nat) : Int), eg]) rfl rfl rfl kR qR (A3 rfl (A3 rfl (A3 rfl (A3 rfl (A3 hE2.ses.one (A3 rfl (A3 hE2.he.ia.one (A3 hE2.he.ig.one (A3 hE2.he.key.one (A3 rfl (A3 rfl (A3 rfl (A3 hE2.hk.one (A3 rfl (A3 rfl (A3 hE2.g.one H9)))))))))))))))) UpC.upd ?_)
 refine as_ (A0 (D0 6 7) (A7 (tr ?_)))
 exact ⟨_, MA7 ++ MP7, [], W0 (n := 16) rfl rfl rfl kR At.mem qR, Fit.none (Fit.pick qP (Fit.last qP)), es, ep, er, eu, ek, eg, h7, MA7, MP7, rfl, rfl, hA7, hP7, hE2.mono qS, hh7⟩
set_option maxHeartbeats 2000000 in
theorem B2c (f : Bool) (vb kb : Nat) (pb : Nat × Nat) (k3 : Nat) (h : List Bool) (n : Nat) (wt : Value) (text : LN) (w1 w2 w3 w4 w5 va vg vq vo0 vm : Value) (rs ro rm : List (List Value)) (MA MP R A : Mem) (hA : Adv R vb kb pb h [aV] [k3] MA) (hK : KyR A k3 aC.1 va vg vq vo0 vm rs ro rm) (hP : Prm pb aC.2 MP) (hh : HR h) (g1 : By A w1 bY.ia) (g2 : By A w2 bY.ig) (g3 : By A w3 bY.key) (g4 : By A w4 bY.sig) (g5 : By A w5 bY.oncek) (gs : bY.signed < 4294967296) (go : bY.once < 4294967296) (hn : n < 4294967296) (hwt : By A wt text) (htl : text.length ≤ 200) (hG : Glb A) : FnX Tryz.prog 17 [(vP vb), .agg #[.int .u8 3, .int .i64 0, .int .i64 0, .int .i64 (bF f), .int .i64 1, .int .i64 1, .int .i64 1, (vU n), wt], .agg #[.int .i64 bY.user, .int .i64 bY.dev, w1, w2, (vU bY.signed), w3, w4, .bool bY.has, (vU bY.once), w5]] (MA ++ MP) A fun q M J => ∃ q1 h' MA' MP', q = .tuple #[q1, .int .i64 0] ∧ M = MA' ++ MP' ∧ Adv R vb kb pb h' [aV] [k3] MA' ∧ Prm pb (bE f (S6 1 n text)) MP' ∧ By J q1 (A35 (bQ f)) := by
 haveI := g1.cel
 haveI := g2.cel
 haveI := g3.cel
 haveI := g4.cel
 haveI := g5.cel
 haveI := hwt.cel
 have hhas : (bQ f).has = true := bf2.2.1.2.2.2.2.2.1
 have hxl : (S6 1 n text).length = 12 + text.length := A34 _ _ _
 have hBE : BE f (S6 1 n text) := B8M f (A5Y hwt.lt) qO
 have hel := hBE.l
 have hev : (bQ f).ses.length + (bQ f).he.ia.length + (bQ f).he.ig.length + (bQ f).he.key.length + (bQ f).hk.length + (bQ f).g.length ≤ 10000000 := B7y f
 refine FnX.enterZ (N := 42) Tryz.func17 rfl rfl rfl fun w_ => ?_
 refine A8 (E5 0 1 2) (A1 ?_)
 refine A4 rfl (bx_ fun b4 => ?_)
 refine A4 rfl (bx_ fun b5 => ?_)
 refine as_ (as_ (A0 (E5 0 4 5) (A6 (A1 (mv_ ?_)))))
 refine A2 (C9 (e := 93) rfl rfl kR) rfl ?_
 refine A0 (F4 0 4 5 11) ?_
 refine B0 rfl ?_
 refine A5 (nx (E5 0 4 5) (A6 (A1 ?_)))
 refine A2 (qf_ 0 0) rfl ?_
 refine A2 ql_ rfl ?_
 refine A2 (F0 false rfl rfl (eqF qD)) rfl ?_
 refine A0 (F4 0 4 5 14) ?_
 refine B0 rfl ?_
 refine A5 (nx (E5 0 4 5) (A1 (mv_ ?_)))
 refine A2 (qw_ 9) rfl ?_
 refine A2 (qw_ 10) rfl ?_
 refine A4 rfl (A9 (Mc := MA ++ MP) (R := _) (aS rfl (aS rfl (aS rfl (a0)))) kR qP (FnX.amb qS (B2b f vb kb pb k3 h n wt text w1 w2 w3 w4 w5 va vg vq vo0 vm rs ro rm MA MP R A hA hK hP hh g1 g2 g3 g4 g5 gs go hn hwt htl hG)) rfl ?_)
 rintro v22 M22 J22 ⟨es, ep, er, eu, ek, eg, h7, MA7, MP7, rfl, rfl, hA7, hP7, hE2, hh7⟩
 haveI := hE2.ses.cel
 haveI := hE2.he.ia.cel
 haveI := hE2.he.ig.cel
 haveI := hE2.he.key.cel
 haveI := hE2.hk.cel
 haveI := hE2.g.cel
 have hig := hE2.he.ig.by (Nat.le_trans hE2.hil qD)
 obtain ⟨u1, u2, rows, B1, B2, MK, rfl, hs1, hrw, hs2, hKw⟩ := hA7.ex
 obtain ⟨sv, bm, B, MT, rfl, hby, hT⟩ := hP7.tb
 obtain ⟨ge4, gf4, h4⟩ := hG.pow
 obtain ⟨vv0, BK0, rfl, hsk0⟩ := id hKw.ex
 haveI := hs1.cel
 haveI := hs2.cel
 haveI := hsk0.cel
 haveI := hby.cel
 have hn_ : (bE f (S6 1 n text)).ts.length ≤ 1048576 := by omega
 unfold evC
 refine mv_ ?_
 refine A2 (R6 rfl) rfl ?_
 refine A2 (R4 rfl) rfl ?_
 refine A4 rfl (D2 (cs := [G8, G8, G8, G8, vS, .bool false, vS, vS, vS, E4, .bool false, E4, vS, E4, E4, vS]) kR rfl fun b8 => ?_)
 refine A4 rfl (B8 (vs := [.int .i64 (bF f), .int .i64 1, .int .i64 1, .int .i64 1, es, .bool (bQ f).has, ep, er, eu, .int .u32 (((bQ f).he.signed : Nat) : Int), .bool (bQ f).he.has, .int .u32 (((bQ f).he.once : Nat) : Int), ek, .int .u32 (((bQ f).hp : Nat) : Int), .int .u32 (((bQ f).hn : Nat) : Int), eg]) rfl rfl rfl kR qR (A3 rfl (A3 rfl (A3 rfl (A3 rfl (A3 hE2.ses.one (A3 rfl (A3 hE2.he.ia.one (A3 hE2.he.ig.one (A3 hE2.he.key.one (A3 rfl (A3 rfl (A3 rfl (A3 hE2.hk.one (A3 rfl (A3 rfl (A3 hE2.g.one H9)))))))))))))))) UpC.upd ?_)
 refine as_ (A0 (E5 0 8 9) (A6 (A1 (mv_ ?_))))
 refine A2 (F0 false rfl rfl (neF rfl)) rfl ?_
 refine A0 (F4 0 8 9 26) ?_
 refine B0 rfl ?_
 refine A5 (nx (D0 0 8) (A1 (mv_ ?_)))
 refine A2 (D8 rfl) rfl ?_
 refine A2 (qf_ 1 1) rfl ?_
 refine A2 ql_ rfl ?_
 refine A4 rfl (A9 (Mc := (kb, blk [.pointer (some ⟨pb.2, 0, none⟩), vv0] 112) :: BK0) (R := _) (aS rfl (a0)) kR qP (A3n kb pb.2 bm (bE f (S6 1 n text)).ts h7 _ _ hKw (hT.tbr qS) (Nat.le_of_eq hh7.len) hn_ (qS _ h4)) rfl ?_)
 rintro v32 M32 J32 ⟨h', hclo, hK'⟩
 obtain ⟨hle, hhl⟩ := B7x hclo
 obtain ⟨t1, t2, t3, t4, t5, t6⟩ := B8U (e := bQ f) hhas
 obtain ⟨vv, BK, rfl, hsk⟩ := id hK'.ex
 haveI := hsk.cel
 refine A0 (D0 0 8) (A6 ?_)
 refine G5 (.range 7) (zp 0 [0, 0, 0, 1, 1, 2, 0]) kR kR fun hs => ?_
 refine fm_ hs ?_
 refine E8 hs rfl (D8 rfl) rfl ?_
 refine E8 hs rfl (qf_ 1 1) rfl ?_
 refine R5 hs rfl ql_ rfl ?_
 refine R5 hs rfl (qw_ 16) rfl ?_
 refine Q2 rfl (aS rfl (aS rfl a0)) kR (B1w (some ⟨kb, 0, none⟩) (bF f) 1 1 1 es (bQ f).has ep er eu (bQ f).he.signed (bQ f).he.has (bQ f).he.once ek (bQ f).hp (bQ f).hn eg hE2.ses.one hE2.he.ia.one hE2.he.ig.one hE2.he.key.one hE2.hk.one hE2.g.one true true true true true true _ (fun A' hA' => by have hz := A0o kb pb.2 bm (bE f (S6 1 n text)).ts h' es (bQ f).ses A' ((hK'.rd qS).mono hA') ((hT.tbr qS).mono hA') hn_ ((hE2.ses.mono qS).mono hA'); rw [hh7.has h' hle _ t1] at hz; exact hz) (fun A' hA' => by have hz := A0o kb pb.2 bm (bE f (S6 1 n text)).ts h' ep (bQ f).he.ia A' ((hK'.rd qS).mono hA') ((hT.tbr qS).mono hA') hn_ ((hE2.he.ia.mono qS).mono hA'); rw [hh7.has h' hle _ t4] at hz; exact hz) (fun A' hA' => by have hz := A0o kb pb.2 bm (bE f (S6 1 n text)).ts h' er (bQ f).he.ig A' ((hK'.rd qS).mono hA') ((hT.tbr qS).mono hA') hn_ ((hig.mono qS).mono hA'); rw [hh7.has h' hle _ t5] at hz; exact hz) (fun A' hA' => by have hz := A0o kb pb.2 bm (bE f (S6 1 n text)).ts h' eu (bQ f).he.key A' ((hK'.rd qS).mono hA') ((hT.tbr qS).mono hA') hn_ ((hE2.he.key.mono qS).mono hA'); rw [hh7.has h' hle _ t6] at hz; exact hz) (fun A' hA' => by have hz := A0o kb pb.2 bm (bE f (S6 1 n text)).ts h' ek (bQ f).hk A' ((hK'.rd qS).mono hA') ((hT.tbr qS).mono hA') hn_ ((hE2.hk.mono qS).mono hA'); rw [hh7.has h' hle _ t2] at hz; exact hz) (fun A' hA' => by have hz := A0o kb pb.2 bm (bE f (S6 1 n text)).ts h' eg (bQ f).g A' ((hK'.rd qS).mono hA') ((hT.tbr qS).mono hA') hn_ ((hE2.g.mono qS).mono hA'); rw [hh7.has h' hle _ t3] at hz; exact hz)) rfl ?_
 rw [show (true && true && true && (if (bQ f).has = true then true && true && true else true)) = true by rw [hhas]; rfl]
 refine E8 hs rfl (L6 rfl) rfl ?_
 refine I2 (D0 8 39) ?_
 refine B0 rfl ?_
 refine A5 (nx (C7 8) (A1 ?_))
 refine A2 (qw_ 16) rfl ?_
 refine E0 (aS rfl a0) kR (B2O (bQ f) es ep er eu ek eg _ (hE2.mono qS) hev) rfl ?_
 rintro v41 M41 J41 ⟨rfl, hb41⟩
 haveI := hb41.cel
 refine as_ (as_ (A0 (D0 6 7) (A7 ?_)))
 exact ⟨_, (vb, blk [.pointer (some ⟨pb.1, 0, none⟩), (vP kb), u1, u2] 93) :: (B1 ++ (B2 ++ ((kb, blk [.pointer (some ⟨pb.2, 0, none⟩), vv] 112) :: (BK ++ ((pb.1, blk [.int .u8 1, sv, .int .i64 (((bE f (S6 1 n text)).n : Nat) : Int), .pointer (some ⟨pb.2, 0, none⟩)] 118) :: (B ++ MT)))))), [], A1g rfl rfl rfl, Fit.none (Fit.pick (B := [_]) qP (Fit.pick qP (Fit.pick qP (Fit.pick (B := [_]) qP (Fit.pick qP (Fit.pick (B := [_]) qP (Fit.pick qP (Fit.last qP)))))))), v41, h', (vb, blk [.pointer (some ⟨pb.1, 0, none⟩), (vP kb), u1, u2] 93) :: (B1 ++ (B2 ++ ((kb, blk [.pointer (some ⟨pb.2, 0, none⟩), vv] 112) :: BK))), (pb.1, blk [.int .u8 1, sv, .int .i64 (((bE f (S6 1 n text)).n : Nat) : Int), .pointer (some ⟨pb.2, 0, none⟩)] 118) :: (B ++ MT), rfl, by simp, ⟨u1, u2, rows, B1, B2, _, rfl, hs1, hrw, hs2, hK'⟩, Prm.of hby hT, hb41.mono qS⟩

def whoB (P : Program) (t : TypeId) : Bool := match (P.fieldsOf t).toList with
  | [f1, f2] => f1.offset == 0 && f2.offset == 1 && P.plainKey f1.type && P.plainKey f2.type && (match P.underlying f1.type with | some (.int _) => true | _ => false) && (match P.underlying f2.type with | some (.int _) => true | _ => false)
  | _ => false
theorem A6W {P : Program} {w : World} {d : Nat} {xs : Array Value} {f : Field} {fs : List Field} {a : Int} (hp : P.plainKey f.type = true) (hu : (match P.underlying f.type with | some (.int _) => true | _ => false) = true) (hx : xs[f.offset]? = some (.int .i64 a)) (hr : (Op.eqFields (d + 1) xs xs fs).run P w = .ok true w) : (Op.eqFields (d + 1) xs xs (f :: fs)).run P w = .ok true w := by
  have h2 : ∃ k, P.underlying f.type = some (.int k) := by
    split at hu
    · exact ⟨_, by assumption⟩
    · cases hu
  obtain ⟨k, h3⟩ := h2
  unfold Op.eqFields
  split
  · simp only [Sem.run_bind, run_part_plain w hp hx, Result.andThen_ok, run_equalIn_int w d f.type .i64 k a a h3]
    simpa using hr
  · exact hr
theorem B2d {P : Program} {R : Mem} {l : Env} {d : Option Nat} {t t' ty : TypeId} {x y : Operand} {pos : String} {af g} {a b : Int} (hx : ev l x = some (.agg #[.int .i64 a, .int .i64 b])) (hy : ev l y = some (.agg #[.int .i64 a, .int .i64 b])) (h1 : P.underlying t = some (.struct (P.fieldsOf t))) (h2 : P.stoodInHeld t = false) (h3 : P.eqGuardType P.depth t = false) (h4 : whoB P t = true) :
    OpQ P R ⟨d, .binOp .neq t x y t', ty, pos, af, g⟩ l (.bool false) := fun N A w ha hw => by
  have e : (Op.eqFields 9999 #[.int .i64 a, .int .i64 b] #[.int .i64 a, .int .i64 b] (P.fieldsOf t).toList).run P w = .ok true w := by
    unfold whoB at h4
    split at h4
    · rename_i f1 f2 hf
      rw [hf]
      simp only [Bool.and_eq_true, beq_iff_eq] at h4
      exact A6W (d := 9998) (a := a) h4.1.1.1.2 h4.1.2 (by rw [h4.1.1.1.1.1]; rfl) (A6W (d := 9998) (a := b) h4.1.1.2 h4.2 (by rw [h4.1.1.1.1.2]; rfl) (by simp [Op.eqFields]))
    · cases h4
  simp only [execOp, ha.ev hx, ha.ev hy, Sem.run_bind, run_eqGuard_agg w _ _ _ _ _ _ h3, Result.andThen_ok, run_neq_struct, run_equalIn_struct w 9999 t _ _ h1 h2, e]
  rfl
theorem bf5 : (aC.1.user = 2 ∧ aC.1.dev = 1 ∧ bX.he.ia.length + bX.he.ig.length + bY.ia.length + bY.ig.length ≤ 1000 ∧ aC.1.signed.length ≤ 100 ∧ aC.1.once.length ≤ 100 ∧ (A3j aC.1).length ≤ 1000) := by decide +kernel
theorem B3a : B2K aB.1.once := B4i (by decide +kernel)
theorem B7z (f : Bool) : dcO (A35 (bQ f)) = true ∧ dcE (A35 (bQ f)) = bQ f := by
  obtain ⟨-, -, -, -, -, -, -, -, h, -⟩ := bf2
  simp only [Bool.and_eq_true] at h
  cases f
  · exact ⟨h.1.1.1.2.1, B5e h.1.1.1.2.2⟩
  · exact ⟨h.1.1.1.1.1, B5e h.1.1.1.1.2⟩
theorem BE.open2 {tx : LN} (h : BE true tx) {x : Ses} (e : x = nX aB.1 (bQ true) (bE true tx) bK bS) : ∃ s2 r2, Q1 (bE true tx) x.r (x.wi ++ frW [] (bQ true)) (bQ true).hk (bQ true).hp (bQ true).hn (bQ true).g = (s2, r2, 0, tx) ∧ OpnH (bE true tx) x.r (bQ true).hk (bQ true).hp (bQ true).hn ∧ x.id = (bQ true).ses ∧ x.wi.length ≤ 1000000 ∧ (x.wi ++ frW [] (bQ true)).length + (bQ true).hk.length ≤ 1000000 ∧ (bQ true).g.length ≤ 10000000 ∧ (bQ true).ses.length + (bQ true).he.ia.length + (bQ true).he.ig.length + (bQ true).he.key.length ≤ 1000000 := by
  have hx1 : x.id = (bQ true).ses := by rw [e]; exact h.nid.1
  have hx2 : x.r = A1A bK bS := by rw [e]; rfl
  have hx3 : x.wi ++ frW [] (bQ true) = bW true := by
    have hg := bf3
    simp only [Bool.and_eq_true, beq_iff_eq] at hg
    obtain ⟨-, i2, i3⟩ := h.id_
    rw [e]
    show nWi aB.1 (bQ true) (bE true tx) ++ _ = _
    unfold nWi
    rw [i2, i3, A1B.2.2.1, A1B.2.2.2]
    exact hg.1.2
  obtain ⟨s2, r2, h1, h2, -⟩ := h.opens
  obtain ⟨-, ⟨-, -, -, -, hl4, -, hp0, hn0, -⟩, ⟨hw, -⟩, -⟩ := bf2
  have hv := B7y true
  have e1 : (bQ true).hp = 0 := hp0
  have e2 : (bQ true).hn = 0 := hn0
  have k32 := h.pub.k32.2
  have hl : (x.wi ++ frW [] (bQ true)).length ≤ 900 := by rw [hx3]; exact hw
  rw [hx2, hx3, e1, e2]
  refine ⟨s2, r2, h1, h2, hx1, ?_, ?_, ?_, hl4⟩
  · rw [List.length_append] at hl; omega
  · rw [hx3] at hl; omega
  · omega
def zSe : Ses := ⟨[], [], he0, false, ⟨[], [], [], [], 0, [], 0, 0, []⟩⟩
theorem B5s : ∀ c ∈ seC (vS) (vS) (vS) (vS) (vS) (vS) (vS) (vS) (vS) (vS) (.pointer none) zSe, c.oneCell' = true := by
  intro c hc
  simp only [seC, List.mem_cons, List.not_mem_nil, or_false] at hc
  rcases hc with rfl | rfl | rfl | rfl | rfl | rfl | rfl | rfl | rfl | rfl | rfl | rfl | rfl | rfl | rfl | rfl | rfl | rfl <;> rfl
theorem B0d {R : Mem} {x : Ses} {vi vw p r u vo vt vr vk vl vst : Value} (hx : SeR R x vi vw p r u vo vt vr vk vl vst) : ∀ c ∈ seC vi vw p r u vo vt vr vk vl vst x, c.oneCell' = true := by
  intro c hc
  simp only [seC, List.mem_cons, List.not_mem_nil, or_false] at hc
  rcases hc with rfl | rfl | rfl | rfl | rfl | rfl | rfl | rfl | rfl | rfl | rfl | rfl | rfl | rfl | rfl | rfl | rfl | rfl <;> first | rfl | exact hx.id.one | exact hx.wi.one | exact hx.he.ia.one | exact hx.he.ig.one | exact hx.he.key.one | exact hx.r.own.one | exact hx.r.their.one | exact hx.r.root.one | exact hx.r.sk.one | exact hx.r.tk.one | exact hx.r.st.one
theorem B7A (f : Bool) (pb : Nat × Nat) (k2 : Nat) (tx : LN) (ua ug uq uo um : Value) (ss so sm : List (List Value)) (vz p r u vk vgg : Value) (MP A : Mem) (hBE : BE f tx) (hK : KyR A k2 aB.1 ua ug uq uo um ss so sm) (hP : Prm pb (bE f tx) MP) (he_ : EvR A (bQ f) vz p r u vk vgg) (hG : Glb A) : FnX Tryz.prog 24 [.pointer (some ⟨pb.1, 0, none⟩), (vP k2), .agg (evC vz p r u vk vgg (bQ f)).toArray] MP A fun q M J => ∃ vi vw p r u xo xt xr xk xl xq x e s2, q = .tuple #[.agg (seC vi vw p r u xo xt xr xk xl xq x).toArray, .int .i64 e] ∧ Prm pb s2 M ∧ (∀ c ∈ seC vi vw p r u xo xt xr xk xl xq x, c.oneCell' = true) ∧ (f = true → e = 0 ∧ x = nX aB.1 (bQ f) (bE f tx) bK bS ∧ s2 = bE f tx ∧ SeR (J ++ A) x vi vw p r u xo xt xr xk xl xq) ∧ (f = false → e = 11) := by
  have hl := hBE.l
  obtain ⟨-, i2, i3⟩ := hBE.id_
  have h5 := bf5.2.2.1
  have hln : (bQ f).he.ia.length + (bQ f).he.ig.length + (idA aB.1 (bE f tx)).length + (idG aB.1 (bE f tx)).length ≤ 1000000 := by
    rw [i2, i3]
    change bX.he.ia.length + bX.he.ig.length + bY.ia.length + bY.ig.length ≤ 1000000
    omega
  have hel : (bQ f).he.ia.length + (bQ f).he.ig.length + (bQ f).he.key.length ≤ 1000000 := by
    have h1 := bf2.2.1.2.2.2.2.1
    change bX.he.ia.length + bX.he.ig.length + bX.he.key.length ≤ 1000000
    omega
  have hh : (bQ f).has = true := bf2.2.1.2.2.2.2.2.1
  cases f with
  | true =>
    refine (A98 pb (bE true tx) k2 aB.1 ua ug uq uo um ss so sm (bQ true) vz p r u vk vgg bK bS (bE true tx) MP A hK B3a hP qO he_ hh hBE.ans qO hln hel hBE.nid.1 hG).mono fun q M J h => ?_
    obtain ⟨vi, vw, xo, xt, xr, xk, xl, xq, rfl, hP2, hx⟩ := h
    rw [hBE.nid.2] at hP2
    exact ⟨vi, vw, _, _, _, xo, xt, xr, xk, xl, xq, _, 0, _, rfl, hP2, B0d hx, fun _ => ⟨rfl, rfl, rfl, hx⟩, fun h => by cases h⟩
  | false =>
    refine (A99 pb (bE false tx) k2 aB.1 ua ug uq uo um ss so sm (bQ false) vz p r u vk vgg bK bS (bE false tx) MP A hK B3a hP qO he_ hh hBE.ans qO hln hel hBE.nno hG).mono fun q M J h => ?_
    obtain ⟨rfl, hP2⟩ := h
    exact ⟨_, _, _, _, _, _, _, _, _, _, _, zSe, 11, _, rfl, hP2, B5s, fun h => (by cases h), fun _ => rfl⟩

set_option maxHeartbeats 2000000 in
theorem A2U (v : Value) (text : LN) (own : Bool) (n : Nat) (A : Mem) (hp : Byi A v text) (hn : n < 4294967296) (hG : Glb A) : FnV Tryz.prog 6 [v, .bool own, (vU n)] A (.bool true) := by
 haveI := hp.cel
 have hxl := hp.len
 unfold maxLen at hxl
 refine FnX.enter (N := 150) Tryz.func6 rfl rfl rfl fun w_ => ?_
 refine A8 (E5 0 1 2) (A1 (as_ (A0 (E5 0 1 2) (A6 (A1 ?_)))))
 refine D7 a0 kR (A5f _ hG.up) rfl ?_
 refine A2 (L6 rfl) rfl ?_
 refine mv_ ?_
 refine C0 rfl rfl (OpQ.opL qm_ rfl ?_)
 refine C0 rfl rfl (OpQ.opL (E2 (sz := 1) rfl kR hp.rd) rfl ?_)
 refine C0 rfl rfl (OpQ.opL (F3 rfl rfl rfl) rfl ?_)
 refine A2 (C8 rfl rfl) rfl ?_
 refine A0 (F4 0 1 2 33) ?_
 refine C3 rfl ?_ ?_ <;> intro hc
 ·
  refine A1 ?_
  refine D7 a0 kR (A5f _ hG.up) rfl ?_
  refine as_ (A0 (C7 6) (A7 (tr ?_)))
  exact ⟨_, [], [], F7 rfl rfl, List.nil_sublist _, by simp, rfl, rfl, rfl⟩
 ·
  have h200 : text.length ≤ 200 := by have := of_decide_eq_false hc; omega
  have hpb := hp.by qO
  refine A5 (nx (E5 0 1 2) (A1 ?_))
  refine E0 a0 kR (A6T _ hG.up) rfl ?_
  rintro v9 M9 J9 ⟨vb, kb, k1, k2, pb, h, MA, MP, es, ep, er, eu, ek, eg, rfl, rfl, hA, hP, hK1, hK2, hE, hQ⟩
  haveI := hE.ses.cel
  haveI := hE.he.ia.cel
  haveI := hE.he.ig.cel
  haveI := hE.he.key.cel
  haveI := hE.hk.cel
  haveI := hE.g.cel
  have hQl := hQ.len
  have hel := B7l
  unfold evC
  refine mv_ ?_
  refine A2 (R6 rfl) rfl ?_
  refine A2 (R4 rfl) rfl ?_
  refine A2 (B5v rfl) rfl ?_
  refine A2 (q_x3 rfl) rfl ?_
  refine A2 (H6 rfl rfl) rfl ?_
  refine A4 rfl (D2 (cs := [G8, G8, G8, G8, vS, .bool false, vS, vS, vS, E4, .bool false, E4, vS, E4, E4, vS]) kR rfl fun b11 => ?_)
  refine as_ (as_ (as_ (as_ ?_)))
  refine A4 rfl (B8 (vs := [.int .i64 aV.fu, .int .i64 aV.fd, .int .i64 aV.tu, .int .i64 aV.td, es, .bool aV.has, ep, er, eu, (vU aV.he.signed), .bool aV.he.has, (vU aV.he.once), ek, (vU aV.hp), (vU aV.hn), eg]) rfl rfl rfl kR qR (A3 rfl (A3 rfl (A3 rfl (A3 rfl (A3 hE.ses.one (A3 rfl (A3 hE.he.ia.one (A3 hE.he.ig.one (A3 hE.he.key.one (A3 rfl (A3 rfl (A3 rfl (A3 hE.hk.one (A3 rfl (A3 rfl (A3 hE.g.one H9)))))))))))))))) UpC.upd ?_)
  refine A0 (S9 0 1 2 7 8 9 10) (A1 (mv_ ?_))
  refine A2 (D6 (place := fun x => #[(0, 1), (1, 1)][x]?) (z := [.int .i64 0, .int .i64 0]) (fun _ => by kernel_rfl) (eS rfl (eS rfl e0)) (bdS 0 1 rfl qR (bdS 1 1 rfl qR bd0))) rfl ?_
  refine A4 rfl (A9 (Mc := MP) (R := _) (aS rfl (aS rfl (a0))) kR qP (FnX.amb qS (B4h 2 1 pb aE MP A hP qO (by have := af.2.2.2.1.2.2.2.2.2.2.2.2.1; omega) hG)) rfl ?_)
  rintro v20 M20 J20 ⟨k3, MK3, MP2, rfl, rfl, hK3, hP2⟩
  change Kys _ k3 aC.1 MK3 at hK3
  change Prm pb aC.2 MP2 at hP2
  obtain ⟨c1, c2, c3, c4⟩ := B8G
  refine as_ (A0 (A0A 0 1 2 7 8 9 10 12) ?_)
  refine V7 (B := MK3) qP ?_
  obtain ⟨va, vg, vq, vo0, vm, rs, ro, rm, hkr⟩ := hK3.r
  obtain ⟨ua, ug, uq, uo, um, ss, so, sm, hkb⟩ := hK2
  obtain ⟨za, zg, zq, zo, zm, zs, zo2, zm2, hka⟩ := hK1
  obtain ⟨xs1, hsg⟩ := List.length_eq_one_iff.1 af.1.1
  have hon := af.1.2.1
  have hbl := bf.1.1
  have hbY : bU.1[0]? = some bY := by unfold bY; rw [List.getD_eq_getElem?_getD, List.getElem?_eq_getElem qO]; rfl
  have cw := bf5
  refine A1 (mv_ ?_)
  refine D7 (aS rfl a0) kR (A42 k3 aC.1 va vg vq vo0 vm rs ro rm _ (hkr _ qS qS)) rfl ?_
  rw [cw.1, cw.2.1]
  refine mv_ ?_
  refine D7 (aS rfl a0) kR (A42 k2 aB.1 ua ug uq uo um ss so sm _ (hkb.mono qS)) rfl ?_
  rw [A1B.2.2.1, A1B.2.2.2]
  refine mv_ (mv_ ?_)
  refine A2 (D6 (place := fun x => #[(0, 1), (1, 1), (2, 1), (3, 2), (5, 2), (7, 1), (8, 1)][x]?) (z := [zu8, G8, G8, G8, G8, G8, G8, E4, vS]) (fun _ => by kernel_rfl) (eS rfl (eS rfl (eS rfl (eS rfl (eS rfl e0))))) (bdS 0 1 rfl qR (bdS 3 2 rfl qR (bdS 5 2 rfl qR (bdS 7 1 rfl qR (bdS 8 1 rfl qR bd0)))))) rfl ?_
  refine A4 rfl (D2 (cs := [zu8, G8, G8, G8, G8, G8, G8, E4, vS]) kR rfl fun b13 => ?_)
  refine A4 rfl (B8 (vs := [.int .u8 3, .int .i64 0, .int .i64 0, .int .i64 2, .int .i64 1, .int .i64 1, .int .i64 1, (vU n), v]) rfl rfl rfl kR qR (A3 rfl (A3 rfl (A3 rfl (A3 rfl (A3 rfl (A3 rfl (A3 rfl (A3 rfl (A3 hpb.one H9))))))))) UpC.upd ?_)
  refine A0 (A3A 0 1 2 7 8 9 10 12 13) ?_
  refine P2 (α := Int) (fun _ => [(0, v), (1, .bool own), (2, (vU n)), (7, .pointer (some ⟨pb.1, 0, none⟩)), (8, (vP vb)), (10, (vP k2)), (12, (vP k3)), (13, (vP b13))]) (fun y => (b13, blk [.int .u8 3, .int .i64 0, .int .i64 0, .int .i64 y, .int .i64 1, .int .i64 1, .int .i64 1, (vU n), v] 57) :: (MA ++ MP2)) (fun _ => (MK3 ++ (J20 ++ J9))) (fun y => y = bF own) ?_ ?_
  ·
   refine A1 (mv_ ?_)
   refine A2 (L6 rfl) rfl ?_
   refine A0 (kq 0 (A3A 1 2 7 8 9 10 12 13 53)) ?_
   refine C3 rfl ?_ ?_ <;> intro hc
   ·
    obtain rfl : own = false := by simpa using hc
    refine C6 (mv_ ?_)
    refine D7 (aS rfl a0) kR (A42 k1 aA.1 za zg zq zo zm zs zo2 zm2 _ (hka.mono qS)) rfl ?_
    rw [A1B.1, A1B.2.1]
    refine A2 (qf_ 3 3) rfl ?_
    refine A4 rfl (K9 (vs := [.int .i64 0, .int .i64 1]) (cs' := [.int .u8 3, .int .i64 0, .int .i64 0, .int .i64 0, .int .i64 1, .int .i64 1, .int .i64 1, (vU n), v]) rfl rfl rfl kR (by exact (show 3 + 2 ≤ 9 by decide)) al2 rfl UpC.upd ?_)
    refine E1 ?_
    exact jn (0 : Int) (show (0 : Int) = bF false from rfl) (A0A 0 1 2 7 8 10 12 13) (Fit.pick (B := [_]) qP (Fit.pick qP (Fit.last qP))) (fun _ h => by simpa using h)
   ·
    obtain rfl : own = true := by simpa using hc
    refine A5 ?_
    exact jn (2 : Int) (show (2 : Int) = bF true from rfl) (A0A 0 1 2 7 8 10 12 13) (Fit.pick (B := [_]) qP (Fit.pick qP (Fit.last qP))) (fun _ h => by simpa using h)
  ·
   rintro x hx
   obtain rfl : x = bF own := hx
   obtain ⟨u1, u2, rows, B1, B2, MK, eMA, hs1, hrw, hs2, hKw⟩ := hA.ex
   have hvb : (vb, blk [.pointer (some ⟨pb.1, 0, none⟩), (vP kb), u1, u2] 93) ∈ MA := by rw [eMA]; exact qK
   have hr2 : Rd MA 1 u2 0 [] := hs2.rd fun z hz => by rw [eMA]; simp [hz]
   refine A1T (M' := MP2 ++ ([(b13, blk [.int .u8 3, .int .i64 0, .int .i64 0, .int .i64 (bF own), .int .i64 1, .int .i64 1, .int .i64 1, (vU n), v] 57)] ++ MA)) (J' := (MK3 ++ (J20 ++ J9))) (Fit.pick qP (Fit.pick (B := [_]) qP (Fit.last qP))) (fun z hz => hz) ?_
   refine E6 (MP2) (_) true [0, 1, 2, 3, 4, 5, 6, 8, 9, 10, 11, 12] (zp 0 [0, 1, 0, 0, 3, 3, 4, 2, 0, 0, 0, 0, 0]) kR kR qP fun hs K n0 hKm hKs hKn => ?_
   refine km_ hs ?_
   refine I1 hs rfl hKs (qw_ 9) ?_
   refine km_ hs ?_
   refine km_ hs ?_
   refine V1 [⟨4, 62, none, MP2, fun v B R => Prm pb bU.2 B ∧ ∃ rows, Rd R 10 v bU.1.length rows.flatten ∧ RwL bnR R rows bU.1⟩, ⟨5, 63, none, [], fun v B R => B = [] ∧ ∃ u rows, v = vAt 10 0 u ∧ Rd R 10 u bU.1.length rows.flatten ∧ RwL bnR R rows bU.1⟩, ⟨6, 64, none, [], fun v B R => B = [] ∧ ∃ r, v = .agg r.toArray ∧ bnR R bY r⟩] ([(b13, blk [.int .u8 3, .int .i64 0, .int .i64 0, .int .i64 (bF own), .int .i64 1, .int .i64 1, .int .i64 1, (vU n), v] 57)] ++ MA) (fun bs => [bs 4, bs 5, bs 6]) (hKn rfl) (by simp [Q6, W4]) (show ∀ m ∈ ([MP2, [], []] : List Mem), ∀ x ∈ m, K x.1 from A3 (hKm) (A3 (fun _ h => by cases h) (A3 (fun _ h => by cases h) (H9)))) kR (fun _ => by first | rfl | kernel_rfl)
    (A3 (fun _ _ _ _ h hp => by obtain ⟨p1, rows, p2, p3⟩ := hp; exact ⟨p1, rows, p2.mono h, p3.mono bnT h⟩) (A3 (fun _ _ _ _ h hp => by obtain ⟨e, u, rows, e2, p2, p3⟩ := hp; exact ⟨e, u, rows, e2, p2.mono h, p3.mono bnT h⟩) (A3 (fun _ _ _ _ h hp => by obtain ⟨e, r, e2, p2⟩ := hp; exact ⟨e, r, e2, bnT.mono _ _ _ _ h p2⟩) (H9)))) (show List.Nodup [62, 63, 64] by decide) (show List.Nodup [4, 5, 6] by decide) (A3 (D5 rfl) (A3 (D5 rfl) (A3 (D5 rfl) (H9))))
    (A3 ⟨_, rfl, fun vs bs R Rj wG hb hj hjr ha => ⟨.inl rfl, ?_⟩⟩ (A3 ⟨_, rfl, fun vs bs R Rj wG hb hj hjr ha => ⟨.inl rfl, ?_⟩⟩ (A3 ⟨_, rfl, fun vs bs R Rj wG hb hj hjr ha => ⟨.inl rfl, ?_⟩⟩ (H9)))) ?_
   ·
    dsimp only [Gc.inp]
    refine A9 (Mc := MP2) (R := []) (aS rfl (aS rfl (a0))) kR qM (FnX.amb (A := Rj) (fun x hx => by have := hjr x hx; simp [this]) (A2y pb aC.2 k2 aB.1 ua ug uq uo um ss so sm xs1 [] MP2 Rj (hkb.mono (fun x hx => hj x (qS x hx))) hsg hP2 qO qO (hG.sub (fun x hx => hj x (qS x hx))))) rfl ?_
    rintro v125 M125 J125 ⟨hP25, rows2, p1, p2⟩
    exact ⟨_, rfl, (by have hz := (show Prm pb bU.2 M125 from hP25); simpa using hz), rows2, p1.mono qS, p2.mono bnT qS⟩
   ·
    dsimp only [Gc.inp]
    have g4 := ha _ (List.mem_of_getElem? (i := 0) rfl) kR
    replace g4 : (fun v B R => Prm pb bU.2 B ∧ ∃ rows, Rd R 10 v bU.1.length rows.flatten ∧ RwL bnR R rows bU.1) (vs 4) (bs 4) Rj := g4
    dsimp only at g4
    obtain ⟨-, rows2, p1, p2⟩ := g4
    exact OpQ.opL (F2 (sz := 10) (a := 0) rfl rfl kR rfl p1 qO) rfl ⟨_, rfl, rfl, _, rows2, rfl, p1, p2⟩
   ·
    dsimp only [Gc.inp]
    have g5 := ha _ (List.mem_of_getElem? (i := 1) rfl) kR
    replace g5 : (fun v B R => B = [] ∧ ∃ u rows, v = vAt 10 0 u ∧ Rd R 10 u bU.1.length rows.flatten ∧ RwL bnR R rows bU.1) (vs 5) (bs 5) Rj := g5
    dsimp only at g5
    obtain ⟨-, u, rows2, e, p1, p2⟩ := g5
    obtain ⟨r, hr, hbn_⟩ := p2.get 0 bY hbY
    exact OpQ.opL (U4 (rows := rows2) (by rw [← e]; rfl) kR (p1.mono (fun x hx => by have := hjr x hx; simp [this])) (p2.lens bnT) qD hr) rfl ⟨_, rfl, rfl, r, rfl, hbn_⟩
   intro vs bs Jn0 hφ hKK
   have kk4 := hKK _ (List.mem_of_getElem? (i := 0) rfl)
   dsimp only at kk4
   have kk5 := hKK _ (List.mem_of_getElem? (i := 1) rfl)
   dsimp only at kk5
   have kk6 := hKK _ (List.mem_of_getElem? (i := 2) rfl)
   dsimp only at kk6
   clear hKK
   have g4 := ofH hφ
   dsimp only at g4
   replace hφ := ofT hφ
   have g5 := ofH hφ
   dsimp only at g5
   replace hφ := ofT hφ
   have g6 := ofH hφ
   dsimp only at g6
   clear hφ
   dsimp only [N3, Q6, List.foldr, List.map, List.cons_append, List.nil_append]
   generalize bs 4 = B62 at *
   generalize bs 5 = B63 at *
   generalize bs 6 = B64 at *
   generalize vs 4 = u62 at *
   generalize vs 5 = u63 at *
   generalize vs 6 = u64 at *
   obtain ⟨hP62, -⟩ := g4
   obtain ⟨rfl, -⟩ := g5
   obtain ⟨rfl, r0, rfl, w1, w2, w3, w4, w5, rfl, gw1, gw2, gw3, gw4, gw5, gws, gwo⟩ := g6
   rw [b_bU] at hP62
   haveI := gw1.cel
   haveI := gw2.cel
   haveI := gw3.cel
   haveI := gw4.cel
   haveI := gw5.cel
   refine K2 rfl rfl rfl (A9 (Mc := MA) (R := _) (aS rfl (aS rfl (aS rfl (a0)))) kR qP (FnV.frame (B1Z (.int .i64 bY.user) (.int .i64 bY.dev) w1 w2 (vU bY.signed) w3 w4 (.bool bY.has) (vU bY.once) w5 vb kb pb u1 u2 v (bF own) 1 1 1 n _ (List.mem_append_left _ hvb) (hr2.mono fun z hz => List.mem_append_left _ hz))) rfl ?_)
   rintro v65 M65 J65 ⟨rfl, e65, rfl⟩
   subst M65
   refine km_ hs ?_
   refine F1 hs rfl (R6 rfl) rfl ?_
   refine F1 hs rfl (R4 rfl) rfl ?_
   refine F1 hs rfl (F5 rfl) rfl ?_
   refine F1 hs rfl (F5 rfl) rfl ?_
   refine G7 (A3A 0 1 2 7 8 10 12 13 15) (A1 (mv_ (mv_ (mv_ ?_))))
   refine E0 (aS rfl a0) kR (FnX.amb qS (A9g k3 aC.1 va vg vq vo0 vm rs ro rm (MK3 ++ (J20 ++ A)) (hkr _ qS qS) qO qO)) rfl ?_
   rintro v71 M71 J71 ⟨rfl, hls⟩
   obtain ⟨uu, hru, hrl⟩ := id hls.ex
   haveI := hru.cel
   refine A4 rfl (A9 (Mc := MA ++ B62) (R := _) (aS rfl (aS rfl (aS rfl (a0)))) kR qP (A97 vb kb pb aC.2 h [aV] [] k3 v71 (A3j aC.1) MA B62 (J9 ++ A) _ hA hP62 qO qO qD (hls.mono qS) hG.up) rfl ?_)
   rintro v72 M72 J72 ⟨MA2, MP3, h2, rfl, hclo, hA2, hP3⟩
   obtain ⟨hts, hh2⟩ := B8N qO hclo
   replace hP3 := A5W hP3 hts
   change Adv _ vb kb pb h2 [aV] [k3] MA2 at hA2
   refine A0 (A0A 0 1 2 7 8 10 13 15) ?_
   refine A1T (M' := MP3 ++ ([(b13, blk [.int .u8 3, .int .i64 0, .int .i64 0, .int .i64 (bF own), .int .i64 1, .int .i64 1, .int .i64 1, (vU n), v] 57)] ++ MA2)) (J' := _) (Fit.pick qP (Fit.pick (B := [_]) qP (Fit.last qP))) (fun z hz => hz) ?_
   refine E6 (MP3) (_) true [0, 1, 2, 3, 4, 5, 6, 8, 9, 10, 11, 12] (zp 0 [0, 1, 0, 0, 3, 3, 4, 2, 0, 0, 0, 0, 0]) kR kR qP fun hs K n0 hKm hKs hKn => ?_
   refine km_ hs ?_
   refine I1 hs rfl hKs (qw_ 9) ?_
   refine km_ hs ?_
   refine km_ hs ?_
   refine V1 [⟨4, 78, none, MP3, fun v B R => Prm pb bU.2 B ∧ ∃ rows, Rd R 10 v bU.1.length rows.flatten ∧ RwL bnR R rows bU.1⟩, ⟨5, 79, none, [], fun v B R => B = [] ∧ ∃ u rows, v = vAt 10 0 u ∧ Rd R 10 u bU.1.length rows.flatten ∧ RwL bnR R rows bU.1⟩, ⟨6, 80, none, [], fun v B R => B = [] ∧ ∃ r, v = .agg r.toArray ∧ bnR R bY r⟩] ([(b13, blk [.int .u8 3, .int .i64 0, .int .i64 0, .int .i64 (bF own), .int .i64 1, .int .i64 1, .int .i64 1, (vU n), v] 57)] ++ MA2) (fun bs => [bs 4, bs 5, bs 6]) (hKn rfl) (by simp [Q6, W4]) (show ∀ m ∈ ([MP3, [], []] : List Mem), ∀ x ∈ m, K x.1 from A3 (hKm) (A3 (fun _ h => by cases h) (A3 (fun _ h => by cases h) (H9)))) kR (fun _ => by first | rfl | kernel_rfl)
    (A3 (fun _ _ _ _ h hp => by obtain ⟨p1, rows, p2, p3⟩ := hp; exact ⟨p1, rows, p2.mono h, p3.mono bnT h⟩) (A3 (fun _ _ _ _ h hp => by obtain ⟨e, u, rows, e2, p2, p3⟩ := hp; exact ⟨e, u, rows, e2, p2.mono h, p3.mono bnT h⟩) (A3 (fun _ _ _ _ h hp => by obtain ⟨e, r, e2, p2⟩ := hp; exact ⟨e, r, e2, bnT.mono _ _ _ _ h p2⟩) (H9)))) (show List.Nodup [78, 79, 80] by decide) (show List.Nodup [4, 5, 6] by decide) (A3 (D5 rfl) (A3 (D5 rfl) (A3 (D5 rfl) (H9))))
    (A3 ⟨_, rfl, fun vs bs R Rj wG hb hj hjr ha => ⟨.inl rfl, ?_⟩⟩ (A3 ⟨_, rfl, fun vs bs R Rj wG hb hj hjr ha => ⟨.inl rfl, ?_⟩⟩ (A3 ⟨_, rfl, fun vs bs R Rj wG hb hj hjr ha => ⟨.inl rfl, ?_⟩⟩ (H9)))) ?_
   ·
    dsimp only [Gc.inp]
    refine A9 (Mc := MP3) (R := []) (aS rfl (aS rfl (a0))) kR qM (FnX.amb (A := Rj) (fun x hx => by have := hjr x hx; simp [this]) (A2y pb aC.2 k2 aB.1 ua ug uq uo um ss so sm xs1 [] MP3 Rj (hkb.mono (fun x hx => hj x (qS x hx))) hsg hP3 qO qO (hG.sub (fun x hx => hj x (qS x hx))))) rfl ?_
    rintro v125 M125 J125 ⟨hP25, rows2, p1, p2⟩
    exact ⟨_, rfl, (by have hz := (show Prm pb bU.2 M125 from hP25); simpa using hz), rows2, p1.mono qS, p2.mono bnT qS⟩
   ·
    dsimp only [Gc.inp]
    have g4 := ha _ (List.mem_of_getElem? (i := 0) rfl) kR
    replace g4 : (fun v B R => Prm pb bU.2 B ∧ ∃ rows, Rd R 10 v bU.1.length rows.flatten ∧ RwL bnR R rows bU.1) (vs 4) (bs 4) Rj := g4
    dsimp only at g4
    obtain ⟨-, rows2, p1, p2⟩ := g4
    exact OpQ.opL (F2 (sz := 10) (a := 0) rfl rfl kR rfl p1 qO) rfl ⟨_, rfl, rfl, _, rows2, rfl, p1, p2⟩
   ·
    dsimp only [Gc.inp]
    have g5 := ha _ (List.mem_of_getElem? (i := 1) rfl) kR
    replace g5 : (fun v B R => B = [] ∧ ∃ u rows, v = vAt 10 0 u ∧ Rd R 10 u bU.1.length rows.flatten ∧ RwL bnR R rows bU.1) (vs 5) (bs 5) Rj := g5
    dsimp only at g5
    obtain ⟨-, u, rows2, e, p1, p2⟩ := g5
    obtain ⟨r, hr, hbn_⟩ := p2.get 0 bY hbY
    exact OpQ.opL (U4 (rows := rows2) (by rw [← e]; rfl) kR (p1.mono (fun x hx => by have := hjr x hx; simp [this])) (p2.lens bnT) qD hr) rfl ⟨_, rfl, rfl, r, rfl, hbn_⟩
   intro vs bs Jn0 hφ hKK
   have kk4 := hKK _ (List.mem_of_getElem? (i := 0) rfl)
   dsimp only at kk4
   have kk5 := hKK _ (List.mem_of_getElem? (i := 1) rfl)
   dsimp only at kk5
   have kk6 := hKK _ (List.mem_of_getElem? (i := 2) rfl)
   dsimp only at kk6
   clear hKK
   have g4 := ofH hφ
   dsimp only at g4
   replace hφ := ofT hφ
   have g5 := ofH hφ
   dsimp only at g5
   replace hφ := ofT hφ
   have g6 := ofH hφ
   dsimp only at g6
   clear hφ
   dsimp only [N3, Q6, List.foldr, List.map, List.cons_append, List.nil_append]
   generalize bs 4 = B78 at *
   generalize bs 5 = B79 at *
   generalize bs 6 = B80 at *
   generalize vs 4 = u78 at *
   generalize vs 5 = u79 at *
   generalize vs 6 = u80 at *
   obtain ⟨hP78, -⟩ := g4
   obtain ⟨rfl, -⟩ := g5
   obtain ⟨rfl, r0, rfl, w1, w2, w3, w4, w5, rfl, gw1, gw2, gw3, gw4, gw5, gws, gwo⟩ := g6
   rw [b_bU] at hP78
   haveI := gw1.cel
   haveI := gw2.cel
   haveI := gw3.cel
   haveI := gw4.cel
   haveI := gw5.cel
   refine K2 rfl rfl rfl (A9 (Mc := MA2 ++ B78) (R := _) (aS rfl (aS rfl (aS rfl (a0)))) kR qP (B2c own vb kb pb k3 h2 n v text w1 w2 w3 w4 w5 va vg vq vo0 vm rs ro rm MA2 B78 (J9 ++ A) _ hA2 (hkr _ qS qS) hP78 hh2 (gw1.mono qS) (gw2.mono qS) (gw3.mono qS) (gw4.mono qS) (gw5.mono qS) gws gwo hn (hpb.mono qS) h200 hG.up) rfl ?_)
   rintro v81 M81 J81 ⟨vq5, h4_, MA4, MP4, rfl, rfl, hA4, hP4, hb81⟩
   haveI := hb81.cel
   refine km_ hs ?_
   refine F1 hs rfl (R6 rfl) rfl ?_
   refine F1 hs rfl (R4 rfl) rfl ?_
   refine F1 hs rfl (F5 rfl) rfl ?_
   refine F1 hs rfl (F5 rfl) rfl ?_
   refine G7 (A3A 0 1 2 7 10 13 15 16 17) (A1 (mv_ ?_))
   refine E0 (aS rfl a0) kR (B2Q vq5 (A35 (bQ own)) _ (hb81.mono qS)) rfl ?_
   rintro v86 M86 J86 ⟨rfl, ev, rfl, hev⟩
   rw [(B7z own).1] at hev ⊢
   rw [show (if true = true then dcE (A35 (bQ own)) else ev0) = dcE (A35 (bQ own)) from rfl, (B7z own).2] at hev
   rw [show (if true = true then (0 : Int) else 4) = 0 from rfl]
   obtain ⟨qs, q0, q1, q2, qk, qg, rfl, hy⟩ := hev
   haveI := hy.ses.cel
   haveI := hy.he.ia.cel
   haveI := hy.he.ig.cel
   haveI := hy.he.key.cel
   haveI := hy.hk.cel
   haveI := hy.g.cel
   unfold evC
   refine mv_ ?_
   refine A2 (R6 rfl) rfl ?_
   refine A2 (R4 rfl) rfl ?_
   refine A4 rfl (D2 (cs := [G8, G8, G8, G8, vS, .bool false, vS, vS, vS, E4, .bool false, E4, vS, E4, E4, vS]) kR rfl fun b18 => ?_)
   refine A4 rfl (B8 (vs := [.int .i64 (bQ own).fu, .int .i64 (bQ own).fd, .int .i64 (bQ own).tu, .int .i64 (bQ own).td, qs, .bool (bQ own).has, q0, q1, q2, .int .u32 (((bQ own).he.signed : Nat) : Int), .bool (bQ own).he.has, .int .u32 (((bQ own).he.once : Nat) : Int), qk, .int .u32 (((bQ own).hp : Nat) : Int), .int .u32 (((bQ own).hn : Nat) : Int), qg]) rfl rfl rfl kR qR (A3 rfl (A3 rfl (A3 rfl (A3 rfl (A3 hy.ses.one (A3 rfl (A3 hy.he.ia.one (A3 hy.he.ig.one (A3 hy.he.key.one (A3 rfl (A3 rfl (A3 rfl (A3 hy.hk.one (A3 rfl (A3 rfl (A3 hy.g.one H9)))))))))))))))) UpC.upd ?_)
   refine as_ (A0 (A3A 0 1 2 7 10 13 15 17 18) ?_)
   have hxl2 : (S6 1 n text).length = 12 + text.length := A34 _ _ _
   have hBE : BE own (S6 1 n text) := B8M own (A5Y hpb.lt) qO
   have hbl2 := hBE.l
   refine A1 (mv_ (mv_ ?_))
   refine A2 (E7 (n := 16) (vs := [.int .i64 (bQ own).fu, .int .i64 (bQ own).fd, .int .i64 (bQ own).tu, .int .i64 (bQ own).td, qs, .bool (bQ own).has, q0, q1, q2, .int .u32 (((bQ own).he.signed : Nat) : Int), .bool (bQ own).he.has, .int .u32 (((bQ own).he.once : Nat) : Int), qk, .int .u32 (((bQ own).hp : Nat) : Int), .int .u32 (((bQ own).hn : Nat) : Int), qg]) rfl kR At.mem rfl (D3 [] [.int .i64 (bQ own).fu, .int .i64 (bQ own).fd, .int .i64 (bQ own).tu, .int .i64 (bQ own).td, qs, .bool (bQ own).has, q0, q1, q2, .int .u32 (((bQ own).he.signed : Nat) : Int), .bool (bQ own).he.has, .int .u32 (((bQ own).he.once : Nat) : Int), qk, .int .u32 (((bQ own).hp : Nat) : Int), .int .u32 (((bQ own).hn : Nat) : Int), qg] [])) rfl ?_
   refine A4 rfl (A9 (Mc := MP4) (R := _) (aS rfl (aS rfl (aS rfl (a0)))) kR qP (FnX.amb qS (B7A own pb k2 (S6 1 n text) ua ug uq uo um ss so sm qs q0 q1 q2 qk qg MP4 (J86 ++ (J9 ++ A)) hBE (hkb.mono qS) hP4 (hy.mono qS) (hG.sub qS))) rfl ?_)
   rintro v93 M93 J93 ⟨vi, vw, p5, r5, u5, xo, xt, xr, xk, xl, xq, x5, e5, s5, rfl, hP93, hon5, hyes, hno⟩
   unfold seC
   refine mv_ ?_
   refine A2 (R6 rfl) rfl ?_
   refine A2 (R4 rfl) rfl ?_
   refine A4 rfl (D2 (cs := [vS, vS, vS, vS, vS, E4, .bool false, E4, .bool false, vS, vS, vS, vS, E4, vS, E4, E4, .pointer none]) kR rfl fun b20 => ?_)
   refine A4 rfl (B8 (vs := [vi, vw, p5, r5, u5, (vU x5.he.signed), .bool x5.he.has, (vU x5.he.once), .bool x5.tell, xo, xt, xr, xk, (vU x5.r.sn), xl, (vU x5.r.tn), (vU x5.r.prev), xq]) rfl rfl rfl kR qR (fun c hc => hon5 c hc) UpC.upd ?_)
   refine as_ (A0 (kq 0 (A3A 1 2 7 13 15 17 18 20 21)) (A6 (A1 (mv_ ?_))))
   refine A2 (F0 false rfl rfl (neF rfl)) rfl ?_
   refine mv_ ?_
   refine C0 rfl rfl (OpQ.opL qm_ rfl ?_)
   refine C0 rfl rfl (OpQ.opL (F0 false rfl rfl (neF rfl)) rfl ?_)
   refine A2 (C8 rfl rfl) rfl ?_
   refine mv_ ?_
   refine C0 rfl rfl (OpQ.opL (qf_ 0 0) rfl ?_)
   refine C0 rfl rfl (OpQ.opL (E7 (n := 2) (vs := [.int .i64 (bQ own).fu, .int .i64 (bQ own).fd]) rfl kR At.mem rfl (D3 [] [.int .i64 (bQ own).fu, .int .i64 (bQ own).fd] [.int .i64 (bQ own).tu, .int .i64 (bQ own).td, qs, .bool (bQ own).has, q0, q1, q2, .int .u32 (((bQ own).he.signed : Nat) : Int), .bool (bQ own).he.has, .int .u32 (((bQ own).he.once : Nat) : Int), qk, .int .u32 (((bQ own).hp : Nat) : Int), .int .u32 (((bQ own).hn : Nat) : Int), qg])) rfl ?_)
   refine C0 rfl rfl (OpQ.opL (qf_ 3 3) rfl ?_)
   refine C0 rfl rfl (OpQ.opL (E7 (n := 2) (vs := [.int .i64 (bF own), .int .i64 1]) rfl kR At.mem rfl (D3 [.int .u8 3, .int .i64 0, .int .i64 0] [.int .i64 (bF own), .int .i64 1] [.int .i64 1, .int .i64 1, (vU n), v])) rfl ?_)
   refine C0 rfl rfl (OpQ.opL (B2d rfl rfl kR kR kR kR) rfl ?_)
   refine A2 (C8 rfl rfl) rfl ?_
   refine A0 (A0A 0 1 2 7 18 20 21 108) ?_
   refine B0 rfl ?_
   refine A5 (nx (S9 0 1 2 7 18 20 21) (A6 (A1 (mv_ ?_))))
   refine A2 (L6 rfl) rfl ?_
   refine A0 (S9 0 2 7 18 20 21 110) ?_
   refine C3 rfl ?_ ?_ <;> intro hc
   ·
    obtain rfl : own = false := by simpa using hc
    obtain rfl := hno rfl
    refine A1 (mv_ ?_)
    refine A2 (F0 true rfl rfl (eqT rfl)) rfl ?_
    refine as_ (A0 (C7 6) (A7 (tr ?_)))
    exact ⟨_, [], [], F7 rfl rfl, List.nil_sublist _, by simp, rfl, rfl, rfl⟩
   ·
    obtain rfl : own = true := by simpa using hc
    obtain ⟨rfl, hxe5, rfl, hx5⟩ := hyes rfl
    obtain ⟨s2, r2, hoz, hO, hz1, hz2, hz3, hz4, hz5⟩ := hBE.open2 hxe5
    have hn5 : (bE true (S6 1 n text)).n < 1000000000 := by have y1 := hBE.n; have y2 := bf2.2.1.2.1; omega
    refine A5 (nx (I7 0 2 7 18 20 21) (A1 (mv_ ?_)))
    refine A2 (E7 (n := 18) (vs := [vi, vw, p5, r5, u5, (vU x5.he.signed), .bool x5.he.has, (vU x5.he.once), .bool x5.tell, xo, xt, xr, xk, (vU x5.r.sn), xl, (vU x5.r.tn), (vU x5.r.prev), xq]) rfl kR At.mem rfl (D3 [] [vi, vw, p5, r5, u5, (vU x5.he.signed), .bool x5.he.has, (vU x5.he.once), .bool x5.tell, xo, xt, xr, xk, (vU x5.r.sn), xl, (vU x5.r.tn), (vU x5.r.prev), xq] [])) rfl ?_
    refine A2 (E7 (n := 16) (vs := [.int .i64 (bQ true).fu, .int .i64 (bQ true).fd, .int .i64 (bQ true).tu, .int .i64 (bQ true).td, qs, .bool (bQ true).has, q0, q1, q2, .int .u32 (((bQ true).he.signed : Nat) : Int), .bool (bQ true).he.has, .int .u32 (((bQ true).he.once : Nat) : Int), qk, .int .u32 (((bQ true).hp : Nat) : Int), .int .u32 (((bQ true).hn : Nat) : Int), qg]) rfl kR At.mem rfl (D3 [] [.int .i64 (bQ true).fu, .int .i64 (bQ true).fd, .int .i64 (bQ true).tu, .int .i64 (bQ true).td, qs, .bool (bQ true).has, q0, q1, q2, .int .u32 (((bQ true).he.signed : Nat) : Int), .bool (bQ true).he.has, .int .u32 (((bQ true).he.once : Nat) : Int), qk, .int .u32 (((bQ true).hp : Nat) : Int), .int .u32 (((bQ true).hn : Nat) : Int), qg] [])) rfl ?_
    refine A4 rfl (A9 (Mc := M93) (R := _) (aS rfl (aS rfl (aS rfl (a0)))) kR qP (FnX.amb qS (B5c pb (bE true (S6 1 n text)) x5 vi vw p5 r5 u5 xo xt xr xk xl xq (bQ true) qs q0 q1 q2 qk qg s2 r2 (S6 1 n text) M93 (J93 ++ (J86 ++ (J9 ++ A))) hP93 qO hn5 hx5 (hy.mono qS) hz1 hz2 hz5 hz3 hz4 hO hoz (hG.sub qS))) rfl ?_)
    rintro v117 M117 J117 ⟨wo, wt, wr, wk, wl, wq, vt9, rfl, hP117, hx9, ht9⟩
    haveI := ht9.cel
    refine mv_ ?_
    refine A2 (R6 rfl) rfl ?_
    refine A2 (R4 rfl) rfl ?_
    refine A2 (B5v rfl) rfl ?_
    refine A4 rfl (D2 (cs := [vS, vS, vS, vS, vS, E4, .bool false, E4, .bool false, vS, vS, vS, vS, E4, vS, E4, E4, .pointer none]) kR rfl fun b22 => ?_)
    refine A4 rfl (B8 (vs := seC vi vw (vS) (vS) (vS) wo wt wr wk wl wq (B8z x5 r2)) rfl rfl rfl kR qR (B0d hx9) UpC.upd ?_)
    refine as_ (as_ (A0 (G6 0 2 21 23 24) (A1 (mv_ ?_))))
    refine E0 (aS rfl a0) kR (A2D vt9 (S6 1 n text) _ (ht9.mono qS)) rfl ?_
    rintro v123 M123 J123 ⟨rfl, da, dn, vt, wt_, rfl, hbt, hd⟩
    haveI := hbt.cel
    have dd := B4x (to := 1) (n := n) (w := text) qD hn qO
    change diA (S6 1 n text) = 1 ∧ diN (S6 1 n text) = n ∧ diT (S6 1 n text) = text ∧ diE (S6 1 n text) = 0 at dd
    obtain ⟨d1, d2, d3, d4⟩ := dd
    obtain ⟨-, ea, en, et⟩ := hd.resolve_right fun h => h.1 d4
    obtain rfl := ea.trans d1
    have e9 : dn = n := en.trans d2
    have e8 : wt_ = text := et.trans d3
    clear en et
    subst dn
    subst wt_
    rw [d4]
    unfold inn
    refine mv_ ?_
    refine A2 (R6 rfl) rfl ?_
    refine A2 (R4 rfl) rfl ?_
    refine A4 rfl (D2 (cs := [.int .i64 0, .int .u32 0, vS]) kR rfl fun b25 => ?_)
    refine A4 rfl (B8 (vs := [(vI 1), (vU n), vt]) rfl rfl rfl kR qR (A3 rfl (A3 rfl (A3 hbt.one H9))) UpC.upd ?_)
    refine as_ (A0 (I7 0 2 21 24 25 26) (A1 (mv_ ?_)))
    refine A2 (F0 true rfl rfl (eqT rfl)) rfl ?_
    refine mv_ ?_
    refine C0 rfl rfl (OpQ.opL qm_ rfl ?_)
    refine C0 rfl rfl (OpQ.opL (F0 true rfl rfl (eqT rfl)) rfl ?_)
    refine A2 (E3 rfl rfl) rfl ?_
    refine mv_ ?_
    refine C0 rfl rfl (OpQ.opL qm_ rfl ?_)
    refine C0 rfl rfl (OpQ.opL (F0 true rfl rfl (eqT rfl)) rfl ?_)
    refine A2 (E3 rfl rfl) rfl ?_
    refine mv_ ?_
    refine C0 rfl rfl (OpQ.opL (qf_ 2 2) rfl ?_)
    refine C0 rfl rfl (OpQ.opL ql_ rfl ?_)
    refine C0 rfl rfl (OpQ.opL (Q3 rfl kR (hbt.rd.mono qS)) rfl ?_)
    refine C0 rfl rfl (OpQ.opL qm_ rfl ?_)
    refine C0 rfl rfl (OpQ.opL (Q3 rfl kR (hpb.rd.mono qS)) rfl ?_)
    refine C0 rfl rfl (OpQ.opL ((show (decide (text = text)) = true by simp) ▸ B0x rfl rfl rfl rfl hbt.lt hpb.lt) rfl ?_)
    refine A2 (E3 rfl rfl) rfl ?_
    refine mv_ ?_
    refine C0 rfl rfl (OpQ.opL (qf_ 1 1) rfl ?_)
    refine C0 rfl rfl (OpQ.opL ql_ rfl ?_)
    refine C0 rfl rfl (OpQ.opL qm_ rfl ?_)
    refine C0 rfl rfl (OpQ.opL (F0 true rfl rfl (eqT rfl)) rfl ?_)
    refine A2 (E3 rfl rfl) rfl ?_
    refine as_ (A0 (C7 6) (A7 ?_))
    exact ⟨_, [], [], F7 rfl rfl, List.nil_sublist _, by simp, rfl, rfl, rfl⟩

section
variable {H : Type} {enc : TypeId × Value → H} {P : Program} {w : World} {spare : Nat → Bool} {held : Bool} {fuel : Nat} {t e : TypeId} {cs : List Value} {x : DataW H × List MemPlace} {v : Value} {d : DataW H} {p : List MemPlace} {r : Reach} {base : Nat} {k : IntKind}
end
theorem B2e {P : Program} {W : World} {name : String} {g : Nat} {cs : Array Value} (hg : P.globalNamed name = some g) (h : W.var? P name = some cs) : ∃ e fr, W.heap[g]? = some (.cells cs e fr) := by
  unfold World.var? at h
  rw [hg] at h
  simp only [Option.bind_some] at h
  split at h
  · rename_i c e fr hh
    cases h
    exact ⟨e, fr, hh⟩
  · cases h
def B5t (ws : LN) : List Int := ws.map fun n : Nat => (n : Int)
theorem A7K (k : IntKind) (ws : LN) : ((B5t ws).map fun z => Value.int k z).toArray = (I3 k ws).toArray := by simp [B5t, I3]
theorem B5u {W : World} {a b : String × DataW Unit} {rest : List (String × DataW Unit)} (h : laidMet Tryz.prog (a :: b :: ("internal/strconv.uint64pow10", Rows.laid_internal_strconv_uint64pow10) :: rest) W) : ∃ e fr, W.heap[4]? = some (Obj.cells (I3 .u64 N8).toArray e fr) := by
  have h' : laidMet Tryz.prog (("internal/strconv.uint64pow10", Lib.tabData .u64 (B5t N8)) :: rest) W := h.tail.tail
  have h1 := Lib.tabIs_of_head (g := 4) (t := 343) (e := 101) (n := 20) (by kernel_rfl) (by kernel_rfl) (by kernel_rfl) (by kernel_rfl) (by kernel_rfl) (by kernel_rfl) h'
  obtain ⟨ek, fk, h3⟩ := B2e (g := 4) (by kernel_rfl) h1
  rw [A7K] at h3
  exact ⟨ek, fk, h3⟩
end Go.Proofs.YtoameenjkiaefaaGreatDoor

namespace Go.Proofs.YtoameenjkiaefaaGreatDoor
open Go.Px
theorem B7B {W : World} {a b : String × DataW Unit} {rest : List (String × DataW Unit)} (h : laidMet Tryz.prog (a :: b :: ("internal/strconv.uint64pow10", Rows.laid_internal_strconv_uint64pow10) :: rest) W) : Glb (A7e W) := by
  obtain ⟨e4, f4, h4⟩ := B5u h
  exact ⟨⟨e4, f4, A2i.2 h4⟩⟩
end Go.Proofs.YtoameenjkiaefaaGreatDoor

