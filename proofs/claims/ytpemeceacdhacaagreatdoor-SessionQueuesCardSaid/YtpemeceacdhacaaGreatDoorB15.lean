/- Part 15 of the texts of this claim, one behind the other. -/
import Derived.Test.YtpemeceacdhacaaGreatDoorB14
set_option linter.unusedVariables false
set_option linter.unusedSimpArgs false
set_option maxRecDepth 100000
namespace Go.Proofs.YtpemeceacdhacaaGreatDoor
open Go.Px
noncomputable def sB (k : Ks) (b : Bn) (s : Ps) : Ps := idS k (stS k b s)
noncomputable def sWi (k : Ks) (b : Bn) (s : Ps) : LN := B0G k.user k.dev (idA k (stS k b s)) (idG k (stS k b s)) b.user b.dev b.ia b.ig
noncomputable def sNm (k : Ks) (b : Bn) (s : Ps) : List (LN) := [B0X, sWi k b s, heW [] (stH k b s)]
noncomputable def sC (k : Ks) (b : Bn) (s : Ps) : Ps := A5f (sB k b s) (sNm k b s)
noncomputable def sD (k : Ks) (b : Bn) (s : Ps) : Ps := begS (sC k b s) (stK k b s) b.key
noncomputable def sX (k : Ks) (b : Bn) (s : Ps) : Ses := ⟨A3d (sB k b s) (sNm k b s), sWi k b s, stH k b s, true, B2u (sC k b s) (stK k b s) b.key⟩
structure StH (k : Ks) (b : Bn) (s : Ps) : Prop where
  a : (stS k b s).ts.length ≤ 900000
  n : (stS k b s).n < 900000000
  ia : (stH k b s).ia.length ≤ 100000
  ig : (stH k b s).ig.length ≤ 100000
  key : (stH k b s).key.length ≤ 100000
  l : (idA k (stS k b s)).length + (idG k (stS k b s)).length + b.ia.length + b.ig.length ≤ 1000000
theorem A7o (s : Ps) (ws : List (LN)) : (A5f s ws).ts.length ≤ s.ts.length + 1 := W7
theorem B3J (k : Ks) (s : Ps) : (idS k s).n = s.n := rfl
theorem B09 (s : Ps) (ws : List (LN)) : (A5f s ws).n = s.n := rfl
theorem sC_n (k : Ks) (b : Bn) (s : Ps) : (sC k b s).n = (stS k b s).n := by
  unfold sC
  rw [B09]
  unfold sB
  rw [B3J]
set_option maxHeartbeats 1000000 in
theorem A8T (pb : Nat) (s : Ps) (kb : Nat) (k : Ks) (va vg vq vo vm : Value) (rs ro rm : List (List Value)) (b : Bn) (wa wg wk ws_ wo : Value) (MP A : Mem) (hK : KyR A kb k va vg vq vo vm rs ro rm) (hP : Prm pb s MP) (har : Ar s.ts) (hn : s.ts.length + 1000 ≤ 1040000) (hk : s.n < 1000000000) (ga : By A wa b.ia) (gg : By A wg b.ig) (gk : By A wk b.key) (gs : By A ws_ b.sig) (go : By A wo b.oncek) (hsn : b.signed < 4294967296) (hon : b.once < 4294967296) (hck : ckB s b = true) (hS : StH k b s) (hG : Glb A) : FnX Tryz.prog 20 [(vP pb), (vP kb), .agg #[.int .i64 b.user, .int .i64 b.dev, wa, wg, (vU b.signed), wk, ws_, .bool b.has, (vU b.once), wo]] MP A fun q M J => ∃ vi vw p r u xo xt xr xk xl xq, q = .tuple #[.agg (seC vi vw p r u xo xt xr xk xl xq (sX k b s)).toArray, .int .i64 0] ∧ Prm pb (sD k b s) M ∧ SeR (J ++ A) (sX k b s) vi vw p r u xo xt xr xk xl xq := by
 haveI := ga.cel
 haveI := gg.cel
 haveI := gk.cel
 haveI := gs.cel
 haveI := go.cel
 refine FnX.enterZ (N := 46) Tryz.func20 rfl rfl rfl fun w_ => ?_
 refine A7 (E0 0 1 2) (A1 ?_)
 refine A4 rfl (bx_ fun b5 => ?_)
 refine A4 rfl (C5 (cs := [vS, vS, vS, vS, vS, D3, .bool false, D3, .bool false, vS, vS, vS, vS, D3, vS, D3, D3, .pointer none]) kR rfl fun b6 => ?_)
 refine as_ (A0 (F2 0 1 5 6) (A1 (mv_ (mv_ ?_))))
 refine A3 (D5 (n := 10) (vs := [.int .i64 b.user, .int .i64 b.dev, wa, wg, (vU b.signed), wk, ws_, .bool b.has, (vU b.once), wo]) rfl kR At.mem rfl (C2 [] [.int .i64 b.user, .int .i64 b.dev, wa, wg, (vU b.signed), wk, ws_, .bool b.has, (vU b.once), wo] [])) rfl ?_
 refine A4 rfl (B3 (Mc := MP) (R := _) (aS rfl (aS rfl (aS rfl (a0)))) kR qP (FnX.amb qS (B0H pb s kb k va vg vq vo vm rs ro rm b wa wg wk ws_ wo MP A hK hP har hn hk ga gg gk gs go hsn hon hG)) rfl ?_)
 rintro v16 M16 J16 ⟨hs16, -⟩
 obtain ⟨u16, p, r, u, rfl, hP16, hb16, hH⟩ := hs16 hck
 haveI := hb16.cel
 haveI := hH.ia.cel
 haveI := hH.ig.cel
 haveI := hH.key.cel
 have hig := hH.ig.by (by have := hS.ig; omega)
 unfold heC
 have z1 := hS.a
 have z2 := hS.ia
 have z3 := hS.ig
 have z4 := hS.key
 have z5 := hS.l
 have z6 := hS.n
 refine mv_ ?_
 refine A3 (U6 rfl) rfl ?_
 refine A3 (U0 rfl) rfl ?_
 refine A3 (B2K rfl) rfl ?_
 refine A4 rfl (C5 (cs := [vS, vS, vS, .int .u32 0, .bool false, .int .u32 0]) kR rfl fun b9 => ?_)
 refine as_ ?_
 refine A4 rfl (A9 (vs := [p, r, u, .int .u32 (((stH k b s).signed : Nat) : Int), .bool (stH k b s).has, .int .u32 (((stH k b s).once : Nat) : Int)]) rfl rfl rfl kR qR (A2 hH.ia.one (A2 hH.ig.one (A2 hH.key.one al3))) UpC.upd ?_)
 refine as_ (A0 (R8 0 1 5 6 8 9 10) (A6 (A1 (mv_ ?_))))
 refine A3 (E7 false rfl rfl (neF rfl)) rfl ?_
 refine A0 (A0e 0 1 5 6 8 9 10 21) ?_
 refine B0 rfl ?_
 refine A5 (nx (I8 0 1 5 6 8 9) ?_)
 refine D9 (M16) (_) true (.range 11) [(0, 0), (2, 0), (3, 0), (5, 0), (6, 1), (7, 0), (8, 1), (1, 2), (4, 2), (9, 2), (10, 0)] kR kR qP fun hs K n0 hKm hKs hKn => ?_
 refine km_ hs ?_
 refine km_ hs ?_
 refine km_ hs ?_
 refine E2 hs rfl (qf_ 0 0) rfl ?_
 refine H4 hs rfl hKs (D5 (n := 2) (vs := [.int .i64 b.user, .int .i64 b.dev]) rfl kR At.mem rfl (C2 [] [.int .i64 b.user, .int .i64 b.dev] [wa, wg, (vU b.signed), wk, ws_, .bool b.has, (vU b.once), wo])) ?_
 refine E2 hs rfl (qf_ 2 2) rfl ?_
 refine H4 hs rfl hKs (D5 (n := 2) (vs := [wa, wg]) rfl kR At.mem rfl (C2 [.int .i64 b.user, .int .i64 b.dev] [wa, wg] [(vU b.signed), wk, ws_, .bool b.has, (vU b.once), wo])) ?_
 refine F5 [] _ rfl rfl (List.Perm.refl _) (fun _ h => by cases h) fun w0 => (A0y (aS rfl a0) kR (B2i kb k va vg vq vo vm rs ro rm _ (hK.mono qS)) rfl fun _ => ?_)
 dsimp only [List.nil_append, List.append_eq]
 refine F5 _ _ rfl rfl (List.Perm.refl _) hKm fun w0 => (B3 (Mc := M16) (R := _) (aS rfl (aS rfl (a0))) kR qP (A2x pb (stS k b s) kb k va vg vq vo vm rs ro rm M16 _ (hK.mono qS) hP16 qO hG.up) rfl ?_)
 rintro v28 M28 J28 ⟨hP28, xa, xg, rfl, hxa, hxg⟩ hKx28
 haveI := hxa.cel
 haveI := hxg.cel
 change Prm pb (sB k b s) M28 at hP28
 refine F5 [] _ rfl rfl (List.Perm.refl _) (fun _ h => by cases h) fun w0 => (I5 (aS rfl (aS rfl (aS rfl (aS rfl a0)))) kR (A9u k.user k.dev b.user b.dev xa xg wa wg _ _ b.ia b.ig _ (hxa.mono qS) (hxg.mono qS) (ga.mono qS) (gg.mono qS) qO) rfl ?_)
 rintro v33 M33 J33 ⟨rfl, h33⟩ _
 haveI := h33.cel
 change By _ v33 (sWi k b s) at h33
 dsimp only [List.nil_append, List.append_eq]
 refine E2 hs rfl (E8 rfl) rfl ?_
 refine G2 (I8 0 5 6 8 9 11) ?_
 have y1 := A1y k (stS k b s)
 change (sB k b s).ts.length ≤ _ at y1
 have y2 := A7o (sB k b s) (sNm k b s)
 change (sC k b s).ts.length ≤ _ at y2
 have y3 : (sC k b s).n = (stS k b s).n := sC_n k b s
 refine D9 (M28) (_) true [0, 1, 2, 3, 4, 5, 6, 7, 8, 9, 10, 11, 13] [(0, 0), (1, 0), (2, 1), (4, 0), (5, 1), (6, 0), (7, 0), (8, 0), (9, 1), (3, 2), (10, 2), (11, 0), (12, 2), (13, 0)] kR kR qP fun hs K n0 hKm hKs hKn => ?_
 refine km_ hs ?_
 refine km_ hs ?_
 refine H4 hs rfl hKs (D5 (n := 6) (vs := [p, r, u, .int .u32 (((stH k b s).signed : Nat) : Int), .bool (stH k b s).has, .int .u32 (((stH k b s).once : Nat) : Int)]) rfl kR At.mem rfl (C2 [] [p, r, u, .int .u32 (((stH k b s).signed : Nat) : Int), .bool (stH k b s).has, .int .u32 (((stH k b s).once : Nat) : Int)] [])) ?_
 refine km_ hs ?_
 refine H4 hs rfl hKs (D5 (n := 6) (vs := [p, r, u, .int .u32 (((stH k b s).signed : Nat) : Int), .bool (stH k b s).has, .int .u32 (((stH k b s).once : Nat) : Int)]) rfl kR At.mem rfl (C2 [] [p, r, u, .int .u32 (((stH k b s).signed : Nat) : Int), .bool (stH k b s).has, .int .u32 (((stH k b s).once : Nat) : Int)] [])) ?_
 refine km_ hs ?_
 refine km_ hs ?_
 refine E2 hs rfl (qf_ 5 5) rfl ?_
 refine H4 hs rfl hKs ql_ ?_
 refine F5 _ _ rfl rfl (List.Perm.refl _) hKm fun w0 => (B3 (Mc := M28) (R := _) (aS rfl (aS rfl (aS rfl (a0)))) kR qP (A9C pb (sB k b s) v33 (sWi k b s) (stH k b s) p r u M28 _ hP28 qO (h33.mono qS) (hH.mono qS) qO qO hG.up) rfl ?_)
 rintro v37 M37 J37 ⟨hP37, h37⟩ hKx37
 haveI := h37.cel
 change Prm pb (sC k b s) M37 at hP37
 refine F5 M37 _ rfl rfl qP (fun x hx => hKx37 (hKn rfl) x (by simpa using hx)) fun w0 => (B3 (Mc := M37) (R := _) (aS rfl (aS rfl (aS rfl (a0)))) kR qP (FnX.amb qS (B0O pb (sC k b s) u16 wk (stK k b s) b.key M37 (J16 ++ A) hP37 qO qO (hb16.mono qS) (gk.mono qS) (hG.sub qS))) rfl ?_)
 rintro v44 M44 J44 ⟨hP44, xo, xt, xr, xk, xl, xq, rfl, hr44⟩ hKx44
 haveI := hr44.own.cel
 haveI := hr44.their.cel
 haveI := hr44.root.cel
 haveI := hr44.sk.cel
 haveI := hr44.tk.cel
 haveI := hr44.st.cel
 unfold rsC
 refine E2 hs rfl (D7 (place := fun x => #[(0, 1), (1, 1), (2, 6), (8, 1), (9, 9)][x]?) (z := [vS, vS, vS, vS, vS, D3, .bool false, D3, .bool false, vS, vS, vS, vS, D3, vS, D3, D3, .pointer none]) (fun _ => by kernel_rfl) (eS rfl (eS rfl (eS rfl (eS rfl (eS rfl e0))))) (bdS 0 1 rfl qR (bdS 1 1 rfl qR (bdS 2 6 rfl qR (bdS 8 1 rfl qR (bdS 9 9 rfl qR bd0)))))) rfl ?_
 refine I4 rfl rfl rfl (A9 (vs := [v37, v33, p, r, u, .int .u32 (((stH k b s).signed : Nat) : Int), .bool (stH k b s).has, .int .u32 (((stH k b s).once : Nat) : Int), .bool true, xo, xt, xr, xk, .int .u32 (((B2u (sC k b s) (stK k b s) b.key).sn : Nat) : Int), xl, .int .u32 (((B2u (sC k b s) (stK k b s) b.key).tn : Nat) : Int), .int .u32 (((B2u (sC k b s) (stK k b s) b.key).prev : Nat) : Int), xq]) rfl rfl rfl kR qR (A2 h37.one (A2 h33.one (A2 hH.ia.one (A2 hH.ig.one (A2 hH.key.one (A2 rfl (A2 rfl (A2 rfl (A2 rfl (A2 hr44.own.one (A2 hr44.their.one (A2 hr44.root.one (A2 hr44.sk.one (A2 rfl (A2 hr44.tk.one (A2 rfl (A2 rfl (A2 hr44.st.one G9)))))))))))))))))) UpC.upd ?_)
 refine E2 hs rfl (E8 rfl) rfl ?_
 refine G2 (C7 6 7) (A8 ?_)
 exact ⟨_, M44, [], Z5 (n := 18) rfl rfl rfl kR At.mem qR, Fit.none (Fit.last qP), v37, v33, p, r, u, xo, xt, xr, xk, xl, xq, rfl, hP44, ⟨h37.mono qS, h33.mono qS, hH.mono qS, by show (stH k b s).ig.length ≤ _; omega, hr44.mono qS⟩⟩

noncomputable def aWi (k : Ks) (e : Ev) (s2 : Ps) : LN := B0G e.fu e.fd e.he.ia e.he.ig k.user k.dev (idA k s2) (idG k s2)
noncomputable def aNm (k : Ks) (e : Ev) (s2 : Ps) : List (LN) := [B0X, aWi k e s2, heW [] e.he]
noncomputable def aC (k : Ks) (e : Ev) (s2 : Ps) : Ps := A5f (idS k s2) (aNm k e s2)
noncomputable def aX (k : Ks) (e : Ev) (s2 : Ps) (sec own : LN) : Ses := ⟨A3d (idS k s2) (aNm k e s2), aWi k e s2, he0, false, A4H sec own⟩
set_option maxHeartbeats 1000000 in
theorem A7p (pb : Nat) (s : Ps) (kb : Nat) (k : Ks) (va vg vq vo vm : Value) (rs ro rm : List (List Value)) (e : Ev) (vz p r u vk vgg : Value) (sec own : LN) (s2 : Ps) (MP A : Mem) (hK : KyR A kb k va vg vq vo vm rs ro rm) (hrise : A9s k.once) (hP : Prm pb s MP) (hn : s.ts.length + 1000 ≤ 1040000) (he_ : EvR A e vz p r u vk vgg) (hhas : e.has = true) (han : anR k e.he s = (some (sec, own), s2)) (hn2 : s2.ts.length ≤ 900000) (hln : e.he.ia.length + e.he.ig.length + (idA k s2).length + (idG k s2).length ≤ 1000000) (hel : e.he.ia.length + e.he.ig.length + e.he.key.length ≤ 1000000) (hid : A3d (idS k s2) (aNm k e s2) = e.ses) (hG : Glb A) : FnX Tryz.prog 22 [(vP pb), (vP kb), .agg (evC vz p r u vk vgg e).toArray] MP A fun q M J => ∃ vi vw xo xt xr xk xl xq, q = .tuple #[.agg (seC vi vw (vS) (vS) (vS) xo xt xr xk xl xq (aX k e s2 sec own)).toArray, .int .i64 0] ∧ Prm pb (aC k e s2) M ∧ SeR (J ++ A) (aX k e s2 sec own) vi vw (vS) (vS) (vS) xo xt xr xk xl xq := by
 haveI := he_.ses.cel
 haveI := he_.he.ia.cel
 haveI := he_.he.ig.cel
 haveI := he_.he.key.cel
 haveI := he_.hk.cel
 haveI := he_.g.cel
 have hig := he_.he.ig.by qO
 unfold evC
 refine FnX.enterZ (N := 59) Tryz.func22 rfl rfl rfl fun w_ => ?_
 refine A7 (E0 0 1 2) (A1 ?_)
 refine A4 rfl (bx_ fun b5 => ?_)
 refine A4 rfl (C5 (cs := [vS, vS, vS, vS, vS, D3, .bool false, D3, .bool false, vS, vS, vS, vS, D3, vS, D3, D3, .pointer none]) kR rfl fun b6 => ?_)
 refine as_ (A0 (F2 0 1 5 6) (A6 (A1 ?_)))
 refine A3 (qf_ 5 5) rfl ?_
 refine A3 ql_ rfl ?_
 refine A3 (P2 rfl) rfl ?_
 refine A0 (H5 0 1 5 6 15) ?_
 refine B0 (by rw [show (false : Bool) = !e.has by rw [hhas]; rfl]; rfl) ?_
 refine A5 (nx (F2 0 1 5 6) (A1 (mv_ (mv_ ?_))))
 refine A3 (qf_ 6 6) rfl ?_
 refine A3 (D5 (n := 6) (vs := [p, r, u, (vU e.he.signed), .bool e.he.has, (vU e.he.once)]) rfl kR At.mem rfl (C2 [.int .i64 e.fu, .int .i64 e.fd, .int .i64 e.tu, .int .i64 e.td, vz, .bool e.has] [p, r, u, (vU e.he.signed), .bool e.he.has, (vU e.he.once)] [vk, (vU e.hp), (vU e.hn), vgg])) rfl ?_
 refine A4 rfl (B3 (Mc := MP) (R := _) (aS rfl (aS rfl (aS rfl (a0)))) kR qP (FnX.amb qS (A8y pb s kb k va vg vq vo vm rs ro rm e.he p r u MP A hK hrise hP hn he_.he hG)) rfl ?_)
 rintro v22 M22 J22 ⟨u1, u2, rfl, hP22, h1, h2⟩
 rw [han] at hP22 h1 h2 ⊢
 change Prm pb s2 M22 at hP22
 change By _ u1 sec at h1
 change By _ u2 own at h2
 haveI := h1.cel
 haveI := h2.cel
 rw [show (if ((some (sec, own), s2) : Option (LN × LN) × Ps).1.isSome = true then (0 : Int) else 9) = 0 from rfl]
 refine mv_ ?_
 refine A3 (U6 rfl) rfl ?_
 refine A3 (U0 rfl) rfl ?_
 refine A3 (B2K rfl) rfl ?_
 refine as_ (as_ (as_ (A0 (R8 0 1 5 6 8 9 10) (A6 (A1 (mv_ ?_))))))
 refine A3 (E7 false rfl rfl (neF rfl)) rfl ?_
 refine A0 (A0e 0 1 5 6 8 9 10 27) ?_
 refine B0 rfl ?_
 refine A5 (nx (I8 0 1 5 6 8 9) ?_)
 refine D9 (M22) (_) true (.range 12) [(0, 0), (1, 1), (2, 0), (3, 0), (4, 1), (5, 0), (7, 0), (8, 0), (6, 2), (9, 2), (10, 2), (11, 0)] kR kR qP fun hs K n0 hKm hKs hKn => ?_
 refine E2 hs rfl (qf_ 0 0) rfl ?_
 refine H4 hs rfl hKs (D5 (n := 2) (vs := [.int .i64 e.fu, .int .i64 e.fd]) rfl kR At.mem rfl (C2 [] [.int .i64 e.fu, .int .i64 e.fd] [.int .i64 e.tu, .int .i64 e.td, vz, .bool e.has, p, r, u, (vU e.he.signed), .bool e.he.has, (vU e.he.once), vk, (vU e.hp), (vU e.hn), vgg])) ?_
 refine E2 hs rfl (qf_ 6 6) rfl ?_
 refine E2 hs rfl (qf_ 6 0) rfl ?_
 refine H4 hs rfl hKs (D5 (n := 2) (vs := [p, r]) rfl kR At.mem rfl (C2 [.int .i64 e.fu, .int .i64 e.fd, .int .i64 e.tu, .int .i64 e.td, vz, .bool e.has] [p, r] [u, (vU e.he.signed), .bool e.he.has, (vU e.he.once), vk, (vU e.hp), (vU e.hn), vgg])) ?_
 refine km_ hs ?_
 refine km_ hs ?_
 refine km_ hs ?_
 refine F5 [] _ rfl rfl (List.Perm.refl _) (fun _ h => by cases h) fun w0 => (A0y (aS rfl a0) kR (B2i kb k va vg vq vo vm rs ro rm _ (hK.mono qS)) rfl fun _ => ?_)
 dsimp only [List.nil_append, List.append_eq]
 refine F5 _ _ rfl rfl (List.Perm.refl _) hKm fun w0 => (B3 (Mc := M22) (R := _) (aS rfl (aS rfl (a0))) kR qP (A2x pb s2 kb k va vg vq vo vm rs ro rm M22 _ (hK.mono qS) hP22 qO hG.up) rfl ?_)
 rintro v39 M39 J39 ⟨hP39, xa, xg, rfl, hxa, hxg⟩ hKx39
 haveI := hxa.cel
 haveI := hxg.cel
 refine F5 [] _ rfl rfl (List.Perm.refl _) (fun _ h => by cases h) fun w0 => (I5 (aS rfl (aS rfl (aS rfl (aS rfl a0)))) kR (A9u e.fu e.fd k.user k.dev p r xa xg _ _ _ _ _ (he_.he.ia.mono qS) (hig.mono qS) (hxa.mono qS) (hxg.mono qS) qO) rfl ?_)
 rintro v40 M40 J40 ⟨rfl, h40⟩ _
 haveI := h40.cel
 change By _ v40 (aWi k e s2) at h40
 dsimp only [List.nil_append, List.append_eq]
 refine E2 hs rfl (E8 rfl) rfl ?_
 refine G2 (I8 0 5 6 8 9 11) ?_
 have y1 := A1y k s2
 refine A1 (mv_ (mv_ ?_))
 refine A3 (qf_ 6 6) rfl ?_
 refine A3 (D5 (n := 6) (vs := [p, r, u, (vU e.he.signed), .bool e.he.has, (vU e.he.once)]) rfl kR At.mem rfl (C2 [.int .i64 e.fu, .int .i64 e.fd, .int .i64 e.tu, .int .i64 e.td, vz, .bool e.has] [p, r, u, (vU e.he.signed), .bool e.he.has, (vU e.he.once)] [vk, (vU e.hp), (vU e.hn), vgg])) rfl ?_
 refine A4 rfl (B3 (Mc := M39) (R := _) (aS rfl (aS rfl (aS rfl (a0)))) kR qP (A9C pb (idS k s2) v40 (aWi k e s2) e.he p r u M39 _ hP39 qO (h40.mono qS) (he_.he.mono qS) qO qO hG.up) rfl ?_)
 rintro v45 M45 J45 ⟨hP45, h45⟩
 haveI := h45.cel
 change Prm pb (aC k e s2) M45 at hP45
 refine mv_ (mv_ (mv_ ?_))
 refine E4 (aS rfl (aS rfl a0)) kR (FnX.amb qS (B0P u1 u2 sec own (J22 ++ A) (h1.mono qS) (h2.mono qS))) rfl ?_
 rintro v49 M49 J49 ⟨rfl, xo, xt, xr, xk, xl, xq, rfl, hr49⟩
 haveI := hr49.own.cel
 haveI := hr49.their.cel
 haveI := hr49.root.cel
 haveI := hr49.sk.cel
 haveI := hr49.tk.cel
 haveI := hr49.st.cel
 unfold rsC
 refine A3 (D7 (place := fun x => #[(0, 1), (1, 1), (2, 6), (8, 1), (9, 9)][x]?) (z := [vS, vS, vS, vS, vS, D3, .bool false, D3, .bool false, vS, vS, vS, vS, D3, vS, D3, D3, .pointer none]) (fun _ => by kernel_rfl) (eS rfl (eS rfl (eS rfl e0))) (bdS 0 1 rfl qR (bdS 1 1 rfl qR (bdS 9 9 rfl qR bd0)))) rfl ?_
 refine A4 rfl (C5 (cs := [vS, vS, vS, vS, vS, D3, .bool false, D3, .bool false, vS, vS, vS, vS, D3, vS, D3, D3, .pointer none]) kR rfl fun b12 => ?_)
 refine A4 rfl (A9 (vs := [v45, v40, vS, vS, vS, .int .u32 0, .bool false, .int .u32 0, .bool false, xo, xt, xr, xk, .int .u32 (((A4H sec own).sn : Nat) : Int), xl, .int .u32 (((A4H sec own).tn : Nat) : Int), .int .u32 (((A4H sec own).prev : Nat) : Int), xq]) rfl rfl rfl kR qR (A2 h45.one (A2 h40.one (A2 rfl (A2 rfl (A2 rfl (A2 rfl (A2 rfl (A2 rfl (A2 rfl (A2 hr49.own.one (A2 hr49.their.one (A2 hr49.root.one (A2 hr49.sk.one (A2 rfl (A2 hr49.tk.one (A2 rfl (A2 rfl (A2 hr49.st.one G9)))))))))))))))))) UpC.upd ?_)
 refine A0 (E0 5 6 12) (A6 (A1 ?_))
 refine A3 (qf_ 0 0) rfl ?_
 refine A3 ql_ rfl ?_
 refine A3 (qf_ 4 4) rfl ?_
 refine A3 ql_ rfl ?_
 refine D6 (aS rfl (aS rfl a0)) kR (S7 v45 vz (A3d (idS k s2) (aNm k e s2)) e.ses _ (h45.mono qS) (he_.ses.mono qS)) rfl ?_
 rw [decide_eq_true hid]
 refine A3 (P2 rfl) rfl ?_
 refine A0 (E0 6 12 56) ?_
 refine B0 rfl ?_
 refine A5 (nx (C7 6 12) (A1 ?_))
 refine A3 (D5 (n := 18) (vs := [v45, v40, vS, vS, vS, .int .u32 0, .bool false, .int .u32 0, .bool false, xo, xt, xr, xk, .int .u32 (((A4H sec own).sn : Nat) : Int), xl, .int .u32 (((A4H sec own).tn : Nat) : Int), .int .u32 (((A4H sec own).prev : Nat) : Int), xq]) rfl kR At.mem rfl (C2 [] [v45, v40, vS, vS, vS, .int .u32 0, .bool false, .int .u32 0, .bool false, xo, xt, xr, xk, .int .u32 (((A4H sec own).sn : Nat) : Int), xl, .int .u32 (((A4H sec own).tn : Nat) : Int), .int .u32 (((A4H sec own).prev : Nat) : Int), xq] [])) rfl ?_
 refine A4 rfl (A9 (vs := [v45, v40, vS, vS, vS, .int .u32 0, .bool false, .int .u32 0, .bool false, xo, xt, xr, xk, .int .u32 (((A4H sec own).sn : Nat) : Int), xl, .int .u32 (((A4H sec own).tn : Nat) : Int), .int .u32 (((A4H sec own).prev : Nat) : Int), xq]) rfl rfl rfl kR qR (A2 h45.one (A2 h40.one (A2 rfl (A2 rfl (A2 rfl (A2 rfl (A2 rfl (A2 rfl (A2 rfl (A2 hr49.own.one (A2 hr49.their.one (A2 hr49.root.one (A2 hr49.sk.one (A2 rfl (A2 hr49.tk.one (A2 rfl (A2 rfl (A2 hr49.st.one G9)))))))))))))))))) UpC.upd ?_)
 refine as_ (A0 (C7 6 7) (A8 ?_))
 exact ⟨_, M45, [], Z5 (n := 18) rfl rfl rfl kR At.mem qR, Fit.none (Fit.last qP), v45, v40, xo, xt, xr, xk, xl, xq, rfl, hP45, ⟨h45.mono qS, h40.mono qS, A8N, (show 0 ≤ 1000000 by decide), hr49.mono qS⟩⟩

theorem A07 {ts : List Tm} (L : List (LN × LN)) (h : (ts.all fun t => t.kind != 6 || (t.n == 0 && t.of.length == 1 && L.any fun ab => t.text == mark ab.1 ++ mark ab.2 && ab.2.all (· < 256) && decide (ab.2.length ≤ 16777216))) = true) : X0 ts := by
  intro t ht hk
  have h1 := List.all_eq_true.1 h t ht
  simp only [Bool.or_eq_true, bne_iff_ne, ne_eq, hk, not_true_eq_false, false_or, Bool.and_eq_true, beq_iff_eq, List.any_eq_true, List.all_eq_true, decide_eq_true_eq] at h1
  obtain ⟨⟨h2, h3⟩, ab, -, ⟨h4, h5⟩, h6⟩ := h1
  obtain ⟨k, of, tx, n⟩ := t
  obtain ⟨x, rfl⟩ := List.length_eq_one_iff.1 h3
  cases h2; cases hk; cases h4
  exact ⟨x, ab.1, ab.2, rfl, h5, h6⟩
theorem A9G {s : Ps} {w : LN} (h : ((List.range s.ts.length).any fun i => w == bts ((i : Nat) : Int)) = true) : Kok s w := by
  obtain ⟨i, h1, h2⟩ := List.any_eq_true.1 h
  exact fun _ => ⟨i, List.mem_range.1 h1, eq_of_beq h2⟩
def tmB (t : Tm) : Bool := Nat.blt t.kind 256 && decide (-9223372036854775808 ≤ t.n) && decide (t.n ≤ 9223372036854775807) && (t.of.all fun i => decide (-9223372036854775808 ≤ i) && decide (i ≤ 9223372036854775807)) && decide (t.of.length ≤ 1048576) && (t.text.all (· < 256)) && decide (t.text.length ≤ 1099511627776)
def tmE (a b : Tm) : Bool := a.kind == b.kind && a.of == b.of && a.text == b.text && a.n == b.n
def ndB : List Tm → Bool
  | [] => true
  | t :: r => (r.all fun u => !tmE t u) && ndB r
theorem B2G : ∀ {ts : List Tm}, ndB ts = true → ts.Nodup
  | [], _ => List.nodup_nil
  | t :: r, h => by
    simp only [ndB, Bool.and_eq_true, List.all_eq_true] at h
    refine List.nodup_cons.2 ⟨fun hm => ?_, B2G h.2⟩
    have := h.1 t hm
    simp [tmE] at this
theorem A9H {ts : List Tm} (h : (ts.all tmB && ndB ts) = true) : Tok ts := by
  simp only [Bool.and_eq_true, List.all_eq_true] at h
  refine ⟨fun t ht => ?_, B2G h.2⟩
  have h1 := h.1 t ht
  simp only [tmB, Bool.and_eq_true, decide_eq_true_eq, List.all_eq_true] at h1
  obtain ⟨⟨⟨⟨⟨⟨a, b⟩, c⟩, d⟩, e⟩, f⟩, g⟩ := h1
  exact ⟨C4 a, ⟨b, c⟩, d, e, ⟨f⟩, g⟩
def selB (ts : List Tm) (w wa wg t : LN) : Bool := wg.length == 32 && match plc wg ts.length, plc w ts.length with
  | some i, some j => match ts[i]? with
    | some u => u.kind == 6 && u.of == [((j : Nat) : Int)] && u.text == mark wa ++ mark t && u.n == 0
    | none => false
  | _, _ => false
theorem A4N {ts : List Tm} {w wa wg t : LN} (h : selB ts w wa wg t = true) : A3V ts w wa wg t := by
  unfold selB at h
  rw [Bool.and_eq_true] at h
  refine ⟨eq_of_beq h.1, ?_⟩
  have h2 := h.2
  cases hi : plc wg ts.length with
  | none => rw [hi] at h2; cases h2
  | some i =>
    cases hj : plc w ts.length with
    | none => rw [hi, hj] at h2; cases h2
    | some j =>
      rw [hi, hj] at h2
      dsimp only at h2
      cases hu : ts[i]? with
      | none => rw [hu] at h2; cases h2
      | some u =>
        rw [hu] at h2
        simp only [Bool.and_eq_true, beq_iff_eq] at h2
        obtain ⟨k, of, tx, n⟩ := u
        obtain ⟨⟨⟨rfl, rfl⟩, rfl⟩, rfl⟩ := h2
        exact ⟨i, j, rfl, rfl, hu⟩
def hiW : LN := [104, 105]
def hoW : LN := [104, 111]
def z0 : Ps := ⟨B0X, 0, []⟩
noncomputable def zA : Ks × Ps := A9t 0 1 z0
noncomputable def zB : Ks × Ps := A9t 1 1 zA.2
noncomputable def zU : List Bn × Ps := B1g zB.1 zB.2
noncomputable def zY : Bn := zU.1.getD 1 ⟨0, 0, [], [], 0, [], [], false, 0, []⟩
noncomputable def zX : Ses := sX zA.1 zY zU.2
noncomputable def zD : Ps := sD zA.1 zY zU.2
noncomputable def zW : LN := zX.wi ++ frW [] (W0 zX zX.he 0 1 1 1)
noncomputable def zE : Ps := A3h zD zX.r zW hiW
noncomputable def zV : Ev := ⟨0, 1, 1, 1, zX.id, zX.tell, zX.he, H8 zD zX.r.own, zX.r.prev, zX.r.sn, A06 zD zX.r zW hiW⟩
noncomputable def zX1 : Ses := K4 zX (F6 zD zX.r)
noncomputable def zN : Option (LN × LN) × Ps := anR zB.1 zV.he zE
noncomputable def zK : LN := (zN.1.getD ([], [])).1
noncomputable def zH : LN := (zN.1.getD ([], [])).2
noncomputable def zF : Ps := aC zB.1 zV zN.2
noncomputable def zR : Ses := aX zB.1 zV zN.2 zK zH
noncomputable def zC : Ps × Rsd := opB zF zR.r zV.hk zV.hp
noncomputable def zO : Ps × Rsd := opZ (A0T zR.r zV.hk) (opD zC zV.hn) (opG zR.r zC zV.hn)
noncomputable def zR1 : Ses := A9E zR zO.2
noncomputable def zW2 : LN := zR1.wi ++ frW [] (W0 zR1 he0 1 1 0 1)
noncomputable def zI : Ps := A3h zO.1 zR1.r zW2 hoW
noncomputable def zV2 : Ev := ⟨1, 1, 0, 1, zR1.id, zR1.tell, he0, H8 zO.1 zR1.r.own, zR1.r.prev, zR1.r.sn, A06 zO.1 zR1.r zW2 hoW⟩
noncomputable def zR2 : Ses := K4 zR1 (F6 zO.1 zR1.r)
noncomputable def zC2 : Ps × Rsd := opB zI zX1.r zV2.hk zV2.hp
noncomputable def zQ : Ps × Rsd := opZ (A0T zX1.r zV2.hk) (opD zC2 zV2.hn) (opG zX1.r zC2 zV2.hn)
theorem zf0 : zB.1.signed.length = 1 ∧ zB.1.once.length ≤ 10 ∧ zU.1.length = 5 ∧ zB.2.ts.length ≤ 100 ∧ zU.2.ts.length ≤ 100 ∧ zU.2.n ≤ 100 := by decide +kernel
theorem zf1 : Ar zU.2.ts := by unfold Ar; decide +kernel
theorem zf2 : ckB zU.2 zY = true := by decide +kernel
theorem zf3 : StH zA.1 zY zU.2 := by
  refine ⟨?_, ?_, ?_, ?_, ?_, ?_⟩ <;> decide +kernel
theorem zf4 : zD.ts.length + 200 ≤ 1000000 ∧ 0 < zX.r.sk.length ∧ zX.wi.length ≤ 1000000 ∧ zX.id.length + zX.he.ia.length + zX.he.ig.length + zX.he.key.length ≤ 1000000 ∧ zW.length ≤ 1000000 ∧ zX.tell = true ∧ 0 < zX.id.length := by decide +kernel
theorem zf5 : zE.ts.length ≤ 1000 ∧ zE.n ≤ 1000 ∧ zV.has = true ∧ zN.2.ts.length ≤ 1000 ∧ zN.2.n ≤ 1000 ∧ zV.he.ia.length + zV.he.ig.length + (idA zB.1 zN.2).length + (idG zB.1 zN.2).length ≤ 1000000 ∧ zV.ses.length + zV.he.ia.length + zV.he.ig.length + zV.he.key.length ≤ 1000000 := by decide +kernel
theorem zf6 : zN.1 = some (zK, zH) ∧ A3d (idS zB.1 zN.2) (aNm zB.1 zV zN.2) = zV.ses := by decide +kernel
theorem zf7 : A9s zB.1.once := B0z (by decide +kernel)
theorem zf8 : zF.ts.length ≤ 1000 ∧ zF.n ≤ 1000 ∧ zR.wi.length ≤ 1000000 ∧ (zR.wi ++ frW [] zV).length + zV.hk.length ≤ 1000000 ∧ zV.g.length ≤ 10000000 := by decide +kernel
theorem zf9 : U9 zF zR.r (zR.wi ++ frW [] zV) zV.hk zV.hp zV.hn zV.g = (zO.1, zO.2, 0, hiW) :=
  A4K (by decide +kernel) rfl (fun _ => by decide +kernel) (by decide +kernel) ((A0N rfl _ _ _).trans (A1E (A9H (by decide +kernel)) (A4N (by decide +kernel))))
theorem zf10 : OpnH zF zR.r zV.hk zV.hp zV.hn := by
  refine ⟨A07 [(alW zW zV.hk zV.hp zV.hn, hiW)] (by decide +kernel), fun k h => ?_, A07 [(alW zW zV.hk zV.hp zV.hn, hiW)] (by decide +kernel), A9G (by decide +kernel)⟩
  exact absurd h (by rw [show A2G zR.r.sks zV.hk zV.hn = none by decide +kernel]; simp)
theorem zf11 : zO.1.ts.length + 200 ≤ 1000000 ∧ zR1.tell = false ∧ 0 < zR1.r.sk.length ∧ zR1.wi.length ≤ 1000000 ∧ zR1.id.length ≤ 1000000 ∧ zW2.length ≤ 1000000 := by decide +kernel
theorem zf12 : zI.ts.length ≤ 1000 ∧ zI.n ≤ 1000 ∧ zX1.id = zV2.ses ∧ zX1.wi.length ≤ 1000000 ∧ zV2.ses.length ≤ 1000000 ∧ (zX1.wi ++ frW [] zV2).length + zV2.hk.length ≤ 1000000 ∧ zV2.g.length ≤ 10000000 ∧ zV2.has = false := by decide +kernel
theorem zf13 : U9 zI zX1.r (zX1.wi ++ frW [] zV2) zV2.hk zV2.hp zV2.hn zV2.g = (zQ.1, zQ.2, 0, hoW) :=
  A4K (by decide +kernel) rfl (fun _ => by decide +kernel) (by decide +kernel) ((A0N rfl _ _ _).trans (A1E (A9H (by decide +kernel)) (A4N (by decide +kernel))))
theorem zf14 : OpnH zI zX1.r zV2.hk zV2.hp zV2.hn := by
  refine ⟨A07 [(alW zW zV.hk zV.hp zV.hn, hiW), (alW zW2 zV2.hk zV2.hp zV2.hn, hoW)] (by decide +kernel), fun k h => ?_, A07 [(alW zW zV.hk zV.hp zV.hn, hiW), (alW zW2 zV2.hk zV2.hp zV2.hn, hoW)] (by decide +kernel), A9G (by decide +kernel)⟩
  exact absurd h (by rw [show A2G zX1.r.sks zV2.hk zV2.hn = none by decide +kernel]; simp)

theorem B3K : zU.1[1]? = some zY := by
  have h := zf0.2.2.1
  unfold zY
  rw [List.getD_eq_getElem?_getD, List.getElem?_eq_getElem qO]; rfl
def T1 (R : Mem) (tb pb ka kb : Nat) (s : Ps) (x0 : Ses) (M : Mem) : Prop := ∃ vi vw p0 r0 u0 vo vt vr vk0 vl vst MP, M = (tb, blk ((vP pb) :: (vP ka) :: (vP kb) :: .int .i64 0 :: .int .i64 1 :: .int .i64 1 :: .int .i64 1 :: vi :: vw :: p0 :: r0 :: u0 :: (vU x0.he.signed) :: .bool x0.he.has :: (vU x0.he.once) :: .bool x0.tell :: vo :: vt :: vr :: vk0 :: (vU x0.r.sn) :: vl :: (vU x0.r.tn) :: (vU x0.r.prev) :: vst :: vS :: vS :: vS :: vS :: vS :: .int .u32 0 :: .bool false :: .int .u32 0 :: .bool false :: vS :: vS :: vS :: vS :: .int .u32 0 :: vS :: .int .u32 0 :: .int .u32 0 :: .pointer none :: .bool true :: []) 57) :: MP ∧ SeR R x0 vi vw p0 r0 u0 vo vt vr vk0 vl vst ∧ Prm pb s MP
def T2 (R : Mem) (tb pb ka kb : Nat) (s : Ps) (x0 x1 : Ses) (M : Mem) : Prop := ∃ vi vw p0 r0 u0 vo vt vr vk0 vl vst wi ww p1 r1 u1 wo wt wr wk0 wl wst MP, M = (tb, blk [(vP pb), (vP ka), (vP kb), .int .i64 0, .int .i64 1, .int .i64 1, .int .i64 1, vi, vw, p0, r0, u0, (vU x0.he.signed), .bool x0.he.has, (vU x0.he.once), .bool x0.tell, vo, vt, vr, vk0, (vU x0.r.sn), vl, (vU x0.r.tn), (vU x0.r.prev), vst, wi, ww, p1, r1, u1, (vU x1.he.signed), .bool x1.he.has, (vU x1.he.once), .bool x1.tell, wo, wt, wr, wk0, (vU x1.r.sn), wl, (vU x1.r.tn), (vU x1.r.prev), wst, .bool true] 57) :: MP ∧ SeR R x0 vi vw p0 r0 u0 vo vt vr vk0 vl vst ∧ SeR R x1 wi ww p1 r1 u1 wo wt wr wk0 wl wst ∧ Prm pb s MP
def KyE (R : Mem) (kb : Nat) (k : Ks) : Prop := ∃ va vg vq vo vm rs ro rm, KyR R kb k va vg vq vo vm rs ro rm
set_option maxHeartbeats 1000000 in
theorem A8U (A : Mem) (hG : Glb A) : FnX Tryz.prog 10 [.int .u8 1, .int .u8 1] [] A fun q M J => ∃ tb pb ka kb, q = (vP tb) ∧ T1 (J ++ A) tb pb ka kb zD zX M ∧ KyE (J ++ A) kb zB.1 := by
 refine FnX.enterZ (N := 79) Tryz.func10 rfl rfl rfl fun w_ => ?_
 refine A7 (C7 0 1) (A1 (as_ (A0 (C7 0 1) (A1 (mv_ ?_)))))
 refine A3 (Y8 (a := 1) (b := 2) rfl rfl rfl rfl qD) rfl ?_
 rw [show ((1 % 2 : Nat) : Int) = 1 from rfl]
 refine A4 rfl (C0 (e := 5) (sz := 1) (z := [zu8, zu8, zu8, zu8, zu8, zu8, zu8]) kR (eS rfl (eS rfl (eS rfl (eS rfl (eS rfl (eS rfl (eS rfl e0))))))) (bdS 0 1 rfl qR (bdS 1 1 rfl qR (bdS 2 1 rfl qR (bdS 3 1 rfl qR (bdS 4 1 rfl qR (bdS 5 1 rfl qR (bdS 6 1 rfl qR bd0))))))) rfl fun b13 => ?_)
 refine A4 rfl (A5G rfl kR UpC.upd rfl ?_)
 refine A1t (B := [_]) (PickC.sing).perm ?_
 refine E4 (aS rfl (aS rfl a0)) kR (A6i _ [115, 101, 115, 115, 105, 111, 110] _ ⟨Rd.whole (n := 7) (At.mem) qR, by decide, by decide⟩) rfl ?_
 rintro v15 MP J15 ⟨pb, rfl, hP⟩
 change Prm pb z0 MP at hP
 have q1 := B0y 0 1 z0
 change zA.2.ts.length ≤ 11 ∧ zA.2.n ≤ 7 ∧ _ at q1
 refine mv_ ?_
 refine A3 (U6 rfl) rfl ?_
 refine A3 (U0 rfl) rfl ?_
 refine as_ (as_ (A0 (E0 1 5 6) (A6 (A1 (mv_ ?_)))))
 refine A3 (E7 false rfl rfl (neF rfl)) rfl ?_
 refine A0 (E0 1 5 19) ?_
 refine B0 rfl ?_
 refine A5 (nx (C7 1 5) (A1 (mv_ ?_)))
 refine A3 (D7 (place := fun x => #[(0, 1), (1, 1)][x]?) (z := [.int .i64 0, .int .i64 0]) (fun _ => by kernel_rfl) (eS rfl (eS rfl e0)) (bdS 0 1 rfl qR (bdS 1 1 rfl qR bd0))) rfl ?_
 refine A3 (D7 (place := fun x => #[(0, 1), (1, 1)][x]?) (z := [.int .i64 0, .int .i64 0]) (fun _ => by kernel_rfl) (eS rfl (eS rfl e0)) (bdS 0 1 rfl qR (bdS 1 1 rfl qR bd0))) rfl ?_
 refine A3 (D7 (place := fun i => some (i * 2, 2)) (z := [L7, L7, L7, L7]) (fun _ => by kernel_rfl) (eS rfl (eS rfl e0)) (bdS 0 2 rfl qR (bdS 2 2 rfl qR bd0))) rfl ?_
 refine A3 (D7 (place := fun x => #[(0, 1), (1, 2), (3, 4), (7, 36), (43, 1)][x]?) (z := (.pointer none :: .pointer none :: .pointer none :: .int .i64 0 :: .int .i64 0 :: .int .i64 0 :: .int .i64 0 :: vS :: vS :: vS :: vS :: vS :: .int .u32 0 :: .bool false :: .int .u32 0 :: .bool false :: vS :: vS :: vS :: vS :: .int .u32 0 :: vS :: .int .u32 0 :: .int .u32 0 :: .pointer none :: vS :: vS :: vS :: vS :: vS :: .int .u32 0 :: .bool false :: .int .u32 0 :: .bool false :: vS :: vS :: vS :: vS :: .int .u32 0 :: vS :: .int .u32 0 :: .int .u32 0 :: .pointer none :: .bool false :: [])) (fun _ => by kernel_rfl) (eS rfl (eS rfl e0)) (bdS 0 1 rfl qR (bdS 3 4 rfl qR bd0))) rfl ?_
 refine A4 rfl (bx_ fun b25 => ?_)
 refine as_ (A0 (E0 1 5 7) (A6 (A1 (as_ (A0 (F2 1 5 7 8) (C3 ?_))))))
 refine A5L 3 ?_
 refine A3y ?_
 refine A6 (A1 (mv_ ?_))
 refine A3 (E7 true rfl rfl (ltT qD)) rfl ?_
 refine A0 (H5 1 5 7 8 27) ?_
 refine F3 rfl ?_
 refine A5 (nx (F2 1 5 7 8) (A6 (C3 ?_)))
 refine N0 [0, 1, 2, 3, 4, 5, 6, 7, 8, 10, 11, 12] [(0, 0), (1, 0), (2, 0), (3, 0), (4, 0), (5, 0), (6, 0), (7, 0), (8, 1), (10, 0), (11, 0), (9, 2), (12, 0), (13, 2)] kR kR fun hs => ?_
 refine fm_ hs ?_
 refine fm_ hs ?_
 refine fm_ hs ?_
 refine fm_ hs ?_
 refine fm_ hs ?_
 refine D4 hs rfl (D2 rfl) rfl ?_
 refine D4 hs rfl (qf_ 3 3) rfl ?_
 refine D4 hs rfl (I9 (e := 53) (n := 2) (sz := 2) (i := 0) 3 rfl rfl kR kR rfl qD rfl) rfl ?_
 refine S0 hs rfl (D5 (n := 2) (vs := [.int .i64 0, .int .i64 1]) rfl kR At.mem rfl (C2 [(vP pb), .pointer none, .pointer none] [.int .i64 0, .int .i64 1] (.int .i64 1 :: .int .i64 1 :: vS :: vS :: vS :: vS :: vS :: .int .u32 0 :: .bool false :: .int .u32 0 :: .bool false :: vS :: vS :: vS :: vS :: .int .u32 0 :: vS :: .int .u32 0 :: .int .u32 0 :: .pointer none :: vS :: vS :: vS :: vS :: vS :: .int .u32 0 :: .bool false :: .int .u32 0 :: .bool false :: vS :: vS :: vS :: vS :: .int .u32 0 :: vS :: .int .u32 0 :: .int .u32 0 :: .pointer none :: .bool false :: []))) rfl ?_
 refine D4 hs rfl (D2 rfl) rfl ?_
 refine D4 hs rfl (qf_ 1 1) rfl ?_
 refine I3 rfl rfl rfl (B3 (Mc := MP) (R := _) (aS rfl (aS rfl (a0))) kR qP (FnX.amb qS (B2n 0 1 pb z0 MP A hP (show 0 + 200 ≤ 1048576 by decide) (show 0 + 100 < 1000000000 by decide) hG)) rfl ?_)
 rintro v39 M39 J39 ⟨ka, MA, MP2, rfl, rfl, hKa, hP2⟩
 change Kys _ ka zA.1 MA at hKa
 change Prm pb zA.2 MP2 at hP2
 refine D4 hs rfl (I9 (e := 50) (n := 2) (sz := 1) (i := 0) 1 rfl rfl kR kR rfl qD rfl) rfl ?_
 refine I3 rfl rfl rfl (F0 rfl rfl rfl kR SetC.set UpC.upd ?_)
 refine A1d (nb (nx (F2 1 5 7 8) (C8 (mv_ ?_))))
 refine A3 (K7 (1 : Int) rfl rfl (T4 qD qD qD)) rfl ?_
 refine as_ (E3 ?_)
 refine un (F2 1 5 7 8) ?_
 refine A3y ?_
 refine A6 (A1 (mv_ ?_))
 refine A3 (E7 true rfl rfl (ltT qD)) rfl ?_
 refine A0 (H5 1 5 7 8 27) ?_
 refine F3 rfl ?_
 refine A5 (nx (F2 1 5 7 8) (A6 (C3 ?_)))
 refine N0 [0, 1, 2, 3, 4, 5, 6, 7, 8, 10, 11, 12] [(0, 0), (1, 0), (2, 0), (3, 0), (4, 0), (5, 0), (6, 0), (7, 0), (8, 1), (10, 0), (11, 0), (9, 2), (12, 0), (13, 2)] kR kR fun hs => ?_
 refine fm_ hs ?_
 refine fm_ hs ?_
 refine fm_ hs ?_
 refine fm_ hs ?_
 refine fm_ hs ?_
 refine D4 hs rfl (D2 rfl) rfl ?_
 refine D4 hs rfl (qf_ 3 3) rfl ?_
 refine D4 hs rfl (I9 (e := 53) (n := 2) (sz := 2) (i := 1) 5 rfl rfl kR kR rfl qD rfl) rfl ?_
 refine S0 hs rfl (D5 (n := 2) (vs := [.int .i64 1, .int .i64 1]) rfl kR At.mem rfl (C2 [(vP pb), (vP ka), .pointer none, .int .i64 0, .int .i64 1] [.int .i64 1, .int .i64 1] (vS :: vS :: vS :: vS :: vS :: .int .u32 0 :: .bool false :: .int .u32 0 :: .bool false :: vS :: vS :: vS :: vS :: .int .u32 0 :: vS :: .int .u32 0 :: .int .u32 0 :: .pointer none :: vS :: vS :: vS :: vS :: vS :: .int .u32 0 :: .bool false :: .int .u32 0 :: .bool false :: vS :: vS :: vS :: vS :: .int .u32 0 :: vS :: .int .u32 0 :: .int .u32 0 :: .pointer none :: .bool false :: []))) rfl ?_
 refine D4 hs rfl (D2 rfl) rfl ?_
 refine D4 hs rfl (qf_ 1 1) rfl ?_
 refine I3 rfl rfl rfl (B3 (Mc := MP2) (R := _) (aS rfl (aS rfl (a0))) kR qP (FnX.amb qS (B2n 1 1 pb zA.2 MP2 (J39 ++ A) hP2 qO qO (hG.sub qS))) rfl ?_)
 rintro v139 M139 J139 ⟨kb, MB, MP3, rfl, rfl, hKb, hP3⟩
 change Kys _ kb zB.1 MB at hKb
 change Prm pb zB.2 MP3 at hP3
 refine D4 hs rfl (I9 (e := 50) (n := 2) (sz := 1) (i := 1) 2 rfl rfl kR kR rfl qD rfl) rfl ?_
 refine I3 rfl rfl rfl (F0 rfl rfl rfl kR SetC.set UpC.upd ?_)
 refine A1d (nb (nx (F2 1 5 7 8) (C8 (mv_ ?_))))
 refine A3 (K7 (2 : Int) rfl rfl (T4 qD qD qD)) rfl ?_
 refine as_ (E3 ?_)
 refine un (F2 1 5 7 8) ?_
 refine A3y ?_
 refine A6 (A1 (mv_ ?_))
 refine A3 (E7 false rfl rfl (ltF qD)) rfl ?_
 refine A0 (H5 1 5 7 8 27) ?_
 refine B0 rfl ?_
 refine H0 (te (ue (be rfl (nx (E0 1 5 7) ?_))))
 refine V7 (B := MA) qP ?_
 refine V7 (B := MB) qP ?_
 obtain ⟨va, vg, vq, vo, vm, rs, ro, rm, hra⟩ := hKa.r
 obtain ⟨ua, ug, uq, uo, um, ss, so, sm, hrb⟩ := hKb.r
 obtain ⟨f1, f2, f3, f4, f5, f6⟩ := zf0
 obtain ⟨x, hsg⟩ := List.length_eq_one_iff.1 f1
 refine A1 (mv_ ?_)
 refine A3 (D2 rfl) rfl ?_
 refine A3 (qf_ 1 1) rfl ?_
 refine A3 (I9 (e := 50) (n := 2) (sz := 1) (i := 1) 2 rfl rfl kR kR rfl qD rfl) rfl ?_
 refine A3 ql_ rfl ?_
 refine mv_ ?_
 refine A4 rfl (B3 (Mc := MP3) (R := _) (aS rfl (aS rfl (a0))) kR qP (FnX.amb qS (A6N pb zB.2 kb zB.1 ua ug uq uo um ss so sm x [] MP3 (MB ++ (MA ++ (J139 ++ (J39 ++ A)))) (hrb _ qS qS) hsg hP3 qO qO (hG.sub qS))) rfl ?_)
 rintro v49 M49 J49 ⟨hP49, rows, hrd, hrw⟩
 haveI := hrd.cel
 change Prm pb zU.2 M49 at hP49
 change Rd _ 10 _ zU.1.length _ at hrd
 change RwL bnR _ rows zU.1 at hrw
 obtain ⟨r0, hr0, w1, w2, w3, w4, w5, rfl, gw1, gw2, gw3, gw4, gw5, gws, gwo⟩ := hrw.get 1 zY B3K
 haveI := gw1.cel
 haveI := gw2.cel
 haveI := gw3.cel
 haveI := gw4.cel
 haveI := gw5.cel
 refine as_ (A0 (F2 1 5 7 9) (A6 (A1 (mv_ ?_))))
 refine A3 (E5 (sz := 10) rfl kR hrd) rfl ?_
 rw [f3]
 refine A3 (E7 false rfl rfl (neF qR)) rfl ?_
 refine A0 (H5 1 5 7 9 52) ?_
 refine B0 rfl ?_
 refine A5 (nx (F2 1 5 7 9) ?_)
 refine F4 [0, 1, 2, 3, 4, 5, 6, 7, 8, 9, 10, 11, 12, 14, 15, 16, 17, 18, 19, 21] [(0, 0), (1, 0), (2, 0), (3, 0), (4, 0), (5, 0), (6, 1), (7, 0), (8, 0), (9, 0), (10, 0), (11, 0), (12, 1), (17, 0), (18, 0), (13, 2), (14, 0), (15, 0), (16, 0), (19, 0), (20, 2), (21, 0)] kR kR fun hs => ?_
 refine fm_ hs ?_
 refine fm_ hs ?_
 refine fm_ hs ?_
 refine D4 hs rfl (D2 rfl) rfl ?_
 refine D4 hs rfl (qf_ 1 1) rfl ?_
 refine D4 hs rfl (I9 (e := 50) (n := 2) (sz := 1) (i := 0) 1 rfl rfl kR kR rfl qD rfl) rfl ?_
 refine S0 hs rfl ql_ rfl ?_
 refine fm_ hs ?_
 refine fm_ hs ?_
 refine D4 hs rfl (W2 (k' := .i64) 1 rfl kR qR) rfl ?_
 refine D4 hs rfl (Y8 (a := 1) (b := 5) rfl rfl rfl rfl qD) rfl ?_
 rw [show ((1 % 5 : Nat) : Int) = 1 from rfl]
 refine D4 hs rfl (F1 (sz := 10) (a := 1) rfl rfl kR rfl hrd (by rw [f3]; decide)) rfl ?_
 refine S0 hs rfl (U1 rfl kR (hrd.mono qS) (hrw.lens bnT) qD hr0) rfl ?_
 refine D4 hs rfl (D2 rfl) rfl ?_
 refine D4 hs rfl (qf_ 7 7) rfl ?_
 refine I3 rfl rfl rfl (B3 (Mc := M49) (R := _) (aS rfl (aS rfl (aS rfl (a0)))) kR qP (FnX.amb qS (A8T pb zU.2 ka zA.1 va vg vq vo vm rs ro rm zY w1 w2 w3 w4 w5 M49 (J49 ++ (MB ++ (MA ++ (J139 ++ (J39 ++ A))))) (hra _ qS qS) hP49 zf1 qO qO (gw1.mono qS) (gw2.mono qS) (gw3.mono qS) (gw4.mono qS) (gw5.mono qS) gws gwo zf2 zf3 (hG.sub qS))) rfl ?_)
 rintro v67 M67 J67 ⟨vi, vw, p, r, u, xo, xt, xr, xk, xl, xq, rfl, hP67, hx⟩
 change SeR _ zX vi vw p r u xo xt xr xk xl xq at hx
 change Prm pb zD M67 at hP67
 rw [show sX zA.1 zY zU.2 = zX from rfl]
 haveI := hx.id.cel
 haveI := hx.wi.cel
 haveI := hx.he.ia.cel
 haveI := hx.he.ig.cel
 haveI := hx.he.key.cel
 haveI := hx.r.own.cel
 haveI := hx.r.their.cel
 haveI := hx.r.root.cel
 haveI := hx.r.sk.cel
 haveI := hx.r.tk.cel
 haveI := hx.r.st.cel
 unfold seC
 refine fm_ hs ?_
 refine D4 hs rfl (U6 rfl) rfl ?_
 refine D4 hs rfl (U0 rfl) rfl ?_
 refine D4 hs rfl (I9 (e := 40) (n := 2) (sz := 18) (i := 0) 7 rfl rfl kR kR rfl qD rfl) rfl ?_
 refine I3 rfl rfl rfl (I1 (vs := [vi, vw, p, r, u, (vU zX.he.signed), .bool zX.he.has, (vU zX.he.once), .bool zX.tell, xo, xt, xr, xk, (vU zX.r.sn), xl, (vU zX.r.tn), (vU zX.r.prev), xq]) (cs' := ((vP pb) :: (vP ka) :: (vP kb) :: .int .i64 0 :: .int .i64 1 :: .int .i64 1 :: .int .i64 1 :: vi :: vw :: p :: r :: u :: (vU zX.he.signed) :: .bool zX.he.has :: (vU zX.he.once) :: .bool zX.tell :: xo :: xt :: xr :: xk :: (vU zX.r.sn) :: xl :: (vU zX.r.tn) :: (vU zX.r.prev) :: xq :: vS :: vS :: vS :: vS :: vS :: .int .u32 0 :: .bool false :: .int .u32 0 :: .bool false :: vS :: vS :: vS :: vS :: .int .u32 0 :: vS :: .int .u32 0 :: .int .u32 0 :: .pointer none :: .bool false :: [])) rfl rfl rfl kR (by exact (show 7 + 18 ≤ 44 by decide)) (A2 hx.id.one (A2 hx.wi.one (A2 hx.he.ia.one (A2 hx.he.ig.one (A2 hx.he.key.one (A2 rfl (A2 rfl (A2 rfl (A2 rfl (A2 hx.r.own.one (A2 hx.r.their.one (A2 hx.r.root.one (A2 hx.r.sk.one (A2 rfl (A2 hx.r.tk.one (A2 rfl (A2 rfl (A2 hx.r.st.one G9)))))))))))))))))) rfl UpC.upd ?_)
 refine fa_ hs ?_
 refine G8 (C7 6 7) (A1 (mv_ (mv_ ?_)))
 refine A3 (E7 true rfl rfl (eqT rfl)) rfl ?_
 refine A3 (D2 rfl) rfl ?_
 refine A3 (qf_ 43 43) rfl ?_
 refine A4 rfl (F0 rfl rfl rfl kR SetC.set UpC.upd ?_)
 refine A0 (C9 7) (A1 (mv_ (as_ (A0 (C9 4) (A8 ?_)))))
 exact ⟨_, (b25, blk ((vP pb) :: (vP ka) :: (vP kb) :: .int .i64 0 :: .int .i64 1 :: .int .i64 1 :: .int .i64 1 :: vi :: vw :: p :: r :: u :: (vU zX.he.signed) :: .bool zX.he.has :: (vU zX.he.once) :: .bool zX.tell :: xo :: xt :: xr :: xk :: (vU zX.r.sn) :: xl :: (vU zX.r.tn) :: (vU zX.r.prev) :: xq :: vS :: vS :: vS :: vS :: vS :: .int .u32 0 :: .bool false :: .int .u32 0 :: .bool false :: vS :: vS :: vS :: vS :: .int .u32 0 :: vS :: .int .u32 0 :: .int .u32 0 :: .pointer none :: .bool true :: []) 57) :: M67, [], G5 rfl rfl, Fit.none (Fit.pick (B := [_]) qP (Fit.last qP)), b25, pb, ka, kb, rfl, ⟨vi, vw, p, r, u, xo, xt, xr, xk, xl, xq, M67, rfl, hx.mono qS, hP67⟩, ua, ug, uq, uo, um, ss, so, sm, hrb _ qS qS⟩

end Go.Proofs.YtpemeceacdhacaaGreatDoor
namespace Go.Px
theorem St.frzInto {C : Cx} {w : World} : ∀ (M J : Mem), St C M J w → ∃ J2, (∀ x, x ∈ M ++ J → x ∈ J2) ∧ St C [] J2 w
  | [], J, h => ⟨J, fun x hx => hx, h⟩
  | y :: M, J, h => by
    obtain ⟨J2, h1, h2⟩ := St.frzInto M (y :: J) h.freeze
    refine ⟨J2, fun x hx => h1 x ?_, h2⟩
    simp only [List.cons_append, List.mem_cons, List.mem_append] at hx ⊢
    rcases hx with hx | hx | hx
    · exact .inr (.inl hx)
    · exact .inl hx
    · exact .inr (.inr hx)
theorem OpL.frzAll {C : Cx} {o : Oper} {l : Env} {M J : Mem} {K : Env → Mem → Mem → Prop} (h : OpL C o l M J fun l' M' J' => ∀ J2, (∀ x, x ∈ M' ++ J' → x ∈ J2) → K l' [] J2) : OpL C o l M J K := fun Qp a w ha hw =>
  Oper.wp_mono (fun a' w' ⟨l', M', J', h1, h2, h3⟩ => by
    obtain ⟨J2, g1, g2⟩ := St.frzInto M' J' h2
    exact ⟨l', [], J2, h1, g2, h3 J2 g1⟩) (h Qp a w ha hw)
end Go.Px

