/- Part 16 of the texts of this claim, one behind the other. -/
import Derived.Test.YtpemeceacdhacaaGreatDoorB15
set_option linter.unusedVariables false
set_option linter.unusedSimpArgs false
set_option maxRecDepth 100000
namespace Go.Proofs.YtpemeceacdhacaaGreatDoor
open Go.Px
def A1J (R : Mem) (v : Value) (x : Ses) : Prop := ∃ vi vw p r u vo vt vr vk vl vst, v = .agg (seC vi vw p r u vo vt vr vk vl vst x).toArray ∧ SeR R x vi vw p r u vo vt vr vk vl vst
def EvV (R : Mem) (v : Value) (e : Ev) : Prop := ∃ vs p r u vk vg, v = .agg (evC vs p r u vk vg e).toArray ∧ EvR R e vs p r u vk vg
theorem A1J.mono {R R' : Mem} {v : Value} {x : Ses} (h : A1J R v x) (hR : ∀ z, z ∈ R → z ∈ R') : A1J R' v x := by
  obtain ⟨a, b, c, d, e, f, g, i, j, k, l, h1, h2⟩ := h
  exact ⟨a, b, c, d, e, f, g, i, j, k, l, h1, h2.mono hR⟩
theorem EvV.mono {R R' : Mem} {v : Value} {x : Ev} (h : EvV R v x) (hR : ∀ z, z ∈ R → z ∈ R') : EvV R' v x := by
  obtain ⟨a, b, c, d, e, f, h1, h2⟩ := h
  exact ⟨a, b, c, d, e, f, h1, h2.mono hR⟩
def wiW (x : Ses) (h : He) (fu fd tu td : Int) : LN := x.wi ++ frW [] (W0 x h fu fd tu td)
noncomputable def evS (s : Ps) (x : Ses) (h : He) (fu fd tu td : Int) (tx : LN) : Ev := ⟨fu, fd, tu, td, x.id, x.tell, h, H8 s x.r.own, x.r.prev, x.r.sn, A06 s x.r (wiW x h fu fd tu td) tx⟩
set_option maxHeartbeats 1000000 in
theorem A7q (tb pb ka kb : Nat) (s : Ps) (x0 : Ses) (tx : LN) (M0 A : Mem) (hT : T1 A tb pb ka kb s x0 M0) (hn : s.ts.length + 200 ≤ 1000000) (htell : x0.tell = true) (hsk : 0 < x0.r.sk.length) (hwi : x0.wi.length ≤ 1000000) (hel : x0.id.length + x0.he.ia.length + x0.he.ig.length + x0.he.key.length ≤ 1000000) (hfl : (wiW x0 x0.he 0 1 1 1).length ≤ 1000000) (htx : B256 tx) (ltx : tx.length ≤ 1000000) (hG : Glb A) : FnX Tryz.prog 11 [(vP tb), .int .i64 0, .string (txt tx)] M0 A fun q M J => T1 (J ++ A) tb pb ka kb (A3h s x0.r (wiW x0 x0.he 0 1 1 1) tx) (K4 x0 (F6 s x0.r)) M ∧ ∃ v, q = .tuple #[v, .bool true] ∧ EvV (J ++ A) v (evS s x0 x0.he 0 1 1 1 tx) := by
 obtain ⟨vi, vw, p0, r0, u0, vo, vt, vr, vk0, vl, vst, MP, rfl, hx, hP⟩ := hT
 haveI := hx.id.cel
 haveI := hx.wi.cel
 haveI := hx.he.ia.cel
 haveI := hx.he.ig.cel
 haveI := hx.he.key.cel
 haveI := hx.r.own.cel
 haveI := hx.r.their.cel
 haveI := hx.r.root.cel
 haveI := hx.r.sk.cel
 haveI := hx.r.tk.cel
 haveI := hx.r.st.cel
 refine FnX.enterZ (N := 51) Tryz.func11 rfl rfl rfl fun w_ => ?_
 refine A7 (E0 0 1 2) (A1 ?_)
 refine A4 rfl (C5 (cs := [L7, L7, L7, L7, vS, .bool false, vS, vS, vS, D3, .bool false, D3, vS, D3, D3, vS]) kR rfl fun b6 => ?_)
 refine as_ (A0 (F2 0 1 2 6) ?_)
 refine D9 (MP) (_) true (0 :: 1 :: 2 :: 3 :: 4 :: 5 :: 6 :: 7 :: 8 :: 9 :: 10 :: 11 :: 12 :: 13 :: 14 :: 15 :: 16 :: 17 :: 18 :: 19 :: 20 :: 21 :: 22 :: 23 :: 24 :: 25 :: 26 :: 27 :: 28 :: 29 :: 30 :: 31 :: 34 :: []) ((0, 0) :: (1, 0) :: (2, 0) :: (3, 1) :: (4, 0) :: (5, 0) :: (6, 0) :: (7, 0) :: (8, 0) :: (9, 1) :: (10, 0) :: (11, 0) :: (12, 0) :: (13, 0) :: (14, 0) :: (15, 1) :: (16, 0) :: (17, 0) :: (18, 0) :: (19, 0) :: (20, 0) :: (21, 0) :: (22, 1) :: (23, 0) :: (24, 8) :: (25, 8) :: (26, 8) :: (27, 8) :: (30, 8) :: (31, 8) :: (28, 9) :: (29, 10) :: (32, 2) :: (33, 2) :: (34, 0) :: []) kR kR qP fun hs K n0 hKm hKs hKn => ?_
 refine km_ hs ?_
 refine E2 hs rfl (D2 rfl) rfl ?_
 refine E2 hs rfl (qf_ 0 0) rfl ?_
 refine H4 hs rfl hKs ql_ ?_
 refine km_ hs ?_
 refine km_ hs ?_
 refine E2 hs rfl (D2 rfl) rfl ?_
 refine E2 hs rfl (qf_ 7 7) rfl ?_
 refine E2 hs rfl (I9 (e := 40) (n := 2) (sz := 18) (i := 0) 7 rfl rfl kR kR rfl qD rfl) rfl ?_
 refine H4 hs rfl hKs (D5 (n := 18) (vs := [vi, vw, p0, r0, u0, (vU x0.he.signed), .bool x0.he.has, (vU x0.he.once), .bool x0.tell, vo, vt, vr, vk0, (vU x0.r.sn), vl, (vU x0.r.tn), (vU x0.r.prev), vst]) rfl kR At.mem rfl (C2 [(vP pb), (vP ka), (vP kb), .int .i64 0, .int .i64 1, .int .i64 1, .int .i64 1] [vi, vw, p0, r0, u0, (vU x0.he.signed), .bool x0.he.has, (vU x0.he.once), .bool x0.tell, vo, vt, vr, vk0, (vU x0.r.sn), vl, (vU x0.r.tn), (vU x0.r.prev), vst] [vS, vS, vS, vS, vS, .int .u32 0, .bool false, .int .u32 0, .bool false, vS, vS, vS, vS, .int .u32 0, vS, .int .u32 0, .int .u32 0, .pointer none, .bool true])) ?_
 refine km_ hs ?_
 refine km_ hs ?_
 refine E2 hs rfl (D2 rfl) rfl ?_
 refine E2 hs rfl (qf_ 3 3) rfl ?_
 refine E2 hs rfl (I9 (e := 53) (n := 2) (sz := 2) (i := 0) 3 rfl rfl kR kR rfl qD rfl) rfl ?_
 refine H4 hs rfl hKs (D5 (n := 2) (vs := [.int .i64 0, .int .i64 1]) rfl kR At.mem rfl (C2 [(vP pb), (vP ka), (vP kb)] [.int .i64 0, .int .i64 1] (.int .i64 1 :: .int .i64 1 :: vi :: vw :: p0 :: r0 :: u0 :: (vU x0.he.signed) :: .bool x0.he.has :: (vU x0.he.once) :: .bool x0.tell :: vo :: vt :: vr :: vk0 :: (vU x0.r.sn) :: vl :: (vU x0.r.tn) :: (vU x0.r.prev) :: vst :: vS :: vS :: vS :: vS :: vS :: .int .u32 0 :: .bool false :: .int .u32 0 :: .bool false :: vS :: vS :: vS :: vS :: .int .u32 0 :: vS :: .int .u32 0 :: .int .u32 0 :: .pointer none :: .bool true :: []))) ?_
 refine km_ hs ?_
 refine km_ hs ?_
 refine E2 hs rfl (K7 1 rfl rfl qR) rfl ?_
 refine E2 hs rfl (D2 rfl) rfl ?_
 refine E2 hs rfl (qf_ 3 3) rfl ?_
 refine E2 hs rfl (I9 (e := 53) (n := 2) (sz := 2) (i := 1) 5 rfl rfl kR kR rfl qD rfl) rfl ?_
 refine H4 hs rfl hKs (D5 (n := 2) (vs := [.int .i64 1, .int .i64 1]) rfl kR At.mem rfl (C2 [(vP pb), (vP ka), (vP kb), .int .i64 0, .int .i64 1] [.int .i64 1, .int .i64 1] (vi :: vw :: p0 :: r0 :: u0 :: (vU x0.he.signed) :: .bool x0.he.has :: (vU x0.he.once) :: .bool x0.tell :: vo :: vt :: vr :: vk0 :: (vU x0.r.sn) :: vl :: (vU x0.r.tn) :: (vU x0.r.prev) :: vst :: vS :: vS :: vS :: vS :: vS :: .int .u32 0 :: .bool false :: .int .u32 0 :: .bool false :: vS :: vS :: vS :: vS :: .int .u32 0 :: vS :: .int .u32 0 :: .int .u32 0 :: .pointer none :: .bool true :: []))) ?_
 refine km_ hs ?_
 refine V9 [⟨24, 36, none, [], fun v B R => B = [] ∧ By R v tx⟩, ⟨25, 37, none, MP, fun v B R => ∃ q1 q2, v = .tuple #[q1, q2, .int .i64 0] ∧ Prm pb (A3h s x0.r (wiW x0 x0.he 0 1 1 1) tx) B ∧ A1J R q1 (K4 x0 (F6 s x0.r)) ∧ EvV R q2 (evS s x0 x0.he 0 1 1 1 tx)⟩, ⟨26, 11, none, [], fun v B R => B = [] ∧ ∃ q1 q2, v = .tuple #[q1, q2, .int .i64 0] ∧ A1J R q1 (K4 x0 (F6 s x0.r)) ∧ EvV R q2 (evS s x0 x0.he 0 1 1 1 tx)⟩, ⟨27, 38, none, [], fun v B R => B = [] ∧ A1J R v (K4 x0 (F6 s x0.r))⟩, ⟨30, 8, none, [], fun v B _ => ∃ b, v = (vP b) ∧ B = [(b, blk [vS, vS, vS, vS, vS, .int .u32 0, .bool false, .int .u32 0, .bool false, vS, vS, vS, vS, .int .u32 0, vS, .int .u32 0, .int .u32 0, .pointer none] 40)]⟩, ⟨31, 9, none, [], fun v B _ => ∃ b, v = (vP b) ∧ B = [(b, blk [.int .i64 0, .int .i64 0, .int .i64 0, .int .i64 0, vS, .bool false, vS, vS, vS, .int .u32 0, .bool false, .int .u32 0, vS, .int .u32 0, .int .u32 0, vS] 61)]⟩] [⟨28, 39, none, [], fun v B R => B = [] ∧ EvV R v (evS s x0 x0.he 0 1 1 1 tx)⟩, ⟨29, 40, none, [], fun v B R => B = [] ∧ v = .int .i64 0⟩] ([(b6, blk [.int .i64 0, .int .i64 0, .int .i64 0, .int .i64 0, vS, .bool false, vS, vS, vS, .int .u32 0, .bool false, .int .u32 0, vS, .int .u32 0, .int .u32 0, vS] 61), (tb, blk ((vP pb) :: (vP ka) :: (vP kb) :: .int .i64 0 :: .int .i64 1 :: .int .i64 1 :: .int .i64 1 :: vi :: vw :: p0 :: r0 :: u0 :: (vU x0.he.signed) :: .bool x0.he.has :: (vU x0.he.once) :: .bool x0.tell :: vo :: vt :: vr :: vk0 :: (vU x0.r.sn) :: vl :: (vU x0.r.tn) :: (vU x0.r.prev) :: vst :: vS :: vS :: vS :: vS :: vS :: .int .u32 0 :: .bool false :: .int .u32 0 :: .bool false :: vS :: vS :: vS :: vS :: .int .u32 0 :: vS :: .int .u32 0 :: .int .u32 0 :: .pointer none :: .bool true :: []) 57)]) (fun bs => [bs 24, bs 25, bs 26, bs 27, bs 30, bs 31, bs 28, bs 29]) (hKn rfl) (by simp [N9, U7]) (show ∀ m ∈ ([[], MP, [], [], [], [], [], []] : List Mem), ∀ x ∈ m, K x.1 from A2 (fun _ h => by cases h) (A2 (hKm) (A2 (fun _ h => by cases h) (A2 (fun _ h => by cases h) (A2 (fun _ h => by cases h) (A2 (fun _ h => by cases h) (A2 (fun _ h => by cases h) (A2 (fun _ h => by cases h) (G9))))))))) kR (fun _ => by first | rfl | kernel_rfl)
  (A2 (fun _ _ _ _ h hp => ⟨hp.1, hp.2.mono h⟩) (A2 (fun _ _ _ _ h ⟨q1, q2, e, p1, p2, p3⟩ => ⟨q1, q2, e, p1, p2.mono h, p3.mono h⟩) (A2 (fun _ _ _ _ h ⟨e0, q1, q2, e, p2, p3⟩ => ⟨e0, q1, q2, e, p2.mono h, p3.mono h⟩) (A2 (fun _ _ _ _ h hp => ⟨hp.1, hp.2.mono h⟩) (A2 (fun _ _ _ _ _ h => h) (A2 (fun _ _ _ _ _ h => h) (A2 (fun _ _ _ _ h hp => ⟨hp.1, hp.2.mono h⟩) (A2 (fun _ _ _ _ _ h => h) (G9))))))))) (show List.Nodup [36, 37, 11, 38, 8, 9, 39, 40] by decide) (show List.Nodup [24, 25, 26, 27, 30, 31, 28, 29] by decide) (A2 (C4 rfl) (A2 (C4 rfl) (A2 (C4 rfl) (A2 (C4 rfl) (A2 (C4 rfl) (A2 (C4 rfl) (A2 (C4 rfl) (A2 (C4 rfl) (G9)))))))))
  hs (List.cons_ne_nil _ _) (A2 ⟨_, rfl, fun vs bs R Rj wG hb hj hjr ha => ⟨.inl rfl, ?_⟩⟩ (A2 ⟨_, rfl, fun vs bs R Rj wG hb hj hjr ha => ⟨.inl rfl, ?_⟩⟩ (A2 ⟨_, rfl, fun vs bs R Rj wG hb hj hjr ha => ⟨.inl rfl, ?_⟩⟩ (A2 ⟨_, rfl, fun vs bs R Rj wG hb hj hjr ha => ⟨.inl rfl, ?_⟩⟩ (A2 ⟨_, rfl, fun vs bs R Rj wG hb hj hjr ha => ⟨.inl rfl, ?_⟩⟩ (A2 ⟨_, rfl, fun vs bs R Rj wG hb hj hjr ha => ⟨.inl rfl, ?_⟩⟩ (G9))))))) (A2 ⟨rfl, rfl, _, _, _, _, rfl, fun vs bs Rj hj ha => ?_⟩ (A2 ⟨rfl, rfl, _, _, _, _, rfl, fun vs bs Rj hj ha => ?_⟩ (G9))) ?_
 ·
  dsimp only [Gc.inp]
  refine OpL.frzAll ?_
  refine A0o (e := 5) rfl rfl htx.lt kR kR kR rfl fun v B hs J2 hJ => ⟨_, rfl, rfl, ⟨hs.mono fun x hx => List.mem_append_left _ (hJ _ (by simp [hx])), htx.lt, Nat.le_trans ltx qD⟩⟩
 ·
  dsimp only [Gc.inp]
  have g24 := ha _ (List.mem_of_getElem? (i := 0) rfl) kR
  replace g24 : (fun v B R => B = [] ∧ By R v tx) (vs 24) (bs 24) Rj := g24
  dsimp only at g24
  obtain ⟨-, h24⟩ := g24
  haveI := h24.cel
  refine B3 (Mc := MP) (R := []) (aS rfl (aS rfl (aS rfl (aS rfl (aS rfl (a0)))))) kR qM (FnX.amb (A := Rj) (fun x hx => by have := hjr x hx; simp [this]) (B07 pb s x0 vi vw p0 r0 u0 vo vt vr vk0 vl vst _ 0 1 1 1 tx MP Rj hP hn (hx.mono (fun x hx => hj x (qS x hx))) htell hsk hwi hel hfl h24 ltx (hG.sub (fun x hx => hj x (qS x hx))))) rfl ?_
  rintro v125 M125 J125 ⟨wo, wt, wr, wk, wl, wq, vid, q2, q3, rfl, hP25, p2, p3⟩
  exact ⟨_, rfl, _, _, rfl, (by have h := (show Prm pb (A3h s x0.r (wiW x0 x0.he 0 1 1 1) tx) M125 from hP25); simpa using h), ⟨_, _, _, _, _, _, _, _, _, _, _, rfl, p2.mono (fun x hx => by simpa using hx)⟩, ⟨_, _, _, _, _, _, rfl, p3.mono (fun x hx => by simpa using hx)⟩⟩
 ·
  dsimp only [Gc.inp]
  have g25 := ha _ (List.mem_of_getElem? (i := 1) rfl) kR
  replace g25 : (fun v B R => ∃ q1 q2, v = .tuple #[q1, q2, .int .i64 0] ∧ Prm pb (A3h s x0.r (wiW x0 x0.he 0 1 1 1) tx) B ∧ A1J R q1 (K4 x0 (F6 s x0.r)) ∧ EvV R q2 (evS s x0 x0.he 0 1 1 1 tx)) (vs 25) (bs 25) Rj := g25
  dsimp only at g25
  obtain ⟨q1, q2, e_, -, k⟩ := g25
  exact OpQ.opL qm_ rfl ⟨_, rfl, rfl, q1, q2, e_, k⟩
 ·
  dsimp only [Gc.inp]
  have g26 := ha _ (List.mem_of_getElem? (i := 2) rfl) kR
  replace g26 : (fun v B R => B = [] ∧ ∃ q1 q2, v = .tuple #[q1, q2, .int .i64 0] ∧ A1J R q1 (K4 x0 (F6 s x0.r)) ∧ EvV R q2 (evS s x0 x0.he 0 1 1 1 tx)) (vs 26) (bs 26) Rj := g26
  dsimp only at g26
  obtain ⟨-, q1, q2, e_, k, -⟩ := g26
  exact OpQ.opL (F8 (vs := #[q1, q2, .int .i64 0]) (by rw [← e_]; rfl) rfl) rfl ⟨_, rfl, rfl, k⟩
 ·
  dsimp only [Gc.inp]
  exact C5 (cs := [vS, vS, vS, vS, vS, D3, .bool false, D3, .bool false, vS, vS, vS, vS, D3, vS, D3, D3, .pointer none]) kR rfl fun b => ⟨_, rfl, b, rfl, rfl⟩
 ·
  dsimp only [Gc.inp]
  exact C5 (cs := [L7, L7, L7, L7, vS, .bool false, vS, vS, vS, D3, .bool false, D3, vS, D3, D3, vS]) kR rfl fun b => ⟨_, rfl, b, rfl, rfl⟩
 ·
  have g26 := ha _ (List.mem_of_getElem? (i := 2) rfl) kR
  replace g26 : (fun v B R => B = [] ∧ ∃ q1 q2, v = .tuple #[q1, q2, .int .i64 0] ∧ A1J R q1 (K4 x0 (F6 s x0.r)) ∧ EvV R q2 (evS s x0 x0.he 0 1 1 1 tx)) (vs 26) (bs 26) Rj := g26
  dsimp only at g26
  obtain ⟨-, q1, q2, e_, -, k⟩ := g26
  exact ⟨_, F8 (vs := #[q1, q2, .int .i64 0]) (by rw [← e_]; rfl) rfl, rfl, k⟩
 ·
  have g26 := ha _ (List.mem_of_getElem? (i := 2) rfl) kR
  replace g26 : (fun v B R => B = [] ∧ ∃ q1 q2, v = .tuple #[q1, q2, .int .i64 0] ∧ A1J R q1 (K4 x0 (F6 s x0.r)) ∧ EvV R q2 (evS s x0 x0.he 0 1 1 1 tx)) (vs 26) (bs 26) Rj := g26
  dsimp only at g26
  obtain ⟨-, q1, q2, e_, -⟩ := g26
  exact ⟨_, F8 (vs := #[q1, q2, .int .i64 0]) (by rw [← e_]; rfl) rfl, rfl, rfl⟩
 intro vs bs Jn0 hφ hKK
 have kk24 := hKK _ (List.mem_of_getElem? (i := 0) rfl)
 dsimp only at kk24
 have kk25 := hKK _ (List.mem_of_getElem? (i := 1) rfl)
 dsimp only at kk25
 have kk26 := hKK _ (List.mem_of_getElem? (i := 2) rfl)
 dsimp only at kk26
 have kk27 := hKK _ (List.mem_of_getElem? (i := 3) rfl)
 dsimp only at kk27
 have kk30 := hKK _ (List.mem_of_getElem? (i := 4) rfl)
 dsimp only at kk30
 have kk31 := hKK _ (List.mem_of_getElem? (i := 5) rfl)
 dsimp only at kk31
 have kk28 := hKK _ (List.mem_of_getElem? (i := 6) rfl)
 dsimp only at kk28
 have kk29 := hKK _ (List.mem_of_getElem? (i := 7) rfl)
 dsimp only at kk29
 clear hKK
 have g24 := ofH hφ
 dsimp only at g24
 replace hφ := ofT hφ
 have g25 := ofH hφ
 dsimp only at g25
 replace hφ := ofT hφ
 have g26 := ofH hφ
 dsimp only at g26
 replace hφ := ofT hφ
 have g27 := ofH hφ
 dsimp only at g27
 replace hφ := ofT hφ
 have g30 := ofH hφ
 dsimp only at g30
 replace hφ := ofT hφ
 have g31 := ofH hφ
 dsimp only at g31
 replace hφ := ofT hφ
 have g28 := ofH hφ
 dsimp only at g28
 replace hφ := ofT hφ
 have g29 := ofH hφ
 dsimp only at g29
 clear hφ
 dsimp only [L5, N9, List.foldr, List.map, List.cons_append, List.nil_append]
 generalize bs 24 = B36 at *
 generalize bs 25 = B37 at *
 generalize bs 26 = B11 at *
 generalize bs 27 = B38 at *
 generalize bs 30 = B8 at *
 generalize bs 31 = B9 at *
 generalize bs 28 = B39 at *
 generalize bs 29 = B40 at *
 generalize vs 24 = u36 at *
 generalize vs 25 = u37 at *
 generalize vs 26 = u11 at *
 generalize vs 27 = u38 at *
 generalize vs 30 = u8 at *
 generalize vs 31 = u9 at *
 generalize vs 28 = u39 at *
 generalize vs 29 = u40 at *
 obtain ⟨-, -, -, hP27, -⟩ := g25
 clear g26
 obtain ⟨rfl, h24⟩ := g24
 obtain ⟨rfl, ni, nw, np, nr, nu, no_, nt, nrr, nk, nl, nst, rfl, hn1⟩ := g27
 obtain ⟨rfl, es, ep, er, eu, ek, eg, rfl, hn2⟩ := g28
 obtain ⟨rfl, rfl⟩ := g29
 obtain ⟨b8, rfl, rfl⟩ := g30
 obtain ⟨b9, rfl, rfl⟩ := g31
 haveI := hn1.id.cel
 haveI := hn1.wi.cel
 haveI := hn1.he.ia.cel
 haveI := hn1.he.ig.cel
 haveI := hn1.he.key.cel
 haveI := hn1.r.own.cel
 haveI := hn1.r.their.cel
 haveI := hn1.r.root.cel
 haveI := hn1.r.sk.cel
 haveI := hn1.r.tk.cel
 haveI := hn1.r.st.cel
 haveI := hn2.ses.cel
 haveI := hn2.he.ia.cel
 haveI := hn2.he.ig.cel
 haveI := hn2.he.key.cel
 haveI := hn2.hk.cel
 haveI := hn2.g.cel
 unfold seC evC
 refine I4 rfl rfl rfl (A9 (vs := [ni, nw, np, nr, nu, .int .u32 (((K4 x0 (F6 s x0.r)).he.signed : Nat) : Int), .bool (K4 x0 (F6 s x0.r)).he.has, .int .u32 (((K4 x0 (F6 s x0.r)).he.once : Nat) : Int), .bool (K4 x0 (F6 s x0.r)).tell, no_, nt, nrr, nk, .int .u32 (((K4 x0 (F6 s x0.r)).r.sn : Nat) : Int), nl, .int .u32 (((K4 x0 (F6 s x0.r)).r.tn : Nat) : Int), .int .u32 (((K4 x0 (F6 s x0.r)).r.prev : Nat) : Int), nst]) rfl rfl rfl kR qR (A2 hn1.id.one (A2 hn1.wi.one (A2 hn1.he.ia.one (A2 hn1.he.ig.one (A2 hn1.he.key.one (A2 rfl (A2 rfl (A2 rfl (A2 rfl (A2 hn1.r.own.one (A2 hn1.r.their.one (A2 hn1.r.root.one (A2 hn1.r.sk.one (A2 rfl (A2 hn1.r.tk.one (A2 rfl (A2 rfl (A2 hn1.r.st.one G9)))))))))))))))))) UpC.upd ?_)
 refine I4 rfl rfl rfl (A9 (vs := [.int .i64 0, .int .i64 1, .int .i64 1, .int .i64 1, es, .bool x0.tell, ep, er, eu, (vU x0.he.signed), .bool x0.he.has, (vU x0.he.once), ek, (vU x0.r.prev), (vU x0.r.sn), eg]) rfl rfl rfl kR qR (A2 rfl (A2 rfl (A2 rfl (A2 rfl (A2 hn2.ses.one (A2 rfl (A2 hn2.he.ia.one (A2 hn2.he.ig.one (A2 hn2.he.key.one (A2 rfl (A2 rfl (A2 rfl (A2 hn2.hk.one (A2 rfl (A2 rfl (A2 hn2.g.one G9)))))))))))))))) UpC.upd ?_)
 refine E2 hs rfl (E8 rfl) rfl ?_
 refine G2 (I8 0 1 6 8 9 10) (A6 (A1 (mv_ ?_)))
 refine A3 (E7 false rfl rfl (neF rfl)) rfl ?_
 refine A0 (I8 0 1 6 8 9 42) ?_
 refine B0 rfl ?_
 refine A5 (nx (H5 0 1 6 8 9) ?_)
 refine F4 [0, 1, 2, 3, 4, 5] (zp 0 [0, 0, 1, 0, 0, 0, 2]) kR kR fun hs => ?_
 refine fm_ hs ?_
 refine fm_ hs ?_
 refine S0 hs rfl (qw_ 18) rfl ?_
 refine D4 hs rfl (D2 rfl) rfl ?_
 refine D4 hs rfl (qf_ 7 7) rfl ?_
 refine D4 hs rfl (I9 (e := 40) (n := 2) (sz := 18) (i := 0) 7 rfl rfl kR kR rfl qD rfl) rfl ?_
 refine I3 rfl rfl rfl (I1 (vs := [ni, nw, np, nr, nu, .int .u32 (((K4 x0 (F6 s x0.r)).he.signed : Nat) : Int), .bool (K4 x0 (F6 s x0.r)).he.has, .int .u32 (((K4 x0 (F6 s x0.r)).he.once : Nat) : Int), .bool (K4 x0 (F6 s x0.r)).tell, no_, nt, nrr, nk, .int .u32 (((K4 x0 (F6 s x0.r)).r.sn : Nat) : Int), nl, .int .u32 (((K4 x0 (F6 s x0.r)).r.tn : Nat) : Int), .int .u32 (((K4 x0 (F6 s x0.r)).r.prev : Nat) : Int), nst]) (cs' := ((vP pb) :: (vP ka) :: (vP kb) :: .int .i64 0 :: .int .i64 1 :: .int .i64 1 :: .int .i64 1 :: ni :: nw :: np :: nr :: nu :: .int .u32 (((K4 x0 (F6 s x0.r)).he.signed : Nat) : Int) :: .bool (K4 x0 (F6 s x0.r)).he.has :: .int .u32 (((K4 x0 (F6 s x0.r)).he.once : Nat) : Int) :: .bool (K4 x0 (F6 s x0.r)).tell :: no_ :: nt :: nrr :: nk :: .int .u32 (((K4 x0 (F6 s x0.r)).r.sn : Nat) : Int) :: nl :: .int .u32 (((K4 x0 (F6 s x0.r)).r.tn : Nat) : Int) :: .int .u32 (((K4 x0 (F6 s x0.r)).r.prev : Nat) : Int) :: nst :: vS :: vS :: vS :: vS :: vS :: .int .u32 0 :: .bool false :: .int .u32 0 :: .bool false :: vS :: vS :: vS :: vS :: .int .u32 0 :: vS :: .int .u32 0 :: .int .u32 0 :: .pointer none :: .bool true :: [])) rfl rfl rfl kR (by exact (show 7 + 18 ≤ 44 by decide)) (A2 hn1.id.one (A2 hn1.wi.one (A2 hn1.he.ia.one (A2 hn1.he.ig.one (A2 hn1.he.key.one (A2 rfl (A2 rfl (A2 rfl (A2 rfl (A2 hn1.r.own.one (A2 hn1.r.their.one (A2 hn1.r.root.one (A2 hn1.r.sk.one (A2 rfl (A2 hn1.r.tk.one (A2 rfl (A2 rfl (A2 hn1.r.st.one G9)))))))))))))))))) rfl UpC.upd ?_)
 refine G8 (C7 6 9) (A1 ?_)
 refine A3 (qw_ 16) rfl ?_
 refine A4 rfl (A9 (vs := [.int .i64 0, .int .i64 1, .int .i64 1, .int .i64 1, es, .bool x0.tell, ep, er, eu, (vU x0.he.signed), .bool x0.he.has, (vU x0.he.once), ek, (vU x0.r.prev), (vU x0.r.sn), eg]) rfl rfl rfl kR qR (A2 rfl (A2 rfl (A2 rfl (A2 rfl (A2 hn2.ses.one (A2 rfl (A2 hn2.he.ia.one (A2 hn2.he.ig.one (A2 hn2.he.key.one (A2 rfl (A2 rfl (A2 rfl (A2 hn2.hk.one (A2 rfl (A2 rfl (A2 hn2.g.one G9)))))))))))))))) UpC.upd ?_)
 refine as_ (A0 (C7 6 7) (A8 ?_))
 exact ⟨_, (tb, blk ((vP pb) :: (vP ka) :: (vP kb) :: .int .i64 0 :: .int .i64 1 :: .int .i64 1 :: .int .i64 1 :: ni :: nw :: np :: nr :: nu :: .int .u32 (((K4 x0 (F6 s x0.r)).he.signed : Nat) : Int) :: .bool (K4 x0 (F6 s x0.r)).he.has :: .int .u32 (((K4 x0 (F6 s x0.r)).he.once : Nat) : Int) :: .bool (K4 x0 (F6 s x0.r)).tell :: no_ :: nt :: nrr :: nk :: .int .u32 (((K4 x0 (F6 s x0.r)).r.sn : Nat) : Int) :: nl :: .int .u32 (((K4 x0 (F6 s x0.r)).r.tn : Nat) : Int) :: .int .u32 (((K4 x0 (F6 s x0.r)).r.prev : Nat) : Int) :: nst :: vS :: vS :: vS :: vS :: vS :: .int .u32 0 :: .bool false :: .int .u32 0 :: .bool false :: vS :: vS :: vS :: vS :: .int .u32 0 :: vS :: .int .u32 0 :: .int .u32 0 :: .pointer none :: .bool true :: []) 57) :: B37, [], Z5 (n := 16) rfl rfl rfl kR At.mem qR, Fit.none (Fit.pick (B := [_]) qP (Fit.last qP)), ⟨ni, nw, np, nr, nu, no_, nt, nrr, nk, nl, nst, B37, rfl, hn1.mono qS, hP27⟩, _, rfl, ⟨es, ep, er, eu, ek, eg, rfl, hn2.mono qS⟩⟩
set_option maxHeartbeats 1000000 in
theorem A7r (tb pb ka kb : Nat) (s : Ps) (x0 x1 : Ses) (tx : LN) (M0 A : Mem) (hT : T2 A tb pb ka kb s x0 x1 M0) (hn : s.ts.length + 200 ≤ 1000000) (htell : x1.tell = false) (hsk : 0 < x1.r.sk.length) (hwi : x1.wi.length ≤ 1000000) (hel : x1.id.length + he0.ia.length + he0.ig.length + he0.key.length ≤ 1000000) (hfl : (wiW x1 he0 1 1 0 1).length ≤ 1000000) (htx : B256 tx) (ltx : tx.length ≤ 1000000) (hG : Glb A) : FnX Tryz.prog 11 [(vP tb), .int .i64 1, .string (txt tx)] M0 A fun q M J => T2 (J ++ A) tb pb ka kb (A3h s x1.r (wiW x1 he0 1 1 0 1) tx) x0 (K4 x1 (F6 s x1.r)) M ∧ ∃ v, q = .tuple #[v, .bool true] ∧ EvV (J ++ A) v (evS s x1 he0 1 1 0 1 tx) := by
 obtain ⟨vi, vw, p0, r0, u0, vo, vt, vr, vk0, vl, vst, wi, ww, p1, r1, u1, wo, wt, wr, wk0, wl, wst, MP, rfl, hx, hy, hP⟩ := hT
 haveI := hx.id.cel
 haveI := hx.wi.cel
 haveI := hx.he.ia.cel
 haveI := hx.he.ig.cel
 haveI := hx.he.key.cel
 haveI := hx.r.own.cel
 haveI := hx.r.their.cel
 haveI := hx.r.root.cel
 haveI := hx.r.sk.cel
 haveI := hx.r.tk.cel
 haveI := hx.r.st.cel
 haveI := hy.id.cel
 haveI := hy.wi.cel
 haveI := hy.he.ia.cel
 haveI := hy.he.ig.cel
 haveI := hy.he.key.cel
 haveI := hy.r.own.cel
 haveI := hy.r.their.cel
 haveI := hy.r.root.cel
 haveI := hy.r.sk.cel
 haveI := hy.r.tk.cel
 haveI := hy.r.st.cel
 refine FnX.enterZ (N := 51) Tryz.func11 rfl rfl rfl fun w_ => ?_
 refine A7 (E0 0 1 2) (A1 ?_)
 refine A4 rfl (C5 (cs := [L7, L7, L7, L7, vS, .bool false, vS, vS, vS, D3, .bool false, D3, vS, D3, D3, vS]) kR rfl fun b6 => ?_)
 refine as_ (A0 (F2 0 1 2 6) ?_)
 refine D9 (MP) (_) true (0 :: 1 :: 2 :: 3 :: 4 :: 5 :: 6 :: 7 :: 8 :: 9 :: 10 :: 11 :: 12 :: 13 :: 14 :: 15 :: 16 :: 17 :: 18 :: 19 :: 20 :: 21 :: 22 :: 23 :: 24 :: 25 :: 26 :: 27 :: 28 :: 29 :: 30 :: 31 :: 34 :: []) ((0, 0) :: (1, 0) :: (2, 0) :: (3, 1) :: (4, 0) :: (5, 0) :: (6, 0) :: (7, 0) :: (8, 0) :: (9, 1) :: (10, 0) :: (11, 0) :: (12, 0) :: (13, 0) :: (14, 0) :: (15, 1) :: (16, 0) :: (17, 0) :: (18, 0) :: (19, 0) :: (20, 0) :: (21, 0) :: (22, 1) :: (23, 0) :: (24, 8) :: (25, 8) :: (26, 8) :: (27, 8) :: (30, 8) :: (31, 8) :: (28, 9) :: (29, 10) :: (32, 2) :: (33, 2) :: (34, 0) :: []) kR kR qP fun hs K n0 hKm hKs hKn => ?_
 refine km_ hs ?_
 refine E2 hs rfl (D2 rfl) rfl ?_
 refine E2 hs rfl (qf_ 0 0) rfl ?_
 refine H4 hs rfl hKs ql_ ?_
 refine km_ hs ?_
 refine km_ hs ?_
 refine E2 hs rfl (D2 rfl) rfl ?_
 refine E2 hs rfl (qf_ 7 7) rfl ?_
 refine E2 hs rfl (I9 (e := 40) (n := 2) (sz := 18) (i := 1) 25 rfl rfl kR kR rfl qD rfl) rfl ?_
 refine H4 hs rfl hKs (D5 (n := 18) (vs := [wi, ww, p1, r1, u1, (vU x1.he.signed), .bool x1.he.has, (vU x1.he.once), .bool x1.tell, wo, wt, wr, wk0, (vU x1.r.sn), wl, (vU x1.r.tn), (vU x1.r.prev), wst]) rfl kR At.mem rfl (C2 [(vP pb), (vP ka), (vP kb), .int .i64 0, .int .i64 1, .int .i64 1, .int .i64 1, vi, vw, p0, r0, u0, (vU x0.he.signed), .bool x0.he.has, (vU x0.he.once), .bool x0.tell, vo, vt, vr, vk0, (vU x0.r.sn), vl, (vU x0.r.tn), (vU x0.r.prev), vst] [wi, ww, p1, r1, u1, (vU x1.he.signed), .bool x1.he.has, (vU x1.he.once), .bool x1.tell, wo, wt, wr, wk0, (vU x1.r.sn), wl, (vU x1.r.tn), (vU x1.r.prev), wst] [.bool true])) ?_
 refine km_ hs ?_
 refine km_ hs ?_
 refine E2 hs rfl (D2 rfl) rfl ?_
 refine E2 hs rfl (qf_ 3 3) rfl ?_
 refine E2 hs rfl (I9 (e := 53) (n := 2) (sz := 2) (i := 1) 5 rfl rfl kR kR rfl qD rfl) rfl ?_
 refine H4 hs rfl hKs (D5 (n := 2) (vs := [.int .i64 1, .int .i64 1]) rfl kR At.mem rfl (C2 [(vP pb), (vP ka), (vP kb), .int .i64 0, .int .i64 1] [.int .i64 1, .int .i64 1] (vi :: vw :: p0 :: r0 :: u0 :: (vU x0.he.signed) :: .bool x0.he.has :: (vU x0.he.once) :: .bool x0.tell :: vo :: vt :: vr :: vk0 :: (vU x0.r.sn) :: vl :: (vU x0.r.tn) :: (vU x0.r.prev) :: vst :: wi :: ww :: p1 :: r1 :: u1 :: (vU x1.he.signed) :: .bool x1.he.has :: (vU x1.he.once) :: .bool x1.tell :: wo :: wt :: wr :: wk0 :: (vU x1.r.sn) :: wl :: (vU x1.r.tn) :: (vU x1.r.prev) :: wst :: .bool true :: []))) ?_
 refine km_ hs ?_
 refine km_ hs ?_
 refine E2 hs rfl (K7 0 rfl rfl qR) rfl ?_
 refine E2 hs rfl (D2 rfl) rfl ?_
 refine E2 hs rfl (qf_ 3 3) rfl ?_
 refine E2 hs rfl (I9 (e := 53) (n := 2) (sz := 2) (i := 0) 3 rfl rfl kR kR rfl qD rfl) rfl ?_
 refine H4 hs rfl hKs (D5 (n := 2) (vs := [.int .i64 0, .int .i64 1]) rfl kR At.mem rfl (C2 [(vP pb), (vP ka), (vP kb)] [.int .i64 0, .int .i64 1] (.int .i64 1 :: .int .i64 1 :: vi :: vw :: p0 :: r0 :: u0 :: (vU x0.he.signed) :: .bool x0.he.has :: (vU x0.he.once) :: .bool x0.tell :: vo :: vt :: vr :: vk0 :: (vU x0.r.sn) :: vl :: (vU x0.r.tn) :: (vU x0.r.prev) :: vst :: wi :: ww :: p1 :: r1 :: u1 :: (vU x1.he.signed) :: .bool x1.he.has :: (vU x1.he.once) :: .bool x1.tell :: wo :: wt :: wr :: wk0 :: (vU x1.r.sn) :: wl :: (vU x1.r.tn) :: (vU x1.r.prev) :: wst :: .bool true :: []))) ?_
 refine km_ hs ?_
 refine V9 [⟨24, 36, none, [], fun v B R => B = [] ∧ By R v tx⟩, ⟨25, 37, none, MP, fun v B R => ∃ q1 q2, v = .tuple #[q1, q2, .int .i64 0] ∧ Prm pb (A3h s x1.r (wiW x1 he0 1 1 0 1) tx) B ∧ A1J R q1 (K4 x1 (F6 s x1.r)) ∧ EvV R q2 (evS s x1 he0 1 1 0 1 tx)⟩, ⟨26, 11, none, [], fun v B R => B = [] ∧ ∃ q1 q2, v = .tuple #[q1, q2, .int .i64 0] ∧ A1J R q1 (K4 x1 (F6 s x1.r)) ∧ EvV R q2 (evS s x1 he0 1 1 0 1 tx)⟩, ⟨27, 38, none, [], fun v B R => B = [] ∧ A1J R v (K4 x1 (F6 s x1.r))⟩, ⟨30, 8, none, [], fun v B _ => ∃ b, v = (vP b) ∧ B = [(b, blk [vS, vS, vS, vS, vS, .int .u32 0, .bool false, .int .u32 0, .bool false, vS, vS, vS, vS, .int .u32 0, vS, .int .u32 0, .int .u32 0, .pointer none] 40)]⟩, ⟨31, 9, none, [], fun v B _ => ∃ b, v = (vP b) ∧ B = [(b, blk [.int .i64 0, .int .i64 0, .int .i64 0, .int .i64 0, vS, .bool false, vS, vS, vS, .int .u32 0, .bool false, .int .u32 0, vS, .int .u32 0, .int .u32 0, vS] 61)]⟩] [⟨28, 39, none, [], fun v B R => B = [] ∧ EvV R v (evS s x1 he0 1 1 0 1 tx)⟩, ⟨29, 40, none, [], fun v B R => B = [] ∧ v = .int .i64 0⟩] ([(b6, blk [.int .i64 0, .int .i64 0, .int .i64 0, .int .i64 0, vS, .bool false, vS, vS, vS, .int .u32 0, .bool false, .int .u32 0, vS, .int .u32 0, .int .u32 0, vS] 61), (tb, blk ((vP pb) :: (vP ka) :: (vP kb) :: .int .i64 0 :: .int .i64 1 :: .int .i64 1 :: .int .i64 1 :: vi :: vw :: p0 :: r0 :: u0 :: (vU x0.he.signed) :: .bool x0.he.has :: (vU x0.he.once) :: .bool x0.tell :: vo :: vt :: vr :: vk0 :: (vU x0.r.sn) :: vl :: (vU x0.r.tn) :: (vU x0.r.prev) :: vst :: wi :: ww :: p1 :: r1 :: u1 :: (vU x1.he.signed) :: .bool x1.he.has :: (vU x1.he.once) :: .bool x1.tell :: wo :: wt :: wr :: wk0 :: (vU x1.r.sn) :: wl :: (vU x1.r.tn) :: (vU x1.r.prev) :: wst :: .bool true :: []) 57)]) (fun bs => [bs 24, bs 25, bs 26, bs 27, bs 30, bs 31, bs 28, bs 29]) (hKn rfl) (by simp [N9, U7]) (show ∀ m ∈ ([[], MP, [], [], [], [], [], []] : List Mem), ∀ x ∈ m, K x.1 from A2 (fun _ h => by cases h) (A2 (hKm) (A2 (fun _ h => by cases h) (A2 (fun _ h => by cases h) (A2 (fun _ h => by cases h) (A2 (fun _ h => by cases h) (A2 (fun _ h => by cases h) (A2 (fun _ h => by cases h) (G9))))))))) kR (fun _ => by first | rfl | kernel_rfl)
  (A2 (fun _ _ _ _ h hp => ⟨hp.1, hp.2.mono h⟩) (A2 (fun _ _ _ _ h ⟨q1, q2, e, p1, p2, p3⟩ => ⟨q1, q2, e, p1, p2.mono h, p3.mono h⟩) (A2 (fun _ _ _ _ h ⟨e0, q1, q2, e, p2, p3⟩ => ⟨e0, q1, q2, e, p2.mono h, p3.mono h⟩) (A2 (fun _ _ _ _ h hp => ⟨hp.1, hp.2.mono h⟩) (A2 (fun _ _ _ _ _ h => h) (A2 (fun _ _ _ _ _ h => h) (A2 (fun _ _ _ _ h hp => ⟨hp.1, hp.2.mono h⟩) (A2 (fun _ _ _ _ _ h => h) (G9))))))))) (show List.Nodup [36, 37, 11, 38, 8, 9, 39, 40] by decide) (show List.Nodup [24, 25, 26, 27, 30, 31, 28, 29] by decide) (A2 (C4 rfl) (A2 (C4 rfl) (A2 (C4 rfl) (A2 (C4 rfl) (A2 (C4 rfl) (A2 (C4 rfl) (A2 (C4 rfl) (A2 (C4 rfl) (G9)))))))))
  hs (List.cons_ne_nil _ _) (A2 ⟨_, rfl, fun vs bs R Rj wG hb hj hjr ha => ⟨.inl rfl, ?_⟩⟩ (A2 ⟨_, rfl, fun vs bs R Rj wG hb hj hjr ha => ⟨.inl rfl, ?_⟩⟩ (A2 ⟨_, rfl, fun vs bs R Rj wG hb hj hjr ha => ⟨.inl rfl, ?_⟩⟩ (A2 ⟨_, rfl, fun vs bs R Rj wG hb hj hjr ha => ⟨.inl rfl, ?_⟩⟩ (A2 ⟨_, rfl, fun vs bs R Rj wG hb hj hjr ha => ⟨.inl rfl, ?_⟩⟩ (A2 ⟨_, rfl, fun vs bs R Rj wG hb hj hjr ha => ⟨.inl rfl, ?_⟩⟩ (G9))))))) (A2 ⟨rfl, rfl, _, _, _, _, rfl, fun vs bs Rj hj ha => ?_⟩ (A2 ⟨rfl, rfl, _, _, _, _, rfl, fun vs bs Rj hj ha => ?_⟩ (G9))) ?_
 ·
  dsimp only [Gc.inp]
  refine OpL.frzAll ?_
  refine A0o (e := 5) rfl rfl htx.lt kR kR kR rfl fun v B hs J2 hJ => ⟨_, rfl, rfl, ⟨hs.mono fun x hx => List.mem_append_left _ (hJ _ (by simp [hx])), htx.lt, Nat.le_trans ltx qD⟩⟩
 ·
  dsimp only [Gc.inp]
  have g24 := ha _ (List.mem_of_getElem? (i := 0) rfl) kR
  replace g24 : (fun v B R => B = [] ∧ By R v tx) (vs 24) (bs 24) Rj := g24
  dsimp only at g24
  obtain ⟨-, h24⟩ := g24
  haveI := h24.cel
  refine B3 (Mc := MP) (R := []) (aS rfl (aS rfl (aS rfl (aS rfl (aS rfl (a0)))))) kR qM (FnX.amb (A := Rj) (fun x hx => by have := hjr x hx; simp [this]) (B08 pb s x1 wi ww p1 r1 u1 wo wt wr wk0 wl wst _ 1 1 0 1 tx MP Rj hP hn (hy.mono (fun x hx => hj x (qS x hx))) htell hsk hwi hel hfl h24 ltx (hG.sub (fun x hx => hj x (qS x hx))))) rfl ?_
  rintro v125 M125 J125 ⟨wo, wt, wr, wk, wl, wq, vid, q2, q3, rfl, hP25, p2, p3⟩
  exact ⟨_, rfl, _, _, rfl, (by have h := (show Prm pb (A3h s x1.r (wiW x1 he0 1 1 0 1) tx) M125 from hP25); simpa using h), ⟨_, _, _, _, _, _, _, _, _, _, _, rfl, p2.mono (fun x hx => by simpa using hx)⟩, ⟨_, _, _, _, _, _, rfl, p3.mono (fun x hx => by simpa using hx)⟩⟩
 ·
  dsimp only [Gc.inp]
  have g25 := ha _ (List.mem_of_getElem? (i := 1) rfl) kR
  replace g25 : (fun v B R => ∃ q1 q2, v = .tuple #[q1, q2, .int .i64 0] ∧ Prm pb (A3h s x1.r (wiW x1 he0 1 1 0 1) tx) B ∧ A1J R q1 (K4 x1 (F6 s x1.r)) ∧ EvV R q2 (evS s x1 he0 1 1 0 1 tx)) (vs 25) (bs 25) Rj := g25
  dsimp only at g25
  obtain ⟨q1, q2, e_, -, k⟩ := g25
  exact OpQ.opL qm_ rfl ⟨_, rfl, rfl, q1, q2, e_, k⟩
 ·
  dsimp only [Gc.inp]
  have g26 := ha _ (List.mem_of_getElem? (i := 2) rfl) kR
  replace g26 : (fun v B R => B = [] ∧ ∃ q1 q2, v = .tuple #[q1, q2, .int .i64 0] ∧ A1J R q1 (K4 x1 (F6 s x1.r)) ∧ EvV R q2 (evS s x1 he0 1 1 0 1 tx)) (vs 26) (bs 26) Rj := g26
  dsimp only at g26
  obtain ⟨-, q1, q2, e_, k, -⟩ := g26
  exact OpQ.opL (F8 (vs := #[q1, q2, .int .i64 0]) (by rw [← e_]; rfl) rfl) rfl ⟨_, rfl, rfl, k⟩
 ·
  dsimp only [Gc.inp]
  exact C5 (cs := [vS, vS, vS, vS, vS, D3, .bool false, D3, .bool false, vS, vS, vS, vS, D3, vS, D3, D3, .pointer none]) kR rfl fun b => ⟨_, rfl, b, rfl, rfl⟩
 ·
  dsimp only [Gc.inp]
  exact C5 (cs := [L7, L7, L7, L7, vS, .bool false, vS, vS, vS, D3, .bool false, D3, vS, D3, D3, vS]) kR rfl fun b => ⟨_, rfl, b, rfl, rfl⟩
 ·
  have g26 := ha _ (List.mem_of_getElem? (i := 2) rfl) kR
  replace g26 : (fun v B R => B = [] ∧ ∃ q1 q2, v = .tuple #[q1, q2, .int .i64 0] ∧ A1J R q1 (K4 x1 (F6 s x1.r)) ∧ EvV R q2 (evS s x1 he0 1 1 0 1 tx)) (vs 26) (bs 26) Rj := g26
  dsimp only at g26
  obtain ⟨-, q1, q2, e_, -, k⟩ := g26
  exact ⟨_, F8 (vs := #[q1, q2, .int .i64 0]) (by rw [← e_]; rfl) rfl, rfl, k⟩
 ·
  have g26 := ha _ (List.mem_of_getElem? (i := 2) rfl) kR
  replace g26 : (fun v B R => B = [] ∧ ∃ q1 q2, v = .tuple #[q1, q2, .int .i64 0] ∧ A1J R q1 (K4 x1 (F6 s x1.r)) ∧ EvV R q2 (evS s x1 he0 1 1 0 1 tx)) (vs 26) (bs 26) Rj := g26
  dsimp only at g26
  obtain ⟨-, q1, q2, e_, -⟩ := g26
  exact ⟨_, F8 (vs := #[q1, q2, .int .i64 0]) (by rw [← e_]; rfl) rfl, rfl, rfl⟩
 intro vs bs Jn0 hφ hKK
 have kk24 := hKK _ (List.mem_of_getElem? (i := 0) rfl)
 dsimp only at kk24
 have kk25 := hKK _ (List.mem_of_getElem? (i := 1) rfl)
 dsimp only at kk25
 have kk26 := hKK _ (List.mem_of_getElem? (i := 2) rfl)
 dsimp only at kk26
 have kk27 := hKK _ (List.mem_of_getElem? (i := 3) rfl)
 dsimp only at kk27
 have kk30 := hKK _ (List.mem_of_getElem? (i := 4) rfl)
 dsimp only at kk30
 have kk31 := hKK _ (List.mem_of_getElem? (i := 5) rfl)
 dsimp only at kk31
 have kk28 := hKK _ (List.mem_of_getElem? (i := 6) rfl)
 dsimp only at kk28
 have kk29 := hKK _ (List.mem_of_getElem? (i := 7) rfl)
 dsimp only at kk29
 clear hKK
 have g24 := ofH hφ
 dsimp only at g24
 replace hφ := ofT hφ
 have g25 := ofH hφ
 dsimp only at g25
 replace hφ := ofT hφ
 have g26 := ofH hφ
 dsimp only at g26
 replace hφ := ofT hφ
 have g27 := ofH hφ
 dsimp only at g27
 replace hφ := ofT hφ
 have g30 := ofH hφ
 dsimp only at g30
 replace hφ := ofT hφ
 have g31 := ofH hφ
 dsimp only at g31
 replace hφ := ofT hφ
 have g28 := ofH hφ
 dsimp only at g28
 replace hφ := ofT hφ
 have g29 := ofH hφ
 dsimp only at g29
 clear hφ
 dsimp only [L5, N9, List.foldr, List.map, List.cons_append, List.nil_append]
 generalize bs 24 = B36 at *
 generalize bs 25 = B37 at *
 generalize bs 26 = B11 at *
 generalize bs 27 = B38 at *
 generalize bs 30 = B8 at *
 generalize bs 31 = B9 at *
 generalize bs 28 = B39 at *
 generalize bs 29 = B40 at *
 generalize vs 24 = u36 at *
 generalize vs 25 = u37 at *
 generalize vs 26 = u11 at *
 generalize vs 27 = u38 at *
 generalize vs 30 = u8 at *
 generalize vs 31 = u9 at *
 generalize vs 28 = u39 at *
 generalize vs 29 = u40 at *
 obtain ⟨-, -, -, hP27, -⟩ := g25
 clear g26
 obtain ⟨rfl, h24⟩ := g24
 obtain ⟨rfl, ni, nw, np, nr, nu, no_, nt, nrr, nk, nl, nst, rfl, hn1⟩ := g27
 obtain ⟨rfl, es, ep, er, eu, ek, eg, rfl, hn2⟩ := g28
 obtain ⟨rfl, rfl⟩ := g29
 obtain ⟨b8, rfl, rfl⟩ := g30
 obtain ⟨b9, rfl, rfl⟩ := g31
 haveI := hn1.id.cel
 haveI := hn1.wi.cel
 haveI := hn1.he.ia.cel
 haveI := hn1.he.ig.cel
 haveI := hn1.he.key.cel
 haveI := hn1.r.own.cel
 haveI := hn1.r.their.cel
 haveI := hn1.r.root.cel
 haveI := hn1.r.sk.cel
 haveI := hn1.r.tk.cel
 haveI := hn1.r.st.cel
 haveI := hn2.ses.cel
 haveI := hn2.he.ia.cel
 haveI := hn2.he.ig.cel
 haveI := hn2.he.key.cel
 haveI := hn2.hk.cel
 haveI := hn2.g.cel
 unfold seC evC
 refine I4 rfl rfl rfl (A9 (vs := [ni, nw, np, nr, nu, .int .u32 (((K4 x1 (F6 s x1.r)).he.signed : Nat) : Int), .bool (K4 x1 (F6 s x1.r)).he.has, .int .u32 (((K4 x1 (F6 s x1.r)).he.once : Nat) : Int), .bool (K4 x1 (F6 s x1.r)).tell, no_, nt, nrr, nk, .int .u32 (((K4 x1 (F6 s x1.r)).r.sn : Nat) : Int), nl, .int .u32 (((K4 x1 (F6 s x1.r)).r.tn : Nat) : Int), .int .u32 (((K4 x1 (F6 s x1.r)).r.prev : Nat) : Int), nst]) rfl rfl rfl kR qR (A2 hn1.id.one (A2 hn1.wi.one (A2 hn1.he.ia.one (A2 hn1.he.ig.one (A2 hn1.he.key.one (A2 rfl (A2 rfl (A2 rfl (A2 rfl (A2 hn1.r.own.one (A2 hn1.r.their.one (A2 hn1.r.root.one (A2 hn1.r.sk.one (A2 rfl (A2 hn1.r.tk.one (A2 rfl (A2 rfl (A2 hn1.r.st.one G9)))))))))))))))))) UpC.upd ?_)
 refine I4 rfl rfl rfl (A9 (vs := [.int .i64 1, .int .i64 1, .int .i64 0, .int .i64 1, es, .bool x1.tell, ep, er, eu, (vU he0.signed), .bool he0.has, (vU he0.once), ek, (vU x1.r.prev), (vU x1.r.sn), eg]) rfl rfl rfl kR qR (A2 rfl (A2 rfl (A2 rfl (A2 rfl (A2 hn2.ses.one (A2 rfl (A2 hn2.he.ia.one (A2 hn2.he.ig.one (A2 hn2.he.key.one (A2 rfl (A2 rfl (A2 rfl (A2 hn2.hk.one (A2 rfl (A2 rfl (A2 hn2.g.one G9)))))))))))))))) UpC.upd ?_)
 refine E2 hs rfl (E8 rfl) rfl ?_
 refine G2 (I8 0 1 6 8 9 10) (A6 (A1 (mv_ ?_)))
 refine A3 (E7 false rfl rfl (neF rfl)) rfl ?_
 refine A0 (I8 0 1 6 8 9 42) ?_
 refine B0 rfl ?_
 refine A5 (nx (H5 0 1 6 8 9) ?_)
 refine F4 [0, 1, 2, 3, 4, 5] (zp 0 [0, 0, 1, 0, 0, 0, 2]) kR kR fun hs => ?_
 refine fm_ hs ?_
 refine fm_ hs ?_
 refine S0 hs rfl (qw_ 18) rfl ?_
 refine D4 hs rfl (D2 rfl) rfl ?_
 refine D4 hs rfl (qf_ 7 7) rfl ?_
 refine D4 hs rfl (I9 (e := 40) (n := 2) (sz := 18) (i := 1) 25 rfl rfl kR kR rfl qD rfl) rfl ?_
 refine I3 rfl rfl rfl (I1 (vs := [ni, nw, np, nr, nu, .int .u32 (((K4 x1 (F6 s x1.r)).he.signed : Nat) : Int), .bool (K4 x1 (F6 s x1.r)).he.has, .int .u32 (((K4 x1 (F6 s x1.r)).he.once : Nat) : Int), .bool (K4 x1 (F6 s x1.r)).tell, no_, nt, nrr, nk, .int .u32 (((K4 x1 (F6 s x1.r)).r.sn : Nat) : Int), nl, .int .u32 (((K4 x1 (F6 s x1.r)).r.tn : Nat) : Int), .int .u32 (((K4 x1 (F6 s x1.r)).r.prev : Nat) : Int), nst]) (cs' := ((vP pb) :: (vP ka) :: (vP kb) :: .int .i64 0 :: .int .i64 1 :: .int .i64 1 :: .int .i64 1 :: vi :: vw :: p0 :: r0 :: u0 :: (vU x0.he.signed) :: .bool x0.he.has :: (vU x0.he.once) :: .bool x0.tell :: vo :: vt :: vr :: vk0 :: (vU x0.r.sn) :: vl :: (vU x0.r.tn) :: (vU x0.r.prev) :: vst :: ni :: nw :: np :: nr :: nu :: .int .u32 (((K4 x1 (F6 s x1.r)).he.signed : Nat) : Int) :: .bool (K4 x1 (F6 s x1.r)).he.has :: .int .u32 (((K4 x1 (F6 s x1.r)).he.once : Nat) : Int) :: .bool (K4 x1 (F6 s x1.r)).tell :: no_ :: nt :: nrr :: nk :: .int .u32 (((K4 x1 (F6 s x1.r)).r.sn : Nat) : Int) :: nl :: .int .u32 (((K4 x1 (F6 s x1.r)).r.tn : Nat) : Int) :: .int .u32 (((K4 x1 (F6 s x1.r)).r.prev : Nat) : Int) :: nst :: .bool true :: [])) rfl rfl rfl kR (by exact (show 25 + 18 ≤ 44 by decide)) (A2 hn1.id.one (A2 hn1.wi.one (A2 hn1.he.ia.one (A2 hn1.he.ig.one (A2 hn1.he.key.one (A2 rfl (A2 rfl (A2 rfl (A2 rfl (A2 hn1.r.own.one (A2 hn1.r.their.one (A2 hn1.r.root.one (A2 hn1.r.sk.one (A2 rfl (A2 hn1.r.tk.one (A2 rfl (A2 rfl (A2 hn1.r.st.one G9)))))))))))))))))) rfl UpC.upd ?_)
 refine G8 (C7 6 9) (A1 ?_)
 refine A3 (qw_ 16) rfl ?_
 refine A4 rfl (A9 (vs := [.int .i64 1, .int .i64 1, .int .i64 0, .int .i64 1, es, .bool x1.tell, ep, er, eu, (vU he0.signed), .bool he0.has, (vU he0.once), ek, (vU x1.r.prev), (vU x1.r.sn), eg]) rfl rfl rfl kR qR (A2 rfl (A2 rfl (A2 rfl (A2 rfl (A2 hn2.ses.one (A2 rfl (A2 hn2.he.ia.one (A2 hn2.he.ig.one (A2 hn2.he.key.one (A2 rfl (A2 rfl (A2 rfl (A2 hn2.hk.one (A2 rfl (A2 rfl (A2 hn2.g.one G9)))))))))))))))) UpC.upd ?_)
 refine as_ (A0 (C7 6 7) (A8 ?_))
 exact ⟨_, (tb, blk ((vP pb) :: (vP ka) :: (vP kb) :: .int .i64 0 :: .int .i64 1 :: .int .i64 1 :: .int .i64 1 :: vi :: vw :: p0 :: r0 :: u0 :: (vU x0.he.signed) :: .bool x0.he.has :: (vU x0.he.once) :: .bool x0.tell :: vo :: vt :: vr :: vk0 :: (vU x0.r.sn) :: vl :: (vU x0.r.tn) :: (vU x0.r.prev) :: vst :: ni :: nw :: np :: nr :: nu :: .int .u32 (((K4 x1 (F6 s x1.r)).he.signed : Nat) : Int) :: .bool (K4 x1 (F6 s x1.r)).he.has :: .int .u32 (((K4 x1 (F6 s x1.r)).he.once : Nat) : Int) :: .bool (K4 x1 (F6 s x1.r)).tell :: no_ :: nt :: nrr :: nk :: .int .u32 (((K4 x1 (F6 s x1.r)).r.sn : Nat) : Int) :: nl :: .int .u32 (((K4 x1 (F6 s x1.r)).r.tn : Nat) : Int) :: .int .u32 (((K4 x1 (F6 s x1.r)).r.prev : Nat) : Int) :: nst :: .bool true :: []) 57) :: B37, [], Z5 (n := 16) rfl rfl rfl kR At.mem qR, Fit.none (Fit.pick (B := [_]) qP (Fit.last qP)), ⟨vi, vw, p0, r0, u0, vo, vt, vr, vk0, vl, vst, ni, nw, np, nr, nu, no_, nt, nrr, nk, nl, nst, B37, rfl, hx.mono qS, hn1.mono qS, hP27⟩, _, rfl, ⟨es, ep, er, eu, ek, eg, rfl, hn2.mono qS⟩⟩

set_option maxHeartbeats 1000000 in
theorem A7s (tb pb ka kb : Nat) (s : Ps) (x0 : Ses) (k : Ks) (e : Ev) (vz ep er eu ek eg : Value) (sec own : LN) (s2 sF : Ps) (xa : Ses) (sz : Ps) (rz : Rsd) (tx : LN) (M0 A : Mem) (hT : T1 A tb pb ka kb s x0 M0) (hK : KyE A kb k) (hrise : A9s k.once) (he_ : EvR A e vz ep er eu ek eg) (hn : s.ts.length + 1000 ≤ 1040000) (hhas : e.has = true) (han : anR k e.he s = (some (sec, own), s2)) (hn2 : s2.ts.length ≤ 900000) (hln : e.he.ia.length + e.he.ig.length + (idA k s2).length + (idG k s2).length ≤ 1000000) (hid : A3d (idS k s2) (aNm k e s2) = e.ses) (hsF : aC k e s2 = sF) (hxa : aX k e s2 sec own = xa) (hn_ : sF.ts.length + 500 ≤ 1000000) (hsn : sF.n < 1000000000) (hwi : xa.wi.length ≤ 1000000) (hel2 : e.ses.length + e.he.ia.length + e.he.ig.length + e.he.key.length ≤ 1000000) (hfl : (xa.wi ++ frW [] e).length + e.hk.length ≤ 1000000) (hgl : e.g.length ≤ 10000000) (hO : OpnH sF xa.r e.hk e.hp e.hn) (hoz : U9 sF xa.r (xa.wi ++ frW [] e) e.hk e.hp e.hn e.g = (sz, rz, 0, tx)) (hG : Glb A) : FnX Tryz.prog 12 [(vP tb), .agg (evC vz ep er eu ek eg e).toArray, .int .i64 1] M0 A fun q M J => T2 (J ++ A) tb pb ka kb sz x0 (A9E xa rz) M ∧ q = .tuple #[.string (txt tx), .int .i64 0] := by
 obtain ⟨vi, vw, p0, r0, u0, vo, vt, vr, vk0, vl, vst, MP, rfl, hx, hP⟩ := hT
 obtain ⟨va, vg, vq, vo_, vm, rs, ro, rm, hKy⟩ := hK
 have hel : e.he.ia.length + e.he.ig.length + e.he.key.length ≤ 1000000 := by omega
 have hid2 : xa.id = e.ses := by rw [← hxa]; exact hid
 haveI := hx.id.cel
 haveI := hx.wi.cel
 haveI := hx.he.ia.cel
 haveI := hx.he.ig.cel
 haveI := hx.he.key.cel
 haveI := hx.r.own.cel
 haveI := hx.r.their.cel
 haveI := hx.r.root.cel
 haveI := hx.r.sk.cel
 haveI := hx.r.tk.cel
 haveI := hx.r.st.cel
 haveI := he_.ses.cel
 haveI := he_.he.ia.cel
 haveI := he_.he.ig.cel
 haveI := he_.he.key.cel
 haveI := he_.hk.cel
 haveI := he_.g.cel
 unfold evC
 refine FnX.enterZ (N := 67) Tryz.func12 rfl rfl rfl fun w_ => ?_
 refine A7 (E0 0 1 2) (A1 ?_)
 refine A4 rfl (bx_ fun b4 => ?_)
 refine as_ (as_ (A0 (E0 0 2 4) (A1 (mv_ (mv_ ?_)))))
 refine A3 (D2 rfl) rfl ?_
 refine A3 (qf_ 7 7) rfl ?_
 refine A3 (I9 (e := 40) (n := 2) (sz := 18) (i := 1) 25 rfl rfl kR kR rfl qD rfl) rfl ?_
 refine A3 (D5 (n := 18) (vs := [vS, vS, vS, vS, vS, .int .u32 0, .bool false, .int .u32 0, .bool false, vS, vS, vS, vS, .int .u32 0, vS, .int .u32 0, .int .u32 0, .pointer none]) rfl kR At.mem rfl (C2 [(vP pb), (vP ka), (vP kb), .int .i64 0, .int .i64 1, .int .i64 1, .int .i64 1, vi, vw, p0, r0, u0, (vU x0.he.signed), .bool x0.he.has, (vU x0.he.once), .bool x0.tell, vo, vt, vr, vk0, (vU x0.r.sn), vl, (vU x0.r.tn), (vU x0.r.prev), vst] [vS, vS, vS, vS, vS, .int .u32 0, .bool false, .int .u32 0, .bool false, vS, vS, vS, vS, .int .u32 0, vS, .int .u32 0, .int .u32 0, .pointer none] [.bool true])) rfl ?_
 refine A4 rfl (C5 (cs := [vS, vS, vS, vS, vS, D3, .bool false, D3, .bool false, vS, vS, vS, vS, D3, vS, D3, D3, .pointer none]) kR rfl fun b8 => ?_)
 refine A4 rfl (A9 (vs := [vS, vS, vS, vS, vS, .int .u32 0, .bool false, .int .u32 0, .bool false, vS, vS, vS, vS, .int .u32 0, vS, .int .u32 0, .int .u32 0, .pointer none]) rfl rfl rfl kR qR A9S UpC.upd ?_)
 refine A0 (F2 0 2 4 8) (A6 (A1 (mv_ ?_)))
 refine A3 (E7 true rfl rfl (eqT rfl)) rfl ?_
 refine mv_ ?_
 refine C6 rfl rfl (OpQ.opL (qf_ 0 0) rfl ?_)
 refine C6 rfl rfl (OpQ.opL ql_ rfl ?_)
 refine C6 rfl rfl (OpQ.opL (V1 (e := 5) rfl kR) rfl ?_)
 refine C6 rfl rfl (OpQ.opL (E7 true rfl rfl (eqT rfl)) rfl ?_)
 refine A3 (E6 rfl rfl) rfl ?_
 refine A0 (H5 0 2 4 8 26) ?_
 refine F3 rfl ?_
 refine D9 (MP) (_) true [0, 1, 2, 3, 4, 5, 6, 7, 8, 9, 10, 11, 12, 13, 14, 16] [(0, 0), (1, 0), (2, 0), (3, 1), (4, 0), (5, 0), (6, 0), (7, 0), (8, 1), (9, 1), (10, 8), (11, 8), (12, 8), (14, 8), (13, 10), (15, 2), (16, 0)] kR kR qP fun hs K n0 hKm hKs hKn => ?_
 refine km_ hs ?_
 refine E2 hs rfl (D2 rfl) rfl ?_
 refine E2 hs rfl (qf_ 0 0) rfl ?_
 refine H4 hs rfl hKs ql_ ?_
 refine km_ hs ?_
 refine E2 hs rfl (D2 rfl) rfl ?_
 refine E2 hs rfl (qf_ 1 1) rfl ?_
 refine E2 hs rfl (I9 (e := 50) (n := 2) (sz := 1) (i := 1) 2 rfl rfl kR kR rfl qD rfl) rfl ?_
 refine H4 hs rfl hKs ql_ ?_
 refine H4 hs rfl hKs (qw_ 16) ?_
 refine V9 [⟨10, 38, none, MP, fun v B R => ∃ q1, v = .tuple #[q1, .int .i64 0] ∧ Prm pb sF B ∧ A1J R q1 xa⟩, ⟨11, 27, none, [], fun v B R => B = [] ∧ ∃ q1, v = .tuple #[q1, .int .i64 0] ∧ A1J R q1 xa⟩, ⟨12, 39, none, [], fun v B R => B = [] ∧ A1J R v xa⟩, ⟨14, 9, none, [], fun v B _ => ∃ b, v = (vP b) ∧ B = [(b, blk [vS, vS, vS, vS, vS, .int .u32 0, .bool false, .int .u32 0, .bool false, vS, vS, vS, vS, .int .u32 0, vS, .int .u32 0, .int .u32 0, .pointer none] 40)]⟩] [⟨13, 40, none, [], fun v B R => B = [] ∧ v = .int .i64 0⟩] ([(b8, blk [vS, vS, vS, vS, vS, .int .u32 0, .bool false, .int .u32 0, .bool false, vS, vS, vS, vS, .int .u32 0, vS, .int .u32 0, .int .u32 0, .pointer none] 40), (b4, blk [.int .i64 e.fu, .int .i64 e.fd, .int .i64 e.tu, .int .i64 e.td, vz, .bool e.has, ep, er, eu, (vU e.he.signed), .bool e.he.has, (vU e.he.once), ek, (vU e.hp), (vU e.hn), eg] 61), (tb, blk ((vP pb) :: (vP ka) :: (vP kb) :: .int .i64 0 :: .int .i64 1 :: .int .i64 1 :: .int .i64 1 :: vi :: vw :: p0 :: r0 :: u0 :: (vU x0.he.signed) :: .bool x0.he.has :: (vU x0.he.once) :: .bool x0.tell :: vo :: vt :: vr :: vk0 :: (vU x0.r.sn) :: vl :: (vU x0.r.tn) :: (vU x0.r.prev) :: vst :: vS :: vS :: vS :: vS :: vS :: .int .u32 0 :: .bool false :: .int .u32 0 :: .bool false :: vS :: vS :: vS :: vS :: .int .u32 0 :: vS :: .int .u32 0 :: .int .u32 0 :: .pointer none :: .bool true :: []) 57)]) (fun bs => [bs 10, bs 11, bs 12, bs 14, bs 13]) (hKn rfl) (by simp [N9, U7]) (show ∀ m ∈ ([MP, [], [], [], []] : List Mem), ∀ x ∈ m, K x.1 from A2 (hKm) (A2 (fun _ h => by cases h) (A2 (fun _ h => by cases h) (A2 (fun _ h => by cases h) (A2 (fun _ h => by cases h) (G9)))))) kR (fun _ => by first | rfl | kernel_rfl)
  (A2 (fun _ _ _ _ h ⟨q1, e, p1, p2⟩ => ⟨q1, e, p1, p2.mono h⟩) (A2 (fun _ _ _ _ h ⟨e0, q1, e, p2⟩ => ⟨e0, q1, e, p2.mono h⟩) (A2 (fun _ _ _ _ h hp => ⟨hp.1, hp.2.mono h⟩) (A2 (fun _ _ _ _ _ h => h) (A2 (fun _ _ _ _ _ h => h) (G9)))))) (show List.Nodup [38, 27, 39, 9, 40] by decide) (show List.Nodup [10, 11, 12, 14, 13] by decide) (A2 (C4 rfl) (A2 (C4 rfl) (A2 (C4 rfl) (A2 (C4 rfl) (A2 (C4 rfl) (G9))))))
  hs (List.cons_ne_nil _ _) (A2 ⟨_, rfl, fun vs bs R Rj wG hb hj hjr ha => ⟨.inl rfl, ?_⟩⟩ (A2 ⟨_, rfl, fun vs bs R Rj wG hb hj hjr ha => ⟨.inl rfl, ?_⟩⟩ (A2 ⟨_, rfl, fun vs bs R Rj wG hb hj hjr ha => ⟨.inl rfl, ?_⟩⟩ (A2 ⟨_, rfl, fun vs bs R Rj wG hb hj hjr ha => ⟨.inl rfl, ?_⟩⟩ (G9))))) (A2 ⟨rfl, rfl, _, _, _, _, rfl, fun vs bs Rj hj ha => ?_⟩ (G9)) ?_
 ·
  dsimp only [Gc.inp]
  refine B3 (Mc := MP) (R := []) (aS rfl (aS rfl (aS rfl (a0)))) kR qM (FnX.amb (A := Rj) (fun x hx => by have := hjr x hx; simp [this]) (A7p pb s kb k va vg vq vo_ vm rs ro rm e vz ep er eu ek eg sec own s2 MP Rj (hKy.mono (fun x hx => hj x (qS x hx))) hrise hP hn (he_.mono (fun x hx => hj x (qS x hx))) hhas han hn2 hln hel (hid.trans rfl) (hG.sub (fun x hx => hj x (qS x hx))))) rfl ?_
  rintro v125 M125 J125 ⟨wi, ww, wo, wt, wr, wk, wl, wq, rfl, hP25, p2⟩
  rw [hsF] at hP25
  rw [hxa] at p2 ⊢
  exact ⟨_, rfl, _, rfl, by simpa using hP25, ⟨_, _, _, _, _, _, _, _, _, _, _, rfl, p2.mono (fun x hx => by simpa using hx)⟩⟩
 ·
  dsimp only [Gc.inp]
  have g10 := ha _ (List.mem_of_getElem? (i := 0) rfl) kR
  replace g10 : (fun v B R => ∃ q1, v = .tuple #[q1, .int .i64 0] ∧ Prm pb sF B ∧ A1J R q1 xa) (vs 10) (bs 10) Rj := g10
  dsimp only at g10
  obtain ⟨q1, e_, -, k⟩ := g10
  exact OpQ.opL qm_ rfl ⟨_, rfl, rfl, q1, e_, k⟩
 ·
  dsimp only [Gc.inp]
  have g11 := ha _ (List.mem_of_getElem? (i := 1) rfl) kR
  replace g11 : (fun v B R => B = [] ∧ ∃ q1, v = .tuple #[q1, .int .i64 0] ∧ A1J R q1 xa) (vs 11) (bs 11) Rj := g11
  dsimp only at g11
  obtain ⟨-, q1, e_, k⟩ := g11
  exact OpQ.opL (F8 (vs := #[q1, .int .i64 0]) (by rw [← e_]; rfl) rfl) rfl ⟨_, rfl, rfl, k⟩
 ·
  dsimp only [Gc.inp]
  exact C5 (cs := [vS, vS, vS, vS, vS, D3, .bool false, D3, .bool false, vS, vS, vS, vS, D3, vS, D3, D3, .pointer none]) kR rfl fun b => ⟨_, rfl, b, rfl, rfl⟩
 ·
  have g11 := ha _ (List.mem_of_getElem? (i := 1) rfl) kR
  replace g11 : (fun v B R => B = [] ∧ ∃ q1, v = .tuple #[q1, .int .i64 0] ∧ A1J R q1 xa) (vs 11) (bs 11) Rj := g11
  dsimp only at g11
  obtain ⟨-, q1, e_, -⟩ := g11
  exact ⟨_, F8 (vs := #[q1, .int .i64 0]) (by rw [← e_]; rfl) rfl, rfl, rfl⟩
 intro vs bs Jn0 hφ hKK
 have kk10 := hKK _ (List.mem_of_getElem? (i := 0) rfl)
 dsimp only at kk10
 have kk11 := hKK _ (List.mem_of_getElem? (i := 1) rfl)
 dsimp only at kk11
 have kk12 := hKK _ (List.mem_of_getElem? (i := 2) rfl)
 dsimp only at kk12
 have kk14 := hKK _ (List.mem_of_getElem? (i := 3) rfl)
 dsimp only at kk14
 have kk13 := hKK _ (List.mem_of_getElem? (i := 4) rfl)
 dsimp only at kk13
 clear hKK
 have g10 := ofH hφ
 dsimp only at g10
 replace hφ := ofT hφ
 have g11 := ofH hφ
 dsimp only at g11
 replace hφ := ofT hφ
 have g12 := ofH hφ
 dsimp only at g12
 replace hφ := ofT hφ
 have g14 := ofH hφ
 dsimp only at g14
 replace hφ := ofT hφ
 have g13 := ofH hφ
 dsimp only at g13
 clear hφ
 dsimp only [L5, N9, List.foldr, List.map, List.cons_append, List.nil_append]
 generalize bs 10 = B38 at *
 generalize bs 11 = B27 at *
 generalize bs 12 = B39 at *
 generalize bs 14 = B9 at *
 generalize bs 13 = B40 at *
 generalize vs 10 = u38 at *
 generalize vs 11 = u27 at *
 generalize vs 12 = u39 at *
 generalize vs 14 = u9 at *
 generalize vs 13 = u40 at *
 obtain ⟨-, -, hP38, -⟩ := g10
 clear g11
 obtain ⟨rfl, ni, nw, np, nr, nu, no_, nt, nrr, nk, nl, nst, rfl, hn1⟩ := g12
 obtain ⟨rfl, rfl⟩ := g13
 obtain ⟨b9, rfl, rfl⟩ := g14
 haveI := hn1.id.cel
 haveI := hn1.wi.cel
 haveI := hn1.he.ia.cel
 haveI := hn1.he.ig.cel
 haveI := hn1.he.key.cel
 haveI := hn1.r.own.cel
 haveI := hn1.r.their.cel
 haveI := hn1.r.root.cel
 haveI := hn1.r.sk.cel
 haveI := hn1.r.tk.cel
 haveI := hn1.r.st.cel
 unfold seC
 refine I4 rfl rfl rfl (A9 (vs := [ni, nw, np, nr, nu, (vU xa.he.signed), .bool xa.he.has, (vU xa.he.once), .bool xa.tell, no_, nt, nrr, nk, (vU xa.r.sn), nl, (vU xa.r.tn), (vU xa.r.prev), nst]) rfl rfl rfl kR qR (A2 hn1.id.one (A2 hn1.wi.one (A2 hn1.he.ia.one (A2 hn1.he.ig.one (A2 hn1.he.key.one (A2 rfl (A2 rfl (A2 rfl (A2 rfl (A2 hn1.r.own.one (A2 hn1.r.their.one (A2 hn1.r.root.one (A2 hn1.r.sk.one (A2 rfl (A2 hn1.r.tk.one (A2 rfl (A2 rfl (A2 hn1.r.st.one G9)))))))))))))))))) UpC.upd ?_)
 refine E2 hs rfl (E8 rfl) rfl ?_
 refine G2 (I8 0 2 4 8 9 10) (A6 (A1 (mv_ ?_)))
 refine A3 (E7 false rfl rfl (neF rfl)) rfl ?_
 refine A0 (R8 0 2 4 8 9 10 42) ?_
 refine B0 rfl ?_
 refine A5 (nx (H5 0 2 4 8 9) (C8 ?_))
 refine A3 (qw_ 18) rfl ?_
 refine A4 rfl (A9 (vs := [ni, nw, np, nr, nu, (vU xa.he.signed), .bool xa.he.has, (vU xa.he.once), .bool xa.tell, no_, nt, nrr, nk, (vU xa.r.sn), nl, (vU xa.r.tn), (vU xa.r.prev), nst]) rfl rfl rfl kR qR (A2 hn1.id.one (A2 hn1.wi.one (A2 hn1.he.ia.one (A2 hn1.he.ig.one (A2 hn1.he.key.one (A2 rfl (A2 rfl (A2 rfl (A2 rfl (A2 hn1.r.own.one (A2 hn1.r.their.one (A2 hn1.r.root.one (A2 hn1.r.sk.one (A2 rfl (A2 hn1.r.tk.one (A2 rfl (A2 rfl (A2 hn1.r.st.one G9)))))))))))))))))) UpC.upd ?_)
 refine A0 (F2 0 2 4 8) ?_
 refine F4 [0, 1, 2, 3, 4, 5, 7, 8, 9, 10, 12, 13] (zp 0 [0, 0, 0, 1, 1, 1, 2, 0, 0, 0, 0, 2, 0, 0]) kR kR fun hs => ?_
 refine fm_ hs ?_
 refine D4 hs rfl (D2 rfl) rfl ?_
 refine D4 hs rfl (qf_ 0 0) rfl ?_
 refine S0 hs rfl ql_ rfl ?_
 refine S0 hs rfl (qw_ 18) rfl ?_
 refine S0 hs rfl (qw_ 16) rfl ?_
 refine I3 rfl rfl rfl (B3 (Mc := B38) (R := _) (aS rfl (aS rfl (aS rfl (a0)))) kR qP (FnX.amb qS (A7g pb sF xa ni nw np nr nu no_ nt nrr nk nl nst e vz ep er eu ek eg sz rz tx B38 (Jn0 ++ A) hP38 hn_ hsn (hn1.mono qS) (he_.mono qS) hid2 hwi hel2 hfl hgl hO hoz (hG.sub qS))) rfl ?_)
 rintro v52 M52 J52 ⟨yo, yt, yr, yk, yl, yq, q2, rfl, hP52, hz, ht⟩
 haveI := hz.r.own.cel
 haveI := hz.r.their.cel
 haveI := hz.r.root.cel
 haveI := hz.r.sk.cel
 haveI := hz.r.tk.cel
 haveI := hz.r.st.cel
 haveI := ht.cel
 unfold A9E seC
 refine fm_ hs ?_
 refine D4 hs rfl (U6 rfl) rfl ?_
 refine D4 hs rfl (U0 rfl) rfl ?_
 refine D4 hs rfl (B2K rfl) rfl ?_
 refine I3 rfl rfl rfl (A9 (vs := [ni, nw, vS, vS, vS, .int .u32 0, .bool false, .int .u32 0, .bool false, yo, yt, yr, yk, (vU rz.sn), yl, (vU rz.tn), (vU rz.prev), yq]) rfl rfl rfl kR qR (A2 hn1.id.one (A2 hn1.wi.one (A2 rfl (A2 rfl (A2 rfl (A2 rfl (A2 rfl (A2 rfl (A2 rfl (A2 hz.r.own.one (A2 hz.r.their.one (A2 hz.r.root.one (A2 hz.r.sk.one (A2 rfl (A2 hz.r.tk.one (A2 rfl (A2 rfl (A2 hz.r.st.one G9)))))))))))))))))) UpC.upd ?_)
 refine fa_ hs ?_
 refine fa_ hs ?_
 refine G8 (H5 0 2 8 11 12) (A6 (A1 (mv_ ?_)))
 refine A3 (E7 true rfl rfl (eqT rfl)) rfl ?_
 refine A0 (I8 0 2 8 11 12 57) ?_
 refine F3 rfl ?_
 refine N0 [0, 1, 2, 3, 4, 5] (zp 0 [0, 0, 1, 0, 0, 0, 2]) kR kR fun hs => ?_
 refine fm_ hs ?_
 refine fm_ hs ?_
 refine S0 hs rfl (qw_ 18) rfl ?_
 refine D4 hs rfl (D2 rfl) rfl ?_
 refine D4 hs rfl (qf_ 7 7) rfl ?_
 refine D4 hs rfl (I9 (e := 40) (n := 2) (sz := 18) (i := 1) 25 rfl rfl kR kR rfl qD rfl) rfl ?_
 refine I3 rfl rfl rfl (I1 (vs := [ni, nw, vS, vS, vS, .int .u32 0, .bool false, .int .u32 0, .bool false, yo, yt, yr, yk, (vU rz.sn), yl, (vU rz.tn), (vU rz.prev), yq]) (cs' := ((vP pb) :: (vP ka) :: (vP kb) :: .int .i64 0 :: .int .i64 1 :: .int .i64 1 :: .int .i64 1 :: vi :: vw :: p0 :: r0 :: u0 :: (vU x0.he.signed) :: .bool x0.he.has :: (vU x0.he.once) :: .bool x0.tell :: vo :: vt :: vr :: vk0 :: (vU x0.r.sn) :: vl :: (vU x0.r.tn) :: (vU x0.r.prev) :: vst :: ni :: nw :: vS :: vS :: vS :: .int .u32 0 :: .bool false :: .int .u32 0 :: .bool false :: yo :: yt :: yr :: yk :: (vU rz.sn) :: yl :: (vU rz.tn) :: (vU rz.prev) :: yq :: .bool true :: [])) rfl rfl rfl kR (by exact (show 25 + 18 ≤ 44 by decide)) (A2 hn1.id.one (A2 hn1.wi.one (A2 rfl (A2 rfl (A2 rfl (A2 rfl (A2 rfl (A2 rfl (A2 rfl (A2 hz.r.own.one (A2 hz.r.their.one (A2 hz.r.root.one (A2 hz.r.sk.one (A2 rfl (A2 hz.r.tk.one (A2 rfl (A2 rfl (A2 hz.r.st.one G9)))))))))))))))))) rfl UpC.upd ?_)
 refine G8 (C7 11 12) (A1 (mv_ ?_))
 refine A3 (Q8 rfl kR (ht.rd.mono qS)) rfl ?_
 refine mv_ (as_ (as_ (A0 (C7 6 7) (A8 ?_))))
 exact ⟨_, (tb, blk ((vP pb) :: (vP ka) :: (vP kb) :: .int .i64 0 :: .int .i64 1 :: .int .i64 1 :: .int .i64 1 :: vi :: vw :: p0 :: r0 :: u0 :: (vU x0.he.signed) :: .bool x0.he.has :: (vU x0.he.once) :: .bool x0.tell :: vo :: vt :: vr :: vk0 :: (vU x0.r.sn) :: vl :: (vU x0.r.tn) :: (vU x0.r.prev) :: vst :: ni :: nw :: vS :: vS :: vS :: .int .u32 0 :: .bool false :: .int .u32 0 :: .bool false :: yo :: yt :: yr :: yk :: (vU rz.sn) :: yl :: (vU rz.tn) :: (vU rz.prev) :: yq :: .bool true :: []) 57) :: M52, [], A0K rfl rfl rfl, Fit.none (Fit.pick (B := [_]) qP (Fit.last qP)), ⟨vi, vw, p0, r0, u0, vo, vt, vr, vk0, vl, vst, ni, nw, vS, vS, vS, yo, yt, yr, yk, yl, yq, M52, rfl, hx.mono qS, hz.mono qS, hP52⟩, rfl⟩
set_option maxHeartbeats 1000000 in
theorem A7t (tb pb ka kb : Nat) (s : Ps) (x0 x1 : Ses) (e : Ev) (vz ep er eu ek eg : Value) (sz : Ps) (rz : Rsd) (tx : LN) (M0 A : Mem) (hT : T2 A tb pb ka kb s x0 x1 M0) (he_ : EvR A e vz ep er eu ek eg) (hid2 : x0.id = e.ses) (hn_ : s.ts.length + 500 ≤ 1000000) (hsn : s.n < 1000000000) (hwi : x0.wi.length ≤ 1000000) (hel2 : e.ses.length + e.he.ia.length + e.he.ig.length + e.he.key.length ≤ 1000000) (hfl : (x0.wi ++ frW [] e).length + e.hk.length ≤ 1000000) (hgl : e.g.length ≤ 10000000) (hO : OpnH s x0.r e.hk e.hp e.hn) (hoz : U9 s x0.r (x0.wi ++ frW [] e) e.hk e.hp e.hn e.g = (sz, rz, 0, tx)) (hG : Glb A) : FnX Tryz.prog 12 [(vP tb), .agg (evC vz ep er eu ek eg e).toArray, .int .i64 0] M0 A fun q M J => T2 (J ++ A) tb pb ka kb sz (A9E x0 rz) x1 M ∧ q = .tuple #[.string (txt tx), .int .i64 0] := by
 obtain ⟨vi, vw, p0, r0, u0, vo, vt, vr, vk0, vl, vst, wi, ww, p1, r1, u1, wo, wt, wr, wk0, wl, wst, MP, rfl, hx, hy, hP⟩ := hT
 haveI := hx.id.cel
 haveI := hx.wi.cel
 haveI := hx.he.ia.cel
 haveI := hx.he.ig.cel
 haveI := hx.he.key.cel
 haveI := hx.r.own.cel
 haveI := hx.r.their.cel
 haveI := hx.r.root.cel
 haveI := hx.r.sk.cel
 haveI := hx.r.tk.cel
 haveI := hx.r.st.cel
 haveI := hy.id.cel
 haveI := hy.wi.cel
 haveI := hy.he.ia.cel
 haveI := hy.he.ig.cel
 haveI := hy.he.key.cel
 haveI := hy.r.own.cel
 haveI := hy.r.their.cel
 haveI := hy.r.root.cel
 haveI := hy.r.sk.cel
 haveI := hy.r.tk.cel
 haveI := hy.r.st.cel
 haveI := he_.ses.cel
 haveI := he_.he.ia.cel
 haveI := he_.he.ig.cel
 haveI := he_.he.key.cel
 haveI := he_.hk.cel
 haveI := he_.g.cel
 unfold evC
 refine FnX.enterZ (N := 67) Tryz.func12 rfl rfl rfl fun w_ => ?_
 refine A7 (E0 0 1 2) (A1 ?_)
 refine A4 rfl (bx_ fun b4 => ?_)
 refine as_ (as_ (A0 (E0 0 2 4) (A1 (mv_ (mv_ ?_)))))
 refine A3 (D2 rfl) rfl ?_
 refine A3 (qf_ 7 7) rfl ?_
 refine A3 (I9 (e := 40) (n := 2) (sz := 18) (i := 0) 7 rfl rfl kR kR rfl qD rfl) rfl ?_
 refine A3 (D5 (n := 18) (vs := [vi, vw, p0, r0, u0, (vU x0.he.signed), .bool x0.he.has, (vU x0.he.once), .bool x0.tell, vo, vt, vr, vk0, (vU x0.r.sn), vl, (vU x0.r.tn), (vU x0.r.prev), vst]) rfl kR At.mem rfl (C2 [(vP pb), (vP ka), (vP kb), .int .i64 0, .int .i64 1, .int .i64 1, .int .i64 1] [vi, vw, p0, r0, u0, (vU x0.he.signed), .bool x0.he.has, (vU x0.he.once), .bool x0.tell, vo, vt, vr, vk0, (vU x0.r.sn), vl, (vU x0.r.tn), (vU x0.r.prev), vst] [wi, ww, p1, r1, u1, (vU x1.he.signed), .bool x1.he.has, (vU x1.he.once), .bool x1.tell, wo, wt, wr, wk0, (vU x1.r.sn), wl, (vU x1.r.tn), (vU x1.r.prev), wst, .bool true])) rfl ?_
 refine A4 rfl (C5 (cs := [vS, vS, vS, vS, vS, D3, .bool false, D3, .bool false, vS, vS, vS, vS, D3, vS, D3, D3, .pointer none]) kR rfl fun b8 => ?_)
 refine A4 rfl (A9 (vs := [vi, vw, p0, r0, u0, (vU x0.he.signed), .bool x0.he.has, (vU x0.he.once), .bool x0.tell, vo, vt, vr, vk0, (vU x0.r.sn), vl, (vU x0.r.tn), (vU x0.r.prev), vst]) rfl rfl rfl kR qR (A2 hx.id.one (A2 hx.wi.one (A2 hx.he.ia.one (A2 hx.he.ig.one (A2 hx.he.key.one (A2 rfl (A2 rfl (A2 rfl (A2 rfl (A2 hx.r.own.one (A2 hx.r.their.one (A2 hx.r.root.one (A2 hx.r.sk.one (A2 rfl (A2 hx.r.tk.one (A2 rfl (A2 rfl (A2 hx.r.st.one G9)))))))))))))))))) UpC.upd ?_)
 refine A0 (F2 0 2 4 8) (A6 (A1 (mv_ ?_)))
 refine A3 (E7 false rfl rfl (eqF qD)) rfl ?_
 refine mv_ ?_
 refine H2 rfl rfl rfl rfl ?_
 refine H2 rfl rfl rfl rfl ?_
 refine H2 rfl rfl rfl rfl ?_
 refine H2 rfl rfl rfl rfl ?_
 refine A3 (D1 rfl rfl) rfl ?_
 refine A0 (H5 0 2 4 8 26) ?_
 refine B0 rfl ?_
 refine A5 (nx (F2 0 2 4 8) ?_)
 refine F4 [0, 1, 2, 3, 4, 5, 7, 8, 9, 10, 12, 13] (zp 0 [0, 0, 0, 1, 1, 1, 2, 0, 0, 0, 0, 2, 0, 0]) kR kR fun hs => ?_
 refine fm_ hs ?_
 refine D4 hs rfl (D2 rfl) rfl ?_
 refine D4 hs rfl (qf_ 0 0) rfl ?_
 refine S0 hs rfl ql_ rfl ?_
 refine S0 hs rfl (qw_ 18) rfl ?_
 refine S0 hs rfl (qw_ 16) rfl ?_
 refine I3 rfl rfl rfl (B3 (Mc := MP) (R := _) (aS rfl (aS rfl (aS rfl (a0)))) kR qP (FnX.amb qS (A7g pb s x0 vi vw p0 r0 u0 vo vt vr vk0 vl vst e vz ep er eu ek eg sz rz tx MP A hP hn_ hsn (hx.mono qS) (he_.mono qS) hid2 hwi hel2 hfl hgl hO hoz (hG.sub qS))) rfl ?_)
 rintro v52 M52 J52 ⟨yo, yt, yr, yk, yl, yq, q2, rfl, hP52, hz, ht⟩
 haveI := hz.r.own.cel
 haveI := hz.r.their.cel
 haveI := hz.r.root.cel
 haveI := hz.r.sk.cel
 haveI := hz.r.tk.cel
 haveI := hz.r.st.cel
 haveI := ht.cel
 unfold A9E seC
 refine fm_ hs ?_
 refine D4 hs rfl (U6 rfl) rfl ?_
 refine D4 hs rfl (U0 rfl) rfl ?_
 refine D4 hs rfl (B2K rfl) rfl ?_
 refine I3 rfl rfl rfl (A9 (vs := [vi, vw, vS, vS, vS, .int .u32 0, .bool false, .int .u32 0, .bool false, yo, yt, yr, yk, (vU rz.sn), yl, (vU rz.tn), (vU rz.prev), yq]) rfl rfl rfl kR qR (A2 hx.id.one (A2 hx.wi.one (A2 rfl (A2 rfl (A2 rfl (A2 rfl (A2 rfl (A2 rfl (A2 rfl (A2 hz.r.own.one (A2 hz.r.their.one (A2 hz.r.root.one (A2 hz.r.sk.one (A2 rfl (A2 hz.r.tk.one (A2 rfl (A2 rfl (A2 hz.r.st.one G9)))))))))))))))))) UpC.upd ?_)
 refine fa_ hs ?_
 refine fa_ hs ?_
 refine G8 (H5 0 2 8 11 12) (A6 (A1 (mv_ ?_)))
 refine A3 (E7 true rfl rfl (eqT rfl)) rfl ?_
 refine A0 (I8 0 2 8 11 12 57) ?_
 refine F3 rfl ?_
 refine N0 [0, 1, 2, 3, 4, 5] (zp 0 [0, 0, 1, 0, 0, 0, 2]) kR kR fun hs => ?_
 refine fm_ hs ?_
 refine fm_ hs ?_
 refine S0 hs rfl (qw_ 18) rfl ?_
 refine D4 hs rfl (D2 rfl) rfl ?_
 refine D4 hs rfl (qf_ 7 7) rfl ?_
 refine D4 hs rfl (I9 (e := 40) (n := 2) (sz := 18) (i := 0) 7 rfl rfl kR kR rfl qD rfl) rfl ?_
 refine I3 rfl rfl rfl (I1 (vs := [vi, vw, vS, vS, vS, .int .u32 0, .bool false, .int .u32 0, .bool false, yo, yt, yr, yk, (vU rz.sn), yl, (vU rz.tn), (vU rz.prev), yq]) (cs' := ((vP pb) :: (vP ka) :: (vP kb) :: .int .i64 0 :: .int .i64 1 :: .int .i64 1 :: .int .i64 1 :: vi :: vw :: vS :: vS :: vS :: .int .u32 0 :: .bool false :: .int .u32 0 :: .bool false :: yo :: yt :: yr :: yk :: (vU rz.sn) :: yl :: (vU rz.tn) :: (vU rz.prev) :: yq :: wi :: ww :: p1 :: r1 :: u1 :: (vU x1.he.signed) :: .bool x1.he.has :: (vU x1.he.once) :: .bool x1.tell :: wo :: wt :: wr :: wk0 :: (vU x1.r.sn) :: wl :: (vU x1.r.tn) :: (vU x1.r.prev) :: wst :: .bool true :: [])) rfl rfl rfl kR (by exact (show 7 + 18 ≤ 44 by decide)) (A2 hx.id.one (A2 hx.wi.one (A2 rfl (A2 rfl (A2 rfl (A2 rfl (A2 rfl (A2 rfl (A2 rfl (A2 hz.r.own.one (A2 hz.r.their.one (A2 hz.r.root.one (A2 hz.r.sk.one (A2 rfl (A2 hz.r.tk.one (A2 rfl (A2 rfl (A2 hz.r.st.one G9)))))))))))))))))) rfl UpC.upd ?_)
 refine G8 (C7 11 12) (A1 (mv_ ?_))
 refine A3 (Q8 rfl kR (ht.rd.mono qS)) rfl ?_
 refine mv_ (as_ (as_ (A0 (C7 6 7) (A8 ?_))))
 exact ⟨_, (tb, blk ((vP pb) :: (vP ka) :: (vP kb) :: .int .i64 0 :: .int .i64 1 :: .int .i64 1 :: .int .i64 1 :: vi :: vw :: vS :: vS :: vS :: .int .u32 0 :: .bool false :: .int .u32 0 :: .bool false :: yo :: yt :: yr :: yk :: (vU rz.sn) :: yl :: (vU rz.tn) :: (vU rz.prev) :: yq :: wi :: ww :: p1 :: r1 :: u1 :: (vU x1.he.signed) :: .bool x1.he.has :: (vU x1.he.once) :: .bool x1.tell :: wo :: wt :: wr :: wk0 :: (vU x1.r.sn) :: wl :: (vU x1.r.tn) :: (vU x1.r.prev) :: wst :: .bool true :: []) 57) :: M52, [], A0K rfl rfl rfl, Fit.none (Fit.pick (B := [_]) qP (Fit.last qP)), ⟨vi, vw, vS, vS, vS, yo, yt, yr, yk, yl, yq, wi, ww, p1, r1, u1, wo, wt, wr, wk0, wl, wst, M52, rfl, hz.mono qS, hy.mono qS, hP52⟩, rfl⟩

theorem T1.mono {R R' : Mem} {tb pb ka kb : Nat} {s : Ps} {x0 : Ses} {M : Mem} (h : T1 R tb pb ka kb s x0 M) (hR : ∀ z, z ∈ R → z ∈ R') : T1 R' tb pb ka kb s x0 M := by
  obtain ⟨a, b, c, d, e, f, g, i, j, k, l, MP, h1, h2, h3⟩ := h
  exact ⟨a, b, c, d, e, f, g, i, j, k, l, MP, h1, h2.mono hR, h3⟩
theorem T2.mono {R R' : Mem} {tb pb ka kb : Nat} {s : Ps} {x0 x1 : Ses} {M : Mem} (h : T2 R tb pb ka kb s x0 x1 M) (hR : ∀ z, z ∈ R → z ∈ R') : T2 R' tb pb ka kb s x0 x1 M := by
  obtain ⟨a, b, c, d, e, f, g, i, j, k, l, a', b', c', d', e', f', g', i', j', k', l', MP, h1, h2, h3, h4⟩ := h
  exact ⟨a, b, c, d, e, f, g, i, j, k, l, a', b', c', d', e', f', g', i', j', k', l', MP, h1, h2.mono hR, h3.mono hR, h4⟩
theorem KyE.mono {R R' : Mem} {kb : Nat} {k : Ks} (h : KyE R kb k) (hR : ∀ z, z ∈ R → z ∈ R') : KyE R' kb k := by
  obtain ⟨a, b, c, d, e, f, g, i, h⟩ := h
  exact ⟨a, b, c, d, e, f, g, i, h.mono hR⟩
theorem B3L : B256 hiW := ⟨by decide⟩
theorem B3M : B256 hoW := ⟨by decide⟩
set_option maxHeartbeats 1000000 in
theorem A3j (A : Mem) (hG : Glb A) : FnV Tryz.prog 4 [] A (.bool true) := by
 refine FnX.enter (N := 80) Tryz.func4 rfl rfl rfl fun w_ => ?_
 refine A7 kn (A1 (as_ (A0 kn (A1 ?_))))
 refine E4 (aS rfl (aS rfl a0)) kR (A8U _ hG.up) rfl ?_
 rintro v10 M10 J10 ⟨tb, pb, ka, kb, rfl, hT0, hKy⟩
 obtain ⟨vi, vw, p0, r0, u0, vo, vt, vr, vk0, vl, vst, MP, rfl, hx, hP⟩ := hT0
 have hT0 : T1 _ tb pb ka kb zD zX ((tb, blk ((vP pb) :: (vP ka) :: (vP kb) :: .int .i64 0 :: .int .i64 1 :: .int .i64 1 :: .int .i64 1 :: vi :: vw :: p0 :: r0 :: u0 :: (vU zX.he.signed) :: .bool zX.he.has :: (vU zX.he.once) :: .bool zX.tell :: vo :: vt :: vr :: vk0 :: (vU zX.r.sn) :: vl :: (vU zX.r.tn) :: (vU zX.r.prev) :: vst :: vS :: vS :: vS :: vS :: vS :: .int .u32 0 :: .bool false :: .int .u32 0 :: .bool false :: vS :: vS :: vS :: vS :: .int .u32 0 :: vS :: .int .u32 0 :: .int .u32 0 :: .pointer none :: .bool true :: []) 57) :: MP) := ⟨vi, vw, p0, r0, u0, vo, vt, vr, vk0, vl, vst, MP, rfl, hx, hP⟩
 obtain ⟨g1, g2, g3, g4, g5, g6, g7⟩ := zf4
 obtain ⟨i1, i2, i3, i4, i5, i6, i7⟩ := zf5
 obtain ⟨k1, k2⟩ := zf6
 obtain ⟨l1, l2, l3, l4, l5⟩ := zf8
 obtain ⟨m1, m2, m3, m4, m5, m6⟩ := zf11
 obtain ⟨n1, n2, n3, n4, n5, n6, n7, n8⟩ := zf12
 refine as_ (A0 (C9 1) (A6 (A1 (mv_ ?_))))
 refine A3 (D0 (e := 57) rfl rfl kR) rfl ?_
 refine mv_ ?_
 refine C6 rfl rfl (OpQ.opL qm_ rfl ?_)
 refine C6 rfl rfl (OpQ.opL (D2 rfl) rfl ?_)
 refine C6 rfl rfl (OpQ.opL (qf_ 43 43) rfl ?_)
 refine C6 rfl rfl (OpQ.opL ql_ rfl ?_)
 refine C6 rfl rfl (OpQ.opL (P2 rfl) rfl ?_)
 refine A3 (D1 rfl rfl) rfl ?_
 refine A0 (C7 1 19) ?_
 refine B0 rfl ?_
 refine A5 (nx (C9 1) (A1 (mv_ ?_)))
 refine A4 rfl (B3 (Mc := (tb, blk ((vP pb) :: (vP ka) :: (vP kb) :: .int .i64 0 :: .int .i64 1 :: .int .i64 1 :: .int .i64 1 :: vi :: vw :: p0 :: r0 :: u0 :: (vU zX.he.signed) :: .bool zX.he.has :: (vU zX.he.once) :: .bool zX.tell :: vo :: vt :: vr :: vk0 :: (vU zX.r.sn) :: vl :: (vU zX.r.tn) :: (vU zX.r.prev) :: vst :: vS :: vS :: vS :: vS :: vS :: .int .u32 0 :: .bool false :: .int .u32 0 :: .bool false :: vS :: vS :: vS :: vS :: .int .u32 0 :: vS :: .int .u32 0 :: .int .u32 0 :: .pointer none :: .bool true :: []) 57) :: MP) (R := _) (aS rfl (aS rfl (aS rfl (a0)))) kR qP (A7q tb pb ka kb zD zX hiW ((tb, blk ((vP pb) :: (vP ka) :: (vP kb) :: .int .i64 0 :: .int .i64 1 :: .int .i64 1 :: .int .i64 1 :: vi :: vw :: p0 :: r0 :: u0 :: (vU zX.he.signed) :: .bool zX.he.has :: (vU zX.he.once) :: .bool zX.tell :: vo :: vt :: vr :: vk0 :: (vU zX.r.sn) :: vl :: (vU zX.r.tn) :: (vU zX.r.prev) :: vst :: vS :: vS :: vS :: vS :: vS :: .int .u32 0 :: .bool false :: .int .u32 0 :: .bool false :: vS :: vS :: vS :: vS :: .int .u32 0 :: vS :: .int .u32 0 :: .int .u32 0 :: .pointer none :: .bool true :: []) 57) :: MP) _ (hT0.mono qS) g1 g6 g2 g3 g4 g5 B3L qD hG.up) rfl ?_)
 rintro v22 M22 J22 ⟨hT22, v, rfl, es, ep, er, eu, ek, eg, rfl, he22⟩
 change T1 _ tb pb ka kb zE zX1 M22 at hT22
 change EvR _ zV es ep er eu ek eg at he22
 haveI := he22.ses.cel
 haveI := he22.he.ia.cel
 haveI := he22.he.ig.cel
 haveI := he22.he.key.cel
 haveI := he22.hk.cel
 haveI := he22.g.cel
 unfold evC
 rw [show (evS zD zX zX.he 0 1 1 1 hiW) = zV from rfl, i3]
 refine mv_ ?_
 refine A3 (U6 rfl) rfl ?_
 refine A3 (U0 rfl) rfl ?_
 refine A4 rfl (C5 (cs := [L7, L7, L7, L7, vS, .bool false, vS, vS, vS, D3, .bool false, D3, vS, D3, D3, vS]) kR rfl fun b2 => ?_)
 refine A4 rfl (A9 (vs := [.int .i64 zV.fu, .int .i64 zV.fd, .int .i64 zV.tu, .int .i64 zV.td, es, .bool true, ep, er, eu, (vU zV.he.signed), .bool zV.he.has, (vU zV.he.once), ek, (vU zV.hp), (vU zV.hn), eg]) rfl rfl rfl kR qR (A2 rfl (A2 rfl (A2 rfl (A2 rfl (A2 he22.ses.one (A2 rfl (A2 he22.he.ia.one (A2 he22.he.ig.one (A2 he22.he.key.one (A2 rfl (A2 rfl (A2 rfl (A2 he22.hk.one (A2 rfl (A2 rfl (A2 he22.g.one G9)))))))))))))))) UpC.upd ?_)
 refine as_ (A0 (E0 1 2 3) (A1 (mv_ ?_)))
 refine A3 (qw_ 16) rfl ?_
 refine A4 rfl (B3 (Mc := M22) (R := _) (aS rfl (aS rfl (aS rfl (a0)))) kR qP (A7s tb pb ka kb zE zX1 zB.1 zV es ep er eu ek eg zK zH zN.2 zF zR zO.1 zO.2 hiW M22 _ (hT22.mono qS) (hKy.mono qS) zf7 (he22.mono qS) qO i3 (Prod.ext k1 rfl) qO i6 k2 rfl rfl qO qO l3 i7 l4 l5 zf10 zf9 hG.up) rfl ?_)
 rintro v28 M28 J28 ⟨hT28, rfl⟩
 change T2 _ tb pb ka kb zO.1 zX1 zR1 M28 at hT28
 refine mv_ ?_
 refine A3 (U6 rfl) rfl ?_
 refine A3 (U0 rfl) rfl ?_
 refine as_ (as_ (A0 (H5 1 2 3 4 5) (A1 (mv_ ?_))))
 refine A4 rfl (B3 (Mc := M28) (R := _) (aS rfl (aS rfl (aS rfl (a0)))) kR qP (A7r tb pb ka kb zO.1 zX1 zR1 hoW M28 _ (hT28.mono qS) m1 m2 m3 m4 (show zR1.id.length + 0 + 0 + 0 ≤ _ by omega) m6 B3M qD hG.up) rfl ?_)
 rintro v33 M33 J33 ⟨hT33, v, rfl, fs, fp, fr, fu_, fk, fg, rfl, he33⟩
 change T2 _ tb pb ka kb zI zX1 zR2 M33 at hT33
 change EvR _ zV2 fs fp fr fu_ fk fg at he33
 haveI := he33.ses.cel
 haveI := he33.he.ia.cel
 haveI := he33.he.ig.cel
 haveI := he33.he.key.cel
 haveI := he33.hk.cel
 haveI := he33.g.cel
 unfold evC
 rw [show (evS zO.1 zR1 he0 1 1 0 1 hoW) = zV2 from rfl, n8]
 refine mv_ ?_
 refine A3 (U6 rfl) rfl ?_
 refine A3 (U0 rfl) rfl ?_
 refine A4 rfl (C5 (cs := [L7, L7, L7, L7, vS, .bool false, vS, vS, vS, D3, .bool false, D3, vS, D3, D3, vS]) kR rfl fun b6 => ?_)
 refine A4 rfl (A9 (vs := [.int .i64 zV2.fu, .int .i64 zV2.fd, .int .i64 zV2.tu, .int .i64 zV2.td, fs, .bool false, fp, fr, fu_, (vU zV2.he.signed), .bool zV2.he.has, (vU zV2.he.once), fk, (vU zV2.hp), (vU zV2.hn), fg]) rfl rfl rfl kR qR (A2 rfl (A2 rfl (A2 rfl (A2 rfl (A2 he33.ses.one (A2 rfl (A2 he33.he.ia.one (A2 he33.he.ig.one (A2 he33.he.key.one (A2 rfl (A2 rfl (A2 rfl (A2 he33.hk.one (A2 rfl (A2 rfl (A2 he33.g.one G9)))))))))))))))) UpC.upd ?_)
 refine as_ (A0 (R8 1 2 3 4 5 6 7) (A1 (mv_ ?_)))
 refine A3 (qw_ 16) rfl ?_
 refine A4 rfl (B3 (Mc := M33) (R := _) (aS rfl (aS rfl (aS rfl (a0)))) kR qP (A7t tb pb ka kb zI zX1 zR2 zV2 fs fp fr fu_ fk fg zQ.1 zQ.2 hoW M33 _ (hT33.mono qS) (he33.mono qS) n3 qO qO n4 (show zV2.ses.length + 0 + 0 + 0 ≤ _ by omega) n6 n7 zf14 zf13 hG.up) rfl ?_)
 rintro v39 M39 J39 ⟨hT39, rfl⟩
 obtain ⟨c0, c1, c2, c3, c4, c5, c6, c7, c8, c9, c10, c11, c12, c13, c14, c15, c16, c17, c18, c19, c20, c21, MQ, rfl, -, -, -⟩ := hT39
 rw [show (A9E zX1 zQ.2).tell = false from rfl]
 refine mv_ ?_
 refine A3 (U6 rfl) rfl ?_
 refine A3 (U0 rfl) rfl ?_
 refine as_ (as_ (A0 (A3u 1 2 3 4 5 6 7 8 9) (A1 (mv_ (mv_ ?_)))))
 refine C6 rfl rfl (OpQ.opL qm_ rfl ?_)
 refine C6 rfl rfl (OpQ.opL (E7 true rfl rfl (eqT rfl)) rfl ?_)
 refine A3 (E6 rfl rfl) rfl ?_
 refine mv_ ?_
 refine C6 rfl rfl (OpQ.opL qm_ rfl ?_)
 refine C6 rfl rfl (OpQ.opL (A37 rfl rfl rfl) rfl ?_)
 refine A3 (E6 rfl rfl) rfl ?_
 refine mv_ ?_
 refine C6 rfl rfl (OpQ.opL qm_ rfl ?_)
 refine A3 (E6 rfl rfl) rfl ?_
 refine mv_ ?_
 refine C6 rfl rfl (OpQ.opL qm_ rfl ?_)
 refine C6 rfl rfl (OpQ.opL (E7 true rfl rfl (eqT rfl)) rfl ?_)
 refine A3 (E6 rfl rfl) rfl ?_
 refine mv_ ?_
 refine C6 rfl rfl (OpQ.opL qm_ rfl ?_)
 refine C6 rfl rfl (OpQ.opL (A37 rfl rfl rfl) rfl ?_)
 refine A3 (E6 rfl rfl) rfl ?_
 refine mv_ ?_
 refine C6 rfl rfl (OpQ.opL (qf_ 5 5) rfl ?_)
 refine C6 rfl rfl (OpQ.opL ql_ rfl ?_)
 refine A3 (E6 rfl rfl) rfl ?_
 refine mv_ ?_
 refine C6 rfl rfl (OpQ.opL (qf_ 5 5) rfl ?_)
 refine C6 rfl rfl (OpQ.opL ql_ rfl ?_)
 refine C6 rfl rfl (OpQ.opL (P2 rfl) rfl ?_)
 refine A3 (E6 rfl rfl) rfl ?_
 refine mv_ ?_
 refine C6 rfl rfl (OpQ.opL qm_ rfl ?_)
 refine C6 rfl rfl (OpQ.opL (D2 rfl) rfl ?_)
 refine C6 rfl rfl (OpQ.opL (qf_ 7 7) rfl ?_)
 refine C6 rfl rfl (OpQ.opL (I9 (e := 40) (n := 2) (sz := 18) (i := 0) 7 rfl rfl kR kR rfl qD rfl) rfl ?_)
 refine C6 rfl rfl (OpQ.opL (A09 (off := 8) rfl kR) rfl ?_)
 refine C6 rfl rfl (OpQ.opL ql_ rfl ?_)
 refine C6 rfl rfl (OpQ.opL (P2 rfl) rfl ?_)
 refine A3 (E6 rfl rfl) rfl ?_
 refine as_ (A0 (C9 0) (A8 ?_))
 exact ⟨_, [], [], G5 rfl rfl, List.nil_sublist _, by simp, rfl, rfl, rfl⟩

end Go.Proofs.YtpemeceacdhacaaGreatDoor
