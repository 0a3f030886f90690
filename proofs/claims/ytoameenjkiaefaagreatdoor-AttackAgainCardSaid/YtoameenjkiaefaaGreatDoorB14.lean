/- Part 14 of the texts of this claim, one behind the other. -/
import Derived.Test.YtoameenjkiaefaaGreatDoorB13
set_option linter.unusedVariables false
set_option linter.unusedSimpArgs false
set_option maxRecDepth 100000
namespace Go.Proofs.YtoameenjkiaefaaGreatDoor
open Go.Px
theorem B2p {P : Program} {fn : Func} {l : Env} {R : Mem} {t1 t2 u b1 b2 n1 n2 : Nat} {y1 y2 : TypeId} {c1 c2 : List Value} {e1 e2 : TypeId} {f1 f2 : Nat × Nat} {v : Value} (h : fn.results = #[.cell t1 y1, .cell t2 y2, .tmp u]) (h1 : lk l t1 = some (vP b1)) (h2 : lk l t2 = some (vP b2)) (hu : lk l u = some v) (ht1 : A3a P y1 = some n1) (ht2 : A3a P y2 = some n2)
    (hb1 : (b1, Obj.cells c1.toArray e1 f1) ∈ R) (hb2 : (b2, Obj.cells c2.toArray e2 f2) ∈ R) (hn1 : c1.length = n1) (hn2 : c2.length = n2) : Res P fn l R (.tuple #[.agg c1.toArray, .agg c2.toArray, v]) := fun N a w ha hw => by
  obtain ⟨d1, g1, g2, g3⟩ := L5 ht1
  obtain ⟨d2, k1, k2, k3⟩ := L5 ht2
  have l1 := run_loadVar_row (P := P) w b1 e1 y1 c1.toArray f1 d1 (hw b1 _ hb1) g1 (by cases d1 <;> simp_all [TypeDesc.isRow]) (by rw [g3, ← hn1]; simp)
  have l2 := run_loadVar_row (P := P) w b2 e2 y2 c2.toArray f2 d2 (hw b2 _ hb2) k1 (by cases d2 <;> simp_all [TypeDesc.isRow]) (by rw [k3, ← hn2]; simp)
  simp [results, h, ha.slot t1 _ h1, ha.slot t2 _ h2, ha.slot u _ hu, asAddr, l1, l2]
def A1O (x : Ses) (h : He) (fu fd tu td : Int) : Ev := ⟨fu, fd, tu, td, x.id, x.tell, h, [], 0, 0, []⟩
def A3b (x : Ses) (r2 : Rsd) : Ses := ⟨x.id, x.wi, x.he, x.tell, r2⟩
set_option maxHeartbeats 1000000 in
theorem B0M (pb : Nat × Nat) (s : Ps) (x : Ses) (vi vw p0 r0 u0 vo vt vr vk0 vl vst vx : Value) (fu fd tu td : Int) (tx : LN) (MP A : Mem) (hP : Prm pb s MP) (hn : s.ts.length + 200 ≤ 1000000) (hx : SeR A x vi vw p0 r0 u0 vo vt vr vk0 vl vst) (htell : x.tell = true) (hsk : 0 < x.r.sk.length) (hwi : x.wi.length ≤ 1000000) (hel : x.id.length + x.he.ia.length + x.he.ig.length + x.he.key.length ≤ 1000000) (hfl : (x.wi ++ frW [] (A1O x x.he fu fd tu td)).length ≤ 1000000) (htx : By A vx tx) (hxl : tx.length ≤ 1000000) (hG : Glb A) : FnX Tryz.prog 30 [.pointer (some ⟨pb.1, 0, none⟩), .agg (seC vi vw p0 r0 u0 vo vt vr vk0 vl vst x).toArray, .agg #[.int .i64 fu, .int .i64 fd], .agg #[.int .i64 tu, .int .i64 td], vx] MP A fun q M J => ∃ wo wt wr wk wl wq vid q2 q3, q = .tuple #[.agg (seC vi vw p0 r0 u0 wo wt wr wk wl wq (A3b x (Q8 s x.r))).toArray, .agg (evC vid p0 r0 u0 q2 q3 ⟨fu, fd, tu, td, x.id, x.tell, x.he, I9 s x.r.own, x.r.prev, x.r.sn, A5p s x.r (x.wi ++ frW [] (A1O x x.he fu fd tu td)) tx⟩).toArray, .int .i64 0] ∧ Prm pb (B2m s x.r (x.wi ++ frW [] (A1O x x.he fu fd tu td)) tx) M ∧ SeR (J ++ A) (A3b x (Q8 s x.r)) vi vw p0 r0 u0 wo wt wr wk wl wq ∧ EvR (J ++ A) (⟨fu, fd, tu, td, x.id, x.tell, x.he, I9 s x.r.own, x.r.prev, x.r.sn, A5p s x.r (x.wi ++ frW [] (A1O x x.he fu fd tu td)) tx⟩ : Ev) vid p0 r0 u0 q2 q3 := by
 haveI := hx.id.cel
 haveI := hx.wi.cel
 haveI := hx.he.ia.cel
 haveI := hx.he.ig.cel
 haveI := hx.he.key.cel
 haveI := hx.r.own.cel
 haveI := hx.r.their.cel
 haveI := hx.r.root.cel
 haveI := hx.r.sk.cel
 haveI := hx.r.tk.cel
 haveI := hx.r.st.cel
 haveI := htx.cel
 unfold seC
 refine FnX.enterZ (N := 57) Tryz.func30 rfl rfl rfl fun w_ => ?_
 refine A8 (H9 0 1 2 3 4) (A1 ?_)
 refine A4 rfl (bx_ fun b6 => ?_)
 refine A4 rfl (bx_ fun b7 => ?_)
 refine A4 rfl (bx_ fun b8 => ?_)
 refine A4 rfl (D3 (cs := [vS, vS, vS, vS, vS, E8, .bool false, E8, .bool false, vS, vS, vS, vS, E8, vS, E8, E8, .pointer none]) kR rfl fun b10 => ?_)
 refine A4 rfl (D3 (cs := [F9, F9, F9, F9, vS, .bool false, vS, vS, vS, E8, .bool false, E8, vS, E8, E8, vS]) kR rfl fun b11 => ?_)
 refine as_ (A0 (V0 0 4 6 7 8 10 11) ?_)
 refine E5 ([]) (_) true (.range 9) [(0, 1), (1, 1), (2, 0), (3, 1), (5, 0), (6, 1), (4, 3), (7, 3), (8, 4), (9, 2)] kR kR qP fun hs K n0 hKm hKs hKn => ?_
 refine I2 hs rfl hKs (E6 (n := 2) (vs := [.int .i64 fu, .int .i64 fd]) rfl kR At.mem rfl (D4 [] [.int .i64 fu, .int .i64 fd] [])) ?_
 refine I2 hs rfl hKs (E6 (n := 2) (vs := [.int .i64 tu, .int .i64 td]) rfl kR At.mem rfl (D4 [] [.int .i64 tu, .int .i64 td] [])) ?_
 refine E4 hs rfl (qf_ 0 0) rfl ?_
 refine I2 hs rfl hKs ql_ ?_
 refine E4 hs rfl (qf_ 8 8) rfl ?_
 refine I2 hs rfl hKs ql_ ?_
 refine S2 [⟨4, 22, none, [], fun v B R => B = [] ∧ By R v x.id⟩, ⟨7, 25, none, [], fun v B R => B = [] ∧ ∃ w0, v = .agg #[.int .i64 fu, .int .i64 fd, .int .i64 tu, .int .i64 td, w0, .bool x.tell, vS, vS, vS, .int .u32 0, .bool false, .int .u32 0, vS, .int .u32 0, .int .u32 0, vS] ∧ By R w0 x.id⟩, ⟨8, 13, none, [], fun v B _ => ∃ b, v = (vP b) ∧ B = [(b, blk [.int .i64 0, .int .i64 0, .int .i64 0, .int .i64 0, vS, .bool false, vS, vS, vS, .int .u32 0, .bool false, .int .u32 0, vS, .int .u32 0, .int .u32 0, vS] 37)]⟩] ([(b11, blk [.int .i64 0, .int .i64 0, .int .i64 0, .int .i64 0, vS, .bool false, vS, vS, vS, .int .u32 0, .bool false, .int .u32 0, vS, .int .u32 0, .int .u32 0, vS] 37), (b10, blk [vS, vS, vS, vS, vS, .int .u32 0, .bool false, .int .u32 0, .bool false, vS, vS, vS, vS, .int .u32 0, vS, .int .u32 0, .int .u32 0, .pointer none] 74), (b8, blk [.int .i64 tu, .int .i64 td] 28), (b7, blk [.int .i64 fu, .int .i64 fd] 28), (b6, blk [vi, vw, p0, r0, u0, (vU x.he.signed), .bool x.he.has, (vU x.he.once), .bool x.tell, vo, vt, vr, vk0, (vU x.r.sn), vl, (vU x.r.tn), (vU x.r.prev), vst] 74)] ++ MP) (fun bs => [bs 4, bs 7, bs 8]) (hKn rfl) (by simp [S1, V3]) (show ∀ m ∈ ([[], [], []] : List Mem), ∀ x ∈ m, K x.1 from A3 (fun _ h => by cases h) (A3 (fun _ h => by cases h) (A3 (fun _ h => by cases h) (I5)))) kR (fun _ => by first | rfl | kernel_rfl)
  (A3 (fun _ _ _ _ h hp => ⟨hp.1, hp.2.mono h⟩) (A3 (fun _ _ _ _ h hp => (let ⟨e0, w0, e1, e2⟩ := hp; ⟨e0, w0, e1, e2.mono h⟩)) (A3 (fun _ _ _ _ _ h => h) (I5)))) (show List.Nodup [22, 25, 13] by decide) (show List.Nodup [4, 7, 8] by decide) (A3 (D6 rfl) (A3 (D6 rfl) (A3 (D6 rfl) (I5))))
  (A3 ⟨_, rfl, fun vs bs R Rj wG hb hj hjr ha => ⟨.inl rfl, ?_⟩⟩ (A3 ⟨_, rfl, fun vs bs R Rj wG hb hj hjr ha => ⟨.inl rfl, ?_⟩⟩ (A3 ⟨_, rfl, fun vs bs R Rj wG hb hj hjr ha => ⟨.inl rfl, ?_⟩⟩ (I5)))) ?_
 ·
  dsimp only [Gc.inp]
  refine K1 (aS rfl a0) kR (FnX.amb (A := Rj) (fun x hx => by have := hjr x hx; simp [this]) (Z0 vi x.id Rj (hx.id.mono (fun x hx => hj x (qS x hx))))) rfl ?_
  rintro r M1 J1 ⟨rfl, hh_⟩
  exact ⟨_, rfl, rfl, hh_.mono fun z hz => by simp [hz]⟩
 ·
  dsimp only [Gc.inp]
  have g4 := ha _ (List.mem_of_getElem? (i := 0) rfl) kR
  replace g4 : (fun v B R => B = [] ∧ By R v x.id) (vs 4) (bs 4) Rj := g4
  dsimp only at g4
  obtain ⟨-, h4⟩ := g4
  haveI := h4.cel
  exact OpQ.opL (D2 (place := fun x => #[(0, 2), (2, 2), (4, 1), (5, 1), (6, 6), (12, 3), (15, 1)][x]?) (z := [F9, F9, F9, F9, vS, .bool false, vS, vS, vS, E8, .bool false, E8, vS, E8, E8, vS]) (fun _ => by kernel_rfl) (eS rfl (eS rfl (eS rfl (eS rfl e0)))) (bdS 0 2 rfl qR (bdS 2 2 rfl qR (bdS 4 1 rfl qR (bdS 5 1 rfl qR bd0))))) rfl ⟨_, rfl, rfl, _, rfl, h4⟩
 ·
  dsimp only [Gc.inp]
  exact D3 (cs := [F9, F9, F9, F9, vS, .bool false, vS, vS, vS, E8, .bool false, E8, vS, E8, E8, vS]) kR rfl fun b => ⟨_, rfl, b, rfl, rfl⟩
 intro vs bs Jn0 hφ hKK
 have kk4 := hKK _ (List.mem_of_getElem? (i := 0) rfl)
 dsimp only at kk4
 have kk7 := hKK _ (List.mem_of_getElem? (i := 1) rfl)
 dsimp only at kk7
 have kk8 := hKK _ (List.mem_of_getElem? (i := 2) rfl)
 dsimp only at kk8
 clear hKK
 have g4 := ofH hφ
 dsimp only at g4
 replace hφ := ofT hφ
 have g7 := ofH hφ
 dsimp only at g7
 replace hφ := ofT hφ
 have g8 := ofH hφ
 dsimp only at g8
 clear hφ
 dsimp only [L9, S1, List.foldr, List.map, List.cons_append, List.nil_append]
 generalize bs 4 = B22 at *
 generalize bs 7 = B25 at *
 generalize bs 8 = B13 at *
 generalize vs 4 = u22 at *
 generalize vs 7 = u25 at *
 generalize vs 8 = u13 at *
 obtain ⟨rfl, -⟩ := g4
 obtain ⟨rfl, uid, rfl, h22⟩ := g7
 obtain ⟨b13, rfl, rfl⟩ := g8
 haveI := h22.cel
 dsimp only [List.append_eq, List.nil_append, List.cons_append]
 refine I6 rfl rfl rfl (C0 (vs := [.int .i64 fu, .int .i64 fd, .int .i64 tu, .int .i64 td, uid, .bool x.tell, vS, vS, vS, .int .u32 0, .bool false, .int .u32 0, vS, .int .u32 0, .int .u32 0, vS]) rfl rfl rfl kR qR (A3 rfl (A3 rfl (A3 rfl (A3 rfl (A3 h22.one (A3 rfl al10)))))) UpC.upd ?_)
 refine H7 (L1 0 4 6 10 11 13) (A7 (A1 ?_))
 refine A2 (qf_ 8 8) rfl ?_
 refine A2 ql_ rfl ?_
 refine A0 (V0 0 4 6 10 11 13 27) ?_
 refine G3 (by rw [← htell]; rfl) ?_
 refine D1 ?_
 refine A2 (qf_ 2 2) rfl ?_
 refine A2 (E6 (n := 6) (vs := [p0, r0, u0, (vU x.he.signed), .bool x.he.has, (vU x.he.once)]) rfl kR At.mem rfl (D4 [vi, vw] [p0, r0, u0, (vU x.he.signed), .bool x.he.has, (vU x.he.once)] [.bool x.tell, vo, vt, vr, vk0, (vU x.r.sn), vl, (vU x.r.tn), (vU x.r.prev), vst])) rfl ?_
 refine A2 (qf_ 6 6) rfl ?_
 refine A4 rfl (I4 (vs := [p0, r0, u0, (vU x.he.signed), .bool x.he.has, (vU x.he.once)]) (cs' := [.int .i64 fu, .int .i64 fd, .int .i64 tu, .int .i64 td, uid, .bool x.tell, p0, r0, u0, (vU x.he.signed), .bool x.he.has, (vU x.he.once), vS, .int .u32 0, .int .u32 0, vS]) rfl rfl rfl kR (by exact (show 6 + 6 ≤ 16 by decide)) (A3 hx.he.ia.one (A3 hx.he.ig.one (A3 hx.he.key.one al3))) rfl UpC.upd ?_)
 refine A0 (L1 0 4 6 10 11 13) ?_
 have hEv : EvR _ (A1O x x.he fu fd tu td) uid p0 r0 u0 (vS) (vS) := ⟨h22, hx.he.mono qS, hx.hil, By.nil, By.nil, (show 0 < 4294967296 by decide), (show 0 < 4294967296 by decide)⟩
 refine E5 (MP) (_) true [0, 1, 2, 3, 4, 5, 6, 7, 8, 9, 10, 11, 12, 13, 14, 17, 18] [(0, 0), (1, 0), (2, 1), (3, 1), (4, 1), (6, 0), (5, 8), (7, 8), (8, 8), (9, 8), (13, 8), (14, 8), (10, 9), (11, 9), (12, 10), (15, 2), (16, 2), (17, 0), (18, 0)] kR kR qP fun hs K n0 hKm hKs hKn => ?_
 refine km_ hs ?_
 refine E4 hs rfl (qf_ 9 9) rfl ?_
 refine I2 hs rfl hKs (E6 (n := 9) (vs := [vo, vt, vr, vk0, (vU x.r.sn), vl, (vU x.r.tn), (vU x.r.prev), vst]) rfl kR At.mem rfl (D4 [vi, vw, p0, r0, u0, (vU x.he.signed), .bool x.he.has, (vU x.he.once), .bool x.tell] [vo, vt, vr, vk0, (vU x.r.sn), vl, (vU x.r.tn), (vU x.r.prev), vst] [])) ?_
 refine I2 hs rfl hKs (E6 (n := 18) (vs := [vi, vw, p0, r0, u0, (vU x.he.signed), .bool x.he.has, (vU x.he.once), .bool x.tell, vo, vt, vr, vk0, (vU x.r.sn), vl, (vU x.r.tn), (vU x.r.prev), vst]) rfl kR At.mem rfl (D4 [] [vi, vw, p0, r0, u0, (vU x.he.signed), .bool x.he.has, (vU x.he.once), .bool x.tell, vo, vt, vr, vk0, (vU x.r.sn), vl, (vU x.r.tn), (vU x.r.prev), vst] [])) ?_
 refine I2 hs rfl hKs (E6 (n := 16) (vs := [.int .i64 fu, .int .i64 fd, .int .i64 tu, .int .i64 td, uid, .bool x.tell, p0, r0, u0, (vU x.he.signed), .bool x.he.has, (vU x.he.once), vS, .int .u32 0, .int .u32 0, vS]) rfl kR At.mem rfl (D4 [] [.int .i64 fu, .int .i64 fd, .int .i64 tu, .int .i64 td, uid, .bool x.tell, p0, r0, u0, (vU x.he.signed), .bool x.he.has, (vU x.he.once), vS, .int .u32 0, .int .u32 0, vS] [])) ?_
 refine km_ hs ?_
 refine A2Z [⟨5, 37, none, [], fun v B R => B = [] ∧ By R v (x.wi ++ frW [] (A1O x x.he fu fd tu td))⟩, ⟨7, 39, none, MP, fun v B R => ∃ q1 q2 q3, v = .tuple #[q1, .agg #[q2, (vU x.r.prev), (vU x.r.sn)], q3, .int .i64 0] ∧ Prm pb (B2m s x.r (x.wi ++ frW [] (A1O x x.he fu fd tu td)) tx) B ∧ RsV R q1 (Q8 s x.r) ∧ By R q2 (I9 s x.r.own) ∧ By R q3 (A5p s x.r (x.wi ++ frW [] (A1O x x.he fu fd tu td)) tx)⟩, ⟨8, 31, none, [], fun v B R => B = [] ∧ ∃ q1 q2 q3, v = .tuple #[q1, .agg #[q2, (vU x.r.prev), (vU x.r.sn)], q3, .int .i64 0] ∧ RsV R q1 (Q8 s x.r) ∧ By R q2 (I9 s x.r.own) ∧ By R q3 (A5p s x.r (x.wi ++ frW [] (A1O x x.he fu fd tu td)) tx)⟩, ⟨9, 40, none, [], fun v B R => B = [] ∧ RsV R v (Q8 s x.r)⟩, ⟨13, 14, none, [], fun v B _ => ∃ b, v = (vP b) ∧ B = [(b, blk [vS, vS, vS, vS, .int .u32 0, vS, .int .u32 0, .int .u32 0, .pointer none] 72)]⟩, ⟨14, 15, none, [], fun v B _ => ∃ b, v = (vP b) ∧ B = [(b, blk [vS, .int .u32 0, .int .u32 0] 35)]⟩] [⟨10, 41, none, [], fun v B R => B = [] ∧ ∃ q2, v = .agg #[q2, (vU x.r.prev), (vU x.r.sn)] ∧ By R q2 (I9 s x.r.own)⟩, ⟨11, 42, none, [], fun v B R => B = [] ∧ By R v (A5p s x.r (x.wi ++ frW [] (A1O x x.he fu fd tu td)) tx)⟩, ⟨12, 43, none, [], fun v B R => B = [] ∧ v = .int .i64 0⟩] ([(b13, blk [.int .i64 fu, .int .i64 fd, .int .i64 tu, .int .i64 td, uid, .bool x.tell, p0, r0, u0, (vU x.he.signed), .bool x.he.has, (vU x.he.once), vS, .int .u32 0, .int .u32 0, vS] 37), (b11, blk [.int .i64 0, .int .i64 0, .int .i64 0, .int .i64 0, vS, .bool false, vS, vS, vS, .int .u32 0, .bool false, .int .u32 0, vS, .int .u32 0, .int .u32 0, vS] 37), (b10, blk [vS, vS, vS, vS, vS, .int .u32 0, .bool false, .int .u32 0, .bool false, vS, vS, vS, vS, .int .u32 0, vS, .int .u32 0, .int .u32 0, .pointer none] 74), (b8, blk [.int .i64 tu, .int .i64 td] 28), (b7, blk [.int .i64 fu, .int .i64 fd] 28), (b6, blk [vi, vw, p0, r0, u0, (vU x.he.signed), .bool x.he.has, (vU x.he.once), .bool x.tell, vo, vt, vr, vk0, (vU x.r.sn), vl, (vU x.r.tn), (vU x.r.prev), vst] 74)]) (fun bs => [bs 5, bs 7, bs 8, bs 9, bs 13, bs 14, bs 10, bs 11, bs 12]) (hKn rfl) (by simp [S1, V3]) (show ∀ m ∈ ([[], MP, [], [], [], [], [], [], []] : List Mem), ∀ x ∈ m, K x.1 from A3 (fun _ h => by cases h) (A3 (hKm) (A3 (fun _ h => by cases h) (A3 (fun _ h => by cases h) (A3 (fun _ h => by cases h) (A3 (fun _ h => by cases h) (A3 (fun _ h => by cases h) (A3 (fun _ h => by cases h) (A3 (fun _ h => by cases h) (I5)))))))))) kR (fun _ => by first | rfl | kernel_rfl)
  (A3 (fun _ _ _ _ h hp => ⟨hp.1, hp.2.mono h⟩) (A3 (fun _ _ _ _ h ⟨q1, q2, q3, e, p1, p2, p3, p4⟩ => ⟨q1, q2, q3, e, p1, p2.mono h, p3.mono h, p4.mono h⟩) (A3 (fun _ _ _ _ h ⟨e0, q1, q2, q3, e, p2, p3, p4⟩ => ⟨e0, q1, q2, q3, e, p2.mono h, p3.mono h, p4.mono h⟩) (A3 (fun _ _ _ _ h hp => ⟨hp.1, hp.2.mono h⟩) (A3 (fun _ _ _ _ _ h => h) (A3 (fun _ _ _ _ _ h => h) (A3 (fun _ _ _ _ h ⟨e0, q, e, p⟩ => ⟨e0, q, e, p.mono h⟩) (A3 (fun _ _ _ _ h hp => ⟨hp.1, hp.2.mono h⟩) (A3 (fun _ _ _ _ _ h => h) (I5)))))))))) (show List.Nodup [37, 39, 31, 40, 14, 15, 41, 42, 43] by decide) (show List.Nodup [5, 7, 8, 9, 13, 14, 10, 11, 12] by decide) (A3 (D6 rfl) (A3 (D6 rfl) (A3 (D6 rfl) (A3 (D6 rfl) (A3 (D6 rfl) (A3 (D6 rfl) (A3 (D6 rfl) (A3 (D6 rfl) (A3 (D6 rfl) (I5))))))))))
  hs (List.cons_ne_nil _ _) (A3 ⟨_, rfl, fun vs bs R Rj wG hb hj hjr ha => ⟨.inl rfl, ?_⟩⟩ (A3 ⟨_, rfl, fun vs bs R Rj wG hb hj hjr ha => ⟨.inl rfl, ?_⟩⟩ (A3 ⟨_, rfl, fun vs bs R Rj wG hb hj hjr ha => ⟨.inl rfl, ?_⟩⟩ (A3 ⟨_, rfl, fun vs bs R Rj wG hb hj hjr ha => ⟨.inl rfl, ?_⟩⟩ (A3 ⟨_, rfl, fun vs bs R Rj wG hb hj hjr ha => ⟨.inl rfl, ?_⟩⟩ (A3 ⟨_, rfl, fun vs bs R Rj wG hb hj hjr ha => ⟨.inl rfl, ?_⟩⟩ (I5))))))) (A3 ⟨rfl, rfl, _, _, _, _, rfl, fun vs bs Rj hj ha => ?_⟩ (A3 ⟨rfl, rfl, _, _, _, _, rfl, fun vs bs Rj hj ha => ?_⟩ (A3 ⟨rfl, rfl, _, _, _, _, rfl, fun vs bs Rj hj ha => ?_⟩ (I5)))) ?_
 ·
  dsimp only [Gc.inp]
  refine K1 (aS rfl (aS rfl a0)) kR (FnX.amb (A := Rj) (fun x hx => by have := hjr x hx; simp [this]) (A8o x vi vw p0 r0 u0 vo vt vr vk0 vl vst (A1O x x.he fu fd tu td) uid p0 r0 u0 (vS) (vS) Rj (hx.mono (fun x hx => hj x (qS x hx))) (hEv.mono (fun x hx => hj x (qS x hx))) hwi hel)) rfl ?_
  rintro r M1 J1 ⟨rfl, hh_⟩
  exact ⟨_, rfl, rfl, hh_.mono fun z hz => by simp [hz]⟩
 ·
  dsimp only [Gc.inp]
  have g5 := ha _ (List.mem_of_getElem? (i := 0) rfl) kR
  replace g5 : (fun v B R => B = [] ∧ By R v (x.wi ++ frW [] (A1O x x.he fu fd tu td))) (vs 5) (bs 5) Rj := g5
  dsimp only at g5
  obtain ⟨-, h5⟩ := g5
  haveI := h5.cel
  refine A9 (Mc := MP) (R := []) (aS rfl (aS rfl (aS rfl (aS rfl (a0))))) kR qM (FnX.amb (A := Rj) (fun x hx => by have := hjr x hx; simp [this]) (B0J pb s x.r vo vt vr vk0 vl vst _ vx (x.wi ++ frW [] (A1O x x.he fu fd tu td)) tx MP Rj hP qO (hx.r.mono (fun x hx => hj x (qS x hx))) hsk h5 hfl (htx.mono (fun x hx => hj x (qS x hx))) hxl (hG.sub (fun x hx => hj x (qS x hx))))) rfl ?_
  rintro v25 M25 J25 ⟨q1, q2, q3, rfl, hP25, p2, p3, p4⟩
  exact ⟨_, rfl, q1, q2, q3, rfl, by simpa using hP25, p2.mono (fun x hx => by simpa using hx), p3.mono (fun x hx => by simpa using hx), p4.mono (fun x hx => by simpa using hx)⟩
 ·
  dsimp only [Gc.inp]
  have g7 := ha _ (List.mem_of_getElem? (i := 1) rfl) kR
  replace g7 : (fun v B R => ∃ q1 q2 q3, v = .tuple #[q1, .agg #[q2, (vU x.r.prev), (vU x.r.sn)], q3, .int .i64 0] ∧ Prm pb (B2m s x.r (x.wi ++ frW [] (A1O x x.he fu fd tu td)) tx) B ∧ RsV R q1 (Q8 s x.r) ∧ By R q2 (I9 s x.r.own) ∧ By R q3 (A5p s x.r (x.wi ++ frW [] (A1O x x.he fu fd tu td)) tx)) (vs 7) (bs 7) Rj := g7
  dsimp only at g7
  obtain ⟨q1, q2, q3, e, -, k⟩ := g7
  exact OpQ.opL qm_ rfl ⟨_, rfl, rfl, q1, q2, q3, e, k⟩
 ·
  dsimp only [Gc.inp]
  have g8 := ha _ (List.mem_of_getElem? (i := 2) rfl) kR
  replace g8 : (fun v B R => B = [] ∧ ∃ q1 q2 q3, v = .tuple #[q1, .agg #[q2, (vU x.r.prev), (vU x.r.sn)], q3, .int .i64 0] ∧ RsV R q1 (Q8 s x.r) ∧ By R q2 (I9 s x.r.own) ∧ By R q3 (A5p s x.r (x.wi ++ frW [] (A1O x x.he fu fd tu td)) tx)) (vs 8) (bs 8) Rj := g8
  dsimp only at g8
  obtain ⟨-, q1, q2, q3, e, k, -⟩ := g8
  exact OpQ.opL (K0 (vs := #[q1, .agg #[q2, (vU x.r.prev), (vU x.r.sn)], q3, .int .i64 0]) (by rw [← e]; rfl) rfl) rfl ⟨_, rfl, rfl, k⟩
 ·
  dsimp only [Gc.inp]
  exact D3 (cs := [vS, vS, vS, vS, E8, vS, E8, E8, .pointer none]) kR rfl fun b => ⟨_, rfl, b, rfl, rfl⟩
 ·
  dsimp only [Gc.inp]
  exact D3 (cs := [vS, .int .u32 0, .int .u32 0]) kR rfl fun b => ⟨_, rfl, b, rfl, rfl⟩
 ·
  have g8 := ha _ (List.mem_of_getElem? (i := 2) rfl) kR
  replace g8 : (fun v B R => B = [] ∧ ∃ q1 q2 q3, v = .tuple #[q1, .agg #[q2, (vU x.r.prev), (vU x.r.sn)], q3, .int .i64 0] ∧ RsV R q1 (Q8 s x.r) ∧ By R q2 (I9 s x.r.own) ∧ By R q3 (A5p s x.r (x.wi ++ frW [] (A1O x x.he fu fd tu td)) tx)) (vs 8) (bs 8) Rj := g8
  dsimp only at g8
  obtain ⟨-, q1, q2, q3, e, -, k, -⟩ := g8
  exact ⟨_, K0 (vs := #[q1, .agg #[q2, (vU x.r.prev), (vU x.r.sn)], q3, .int .i64 0]) (by rw [← e]; rfl) rfl, rfl, q2, rfl, k⟩
 ·
  have g8 := ha _ (List.mem_of_getElem? (i := 2) rfl) kR
  replace g8 : (fun v B R => B = [] ∧ ∃ q1 q2 q3, v = .tuple #[q1, .agg #[q2, (vU x.r.prev), (vU x.r.sn)], q3, .int .i64 0] ∧ RsV R q1 (Q8 s x.r) ∧ By R q2 (I9 s x.r.own) ∧ By R q3 (A5p s x.r (x.wi ++ frW [] (A1O x x.he fu fd tu td)) tx)) (vs 8) (bs 8) Rj := g8
  dsimp only at g8
  obtain ⟨-, q1, q2, q3, e, -, -, k⟩ := g8
  exact ⟨_, K0 (vs := #[q1, .agg #[q2, (vU x.r.prev), (vU x.r.sn)], q3, .int .i64 0]) (by rw [← e]; rfl) rfl, rfl, k⟩
 ·
  have g8 := ha _ (List.mem_of_getElem? (i := 2) rfl) kR
  replace g8 : (fun v B R => B = [] ∧ ∃ q1 q2 q3, v = .tuple #[q1, .agg #[q2, (vU x.r.prev), (vU x.r.sn)], q3, .int .i64 0] ∧ RsV R q1 (Q8 s x.r) ∧ By R q2 (I9 s x.r.own) ∧ By R q3 (A5p s x.r (x.wi ++ frW [] (A1O x x.he fu fd tu td)) tx)) (vs 8) (bs 8) Rj := g8
  dsimp only at g8
  obtain ⟨-, q1, q2, q3, e, -⟩ := g8
  exact ⟨_, K0 (vs := #[q1, .agg #[q2, (vU x.r.prev), (vU x.r.sn)], q3, .int .i64 0]) (by rw [← e]; rfl) rfl, rfl, rfl⟩
 intro vs bs Jn0 hφ hKK
 have kk5 := hKK _ (List.mem_of_getElem? (i := 0) rfl)
 dsimp only at kk5
 have kk7 := hKK _ (List.mem_of_getElem? (i := 1) rfl)
 dsimp only at kk7
 have kk8 := hKK _ (List.mem_of_getElem? (i := 2) rfl)
 dsimp only at kk8
 have kk9 := hKK _ (List.mem_of_getElem? (i := 3) rfl)
 dsimp only at kk9
 have kk13 := hKK _ (List.mem_of_getElem? (i := 4) rfl)
 dsimp only at kk13
 have kk14 := hKK _ (List.mem_of_getElem? (i := 5) rfl)
 dsimp only at kk14
 have kk10 := hKK _ (List.mem_of_getElem? (i := 6) rfl)
 dsimp only at kk10
 have kk11 := hKK _ (List.mem_of_getElem? (i := 7) rfl)
 dsimp only at kk11
 have kk12 := hKK _ (List.mem_of_getElem? (i := 8) rfl)
 dsimp only at kk12
 clear hKK
 have g5 := ofH hφ
 dsimp only at g5
 replace hφ := ofT hφ
 have g7 := ofH hφ
 dsimp only at g7
 replace hφ := ofT hφ
 have g8 := ofH hφ
 dsimp only at g8
 replace hφ := ofT hφ
 have g9 := ofH hφ
 dsimp only at g9
 replace hφ := ofT hφ
 have g13 := ofH hφ
 dsimp only at g13
 replace hφ := ofT hφ
 have g14 := ofH hφ
 dsimp only at g14
 replace hφ := ofT hφ
 have g10 := ofH hφ
 dsimp only at g10
 replace hφ := ofT hφ
 have g11 := ofH hφ
 dsimp only at g11
 replace hφ := ofT hφ
 have g12 := ofH hφ
 dsimp only at g12
 clear hφ
 dsimp only [L9, S1, List.foldr, List.map, List.cons_append, List.nil_append]
 generalize bs 5 = B37 at *
 generalize bs 7 = B39 at *
 generalize bs 8 = B31 at *
 generalize bs 9 = B40 at *
 generalize bs 13 = B14 at *
 generalize bs 14 = B15 at *
 generalize bs 10 = B41 at *
 generalize bs 11 = B42 at *
 generalize bs 12 = B43 at *
 generalize vs 5 = u37 at *
 generalize vs 7 = u39 at *
 generalize vs 8 = u31 at *
 generalize vs 9 = u40 at *
 generalize vs 13 = u14 at *
 generalize vs 14 = u15 at *
 generalize vs 10 = u41 at *
 generalize vs 11 = u42 at *
 generalize vs 12 = u43 at *
 obtain ⟨-, -, -, -, hP27, -⟩ := g7
 clear g8
 obtain ⟨rfl, h5⟩ := g5
 obtain ⟨rfl, wo, wt, wr, wk, wl, wq, rfl, hn1⟩ := g9
 obtain ⟨rfl, hk_, rfl, h29⟩ := g10
 obtain ⟨rfl, h30⟩ := g11
 obtain ⟨rfl, rfl⟩ := g12
 obtain ⟨b14, rfl, rfl⟩ := g13
 obtain ⟨b15, rfl, rfl⟩ := g14
 haveI := hn1.own.cel
 haveI := hn1.their.cel
 haveI := hn1.root.cel
 haveI := hn1.sk.cel
 haveI := hn1.tk.cel
 haveI := hn1.st.cel
 haveI := h29.cel
 haveI := h30.cel
 unfold rsC
 refine I6 rfl rfl rfl (C0 (vs := [wo, wt, wr, wk, .int .u32 (((Q8 s x.r).sn : Nat) : Int), wl, .int .u32 (((Q8 s x.r).tn : Nat) : Int), .int .u32 (((Q8 s x.r).prev : Nat) : Int), wq]) rfl rfl rfl kR qR (A3 hn1.own.one (A3 hn1.their.one (A3 hn1.root.one (A3 hn1.sk.one (A3 rfl (A3 hn1.tk.one (A3 rfl (A3 rfl (A3 hn1.st.one I5))))))))) UpC.upd ?_)
 refine I6 rfl rfl rfl (C0 (vs := [hk_, (vU x.r.prev), (vU x.r.sn)]) rfl rfl rfl kR qR (A3 h29.one al2) UpC.upd ?_)
 refine E4 hs rfl (G4 rfl) rfl ?_
 refine E4 hs rfl (G4 rfl) rfl ?_
 refine H7 (A4H 6 10 11 13 14 15 16 17) (A7 (A1 (mv_ ?_)))
 refine A2 (F6 false rfl rfl (neF rfl)) rfl ?_
 refine A0 (A5w 6 10 11 13 14 15 16 17 45) ?_
 refine B8 rfl ?_
 refine A5 (nx (V0 6 10 11 13 14 15 16) ?_)
 refine E5 ([(b6, blk [vi, vw, p0, r0, u0, (vU x.he.signed), .bool x.he.has, (vU x.he.once), .bool x.tell, vo, vt, vr, vk0, (vU x.r.sn), vl, (vU x.r.tn), (vU x.r.prev), vst] 74)]) (_) true [0, 1, 2, 3, 4, 5, 7] (zp 0 [1, 1, 0, 0, 2, 0, 2, 0, 2]) kR kR qP fun hs K n0 hKm hKs hKn => ?_
 refine I2 hs rfl hKs (E6 (n := 9) (vs := [wo, wt, wr, wk, .int .u32 (((Q8 s x.r).sn : Nat) : Int), wl, .int .u32 (((Q8 s x.r).tn : Nat) : Int), .int .u32 (((Q8 s x.r).prev : Nat) : Int), wq]) rfl kR At.mem rfl (D4 [] [wo, wt, wr, wk, .int .u32 (((Q8 s x.r).sn : Nat) : Int), wl, .int .u32 (((Q8 s x.r).tn : Nat) : Int), .int .u32 (((Q8 s x.r).prev : Nat) : Int), wq] [])) ?_
 refine I2 hs rfl hKs (E6 (n := 3) (vs := [hk_, (vU x.r.prev), (vU x.r.sn)]) rfl kR At.mem rfl (D4 [] [hk_, (vU x.r.prev), (vU x.r.sn)] [])) ?_
 refine km_ hs ?_
 refine E4 hs rfl (qf_ 9 9) rfl ?_
 refine F7 [(b6, blk [vi, vw, p0, r0, u0, (vU x.he.signed), .bool x.he.has, (vU x.he.once), .bool x.tell, vo, vt, vr, vk0, (vU x.r.sn), vl, (vU x.r.tn), (vU x.r.prev), vst] 74)] _ rfl rfl qP (fun x hx => hKm x hx) fun w0 => (I4 (vs := [wo, wt, wr, wk, .int .u32 (((Q8 s x.r).sn : Nat) : Int), wl, .int .u32 (((Q8 s x.r).tn : Nat) : Int), .int .u32 (((Q8 s x.r).prev : Nat) : Int), wq]) (cs' := [vi, vw, p0, r0, u0, (vU x.he.signed), .bool x.he.has, (vU x.he.once), .bool x.tell, wo, wt, wr, wk, .int .u32 (((Q8 s x.r).sn : Nat) : Int), wl, .int .u32 (((Q8 s x.r).tn : Nat) : Int), .int .u32 (((Q8 s x.r).prev : Nat) : Int), wq]) rfl rfl rfl kR (by exact (show 9 + 9 ≤ 18 by decide)) (A3 hn1.own.one (A3 hn1.their.one (A3 hn1.root.one (A3 hn1.sk.one (A3 rfl (A3 hn1.tk.one (A3 rfl (A3 rfl (A3 hn1.st.one I5))))))))) rfl UpC.upd ?_)
 intro _
 dsimp only [List.cons_append, List.nil_append, List.append_eq]
 refine E4 hs rfl (qf_ 12 12) rfl ?_
 refine I6 rfl rfl rfl (I4 (vs := [hk_, (vU x.r.prev), (vU x.r.sn)]) (cs' := [.int .i64 fu, .int .i64 fd, .int .i64 tu, .int .i64 td, uid, .bool x.tell, p0, r0, u0, (vU x.he.signed), .bool x.he.has, (vU x.he.once), hk_, (vU x.r.prev), (vU x.r.sn), vS]) rfl rfl rfl kR (by exact (show 12 + 3 ≤ 16 by decide)) (A3 h29.one al2) rfl UpC.upd ?_)
 refine E4 hs rfl (qf_ 15 15) rfl ?_
 refine I6 rfl rfl rfl (F3 rfl rfl h30.one kR SetC.set UpC.upd ?_)
 refine H7 (F8 6 10 11 13) ?_
 refine E5 ([(b10, blk [vS, vS, vS, vS, vS, .int .u32 0, .bool false, .int .u32 0, .bool false, vS, vS, vS, vS, .int .u32 0, vS, .int .u32 0, .int .u32 0, .pointer none] 74)]) (_) true [0, 1, 2, 4] (zp 0 [1, 1, 2, 2, 0]) kR kR qP fun hs K n0 hKm hKs hKn => ?_
 refine I2 hs rfl hKs (E6 (n := 18) (vs := [vi, vw, p0, r0, u0, (vU x.he.signed), .bool x.he.has, (vU x.he.once), .bool x.tell, wo, wt, wr, wk, .int .u32 (((Q8 s x.r).sn : Nat) : Int), wl, .int .u32 (((Q8 s x.r).tn : Nat) : Int), .int .u32 (((Q8 s x.r).prev : Nat) : Int), wq]) rfl kR At.mem rfl (D4 [] [vi, vw, p0, r0, u0, (vU x.he.signed), .bool x.he.has, (vU x.he.once), .bool x.tell, wo, wt, wr, wk, .int .u32 (((Q8 s x.r).sn : Nat) : Int), wl, .int .u32 (((Q8 s x.r).tn : Nat) : Int), .int .u32 (((Q8 s x.r).prev : Nat) : Int), wq] [])) ?_
 refine I2 hs rfl hKs (E6 (n := 16) (vs := [.int .i64 fu, .int .i64 fd, .int .i64 tu, .int .i64 td, uid, .bool x.tell, p0, r0, u0, (vU x.he.signed), .bool x.he.has, (vU x.he.once), hk_, (vU x.r.prev), (vU x.r.sn), u42]) rfl kR At.mem rfl (D4 [] [.int .i64 fu, .int .i64 fd, .int .i64 tu, .int .i64 td, uid, .bool x.tell, p0, r0, u0, (vU x.he.signed), .bool x.he.has, (vU x.he.once), hk_, (vU x.r.prev), (vU x.r.sn), u42] [])) ?_
 refine F7 [(b10, blk [vS, vS, vS, vS, vS, .int .u32 0, .bool false, .int .u32 0, .bool false, vS, vS, vS, vS, .int .u32 0, vS, .int .u32 0, .int .u32 0, .pointer none] 74)] _ rfl rfl qP (fun x hx => hKm x hx) fun w0 => (C0 (vs := [vi, vw, p0, r0, u0, (vU x.he.signed), .bool x.he.has, (vU x.he.once), .bool x.tell, wo, wt, wr, wk, .int .u32 (((Q8 s x.r).sn : Nat) : Int), wl, .int .u32 (((Q8 s x.r).tn : Nat) : Int), .int .u32 (((Q8 s x.r).prev : Nat) : Int), wq]) rfl rfl rfl kR qR (A3 hx.id.one (A3 hx.wi.one (A3 hx.he.ia.one (A3 hx.he.ig.one (A3 hx.he.key.one (A3 rfl (A3 rfl (A3 rfl (A3 rfl (A3 hn1.own.one (A3 hn1.their.one (A3 hn1.root.one (A3 hn1.sk.one (A3 rfl (A3 hn1.tk.one (A3 rfl (A3 rfl (A3 hn1.st.one I5)))))))))))))))))) UpC.upd ?_)
 intro _
 dsimp only [List.cons_append, List.nil_append, List.append_eq]
 refine I6 rfl rfl rfl (C0 (vs := [.int .i64 fu, .int .i64 fd, .int .i64 tu, .int .i64 td, uid, .bool x.tell, p0, r0, u0, (vU x.he.signed), .bool x.he.has, (vU x.he.once), hk_, (vU x.r.prev), (vU x.r.sn), u42]) rfl rfl rfl kR qR (A3 rfl (A3 rfl (A3 rfl (A3 rfl (A3 h22.one (A3 rfl (A3 hx.he.ia.one (A3 hx.he.ig.one (A3 hx.he.key.one (A3 rfl (A3 rfl (A3 rfl (A3 h29.one (A3 rfl (A3 rfl (A3 h30.one I5)))))))))))))))) UpC.upd ?_)
 refine E4 hs rfl (G4 rfl) rfl ?_
 refine H7 (E7 10 11 12) (A6 ?_)
 exact ⟨_, B39, [], B2p (n1 := 18) (n2 := 16) rfl rfl rfl rfl kR kR At.mem At.mem qR qR, Fit.none (Fit.last qP), wo, wt, wr, wk, wl, wq, uid, hk_, u42, rfl, hP27, ⟨hx.id.mono qS, hx.wi.mono qS, hx.he.mono qS, hx.hil, hn1.mono qS⟩, ⟨h22.mono qS, hx.he.mono qS, hx.hil, h29.mono qS, h30.mono qS, hx.r.prev, hx.r.sn⟩⟩


noncomputable def sB (k : Ks) (b : Bn) (s : Ps) : Ps := idS k (stS k b s)
noncomputable def sWi (k : Ks) (b : Bn) (s : Ps) : LN := B1S k.user k.dev (idA k (stS k b s)) (idG k (stS k b s)) b.user b.dev b.ia b.ig
noncomputable def sNm (k : Ks) (b : Bn) (s : Ps) : List (LN) := [B2n, sWi k b s, heW [] (stH k b s)]
noncomputable def sC (k : Ks) (b : Bn) (s : Ps) : Ps := A61 (sB k b s) (sNm k b s)
noncomputable def sD (k : Ks) (b : Bn) (s : Ps) : Ps := begS (sC k b s) (stK k b s) b.key
noncomputable def sX (k : Ks) (b : Bn) (s : Ps) : Ses := ⟨B0z (sB k b s) (sNm k b s), sWi k b s, stH k b s, true, B2k (sC k b s) (stK k b s) b.key⟩
structure StH (k : Ks) (b : Bn) (s : Ps) : Prop where
  a : (stS k b s).ts.length ≤ 900000
  n : (stS k b s).n < 900000000
  ia : (stH k b s).ia.length ≤ 100000
  ig : (stH k b s).ig.length ≤ 100000
  key : (stH k b s).key.length ≤ 100000
  l : (idA k (stS k b s)).length + (idG k (stS k b s)).length + b.ia.length + b.ig.length ≤ 1000000
theorem A67 (s : Ps) (ws : List (LN)) : (A61 s ws).ts.length ≤ s.ts.length + 1 := U7
theorem B3H (k : Ks) (s : Ps) : (idS k s).n = s.n := rfl
theorem B0N (s : Ps) (ws : List (LN)) : (A61 s ws).n = s.n := rfl
theorem sC_n (k : Ks) (b : Bn) (s : Ps) : (sC k b s).n = (stS k b s).n := by
  unfold sC
  rw [B0N]
  unfold sB
  rw [B3H]
set_option maxHeartbeats 1000000 in
theorem A8q (pb : Nat × Nat) (s : Ps) (kb : Nat) (k : Ks) (va vg vq vo vm : Value) (rs ro rm : List (List Value)) (b : Bn) (wa wg wk ws_ wo : Value) (MP A : Mem) (hK : KyR A kb k va vg vq vo vm rs ro rm) (hP : Prm pb s MP) (har : Ar s.ts) (hn : s.ts.length + 1000 ≤ 1040000) (hk : s.n < 1000000000) (ga : By A wa b.ia) (gg : By A wg b.ig) (gk : By A wk b.key) (gs : By A ws_ b.sig) (go : By A wo b.oncek) (hsn : b.signed < 4294967296) (hon : b.once < 4294967296) (hck : ckB s b = true) (hS : StH k b s) (hG : Glb A) : FnX Tryz.prog 29 [.pointer (some ⟨pb.1, 0, none⟩), (vP kb), .agg #[.int .i64 b.user, .int .i64 b.dev, wa, wg, (vU b.signed), wk, ws_, .bool b.has, (vU b.once), wo]] MP A fun q M J => ∃ vi vw p r u xo xt xr xk xl xq, q = .tuple #[.agg (seC vi vw p r u xo xt xr xk xl xq (sX k b s)).toArray, .int .i64 0] ∧ Prm pb (sD k b s) M ∧ SeR (J ++ A) (sX k b s) vi vw p r u xo xt xr xk xl xq := by
 haveI := ga.cel
 haveI := gg.cel
 haveI := gk.cel
 haveI := gs.cel
 haveI := go.cel
 refine FnX.enterZ (N := 46) Tryz.func29 rfl rfl rfl fun w_ => ?_
 refine A8 (E7 0 1 2) (A1 ?_)
 refine A4 rfl (bx_ fun b5 => ?_)
 refine A4 rfl (D3 (cs := [vS, vS, vS, vS, vS, E8, .bool false, E8, .bool false, vS, vS, vS, vS, E8, vS, E8, E8, .pointer none]) kR rfl fun b6 => ?_)
 refine as_ (A0 (F8 0 1 5 6) (A1 (mv_ (mv_ ?_))))
 refine A2 (E6 (n := 10) (vs := [.int .i64 b.user, .int .i64 b.dev, wa, wg, (vU b.signed), wk, ws_, .bool b.has, (vU b.once), wo]) rfl kR At.mem rfl (D4 [] [.int .i64 b.user, .int .i64 b.dev, wa, wg, (vU b.signed), wk, ws_, .bool b.has, (vU b.once), wo] [])) rfl ?_
 refine A4 rfl (A9 (Mc := MP) (R := _) (aS rfl (aS rfl (aS rfl (a0)))) kR qP (FnX.amb qS (B0f pb s kb k va vg vq vo vm rs ro rm b wa wg wk ws_ wo MP A hK hP har hn hk ga gg gk gs go hsn hon hG)) rfl ?_)
 rintro v16 M16 J16 ⟨hs16, -⟩
 obtain ⟨u16, p, r, u, rfl, hP16, hb16, hH⟩ := hs16 hck
 haveI := hb16.cel
 haveI := hH.ia.cel
 haveI := hH.ig.cel
 haveI := hH.key.cel
 have hig := hH.ig.by (by have := hS.ig; omega)
 unfold heC
 have z1 := hS.a
 have z2 := hS.ia
 have z3 := hS.ig
 have z4 := hS.key
 have z5 := hS.l
 have z6 := hS.n
 refine mv_ ?_
 refine A2 (Y3 rfl) rfl ?_
 refine A2 (X5 rfl) rfl ?_
 refine A2 (B3h rfl) rfl ?_
 refine A4 rfl (D3 (cs := [vS, vS, vS, .int .u32 0, .bool false, .int .u32 0]) kR rfl fun b9 => ?_)
 refine as_ ?_
 refine A4 rfl (C0 (vs := [p, r, u, .int .u32 (((stH k b s).signed : Nat) : Int), .bool (stH k b s).has, .int .u32 (((stH k b s).once : Nat) : Int)]) rfl rfl rfl kR qR (A3 hH.ia.one (A3 hH.ig.one (A3 hH.key.one al3))) UpC.upd ?_)
 refine as_ (A0 (V0 0 1 5 6 8 9 10) (A7 (A1 (mv_ ?_))))
 refine A2 (F6 false rfl rfl (neF rfl)) rfl ?_
 refine A0 (A4H 0 1 5 6 8 9 10 21) ?_
 refine B8 rfl ?_
 refine A5 (nx (L1 0 1 5 6 8 9) ?_)
 refine E5 (M16) (_) true (.range 11) [(0, 0), (2, 0), (3, 0), (5, 0), (6, 1), (7, 0), (8, 1), (1, 2), (4, 2), (9, 2), (10, 0)] kR kR qP fun hs K n0 hKm hKs hKn => ?_
 refine km_ hs ?_
 refine km_ hs ?_
 refine km_ hs ?_
 refine E4 hs rfl (qf_ 0 0) rfl ?_
 refine I2 hs rfl hKs (E6 (n := 2) (vs := [.int .i64 b.user, .int .i64 b.dev]) rfl kR At.mem rfl (D4 [] [.int .i64 b.user, .int .i64 b.dev] [wa, wg, (vU b.signed), wk, ws_, .bool b.has, (vU b.once), wo])) ?_
 refine E4 hs rfl (qf_ 2 2) rfl ?_
 refine I2 hs rfl hKs (E6 (n := 2) (vs := [wa, wg]) rfl kR At.mem rfl (D4 [.int .i64 b.user, .int .i64 b.dev] [wa, wg] [(vU b.signed), wk, ws_, .bool b.has, (vU b.once), wo])) ?_
 refine F7 [] _ rfl rfl (List.Perm.refl _) (fun _ h => by cases h) fun w0 => (Y1 (aS rfl a0) kR (A97 kb k va vg vq vo vm rs ro rm _ (hK.mono qS)) rfl fun _ => ?_)
 dsimp only [List.nil_append, List.append_eq]
 refine F7 _ _ rfl rfl (List.Perm.refl _) hKm fun w0 => (A9 (Mc := M16) (R := _) (aS rfl (aS rfl (a0))) kR qP (A3A pb (stS k b s) kb k va vg vq vo vm rs ro rm M16 _ (hK.mono qS) hP16 qO hG.up) rfl ?_)
 rintro v28 M28 J28 ⟨hP28, xa, xg, rfl, hxa, hxg⟩ hKx28
 haveI := hxa.cel
 haveI := hxg.cel
 change Prm pb (sB k b s) M28 at hP28
 refine F7 [] _ rfl rfl (List.Perm.refl _) (fun _ h => by cases h) fun w0 => (K1 (aS rfl (aS rfl (aS rfl (aS rfl a0)))) kR (B1T k.user k.dev b.user b.dev xa xg wa wg _ _ b.ia b.ig _ (hxa.mono qS) (hxg.mono qS) (ga.mono qS) (gg.mono qS) qO) rfl ?_)
 rintro v33 M33 J33 ⟨rfl, h33⟩ _
 haveI := h33.cel
 change By _ v33 (sWi k b s) at h33
 dsimp only [List.nil_append, List.append_eq]
 refine E4 hs rfl (G4 rfl) rfl ?_
 refine H7 (L1 0 5 6 8 9 11) ?_
 have y1 := A1e k (stS k b s)
 change (sB k b s).ts.length ≤ _ at y1
 have y2 := A67 (sB k b s) (sNm k b s)
 change (sC k b s).ts.length ≤ _ at y2
 have y3 : (sC k b s).n = (stS k b s).n := sC_n k b s
 refine E5 (M28) (_) true [0, 1, 2, 3, 4, 5, 6, 7, 8, 9, 10, 11, 13] [(0, 0), (1, 0), (2, 1), (4, 0), (5, 1), (6, 0), (7, 0), (8, 0), (9, 1), (3, 2), (10, 2), (11, 0), (12, 2), (13, 0)] kR kR qP fun hs K n0 hKm hKs hKn => ?_
 refine km_ hs ?_
 refine km_ hs ?_
 refine I2 hs rfl hKs (E6 (n := 6) (vs := [p, r, u, .int .u32 (((stH k b s).signed : Nat) : Int), .bool (stH k b s).has, .int .u32 (((stH k b s).once : Nat) : Int)]) rfl kR At.mem rfl (D4 [] [p, r, u, .int .u32 (((stH k b s).signed : Nat) : Int), .bool (stH k b s).has, .int .u32 (((stH k b s).once : Nat) : Int)] [])) ?_
 refine km_ hs ?_
 refine I2 hs rfl hKs (E6 (n := 6) (vs := [p, r, u, .int .u32 (((stH k b s).signed : Nat) : Int), .bool (stH k b s).has, .int .u32 (((stH k b s).once : Nat) : Int)]) rfl kR At.mem rfl (D4 [] [p, r, u, .int .u32 (((stH k b s).signed : Nat) : Int), .bool (stH k b s).has, .int .u32 (((stH k b s).once : Nat) : Int)] [])) ?_
 refine km_ hs ?_
 refine km_ hs ?_
 refine E4 hs rfl (qf_ 5 5) rfl ?_
 refine I2 hs rfl hKs ql_ ?_
 refine F7 _ _ rfl rfl (List.Perm.refl _) hKm fun w0 => (A9 (Mc := M28) (R := _) (aS rfl (aS rfl (aS rfl (a0)))) kR qP (B2o pb (sB k b s) v33 (sWi k b s) (stH k b s) p r u M28 _ hP28 qO (h33.mono qS) (hH.mono qS) qO qO hG.up) rfl ?_)
 rintro v37 M37 J37 ⟨hP37, h37⟩ hKx37
 haveI := h37.cel
 change Prm pb (sC k b s) M37 at hP37
 refine F7 M37 _ rfl rfl qP (fun x hx => hKx37 (hKn rfl) x (by simpa using hx)) fun w0 => (A9 (Mc := M37) (R := _) (aS rfl (aS rfl (aS rfl (a0)))) kR qP (FnX.amb qS (B0D pb (sC k b s) u16 wk (stK k b s) b.key M37 (J16 ++ A) hP37 qO qO (hb16.mono qS) (gk.mono qS) (hG.sub qS))) rfl ?_)
 rintro v44 M44 J44 ⟨hP44, xo, xt, xr, xk, xl, xq, rfl, hr44⟩ hKx44
 haveI := hr44.own.cel
 haveI := hr44.their.cel
 haveI := hr44.root.cel
 haveI := hr44.sk.cel
 haveI := hr44.tk.cel
 haveI := hr44.st.cel
 unfold rsC
 refine E4 hs rfl (D2 (place := fun x => #[(0, 1), (1, 1), (2, 6), (8, 1), (9, 9)][x]?) (z := [vS, vS, vS, vS, vS, E8, .bool false, E8, .bool false, vS, vS, vS, vS, E8, vS, E8, E8, .pointer none]) (fun _ => by kernel_rfl) (eS rfl (eS rfl (eS rfl (eS rfl (eS rfl e0))))) (bdS 0 1 rfl qR (bdS 1 1 rfl qR (bdS 2 6 rfl qR (bdS 8 1 rfl qR (bdS 9 9 rfl qR bd0)))))) rfl ?_
 refine I6 rfl rfl rfl (C0 (vs := [v37, v33, p, r, u, .int .u32 (((stH k b s).signed : Nat) : Int), .bool (stH k b s).has, .int .u32 (((stH k b s).once : Nat) : Int), .bool true, xo, xt, xr, xk, .int .u32 (((B2k (sC k b s) (stK k b s) b.key).sn : Nat) : Int), xl, .int .u32 (((B2k (sC k b s) (stK k b s) b.key).tn : Nat) : Int), .int .u32 (((B2k (sC k b s) (stK k b s) b.key).prev : Nat) : Int), xq]) rfl rfl rfl kR qR (A3 h37.one (A3 h33.one (A3 hH.ia.one (A3 hH.ig.one (A3 hH.key.one (A3 rfl (A3 rfl (A3 rfl (A3 rfl (A3 hr44.own.one (A3 hr44.their.one (A3 hr44.root.one (A3 hr44.sk.one (A3 rfl (A3 hr44.tk.one (A3 rfl (A3 rfl (A3 hr44.st.one I5)))))))))))))))))) UpC.upd ?_)
 refine E4 hs rfl (G4 rfl) rfl ?_
 refine H7 (D0 6 7) (A6 ?_)
 exact ⟨_, M44, [], Z4 (n := 18) rfl rfl rfl kR At.mem qR, Fit.none (Fit.last qP), v37, v33, p, r, u, xo, xt, xr, xk, xl, xq, rfl, hP44, ⟨h37.mono qS, h33.mono qS, hH.mono qS, by show (stH k b s).ig.length ≤ _; omega, hr44.mono qS⟩⟩

def A9b : LN := [115, 101, 99, 114, 101, 116]
def shN (b : Bn) : List (LN) := [b.ia, b.ig, b.key, b.sig.take 32] ++ (if b.has then [b.oncek] else [])
def trN (e : Ev) : List (LN) := [e.ses, e.hk, e.g] ++ (if e.has then [e.he.ia, e.he.ig, e.he.key] else [])
def wiW (x : Ses) (h : He) (fu fd tu td : Int) : LN := x.wi ++ frW [] (A1O x h fu fd tu td)
noncomputable def evS (s : Ps) (x : Ses) (h : He) (fu fd tu td : Int) (tx : LN) : Ev := ⟨fu, fd, tu, td, x.id, x.tell, h, I9 s x.r.own, x.r.prev, x.r.sn, A5p s x.r (wiW x h fu fd tu td) tx⟩
def zP0 : Ps := ⟨[], 0, []⟩
noncomputable def aA : Ks × Ps := A77 0 1 zP0
noncomputable def aB : Ks × Ps := A77 1 1 aA.2
noncomputable def aU : List Bn × Ps := A1f aB.1 aB.2
noncomputable def aY : Bn := aU.1.getD 1 ⟨0, 0, [], [], 0, [], [], false, 0, []⟩
noncomputable def aX : Ses := sX aA.1 aY aU.2
noncomputable def aD : Ps := sD aA.1 aY aU.2
def aT : LN := B3B 1 1 A9b
noncomputable def aE : Ps := B2m aD aX.r (wiW aX aX.he 0 1 1 1) aT
noncomputable def aV : Ev := evS aD aX aX.he 0 1 1 1 aT
noncomputable def aC : Ks × Ps := A77 2 1 aE
def HL (l : LN) (n : Nat) : List Bool := (List.range n).map fun i => l.contains i
def lS : LN := [12, 13, 18, 19, 20, 21, 22, 23]
def lT : LN := [29, 30, 31, 34, 39, 42]
def aH : List Bool := HL (32 :: (lS ++ lT)) 43
def aHC : List Bool := HL (32 :: (lS ++ lT ++ [43, 44, 45, 46, 47, 48, 49, 50, 51])) 52
def evB (a b : Ev) : Bool := decide (a.fu = b.fu) && decide (a.fd = b.fd) && decide (a.tu = b.tu) && decide (a.td = b.td) && a.ses == b.ses && a.has == b.has && a.he.ia == b.he.ia && a.he.ig == b.he.ig && a.he.key == b.he.key && a.he.signed == b.he.signed && a.he.has == b.he.has && a.he.once == b.he.once && a.hk == b.hk && a.hp == b.hp && a.hn == b.hn && a.g == b.g
theorem B3I {a b : Ev} (h : evB a b = true) : a = b := by
  obtain ⟨x1, x2, x3, x4, x5, x6, ⟨y1, y2, y3, y4, y5, y6⟩, x8, x9, xa, xb⟩ := a
  obtain ⟨u1, u2, u3, u4, u5, u6, ⟨v1, v2, v3, v4, v5, v6⟩, u8, u9, ua, ub⟩ := b
  simp only [evB, Bool.and_eq_true, decide_eq_true_eq, beq_iff_eq] at h
  obtain ⟨⟨⟨⟨⟨⟨⟨⟨⟨⟨⟨⟨⟨⟨⟨rfl, rfl⟩, rfl⟩, rfl⟩, rfl⟩, rfl⟩, rfl⟩, rfl⟩, rfl⟩, rfl⟩, rfl⟩, rfl⟩, rfl⟩, rfl⟩, rfl⟩, rfl⟩ := h
  rfl
theorem af : (aB.1.signed.length = 1 ∧ aB.1.once.length ≤ 10 ∧ aU.1.length = 5 ∧ aB.2.ts.length ≤ 100 ∧ aU.2.ts.length = 24 ∧ aU.2.n ≤ 100 ∧ ckB aU.2 aY = true) ∧
    (∀ t ∈ aU.2.ts, (t.kind = 3 ∨ t.kind = 6 ∨ t.kind = 7) → 0 < t.of.length) ∧
    ((stS aA.1 aY aU.2).ts.length ≤ 900000 ∧ (stS aA.1 aY aU.2).n < 900000000 ∧ (stH aA.1 aY aU.2).ia.length ≤ 100000 ∧ (stH aA.1 aY aU.2).ig.length ≤ 100000 ∧ (stH aA.1 aY aU.2).key.length ≤ 100000 ∧ (idA aA.1 (stS aA.1 aY aU.2)).length + (idG aA.1 (stS aA.1 aY aU.2)).length + aY.ia.length + aY.ig.length ≤ 1000000) ∧
    (aD.ts.length ≤ 1000 ∧ aD.n ≤ 1000 ∧ 0 < aX.r.sk.length ∧ aX.wi.length ≤ 1000000 ∧ aX.id.length + aX.he.ia.length + aX.he.ig.length + aX.he.key.length ≤ 1000000 ∧ (wiW aX aX.he 0 1 1 1).length ≤ 1000000 ∧ aX.tell = true ∧ aE.ts.length = 43 ∧ aE.n ≤ 100 ∧ aV.has = true ∧ (A48 aV).length ≤ 100000 ∧ aV.ses.length + aV.he.ia.length + aV.he.ig.length + aV.he.key.length + aV.hk.length + aV.g.length ≤ 10000000) ∧
    (dcO (A48 aV) && evB (dcE (A48 aV)) aV) = true ∧
    (aU.1.all fun b => gdB aU.2.ts (shN b) && (lrI aU.2.ts (shN b)).all (kat aH)) = true ∧
    (lS.all fun x => aU.1.any fun b => (lrI aU.2.ts (shN b)).contains x) = true ∧
    B2I aU.2.ts aH = true ∧ (gdB aE.ts (trN aV) && (lrI aE.ts (trN aV)).all (kat aH)) = true ∧ (lT.all fun x => (lrI aE.ts (trN aV)).contains x) = true ∧ B2I aE.ts aH = true ∧
    ((List.range aE.ts.length).all fun i => !txF aE.ts aH i) = true ∧
    (aE.ts.all fun t => t.kind != 6 || (decide (0 < t.of.length) && t.text == V1 [alW (wiW aX aX.he 0 1 1 1) aV.hk aV.hp aV.hn, aT])) = true := by decide +kernel
theorem B2q {R : Mem} {v : Value} {w : LN} (h : Byi R v w) {k : Nat} (hk : k ≤ w.length) : Byi R (vHi k v) (w.take k) := ⟨by
  have h1 := h.rd.hiV k hk
  rw [Nat.mul_one, ← A2t] at h1
  rw [List.length_take, Nat.min_eq_left hk]
  exact h1, fun x hx => h.lt x (List.mem_of_mem_take hx), by rw [List.length_take]; have := h.len; omega⟩
theorem A5k (v : Value) (ws : LN) (A : Mem) (h : Byi A v ws) : FnV Tryz.prog 123 [v] A (vHi (min ws.length 32) v) := by
 haveI := h.cel
 refine FnX.enter (N := 8) Tryz.func123 rfl rfl rfl fun w => ?_
 refine A8 (C8 0) (A1 (as_ (A0 (C8 0) (A1 (mv_ (mv_ ?_))))))
 refine A2 (E1 (sz := 1) rfl kR h.rd) rfl ?_
 refine A2 (A8F ((min ws.length 32 : Nat) : Int) rfl rfl (by split <;> omega)) rfl ?_
 refine A2 (A2v (sz := 1) (a := min ws.length 32) rfl rfl kR rfl h.rd qO) rfl ?_
 refine as_ (A0 (C8 2) (A6 ?_))
 exact ⟨_, [], [], F4 rfl rfl, List.nil_sublist _, by simp, rfl, rfl, rfl⟩
theorem A5l (y0 : Int) (y1 : Int) (y2 : Value) (wy2 : LN) (y3 : Value) (wy3 : LN) (y4 : Nat) (y5 : Value) (wy5 : LN) (y6 : Value) (wy6 : LN) (y7 : Bool) (y8 : Nat) (y9 : Value) (wy9 : LN) (A : Mem) (h2 : Byi A y2 wy2) (h3 : Byi A y3 wy3) (h5 : Byi A y5 wy5) (h6 : Byi A y6 wy6) (h9 : Byi A y9 wy9) : FnX Tryz.prog 71 [.agg #[.int .i64 y0, .int .i64 y1, y2, y3, (vU y4), y5, y6, .bool y7, (vU y8), y9]] [] A fun q M J => Sl 1 q (4 + (if y7 then 1 else 0)) ([y2, y3, y5, vHi (min wy6.length 32) y6] ++ (if y7 then [y9] else [])) M := by
 haveI := h2.cel
 haveI := h3.cel
 haveI := h5.cel
 haveI := h6.cel
 haveI := h9.cel
 refine FnX.enterZ (N := 24) Tryz.func71 rfl rfl rfl fun w_ => ?_
 refine A8 (C8 0) (A1 ?_)
 refine A4 rfl (bx_ fun b1 => ?_)
 refine as_ (A0 (C8 1) ?_)
 refine F5 (.range 13) (zp 0 [0, 0, 1, 0, 0, 1, 0, 1, 0, 1, 2, 2, 0]) kR kR fun hs => ?_
 refine D9 hs rfl (qf_ 2 2) rfl ?_
 refine D9 hs rfl (qf_ 2 0) rfl ?_
 refine Q5 hs rfl ql_ rfl ?_
 refine D9 hs rfl (qf_ 2 2) rfl ?_
 refine D9 hs rfl (qf_ 3 1) rfl ?_
 refine Q5 hs rfl ql_ rfl ?_
 refine D9 hs rfl (qf_ 5 5) rfl ?_
 refine Q5 hs rfl ql_ rfl ?_
 refine D9 hs rfl (qf_ 6 6) rfl ?_
 refine Q5 hs rfl ql_ rfl ?_
 refine N2 rfl (aS rfl a0) kR (A5k y6 wy6 _ (h6.mono qS)) rfl ?_
 have h6m := B2q h6 (show min wy6.length 32 ≤ wy6.length by omega)
 generalize hvm : vHi (min wy6.length 32) y6 = vm at *
 haveI := h6m.cel
 refine A5F rfl rfl fun _ => (C3 (e := 22) (sz := 1) (z := [vS, vS, vS, vS]) kR (eS rfl (eS rfl (eS rfl (eS rfl e0)))) (bdS 0 1 rfl qR (bdS 1 1 rfl qR (bdS 2 1 rfl qR (bdS 3 1 rfl qR bd0)))) rfl fun b15 => ?_)
 refine fa_ hs ?_
 refine H4 (D0 1 3) (A7 (A1 ?_))
 refine A2 (qf_ 7 7) rfl ?_
 refine A2 ql_ rfl ?_
 refine A0 (E7 1 3 17) ?_
 refine C4 rfl ?_ ?_ <;> intro hc
 ·
  obtain rfl : y7 = true := hc
  refine D1 (mv_ ?_)
  refine A2 (qf_ 9 9) rfl ?_
  refine A2 ql_ rfl ?_
  refine A4 rfl (C3 (e := 22) (sz := 1) (z := [vS]) kR (eS rfl e0) (bdS 0 1 rfl qR bd0) rfl fun b21 => ?_)
  refine A4 rfl (G1 (e := 22) (sz := 1) (by_ := 24) rfl rfl kR rfl (Sl.fresh (n := 4) (sz := 1) (cs := [y2, y3, y5, vm]) (e := 22) qR qD) (Rd.whole (n := 1) At.mem qR) (by intro c hc; rw [List.mem_singleton.1 hc]; exact h9.one) qP (by unfold maxLen; omega) qO rfl fun v22 B22 hs22 => ?_)
  refine as_ (A0 (C8 3) (A1 (mv_ (as_ (A0 (C8 2) (A6 ?_))))))
  exact ⟨_, B22, [], F4 rfl rfl, Fit.none (Fit.last qP), hs22⟩
 ·
  obtain rfl : y7 = false := hc
  refine A5 (nx (C8 3) (A1 (mv_ (as_ (A0 (C8 2) (A6 ?_))))))
  exact ⟨_, [(b15, _)], [], F4 rfl rfl, Fit.none (Fit.last qP), Sl.fresh (n := 4) (sz := 1) (cs := [y2, y3, y5, vm]) (e := 22) qR qD⟩

theorem A29 (y0 : Int) (y1 : Int) (y2 : Int) (y3 : Int) (y4 : Value) (y5 : Bool) (y6 : Value) (y7 : Value) (y8 : Value) (y9 : Nat) (y10 : Bool) (y11 : Nat) (y12 : Value) (y13 : Nat) (y14 : Nat) (y15 : Value) [c4 : Cel y4 [y4]] [c6 : Cel y6 [y6]] [c7 : Cel y7 [y7]] [c8 : Cel y8 [y8]] [c12 : Cel y12 [y12]] [c15 : Cel y15 [y15]] (o4 : y4.oneCell' = true) (o6 : y6.oneCell' = true) (o7 : y7.oneCell' = true) (o8 : y8.oneCell' = true) (o12 : y12.oneCell' = true) (o15 : y15.oneCell' = true) (A : Mem) : FnX Tryz.prog 12 [.agg #[.int .i64 y0, .int .i64 y1, .int .i64 y2, .int .i64 y3, y4, .bool y5, y6, y7, y8, (vU y9), .bool y10, (vU y11), y12, (vU y13), (vU y14), y15]] [] A fun q M J => Sl 1 q (3 + (if y5 then 3 else 0)) ([y4, y12, y15] ++ (if y5 then [y6, y7, y8] else [])) M := by
 refine FnX.enterZ (N := 29) Tryz.func12 rfl rfl rfl fun w_ => ?_
 refine A8 (C8 0) (A1 ?_)
 refine A4 rfl (bx_ fun b1 => ?_)
 refine as_ (A0 (C8 1) (A1 ?_))
 refine A2 (qf_ 4 4) rfl ?_
 refine A2 ql_ rfl ?_
 refine A2 (qf_ 12 12) rfl ?_
 refine A2 (qf_ 12 0) rfl ?_
 refine A2 ql_ rfl ?_
 refine A2 (qf_ 15 15) rfl ?_
 refine A2 ql_ rfl ?_
 refine A4 rfl (C3 (e := 22) (sz := 1) (z := [vS, vS, vS]) kR (eS rfl (eS rfl (eS rfl e0))) (bdS 0 1 rfl qR (bdS 1 1 rfl qR (bdS 2 1 rfl qR bd0))) rfl fun b11 => ?_)
 refine as_ (A0 (D0 1 3) (A7 (A1 ?_)))
 refine A2 (qf_ 5 5) rfl ?_
 refine A2 ql_ rfl ?_
 refine A0 (E7 1 3 13) ?_
 refine C4 rfl ?_ ?_ <;> intro hc
 ·
  obtain rfl : y5 = true := hc
  refine D1 (mv_ ?_)
  refine A2 (qf_ 6 6) rfl ?_
  refine A2 (qf_ 6 0) rfl ?_
  refine A2 (qf_ 6 0) rfl ?_
  refine A2 ql_ rfl ?_
  refine A2 (qf_ 6 6) rfl ?_
  refine A2 (qf_ 6 0) rfl ?_
  refine A2 (qf_ 7 1) rfl ?_
  refine A2 ql_ rfl ?_
  refine A2 (qf_ 6 6) rfl ?_
  refine A2 (qf_ 8 2) rfl ?_
  refine A2 ql_ rfl ?_
  refine A4 rfl (C3 (e := 22) (sz := 1) (z := [vS, vS, vS]) kR (eS rfl (eS rfl (eS rfl e0))) (bdS 0 1 rfl qR (bdS 1 1 rfl qR (bdS 2 1 rfl qR bd0))) rfl fun b26 => ?_)
  refine A4 rfl (G1 (e := 22) (sz := 1) (by_ := 24) rfl rfl kR rfl (Sl.fresh (n := 3) (sz := 1) (cs := [y4, y12, y15]) (e := 22) qR qD) (Rd.whole (n := 3) At.mem qR) (by intro c hc; simp only [List.mem_cons, List.not_mem_nil, or_false] at hc; rcases hc with rfl | rfl | rfl; exact o6; exact o7; exact o8) qP (by unfold maxLen; omega) qO rfl fun v27 B27 hs27 => ?_)
  refine as_ (A0 (C8 3) (A1 (mv_ (as_ (A0 (C8 2) (A6 ?_))))))
  exact ⟨_, B27, [], F4 rfl rfl, Fit.none (Fit.last qP), hs27⟩
 ·
  obtain rfl : y5 = false := hc
  refine A5 (nx (C8 3) (A1 (mv_ (as_ (A0 (C8 2) (A6 ?_))))))
  exact ⟨_, [(b11, _)], [], F4 rfl rfl, Fit.none (Fit.last qP), Sl.fresh (n := 3) (sz := 1) (cs := [y4, y12, y15]) (e := 22) qR qD⟩

theorem Prm.tb {pb : Nat × Nat} {s : Ps} {M : Mem} (h : Prm pb s M) : ∃ sv bm B MT, M = (pb.1, blk [.int .u8 1, sv, (vI s.n), .pointer (some ⟨pb.2, 0, none⟩)] 118) :: (B ++ MT) ∧ By B sv s.seed ∧ Tab pb.2 bm s.ts MT := by
  obtain ⟨sv, ⟨_, rfl⟩, bm, B, MT, h1, h2, h3⟩ := h.ex
  exact ⟨sv, bm, B, MT, h1, h2, h3⟩
theorem Prm.of {pb : Nat × Nat} {s : Ps} {sv : Value} {bm : Nat} {B MT : Mem} (h2 : By B sv s.seed) (h3 : Tab pb.2 bm s.ts MT) : Prm pb s ((pb.1, blk [.int .u8 1, sv, (vI s.n), .pointer (some ⟨pb.2, 0, none⟩)] 118) :: (B ++ MT)) := ⟨sv, ⟨pb.2, rfl⟩, bm, B, MT, rfl, h2, h3⟩
def ptr (b : Nat) : Value := (vP b)
def evW (R : Mem) (e : Ev) (c : List Value) : Prop := ∃ vs p r u vk vg, c = evC vs p r u vk vg e ∧ EvR R e vs p r u vk vg
theorem A68 {R : Mem} {e : Ev} {vs p r u vk vg : Value} (h : EvR R e vs p r u vk vg) : ∀ c ∈ evC vs p r u vk vg e, c.oneCell' = true := by
  intro c hc
  unfold evC at hc
  simp only [List.mem_cons, List.not_mem_nil, or_false] at hc
  rcases hc with rfl | rfl | rfl | rfl | rfl | rfl | rfl | rfl | rfl | rfl | rfl | rfl | rfl | rfl | rfl | rfl <;> first | rfl | exact h.ses.one | exact h.he.ia.one | exact h.he.ig.one | exact h.he.key.one | exact h.hk.one | exact h.g.one
theorem evT : RowT 16 evW := ⟨fun R R' x r hR ⟨a, b, c, d, e, f, h1, h2⟩ => ⟨a, b, c, d, e, f, h1, h2.mono hR⟩, fun R x r ⟨a, b, c, d, e, f, h1, _⟩ => by rw [h1]; rfl, fun R x r ⟨a, b, c, d, e, f, h1, h2⟩ => by rw [h1]; exact A68 h2⟩
structure Adv (R : Mem) (vb kb : Nat) (pb : Nat × Nat) (h : List Bool) (es : List Ev) (ow : LN) (M : Mem) : Prop where
  ex : ∃ u1 u2 rows B1 B2 MK, M = (vb, blk [.pointer (some ⟨pb.1, 0, none⟩), (vP kb), u1, u2] 93) :: (B1 ++ (B2 ++ MK)) ∧ Sl 16 u1 es.length rows.flatten B1 ∧ RwL evW R rows es ∧ Sl 1 u2 ow.length (ow.map ptr) B2 ∧ Knw kb pb.2 h MK
theorem Adv.mono {R R' : Mem} {vb kb : Nat} {pb : Nat × Nat} {h : List Bool} {es : List Ev} {ow : LN} {M : Mem} (hA : Adv R vb kb pb h es ow M) (hR : ∀ z, z ∈ R → z ∈ R') : Adv R' vb kb pb h es ow M := by
  obtain ⟨a, b, c, d, e, f, h1, h2, h3, h4, h5⟩ := hA.ex
  exact ⟨a, b, c, d, e, f, h1, h2, h3.mono evT hR, h4, h5⟩
theorem A8r (w : LN) : w.take (min w.length 32) = w.take 32 := by
  by_cases h : w.length ≤ 32
  · rw [Nat.min_eq_left h, List.take_of_length_le (Nat.le_refl _), List.take_of_length_le h]
  · rw [Nat.min_eq_right qO]
theorem B3J {R : Mem} {b : Bn} {v wa wg wk ws_ wo : Value} {B : Mem} (ga : By R wa b.ia) (gg : By R wg b.ig) (gk : By R wk b.key) (gs : By R ws_ b.sig) (go : By R wo b.oncek) (hs : Sl 1 v (4 + (if b.has then 1 else 0)) ([wa, wg, wk, vHi (min b.sig.length 32) ws_] ++ (if b.has then [wo] else [])) B) : LsV (B ++ R) v (shN b) := by
  have h6 : By R (vHi (min b.sig.length 32) ws_) (b.sig.take 32) := by rw [← A8r]; exact A6R gs (Nat.min_le_left _ _)
  have hr : Rd (B ++ R) 1 v (4 + (if b.has then 1 else 0)) ([wa, wg, wk, vHi (min b.sig.length 32) ws_] ++ (if b.has then [wo] else [])) := hs.rd fun x hx => List.mem_append_left _ hx
  have up : ∀ x, x ∈ R → x ∈ B ++ R := fun x hx => List.mem_append_right _ hx
  unfold shN
  cases hb : b.has with
  | true =>
    rw [hb] at hr
    exact ⟨_, hr, Lst.cons (ga.mono up) (Lst.cons (gg.mono up) (Lst.cons (gk.mono up) (Lst.cons (h6.mono up) (Lst.cons (go.mono up) Lst.nil))))⟩
  | false =>
    rw [hb] at hr
    exact ⟨_, hr, Lst.cons (ga.mono up) (Lst.cons (gg.mono up) (Lst.cons (gk.mono up) (Lst.cons (h6.mono up) Lst.nil)))⟩
theorem B3K {R : Mem} {e : Ev} {v vs p r u vk vg : Value} {B : Mem} (h : EvR R e vs p r u vk vg) (hs : Sl 1 v (3 + (if e.has then 3 else 0)) ([vs, vk, vg] ++ (if e.has then [p, r, u] else [])) B) : LsV (B ++ R) v (trN e) := by
  have hr : Rd (B ++ R) 1 v (3 + (if e.has then 3 else 0)) ([vs, vk, vg] ++ (if e.has then [p, r, u] else [])) := hs.rd fun x hx => List.mem_append_left _ hx
  have up : ∀ x, x ∈ R → x ∈ B ++ R := fun x hx => List.mem_append_right _ hx
  have hig := h.he.ig.by (Nat.le_trans h.hil qD)
  unfold trN
  cases hb : e.has with
  | true =>
    rw [hb] at hr
    exact ⟨_, hr, Lst.cons (h.ses.mono up) (Lst.cons (h.hk.mono up) (Lst.cons (h.g.mono up) (Lst.cons (h.he.ia.mono up) (Lst.cons (hig.mono up) (Lst.cons (h.he.key.mono up) Lst.nil)))))⟩
  | false =>
    rw [hb] at hr
    exact ⟨_, hr, Lst.cons (h.ses.mono up) (Lst.cons (h.hk.mono up) (Lst.cons (h.g.mono up) Lst.nil))⟩
theorem A9c (pb : Nat × Nat) (s : Ps) (MP A : Mem) (hP : Prm pb s MP) (hMP : ∀ z, z ∈ MP → z ∈ A) : FnX Tryz.prog 27 [.pointer (some ⟨pb.1, 0, none⟩)] [] A fun q M J => ∃ vb kb, q = (vP vb) ∧ ∀ R, Adv R vb kb pb [] [] [] M := by
 obtain ⟨sv, bm, B, MT, rfl, hby, hT⟩ := hP.tb
 haveI := hby.cel
 refine FnX.enterZ (N := 9) Tryz.func27 rfl rfl rfl fun w_ => ?_
 refine A8 (C8 0) (A1 (as_ (A0 (C8 0) (A1 (mv_ (mv_ ?_))))))
 refine E2 (aS rfl a0) kR (A3t pb ⟨pb.2, rfl⟩ _ sv _ (mA (hMP _ qK))) rfl ?_
 refine F0 (aS rfl a0) kR (A6Z pb.2 _) rfl ?_
 rintro v6 M6 J6 ⟨kb, rfl, hK6⟩
 refine A2 (D2 (place := fun x => #[(0, 1), (1, 1), (2, 1), (3, 1)][x]?) (z := [.pointer none, .pointer none, vS, vS]) (fun _ => by kernel_rfl) (eS rfl (eS rfl e0)) (bdS 0 1 rfl qR (bdS 1 1 rfl qR bd0))) rfl ?_
 refine A4 rfl (bx_ fun b8 => ?_)
 refine as_ (A0 (C8 2) (A6 ?_))
 exact ⟨_, (b8, _) :: M6, [], F4 rfl rfl, Fit.none (Fit.pick (B := [_]) qP (Fit.last qP)), b8, kb, rfl, fun R => ⟨vS, vS, [], [], [], M6, rfl, Sl.nil, RwL.nil, Sl.nil, hK6⟩⟩
theorem A8s (vb kb : Nat) (pb : Nat × Nat) (u1 u2 : Value) (A : Mem) (hv : (vb, blk [.pointer (some ⟨pb.1, 0, none⟩), (vP kb), u1, u2] 93) ∈ A) : FnV Tryz.prog 13 [(vP vb)] A (vP kb) := by
 refine FnX.enter (N := 9) Tryz.func13 rfl rfl rfl fun w_ => ?_
 refine A8 (C8 0) (A1 (as_ (A0 (C8 0) (A7 (A1 (mv_ ?_))))))
 refine A2 (C9 (e := 93) rfl rfl kR) rfl ?_
 refine A0 (D0 0 4) ?_
 refine B8 rfl ?_
 refine A5 (nx (C8 0) (A1 (mv_ ?_)))
 refine A2 (D5 rfl) rfl ?_
 refine A2 (qf_ 1 1) rfl ?_
 refine A2 (G7 rfl kR (mA hv) qR) rfl ?_
 refine as_ (A0 (C8 2) (A6 ?_))
 exact ⟨_, [], [], F4 rfl rfl, List.nil_sublist _, by simp, rfl, rfl, rfl⟩
theorem B0O (vb kb n : Nat) (pb : Nat × Nat) (u1 u2 : Value) (xs : List Value) (A : Mem) (hv : (vb, blk [.pointer (some ⟨pb.1, 0, none⟩), (vP kb), u1, u2] 93) ∈ A) (hr : Rd A 16 u1 n xs) : FnV Tryz.prog 15 [(vP vb)] A (vI n) := by
 haveI := hr.cel
 refine FnX.enter (N := 10) Tryz.func15 rfl rfl rfl fun w_ => ?_
 refine A8 (C8 0) (A1 (as_ (A0 (C8 0) (A7 (A1 (mv_ ?_))))))
 refine A2 (C9 (e := 93) rfl rfl kR) rfl ?_
 refine A0 (D0 0 4) ?_
 refine B8 rfl ?_
 refine A5 (nx (C8 0) (A1 (mv_ ?_)))
 refine A2 (D5 rfl) rfl ?_
 refine A2 (qf_ 2 2) rfl ?_
 refine A2 (G7 rfl kR (mA hv) qR) rfl ?_
 refine A2 (E1 (sz := 16) rfl kR hr) rfl ?_
 refine as_ (A0 (C8 2) (A6 ?_))
 exact ⟨_, [], [], F4 rfl rfl, List.nil_sublist _, by simp, rfl, rfl, rfl⟩
theorem B0P (vb kb : Nat) (pb : Nat × Nat) (s : Ps) (h : List Bool) (es : List Ev) (ow : LN) (b : Bn) (wa wg wk ws_ wo : Value) (MA MP R A : Mem) (hA : Adv R vb kb pb h es ow MA) (hP : Prm pb s MP) (hl : h.length ≤ s.ts.length) (hn : s.ts.length + 10 ≤ 1048576) (ga : By A wa b.ia) (gg : By A wg b.ig) (gk : By A wk b.key) (gs : By A ws_ b.sig) (go : By A wo b.oncek) (hG : Glb A) : FnX Tryz.prog 28 [(vP vb), .agg #[.int .i64 b.user, .int .i64 b.dev, wa, wg, (vU b.signed), wk, ws_, .bool b.has, (vU b.once), wo]] (MA ++ MP) A fun q M J => ∃ MA' MP' h', M = MA' ++ MP' ∧ Clo (U1 s.ts h (shN b)).1 (U1 s.ts h (shN b)).2 h' ∧ Adv R vb kb pb h' es ow MA' ∧ Prm pb { s with ts := (U1 s.ts h (shN b)).1 } MP' := by
 obtain ⟨u1, u2, rows, B1, B2, MK, rfl, hs1, hrw, hs2, hK⟩ := hA.ex
 obtain ⟨sv, bm, B, MT, rfl, hby, hT⟩ := hP.tb
 obtain ⟨ge4, gf4, h4⟩ := hG.pow
 haveI := hs1.cel
 haveI := hs2.cel
 haveI := hby.cel
 haveI := ga.cel
 haveI := gg.cel
 haveI := gk.cel
 haveI := gs.cel
 haveI := go.cel
 have hll : (shN b).length ≤ 5 := by unfold shN; split <;> simp
 refine FnX.enterZ (N := 13) Tryz.func28 rfl rfl rfl fun w_ => ?_
 refine A8 (D0 0 1) (A1 ?_)
 refine A4 rfl (bx_ fun b3 => ?_)
 refine A0 (D0 0 3) (A1 (mv_ ?_))
 refine A2 (A0n (e := 93) rfl rfl kR) rfl ?_
 refine A0 (E7 0 3 5) ?_
 refine G3 rfl ?_
 refine R7 [0, 1, 2, 3, 4, 5] (zp 0 [0, 0, 0, 1, 1, 2, 2]) kR kR fun hs => ?_
 refine fm_ hs ?_
 refine D9 hs rfl (D5 rfl) rfl ?_
 refine D9 hs rfl (qf_ 1 1) rfl ?_
 refine Q5 hs rfl ql_ rfl ?_
 refine Q5 hs rfl (qw_ 10) rfl ?_
 refine A0S rfl (aS rfl a0) kR (A5l b.user b.dev wa b.ia wg b.ig b.signed wk b.key ws_ b.sig b.has b.once wo b.oncek _ (ga.mono qS).i (gg.mono qS).i (gk.mono qS).i (gs.mono qS).i (go.mono qS).i) rfl ?_
 rintro v11 M11 J11 hs11
 have hlv := B3J ga gg gk gs go hs11
 haveI := hs11.cel
 refine L2 rfl rfl rfl (A9 (Mc := MK ++ MT) (R := _) (aS rfl (aS rfl a0)) kR qP (A1M kb pb.2 bm s.ts h v11 (shN b) MK MT _ hK hT (hlv.mono qS) hl qO (qS _ h4)) rfl ?_)
 rintro v12 M12 J12 ⟨h', MK', MT', rfl, hclo, hK', hT'⟩
 refine A1v ?_
 exact ⟨_, (vb, blk [.pointer (some ⟨pb.1, 0, none⟩), (vP kb), u1, u2] 93) :: (B1 ++ (B2 ++ (MK' ++ ((pb.1, blk [.int .u8 1, sv, (vI s.n), .pointer (some ⟨pb.2, 0, none⟩)] 118) :: (B ++ MT'))))), [], A2k rfl, Fit.none (Fit.pick (B := [_]) qP (Fit.pick qP (Fit.pick qP (Fit.pick qP (Fit.pick (B := [_]) qP (Fit.pick qP (Fit.last qP))))))), (vb, blk [.pointer (some ⟨pb.1, 0, none⟩), (vP kb), u1, u2] 93) :: (B1 ++ (B2 ++ MK')), (pb.1, blk [.int .u8 1, sv, (vI s.n), .pointer (some ⟨pb.2, 0, none⟩)] 118) :: (B ++ MT'), h', by simp, hclo, ⟨u1, u2, rows, B1, B2, MK', rfl, hs1, hrw, hs2, hK'⟩, Prm.of hby hT'⟩
theorem B2r (vb kb : Nat) (pb : Nat × Nat) (s : Ps) (h : List Bool) (es : List Ev) (ow : LN) (v : Value) (p : LN) (MA MP R A : Mem) (hA : Adv R vb kb pb h es ow MA) (hP : Prm pb s MP) (hl : h.length ≤ s.ts.length) (hn : s.ts.length + 10 ≤ 1048576) (hel : es.length ≤ 1000) (hp : By A v p) (ho : dcO p = true) (hG : Glb A) : FnX Tryz.prog 9 [(vP vb), v] (MA ++ MP) A fun q M J => ∃ MA' MP' h', M = MA' ++ MP' ∧ Clo (U1 s.ts h (trN (dcE p))).1 (U1 s.ts h (trN (dcE p))).2 h' ∧ Adv (J ++ R) vb kb pb h' (es ++ [dcE p]) ow MA' ∧ Prm pb { s with ts := (U1 s.ts h (trN (dcE p))).1 } MP' := by
 obtain ⟨u1, u2, rows, B1, B2, MK, rfl, hs1, hrw, hs2, hK⟩ := hA.ex
 obtain ⟨sv, bm, B, MT, rfl, hby, hT⟩ := hP.tb
 obtain ⟨ge4, gf4, h4⟩ := hG.pow
 haveI := hs1.cel
 haveI := hs2.cel
 haveI := hby.cel
 haveI := hp.cel
 have hll : (trN (dcE p)).length ≤ 6 := by unfold trN; split <;> simp
 refine FnX.enterZ (N := 32) Tryz.func9 rfl rfl rfl fun w_ => ?_
 refine A8 (D0 0 1) (A7 (A1 (mv_ ?_)))
 refine A2 (C9 (e := 93) rfl rfl kR) rfl ?_
 refine A0 (E7 0 1 7) ?_
 refine B8 rfl ?_
 refine A5 (nx (D0 0 1) (A1 (mv_ ?_)))
 refine F0 (aS rfl a0) kR (B1Y v p _ (hp.mono qS)) rfl ?_
 rintro v10 M10 J10 ⟨rfl, ev, rfl, hev⟩
 rw [ho] at hev ⊢
 rw [show (if true = true then dcE p else ev0) = dcE p from rfl] at hev
 rw [show (if true = true then (0 : Int) else 4) = 0 from rfl]
 obtain ⟨vs, q0, q1, q2, vk, vg, rfl, he_⟩ := hev
 haveI := he_.ses.cel
 haveI := he_.he.ia.cel
 haveI := he_.he.ig.cel
 haveI := he_.he.key.cel
 haveI := he_.hk.cel
 haveI := he_.g.cel
 unfold evC
 refine mv_ ?_
 refine A2 (Y3 rfl) rfl ?_
 refine A2 (X5 rfl) rfl ?_
 refine A4 rfl (D3 (cs := [F9, F9, F9, F9, vS, .bool false, vS, vS, vS, E8, .bool false, E8, vS, E8, E8, vS]) kR rfl fun b4 => ?_)
 refine A4 rfl (C0 (vs := [.int .i64 (dcE p).fu, .int .i64 (dcE p).fd, .int .i64 (dcE p).tu, .int .i64 (dcE p).td, vs, .bool (dcE p).has, q0, q1, q2, .int .u32 (((dcE p).he.signed : Nat) : Int), .bool (dcE p).he.has, .int .u32 (((dcE p).he.once : Nat) : Int), vk, .int .u32 (((dcE p).hp : Nat) : Int), .int .u32 (((dcE p).hn : Nat) : Int), vg]) rfl rfl rfl kR qR (A3 rfl (A3 rfl (A3 rfl (A3 rfl (A3 he_.ses.one (A3 rfl (A3 he_.he.ia.one (A3 he_.he.ig.one (A3 he_.he.key.one (A3 rfl (A3 rfl (A3 rfl (A3 he_.hk.one (A3 rfl (A3 rfl (A3 he_.g.one I5)))))))))))))))) UpC.upd ?_)
 refine as_ (A0 (E7 0 4 5) (A1 (mv_ ?_)))
 refine A2 (F6 true rfl rfl (eqT rfl)) rfl ?_
 refine A0 (E7 0 4 14) ?_
 refine G3 rfl ?_
 refine F5 [0, 1, 2, 3, 4, 5, 6, 8, 9] (zp 0 [0, 0, 0, 0, 1, 1, 2, 2, 0, 0, 2]) kR kR fun hs => ?_
 refine fm_ hs ?_
 refine fm_ hs ?_
 refine D9 hs rfl (D5 rfl) rfl ?_
 refine D9 hs rfl (qf_ 2 2) rfl ?_
 refine Q5 hs rfl ql_ rfl ?_
 refine Q5 hs rfl (qw_ 16) rfl ?_
 refine A5F rfl rfl fun _ => (C3 (e := 37) (sz := 16) (z := [F9, F9, F9, F9, vS, .bool false, vS, vS, vS, E8, .bool false, E8, vS, E8, E8, vS]) kR (eS rfl e0) (bdS 0 16 rfl qR bd0) rfl fun b21 => ?_)
 refine L2 rfl rfl rfl (G1 (e := 37) (sz := 16) (by_ := 208) rfl rfl kR rfl hs1 (Rd.whole (n := 1) At.mem qR) (A68 he_) qP (by unfold maxLen; omega) qO rfl fun v22 B22 hs22 => ?_)
 haveI := hs22.cel
 refine D9 hs rfl (D5 rfl) rfl ?_
 refine D9 hs rfl (qf_ 2 2) rfl ?_
 refine L2 rfl rfl rfl (F3 rfl rfl hs22.one kR SetC.set UpC.upd ?_)
 refine H4 (D0 0 4) ?_
 refine R7 [0, 1, 2, 3, 4, 5] (zp 0 [0, 0, 0, 1, 1, 2, 2]) kR kR fun hs => ?_
 refine fm_ hs ?_
 refine D9 hs rfl (D5 rfl) rfl ?_
 refine D9 hs rfl (qf_ 1 1) rfl ?_
 refine Q5 hs rfl ql_ rfl ?_
 refine Q5 hs rfl (qw_ 16) rfl ?_
 refine A0S rfl (aS rfl a0) kR (A29 (dcE p).fu (dcE p).fd (dcE p).tu (dcE p).td vs (dcE p).has q0 q1 q2 (dcE p).he.signed (dcE p).he.has (dcE p).he.once vk (dcE p).hp (dcE p).hn vg he_.ses.one he_.he.ia.one he_.he.ig.one he_.he.key.one he_.hk.one he_.g.one _) rfl ?_
 rintro v30 M30 J30 hs30
 have hlv := B3K he_ hs30
 haveI := hs30.cel
 refine L2 rfl rfl rfl (A9 (Mc := MK ++ MT) (R := _) (aS rfl (aS rfl a0)) kR qP (A1M kb pb.2 bm s.ts h v30 (trN (dcE p)) MK MT _ hK hT (hlv.mono qS) hl qO (qS _ h4)) rfl ?_)
 rintro v31 M31 J31 ⟨h', MK', MT', rfl, hclo, hK', hT'⟩
 refine A1v ?_
 exact ⟨_, (vb, blk [.pointer (some ⟨pb.1, 0, none⟩), (vP kb), v22, u2] 93) :: (B22 ++ (B2 ++ (MK' ++ ((pb.1, blk [.int .u8 1, sv, (vI s.n), .pointer (some ⟨pb.2, 0, none⟩)] 118) :: (B ++ MT'))))), [], A2k rfl, Fit.none (Fit.pick (B := [_]) qP (Fit.pick qP (Fit.pick qP (Fit.pick qP (Fit.pick (B := [_]) qP (Fit.pick qP (Fit.last qP))))))), (vb, blk [.pointer (some ⟨pb.1, 0, none⟩), (vP kb), v22, u2] 93) :: (B22 ++ (B2 ++ MK')), (pb.1, blk [.int .u8 1, sv, (vI s.n), .pointer (some ⟨pb.2, 0, none⟩)] 118) :: (B ++ MT'), h', by simp, hclo, ⟨v22, u2, rows ++ [[.int .i64 (dcE p).fu, .int .i64 (dcE p).fd, .int .i64 (dcE p).tu, .int .i64 (dcE p).td, vs, .bool (dcE p).has, q0, q1, q2, .int .u32 (((dcE p).he.signed : Nat) : Int), .bool (dcE p).he.has, .int .u32 (((dcE p).he.once : Nat) : Int), vk, .int .u32 (((dcE p).hp : Nat) : Int), .int .u32 (((dcE p).hn : Nat) : Int), vg]], B22, B2, MK', rfl, by rw [List.length_append, List.flatten_append]; simpa using hs22, (hrw.mono evT qS).snoc ⟨vs, q0, q1, q2, vk, vg, rfl, he_.mono qS⟩, hs2, hK'⟩, Prm.of hby hT'⟩

theorem B3L (i : Int) (A : Mem) : FnV Tryz.prog 85 [.int .i64 i, .int .i64 0] A (.int .i64 (-1)) := by
 refine FnX.enter (N := 13) Tryz.func85 rfl rfl rfl fun w_ => ?_
 refine A8 (D0 0 1) (A1 (as_ (A0 (D0 0 1) (A7 (A1 (mv_ ?_))))))
 refine A2 (F6 true rfl rfl (eqT rfl)) rfl ?_
 refine A0 (E7 0 1 6) ?_
 refine G3 rfl ?_
 refine A1 (as_ (A0 (C8 4) (A6 (tr ?_))))
 exact ⟨_, [], [], F4 rfl rfl, List.nil_sublist _, by simp, rfl, rfl, rfl⟩
theorem B0Q (vb kb : Nat) (pb : Nat × Nat) (u1 u2 : Value) (A : Mem) (hv : (vb, blk [.pointer (some ⟨pb.1, 0, none⟩), (vP kb), u1, u2] 93) ∈ A) (hr : Rd A 16 u1 0 []) : FnX Tryz.prog 48 [(vP vb), .agg #[.int .u8 0, .int .i64 0, .int .i64 0, .int .i64 0, .int .i64 0, .int .i64 0, .int .i64 0, .int .u32 0, vS], .agg #[.int .i64 0, .int .i64 0, vS, vS, .int .u32 0, vS, vS, .bool false, .int .u32 0, vS]] [] A fun q M J => M = [] ∧ q = .tuple #[.agg #[.int .i64 0, .int .i64 0, .int .i64 0, .int .i64 0, vS, .bool false, vS, vS, vS, .int .u32 0, .bool false, .int .u32 0, vS, .int .u32 0, .int .u32 0, vS], .int .i64 2] := by
 haveI := hr.cel
 refine FnX.enterZ (N := 154) Tryz.func48 rfl rfl rfl fun w_ => ?_
 refine A8 (E7 0 1 2) (A1 ?_)
 refine A4 rfl (bx_ fun b4 => ?_)
 refine A4 rfl (bx_ fun b5 => ?_)
 refine A4 rfl (D3 (cs := [F9, F9, F9, F9, vS, .bool false, vS, vS, vS, E8, .bool false, E8, vS, E8, E8, vS]) kR rfl fun b6 => ?_)
 refine as_ (A0 (F8 0 4 5 6) (A7 (A1 ?_)))
 refine A2 (qf_ 0 0) rfl ?_
 refine A2 ql_ rfl ?_
 refine A2 (F6 false rfl rfl (eqF qD)) rfl ?_
 refine A0 (H9 0 4 5 6 17) ?_
 refine B8 rfl ?_
 refine A5 (nx (F8 0 4 5 6) ?_)
 refine F5 (.range 9) (zp 0 [0, 1, 0, 0, 0, 1, 0, 2, 0]) kR kR fun hs => ?_
 refine D9 hs rfl (qf_ 1 1) rfl ?_
 refine Q5 hs rfl ql_ rfl ?_
 refine fm_ hs ?_
 refine D9 hs rfl (D5 rfl) rfl ?_
 refine D9 hs rfl (qf_ 2 2) rfl ?_
 refine Q5 hs rfl (G7 rfl kR (mA hv) qR) rfl ?_
 refine D9 hs rfl (E1 (sz := 16) rfl kR hr) rfl ?_
 refine N2 rfl (aS rfl (aS rfl a0)) kR (B3L 0 _) rfl ?_
 refine fa_ hs ?_
 refine H4 (H9 0 4 5 6 8) (A7 (A1 (mv_ ?_)))
 refine A2 (F6 true rfl rfl (ltT qD)) rfl ?_
 refine A0 (L1 0 4 5 6 8 33) ?_
 refine G3 rfl ?_
 refine A1 ?_
 refine A2 (D2 (place := fun x => #[(0, 2), (2, 2), (4, 1), (5, 1), (6, 6), (12, 3), (15, 1)][x]?) (z := [F9, F9, F9, F9, vS, .bool false, vS, vS, vS, E8, .bool false, E8, vS, E8, E8, vS]) (fun _ => by kernel_rfl) e0 bd0) rfl ?_
 refine A4 rfl (C0 (vs := [.int .i64 0, .int .i64 0, .int .i64 0, .int .i64 0, vS, .bool false, vS, vS, vS, .int .u32 0, .bool false, .int .u32 0, vS, .int .u32 0, .int .u32 0, vS]) rfl rfl rfl kR qR B2A UpC.upd ?_)
 refine as_ (A0 (D0 6 7) (A6 (tr ?_)))
 exact ⟨_, [], [], Z4 (n := 16) rfl rfl rfl kR At.mem qR, qZ, rfl, rfl⟩
theorem B0R (vb kb : Nat) (pb : Nat × Nat) (u1 u2 : Value) (A : Mem) (hv : (vb, blk [.pointer (some ⟨pb.1, 0, none⟩), (vP kb), u1, u2] 93) ∈ A) (hr : Rd A 16 u1 0 []) : FnX Tryz.prog 17 [(vP vb), .agg #[.int .u8 0, .int .i64 0, .int .i64 0, .int .i64 0, .int .i64 0, .int .i64 0, .int .i64 0, .int .u32 0, vS], .agg #[.int .i64 0, .int .i64 0, vS, vS, .int .u32 0, vS, vS, .bool false, .int .u32 0, vS]] [] A fun q M J => M = [] ∧ q = .tuple #[vS, .int .i64 2] := by
 haveI := hr.cel
 refine FnX.enterZ (N := 42) Tryz.func17 rfl rfl rfl fun w_ => ?_
 refine A8 (E7 0 1 2) (A1 ?_)
 refine A4 rfl (bx_ fun b4 => ?_)
 refine A4 rfl (bx_ fun b5 => ?_)
 refine as_ (as_ (A0 (E7 0 4 5) (A7 (A1 (mv_ ?_)))))
 refine A2 (C9 (e := 93) rfl rfl kR) rfl ?_
 refine A0 (F8 0 4 5 11) ?_
 refine B8 rfl ?_
 refine A5 (nx (E7 0 4 5) (A7 (A1 ?_)))
 refine A2 (qf_ 0 0) rfl ?_
 refine A2 ql_ rfl ?_
 refine A2 (F6 false rfl rfl (eqF qD)) rfl ?_
 refine A0 (F8 0 4 5 14) ?_
 refine B8 rfl ?_
 refine A5 (nx (E7 0 4 5) (A1 (mv_ ?_)))
 refine A2 (qw_ 9) rfl ?_
 refine A2 (qw_ 10) rfl ?_
 refine F0 (aS rfl (aS rfl (aS rfl a0))) kR (B0Q vb kb pb u1 u2 _ (mA hv) (hr.mono qS)) rfl ?_
 rintro v22 M22 J22 ⟨rfl, rfl⟩
 refine mv_ ?_
 refine A2 (Y3 rfl) rfl ?_
 refine A2 (X5 rfl) rfl ?_
 refine A4 rfl (D3 (cs := [F9, F9, F9, F9, vS, .bool false, vS, vS, vS, E8, .bool false, E8, vS, E8, E8, vS]) kR rfl fun b8 => ?_)
 refine A4 rfl (C0 (vs := [.int .i64 0, .int .i64 0, .int .i64 0, .int .i64 0, vS, .bool false, vS, vS, vS, .int .u32 0, .bool false, .int .u32 0, vS, .int .u32 0, .int .u32 0, vS]) rfl rfl rfl kR qR B2A UpC.upd ?_)
 refine as_ (A0 (E7 0 8 9) (A7 (A1 (mv_ ?_))))
 refine A2 (F6 true rfl rfl (neT qD)) rfl ?_
 refine A0 (F8 0 8 9 26) ?_
 refine G3 rfl ?_
 refine A1 (mv_ (as_ (as_ (A0 (D0 6 7) (A6 (tr ?_))))))
 exact ⟨_, [], [], A4F rfl rfl rfl, qZ, rfl, rfl⟩

end Go.Proofs.YtoameenjkiaefaaGreatDoor
