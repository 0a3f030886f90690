/- The card of the law PrimNil: it returns true for every input; each argument reads behind the call as it read before; the listed package variables are tied to the program's text. No further condition. -/
import Derived.Test.YtphcaiplgpmnnaaGreatDoorB13
import Derived.Lib.LaidTab
import Derived.Stop.LaidErr
import Derived.MakeChecks
import Derived.Test.YtphcaiplgpmnnaaGreatDoorCards
import Derived.Test.YtphcaiplgpmnnaaGreatDoorTie
import Derived.Deep.DeepHandedRow
import Derived.Deep.DeepWitnessRowRef
import Derived.Lay
import Derived.LaidMore
set_option linter.unusedVariables false
set_option linter.unusedSimpArgs false
set_option maxRecDepth 100000
namespace Go.Proofs.YtphcaiplgpmnnaaGreatDoor
open Go.Px
theorem freshS_l8 (s : Ps) : (freshS s).ts.length ≤ s.ts.length + 1 ∧ (freshS s).n = s.n + 1 := by
  cases hr : s.real with
  | true => rw [freshS_t hr]; exact ⟨Nat.le_succ _, rfl⟩
  | false => rw [freshS_f hr]; exact ⟨add_len, rfl⟩
theorem aw_facts (r : Bool) : Kok (aw2 r) (freshK (aw0 r)) ∧ Kok (aw2 r) (freshK (freshS (aw0 r))) ∧ Tok (aw2 r).ts ∧ (aw2 r).ts.length ≤ 2 ∧ (aw2 r).n = 2 ∧ (aw2 r).real = r := by
  have f1 := freshS_l8 (aw0 r)
  have f2 := freshS_l8 (freshS (aw0 r))
  have e1 : (aw0 r).ts.length = 0 := rfl
  have e2 : (aw0 r).n = 0 := rfl
  have t0 : Tok (aw0 r).ts := Tok.nil
  have k1 := (fresh_kok t0 (by omega)).1
  have t1 : Tok (freshS (aw0 r)).ts := by
    cases r with
    | true => exact t0
    | false => exact (fresh_kok t0 (by omega)).2 rfl
  have k2 := (fresh_kok t1 (by omega)).1
  have t2 : Tok (freshS (freshS (aw0 r))).ts := by
    cases r with
    | true => exact t0
    | false => exact (fresh_kok t1 (by omega)).2 rfl
  exact ⟨k1.ext (fresh_ext _), k2, t2, by unfold aw2; omega, by unfold aw2; omega, by unfold aw2; rw [(fresh_ext _).real, (fresh_ext _).real]; rfl⟩
theorem pubS2_len' (s : Ps) (w : List Nat) : (pubS2 s w).ts.length ≤ s.ts.length + 2 := by
  unfold pubS2
  split
  · omega
  · have h1 := rdT_len (ts := s.ts) (ws := w)
    have h2 := add_len (ts := rdT s.ts w) (t := pubT ((rdI s.ts w : Nat) : Int))
    show (add (rdT s.ts w) _).length ≤ _
    omega
theorem pubS2_n' (s : Ps) (w : List Nat) : (pubS2 s w).n = s.n := by unfold pubS2; split <;> rfl
/-- Two agree, each by the other one's public part. -/
theorem agree_two {s : Ps} {a b : List Nat} (ka : Kok s a) (kb : Kok s b) (ht : Tok s.ts) (hl : s.ts.length + 100 ≤ 1048576) (ha : ∀ x ∈ a, x < 256) (hb : ∀ x ∈ b, x < 256) :
    agrK2 (pubS2 (agrS2 (pubS2 s b) a (pubK2 s b)) a) b (pubK2 (agrS2 (pubS2 s b) a (pubK2 s b)) a) = agrK2 (pubS2 s b) a (pubK2 s b) := by
  have l1 := pubS2_len' s b
  obtain ⟨p1, -, t1⟩ := pub_at kb ht (by omega)
  have e1 := (pub_ex s b).p
  obtain ⟨g1, t2⟩ := agr_at (ka.ext e1) p1 t1 (by omega) ha hb
  have l2 := agrS2_len (pubS2 s b) a (pubK2 s b)
  have e2 := (agr_ex (pubS2 s b) a (pubK2 s b)).p
  obtain ⟨p2, -, t3⟩ := pub_at ((ka.ext e1).ext e2) t2 (by omega)
  have l3 := pubS2_len' (agrS2 (pubS2 s b) a (pubK2 s b)) a
  exact ((g1.ext (pub_ex _ a).p).comm.eq p2 t3 (by omega)).2

theorem made_f (pb : Nat) (s : Ps) (MP A : Mem) (hP : Prm pb s MP) (hsub : ∀ x, x ∈ MP → x ∈ A) : FnV Tryz.prog 51 [.pointer (some ⟨pb, 0, none⟩)] A (.int .i64 ((s.n : Nat) : Int)) := by
 obtain ⟨sv, bt, bm, B, MT, rfl, hby, hT⟩ := hP.ex
 have hpb := hsub _ List.mem_cons_self
 haveI := hby.cel
 refine FnX.enter (N := 9) Tryz.func51 rfl rfl rfl fun w => ?_
 refine XC.keep (kq 0 kn) ?_
 refine XC.reg ?_
 refine as_ ?_
 refine XL.fin (kq 0 kn) ?_
 refine XC.seq ?_
 refine XC.reg ?_
 refine mv_ ?_
 refine XL.q (q_ptrEqNil (e := 124) rfl rfl (by kernel_rfl)) rfl ?_
 refine XL.fin (kq 0 (kq 4 kn)) ?_
 refine XC.condF rfl ?_
 refine XC.skip ?_
 refine nx (kq 0 kn) ?_
 refine XC.reg ?_
 refine mv_ ?_
 refine XL.q (q_nil rfl) rfl ?_
 refine XL.q (qf_ 2 2) rfl ?_
 refine XL.q (q_load rfl (by kernel_rfl) (mA hpb) (by rfl)) rfl ?_
 refine as_ ?_
 refine XL.fin (kq 2 kn) ?_
 refine XC.ret ?_
 exact ⟨_, [], [], res1 rfl rfl, List.nil_sublist _, by simp, rfl, rfl, rfl⟩

theorem awake08_f (A : Mem) (hG : Glb A) : FnV Tryz.prog 37 [] A (.bool true) := by
 refine FnX.enter (N := 55) Tryz.func37 rfl rfl rfl fun w_ => ?_
 refine XC.keep kn ?_
 refine XC.reg ?_
 refine as_ ?_
 refine XL.fin kn ?_
 refine XC.seq ?_
 refine XC.reg ?_
 refine as_ ?_
 refine XL.fin (kq 1 kn) ?_
 refine XC.block ?_
 refine XC.rounds 3 ?_
 refine XR.step ?_
 refine XC.seq ?_
 refine XC.reg ?_
 refine mv_ ?_
 refine XL.q (q_cmp true rfl rfl (leT (by decide))) rfl ?_
 refine XL.fin (kq 1 (kq 7 kn)) ?_
 refine XC.condT rfl ?_
 refine XC.skip ?_
 refine nx (kq 1 kn) ?_
 refine XC.seq ?_
 refine XC.block ?_
 refine XC.fit (M' := []) (J' := []) (Fit.sub (List.nil_sublist _)) (fun _ h => by cases h) ?_
 refine XC.reg ?_
 refine mv_ ?_
 refine XL.lo rfl (l_buildSlice (e := 5) (sz := 1) (z := [.int .u8 0]) (by kernel_rfl) (eS rfl e0) (bdS 0 1 rfl (by rfl) bd0) rfl fun b12 => ?_)
 refine XL.lo rfl (l_mark rfl (by kernel_rfl) UpC.upd rfl ?_)
 refine XL.frz (B := [(b12, .cells (([.int .u8 115] : List Value).toArray) 5 ([Value.int .u8 115].length, [Value.int .u8 115].length + 1))]) PickC.perm ?_
 refine XL.lo rfl (l_call0 (aS rfl (aS rfl a0)) (by kernel_rfl) (pnew_spec true _ [115] _ ⟨Rd.whole (n := 1) (At.mem) (by rfl), by decide, by decide⟩) rfl ?_)
 rintro v14 MP J14 ⟨pb, rfl, hP⟩
 change Prm pb (aw0 true) MP at hP
 have f1 := freshS_l8 (aw0 true)
 have e1 : (aw0 true).ts.length = 0 := rfl
 have e2 : (aw0 true).n = 0 := rfl
 obtain ⟨ka, kb, t2, l2, n2, -⟩ := aw_facts true
 have hal := aw_len true
 have hane := aw_ne true
 refine mv_ ?_
 refine XL.q (q_x0 rfl) rfl ?_
 refine XL.q (q_x1 rfl) rfl ?_
 refine as_ (as_ ?_)
 refine XL.fin (kq 1 (kq 2 (kq 3 kn))) ?_
 refine XC.seq ?_
 refine XC.reg ?_
 refine mv_ ?_
 refine XL.q (q_cmp false rfl rfl (neF rfl)) rfl ?_
 refine XL.fin (kq 1 (kq 2 (kq 18 kn))) ?_
 refine XC.condF rfl ?_
 refine XC.skip ?_
 refine nx (kq 1 (kq 2 kn)) ?_
 refine XC.reg ?_
 refine mv_ ?_
 refine XL.lo rfl (l_call (Mc := MP) (R := _) (aS rfl a0) (by kernel_rfl) PickC.perm (fresh_spec pb (aw0 true) MP _ hP (by omega) (by omega) hG.up) rfl ?_)
 rintro v20 M20 J20 ⟨hP20, h20⟩
 haveI := h20.cel
 refine as_ ?_
 refine XL.fin (kq 1 (kq 2 (kq 4 kn))) ?_
 refine XC.reg ?_
 refine mv_ ?_
 refine XL.lo rfl (l_call (Mc := M20) (R := _) (aS rfl a0) (by kernel_rfl) PickC.perm (fresh_spec pb (freshS (aw0 true)) M20 _ hP20 (by omega) (by omega) hG.up) rfl ?_)
 rintro v22 M22 J22 ⟨hP22, h22⟩
 haveI := h22.cel
 change Prm pb (aw2 true) M22 at hP22
 generalize freshK (aw0 true) = wa at *
 generalize freshK (freshS (aw0 true)) = wb at *
 generalize aw2 true = s2 at *
 have ag := agree_two ka kb t2 (by omega) h20.lt h22.lt
 have z1 := pubS2_len' s2 wb
 have z2 := agrS2_len (pubS2 s2 wb) wa (pubK2 s2 wb)
 have z3 := pubS2_len' (agrS2 (pubS2 s2 wb) wa (pubK2 s2 wb)) wa
 have y1 := pubS2_n' s2 wb
 have y2 := agrS2_n (pubS2 s2 wb) wa (pubK2 s2 wb)
 have y3 := pubS2_n' (agrS2 (pubS2 s2 wb) wa (pubK2 s2 wb)) wa
 refine as_ ?_
 refine XL.fin (kq 1 (kq 2 (kq 4 (kq 5 kn)))) ?_
 refine XC.drawK (M22) (_) true [0, 1, 2, 3, 4, 5, 6, 7, 8, 9, 10, 11, 12, 13, 14, 15, 16, 17, 18, 19, 20, 21, 22, 23, 24, 25, 26, 27, 28, 29, 30, 31] [(0, 0), (1, 0), (2, 0), (3, 0), (4, 0), (5, 1), (6, 0), (7, 1), (8, 0), (9, 0), (10, 0), (11, 0), (12, 0), (13, 0), (14, 0), (18, 0), (19, 0), (20, 0), (21, 0), (15, 2), (16, 2), (17, 3), (22, 3), (23, 3), (24, 4), (25, 0), (26, 0), (27, 0), (28, 0), (29, 2), (30, 0), (31, 0)] (by kernel_rfl) (by kernel_rfl) PickC.perm fun hs K n0 hKm hKs hKn => ?_
 refine XK.q hs rfl qm_ rfl ?_
 refine XK.q hs rfl (q_lenV2 (sz := 1) rfl (by kernel_rfl) h20.rd) rfl ?_
 refine XK.q hs rfl (q_cmp false rfl rfl (neF (by rw [hal]; rfl))) rfl ?_
 refine XK.q hs rfl qm_ rfl ?_
 refine XK.qg hs rfl rfl rfl rfl qm_ rfl ?_
 refine XK.rg hs rfl rfl rfl rfl (by first | exact fun x hx => by rw [List.append_assoc]; exact List.mem_append_right _ hx | exact SubC.sub) hKs (q_toStr2 rfl (by kernel_rfl) (h20.rd.mono SubC.sub)) rfl ?_
 refine XK.qg hs rfl rfl rfl rfl qm_ rfl ?_
 refine XK.rg hs rfl rfl rfl rfl (by first | exact fun x hx => by rw [List.append_assoc]; exact List.mem_append_right _ hx | exact SubC.sub) hKs (q_toStr2 rfl (by kernel_rfl) (h22.rd.mono SubC.sub)) rfl ?_
 refine XK.qg hs rfl rfl rfl rfl ((show (decide (wa = wb)) = false from decide_eq_false hane) ▸ q_sEq rfl rfl rfl rfl h20.lt h22.lt) rfl ?_
 refine XK.q hs rfl (q_pickF rfl rfl) rfl ?_
 refine XK.q hs rfl qm_ rfl ?_
 refine XK.qg hs rfl rfl rfl rfl qm_ rfl ?_
 refine XK.qg hs rfl rfl rfl rfl qm_ rfl ?_
 refine XK.qg hs rfl rfl rfl rfl qm_ rfl ?_
 refine XK.qg hs rfl rfl rfl rfl qm_ rfl ?_
 refine XK.qg hs rfl rfl rfl rfl qm_ rfl ?_
 refine XK.qg hs rfl rfl rfl rfl qm_ rfl ?_
 refine XK.qg hs rfl rfl rfl rfl qm_ rfl ?_
 refine XK.qg hs rfl rfl rfl rfl qm_ rfl ?_
 refine XK.lg _ _ rfl rfl rfl rfl (List.Perm.refl _) hKm fun w0 => (l_call (Mc := M22) (R := _) (aS rfl (aS rfl (a0))) (by kernel_rfl) PickC.perm (public_b pb s2 v22 wb M22 _ hP22 (by omega) (h22.mono SubC.sub) hG.up) rfl ?_)
 rintro v38 M38 J38 ⟨hP38, h38⟩ hKx38
 haveI := h38.cel
 refine XK.lg M38 _ rfl rfl rfl rfl PickC.perm (fun x hx => hKx38 (hKn rfl) x (by simpa using hx)) fun w0 => (l_call (Mc := M38) (R := _) (aS rfl (aS rfl (aS rfl (a0)))) (by kernel_rfl) PickC.perm (agree_b pb (pubS2 s2 wb) v20 v38 wa (pubK2 s2 wb) M38 _ hP38 (by omega) (h20.mono SubC.sub) (h38.mono SubC.sub) hG.up) rfl ?_)
 rintro v39 M39 J39 ⟨hP39, h39⟩ hKx39
 haveI := h39.cel
 obtain ⟨s4, hs4⟩ : ∃ z, agrS2 (pubS2 s2 wb) wa (pubK2 s2 wb) = z := ⟨_, rfl⟩
 obtain ⟨x, hx⟩ : ∃ z, agrK2 (pubS2 s2 wb) wa (pubK2 s2 wb) = z := ⟨_, rfl⟩
 rw [hs4] at hP39 z2 z3 y2 y3 ag
 rw [hx] at h39 ag
 have y4 := agrS2_n (pubS2 s4 wa) wb (pubK2 s4 wa)
 dsimp only [List.nil_append, List.append_eq, List.append_nil]
 refine XK.groupC [⟨17, 40, none, [], fun v B _ => B = [] ∧ v = (.string (txt x))⟩, ⟨22, 45, none, M39, fun v B R => Prm pb (pubS2 s4 wa) B ∧ By R v (pubK2 s4 wa)⟩, ⟨23, 46, some 22, [], fun v B R => Prm pb (agrS2 (pubS2 s4 wa) wb (pubK2 s4 wa)) B ∧ By R v x⟩, ⟨24, 47, none, [], fun v B _ => B = [] ∧ v = (.string (txt x))⟩] ([]) (fun bs => [bs 17, bs 23, bs 24]) (hKn rfl) (by simp [joinC, rootC]) (show ∀ m ∈ ([[], M39, []] : List Mem), ∀ x ∈ m, K x.1 from allS (fun _ h => by cases h) (allS (fun y hy => hKx39 (hKn rfl) y (by simpa using hy)) (allS (fun _ h => by cases h) (all0)))) (by kernel_rfl) (fun _ => by first | rfl | kernel_rfl)
  (allS (fun _ _ _ _ _ h => h) (allS (fun _ _ _ _ h hp => ⟨hp.1, hp.2.mono h⟩) (allS (fun _ _ _ _ h hp => ⟨hp.1, hp.2.mono h⟩) (allS (fun _ _ _ _ _ h => h) (all0))))) (show List.Nodup [40, 45, 46, 47] by decide) (show List.Nodup [17, 22, 23, 24] by decide) (allS (blt_lt rfl) (allS (blt_lt rfl) (allS (blt_lt rfl) (allS (blt_lt rfl) (all0)))))
  (allS ⟨_, rfl, fun vs bs R Rj wG hb hj hjr ha => ⟨.inr ⟨_, _, _, _, rfl, rfl, rfl, rfl⟩, ?_⟩⟩ (allS ⟨_, rfl, fun vs bs R Rj wG hb hj hjr ha => ⟨.inr ⟨_, _, _, _, rfl, rfl, rfl, rfl⟩, ?_⟩⟩ (allS ⟨_, rfl, fun vs bs R Rj wG hb hj hjr ha => ⟨.inr ⟨_, _, _, _, rfl, rfl, rfl, rfl⟩, ?_⟩⟩ (allS ⟨_, rfl, fun vs bs R Rj wG hb hj hjr ha => ⟨.inr ⟨_, _, _, _, rfl, rfl, rfl, rfl⟩, ?_⟩⟩ (all0))))) ?_
 ·
  dsimp only [Gc.inp]
  exact OpQ.opL (q_toStr2 rfl (by kernel_rfl) (h39.rd.mono (fun x hx => by have := hb x (by simp [hx]); simp [this]))) rfl ⟨_, rfl, rfl, rfl⟩
 ·
  dsimp only [Gc.inp]
  refine l_call (Mc := M39) (R := []) (aS rfl (aS rfl a0)) (by kernel_rfl) (by simp) (public_b pb s4 v20 wa M39 _ hP39 (by omega) (h20.mono (fun x hx => by have := hb x (by simp [hx]); simp [this])) (hG.sub (fun x hx => by have := hb x (by simp [hx]); simp [this]))) rfl ?_
  rintro v25 M25 J25 ⟨hP25, h25⟩
  exact ⟨_, rfl, by simpa using hP25, h25.mono fun x hx => by simp [hx]⟩
 ·
  dsimp only [Gc.inp]
  have g22 := ha _ (List.mem_of_getElem? (i := 1) rfl) (by kernel_rfl)
  replace g22 : (fun v B R => Prm pb (pubS2 s4 wa) B ∧ By R v (pubK2 s4 wa)) (vs 22) (bs 22) Rj := g22
  dsimp only at g22
  obtain ⟨hP45, h45⟩ := g22
  refine l_call (Mc := bs 22) (R := []) (aS rfl (aS rfl (aS rfl a0))) (by kernel_rfl) (by simp) (agree_b pb (pubS2 s4 wa) v22 (vs 22) wb (pubK2 s4 wa) (bs 22) _ hP45 (by omega) (h22.mono (fun x hx => by have := hb x (by simp [hx]); simp [this])) (h45.mono (fun x hx => by have := hjr x hx; simp [this])) (hG.sub (fun x hx => by have := hb x (by simp [hx]); simp [this]))) rfl ?_
  rintro v25 M25 J25 ⟨hP25, h25⟩
  rw [ag] at h25
  exact ⟨_, rfl, by simpa using hP25, h25.mono fun x hx => by simp [hx]⟩
 ·
  dsimp only [Gc.inp]
  have g22 := ha _ (List.mem_of_getElem? (i := 1) rfl) (by kernel_rfl)
  replace g22 : (fun v B R => Prm pb (pubS2 s4 wa) B ∧ By R v (pubK2 s4 wa)) (vs 22) (bs 22) Rj := g22
  dsimp only at g22
  have g23 := ha _ (List.mem_of_getElem? (i := 2) rfl) (by kernel_rfl)
  replace g23 : (fun v B R => Prm pb (agrS2 (pubS2 s4 wa) wb (pubK2 s4 wa)) B ∧ By R v x) (vs 23) (bs 23) Rj := g23
  dsimp only at g23
  obtain ⟨-, h46⟩ := g23
  exact OpQ.opL (q_toStr2 rfl (by kernel_rfl) (h46.rd.mono (fun x hx => by have := hjr x hx; simp [this]))) rfl ⟨_, rfl, rfl, rfl⟩
 intro vs bs Jn0 hφ hKK
 have kk17 := hKK _ (List.mem_of_getElem? (i := 0) rfl)
 dsimp only at kk17
 have kk22 := hKK _ (List.mem_of_getElem? (i := 1) rfl)
 dsimp only at kk22
 have kk23 := hKK _ (List.mem_of_getElem? (i := 2) rfl)
 dsimp only at kk23
 have kk24 := hKK _ (List.mem_of_getElem? (i := 3) rfl)
 dsimp only at kk24
 clear hKK
 have g17 := ofH hφ
 dsimp only at g17
 replace hφ := ofT hφ
 have g22 := ofH hφ
 dsimp only at g22
 replace hφ := ofT hφ
 have g23 := ofH hφ
 dsimp only at g23
 replace hφ := ofT hφ
 have g24 := ofH hφ
 dsimp only at g24
 clear hφ
 dsimp only [gEnvC, joinC, List.foldr, List.map, List.cons_append, List.nil_append]
 generalize bs 17 = B40 at *
 generalize bs 22 = B45 at *
 generalize bs 23 = B46 at *
 generalize bs 24 = B47 at *
 generalize vs 17 = u40 at *
 generalize vs 22 = u45 at *
 generalize vs 23 = u46 at *
 generalize vs 24 = u47 at *
 obtain ⟨rfl, rfl⟩ := g17
 clear g22
 obtain ⟨hP46, h46⟩ := g23
 obtain ⟨rfl, rfl⟩ := g24
 refine XK.qg hs rfl rfl rfl rfl ((show (!decide (x = x)) = false by simp) ▸ q_sNe rfl rfl rfl rfl h39.lt h39.lt) rfl ?_
 refine XK.q hs rfl (q_pickF rfl rfl) rfl ?_
 refine XK.q hs rfl qm_ rfl ?_
 refine XK.qg hs rfl rfl rfl rfl qm_ rfl ?_
 refine XK.lg [] _ rfl rfl rfl rfl (List.Perm.refl _) (fun _ h => by cases h) fun w0 => (l_callV (aS rfl a0) (by kernel_rfl) (made_f pb _ B46 _ hP46 (by intro z hz; simp [hz])) rfl fun _ => ?_)
 dsimp only [List.nil_append, List.append_eq]
 refine XK.qg hs rfl rfl rfl rfl (q_cmp false rfl rfl (neF (by omega))) rfl ?_
 refine XK.q hs rfl (q_pickF rfl rfl) rfl ?_
 refine XK.fin (kq 1 (kq 54 kn)) ?_
 refine XC.condF rfl ?_
 refine XC.skip ?_
 refine nb ?_
 refine nx (kq 1 kn) ?_
 refine XC.reg1 ?_
 refine mv_ ?_
 refine XL.q (q_addM 256 (a := 0) (b := 1) rfl rfl rfl rfl rfl rfl) rfl ?_
 refine as_ ?_
 refine XL.nil ?_
 refine un (kq 1 kn) ?_
 refine XR.step ?_
 refine XC.seq ?_
 refine XC.reg ?_
 refine mv_ ?_
 refine XL.q (q_cmp true rfl rfl (leT (by decide))) rfl ?_
 refine XL.fin (kq 1 (kq 7 kn)) ?_
 refine XC.condT rfl ?_
 refine XC.skip ?_
 refine nx (kq 1 kn) ?_
 refine XC.seq ?_
 refine XC.block ?_
 refine XC.fit (M' := []) (J' := []) (Fit.sub (List.nil_sublist _)) (fun _ h => by cases h) ?_
 refine XC.reg ?_
 refine mv_ ?_
 refine XL.lo rfl (l_buildSlice (e := 5) (sz := 1) (z := [.int .u8 0]) (by kernel_rfl) (eS rfl e0) (bdS 0 1 rfl (by rfl) bd0) rfl fun b12 => ?_)
 refine XL.lo rfl (l_mark rfl (by kernel_rfl) UpC.upd rfl ?_)
 refine XL.frz (B := [(b12, .cells (([.int .u8 115] : List Value).toArray) 5 ([Value.int .u8 115].length, [Value.int .u8 115].length + 1))]) PickC.perm ?_
 refine XL.lo rfl (l_call0 (aS rfl (aS rfl a0)) (by kernel_rfl) (pnew_spec false _ [115] _ ⟨Rd.whole (n := 1) (At.mem) (by rfl), by decide, by decide⟩) rfl ?_)
 rintro v14 MP J14 ⟨pb, rfl, hP⟩
 change Prm pb (aw0 false) MP at hP
 have f1 := freshS_l8 (aw0 false)
 have e1 : (aw0 false).ts.length = 0 := rfl
 have e2 : (aw0 false).n = 0 := rfl
 obtain ⟨ka, kb, t2, l2, n2, -⟩ := aw_facts false
 have hal := aw_len false
 have hane := aw_ne false
 refine mv_ ?_
 refine XL.q (q_x0 rfl) rfl ?_
 refine XL.q (q_x1 rfl) rfl ?_
 refine as_ (as_ ?_)
 refine XL.fin (kq 1 (kq 2 (kq 3 kn))) ?_
 refine XC.seq ?_
 refine XC.reg ?_
 refine mv_ ?_
 refine XL.q (q_cmp false rfl rfl (neF rfl)) rfl ?_
 refine XL.fin (kq 1 (kq 2 (kq 18 kn))) ?_
 refine XC.condF rfl ?_
 refine XC.skip ?_
 refine nx (kq 1 (kq 2 kn)) ?_
 refine XC.reg ?_
 refine mv_ ?_
 refine XL.lo rfl (l_call (Mc := MP) (R := _) (aS rfl a0) (by kernel_rfl) PickC.perm (fresh_spec pb (aw0 false) MP _ hP (by omega) (by omega) hG.up) rfl ?_)
 rintro v20 M20 J20 ⟨hP20, h20⟩
 haveI := h20.cel
 refine as_ ?_
 refine XL.fin (kq 1 (kq 2 (kq 4 kn))) ?_
 refine XC.reg ?_
 refine mv_ ?_
 refine XL.lo rfl (l_call (Mc := M20) (R := _) (aS rfl a0) (by kernel_rfl) PickC.perm (fresh_spec pb (freshS (aw0 false)) M20 _ hP20 (by omega) (by omega) hG.up) rfl ?_)
 rintro v22 M22 J22 ⟨hP22, h22⟩
 haveI := h22.cel
 change Prm pb (aw2 false) M22 at hP22
 generalize freshK (aw0 false) = wa at *
 generalize freshK (freshS (aw0 false)) = wb at *
 generalize aw2 false = s2 at *
 have ag := agree_two ka kb t2 (by omega) h20.lt h22.lt
 have z1 := pubS2_len' s2 wb
 have z2 := agrS2_len (pubS2 s2 wb) wa (pubK2 s2 wb)
 have z3 := pubS2_len' (agrS2 (pubS2 s2 wb) wa (pubK2 s2 wb)) wa
 have y1 := pubS2_n' s2 wb
 have y2 := agrS2_n (pubS2 s2 wb) wa (pubK2 s2 wb)
 have y3 := pubS2_n' (agrS2 (pubS2 s2 wb) wa (pubK2 s2 wb)) wa
 refine as_ ?_
 refine XL.fin (kq 1 (kq 2 (kq 4 (kq 5 kn)))) ?_
 refine XC.drawK (M22) (_) true [0, 1, 2, 3, 4, 5, 6, 7, 8, 9, 10, 11, 12, 13, 14, 15, 16, 17, 18, 19, 20, 21, 22, 23, 24, 25, 26, 27, 28, 29, 30, 31] [(0, 0), (1, 0), (2, 0), (3, 0), (4, 0), (5, 1), (6, 0), (7, 1), (8, 0), (9, 0), (10, 0), (11, 0), (12, 0), (13, 0), (14, 0), (18, 0), (19, 0), (20, 0), (21, 0), (15, 2), (16, 2), (17, 3), (22, 3), (23, 3), (24, 4), (25, 0), (26, 0), (27, 0), (28, 0), (29, 2), (30, 0), (31, 0)] (by kernel_rfl) (by kernel_rfl) PickC.perm fun hs K n0 hKm hKs hKn => ?_
 refine XK.q hs rfl qm_ rfl ?_
 refine XK.q hs rfl (q_lenV2 (sz := 1) rfl (by kernel_rfl) h20.rd) rfl ?_
 refine XK.q hs rfl (q_cmp false rfl rfl (neF (by rw [hal]; rfl))) rfl ?_
 refine XK.q hs rfl qm_ rfl ?_
 refine XK.qg hs rfl rfl rfl rfl qm_ rfl ?_
 refine XK.rg hs rfl rfl rfl rfl (by first | exact fun x hx => by rw [List.append_assoc]; exact List.mem_append_right _ hx | exact SubC.sub) hKs (q_toStr2 rfl (by kernel_rfl) (h20.rd.mono SubC.sub)) rfl ?_
 refine XK.qg hs rfl rfl rfl rfl qm_ rfl ?_
 refine XK.rg hs rfl rfl rfl rfl (by first | exact fun x hx => by rw [List.append_assoc]; exact List.mem_append_right _ hx | exact SubC.sub) hKs (q_toStr2 rfl (by kernel_rfl) (h22.rd.mono SubC.sub)) rfl ?_
 refine XK.qg hs rfl rfl rfl rfl ((show (decide (wa = wb)) = false from decide_eq_false hane) ▸ q_sEq rfl rfl rfl rfl h20.lt h22.lt) rfl ?_
 refine XK.q hs rfl (q_pickF rfl rfl) rfl ?_
 refine XK.q hs rfl qm_ rfl ?_
 refine XK.qg hs rfl rfl rfl rfl qm_ rfl ?_
 refine XK.qg hs rfl rfl rfl rfl qm_ rfl ?_
 refine XK.qg hs rfl rfl rfl rfl qm_ rfl ?_
 refine XK.qg hs rfl rfl rfl rfl qm_ rfl ?_
 refine XK.qg hs rfl rfl rfl rfl qm_ rfl ?_
 refine XK.qg hs rfl rfl rfl rfl qm_ rfl ?_
 refine XK.qg hs rfl rfl rfl rfl qm_ rfl ?_
 refine XK.qg hs rfl rfl rfl rfl qm_ rfl ?_
 refine XK.lg _ _ rfl rfl rfl rfl (List.Perm.refl _) hKm fun w0 => (l_call (Mc := M22) (R := _) (aS rfl (aS rfl (a0))) (by kernel_rfl) PickC.perm (public_b pb s2 v22 wb M22 _ hP22 (by omega) (h22.mono SubC.sub) hG.up) rfl ?_)
 rintro v38 M38 J38 ⟨hP38, h38⟩ hKx38
 haveI := h38.cel
 refine XK.lg M38 _ rfl rfl rfl rfl PickC.perm (fun x hx => hKx38 (hKn rfl) x (by simpa using hx)) fun w0 => (l_call (Mc := M38) (R := _) (aS rfl (aS rfl (aS rfl (a0)))) (by kernel_rfl) PickC.perm (agree_b pb (pubS2 s2 wb) v20 v38 wa (pubK2 s2 wb) M38 _ hP38 (by omega) (h20.mono SubC.sub) (h38.mono SubC.sub) hG.up) rfl ?_)
 rintro v39 M39 J39 ⟨hP39, h39⟩ hKx39
 haveI := h39.cel
 obtain ⟨s4, hs4⟩ : ∃ z, agrS2 (pubS2 s2 wb) wa (pubK2 s2 wb) = z := ⟨_, rfl⟩
 obtain ⟨x, hx⟩ : ∃ z, agrK2 (pubS2 s2 wb) wa (pubK2 s2 wb) = z := ⟨_, rfl⟩
 rw [hs4] at hP39 z2 z3 y2 y3 ag
 rw [hx] at h39 ag
 have y4 := agrS2_n (pubS2 s4 wa) wb (pubK2 s4 wa)
 dsimp only [List.nil_append, List.append_eq, List.append_nil]
 refine XK.groupC [⟨17, 40, none, [], fun v B _ => B = [] ∧ v = (.string (txt x))⟩, ⟨22, 45, none, M39, fun v B R => Prm pb (pubS2 s4 wa) B ∧ By R v (pubK2 s4 wa)⟩, ⟨23, 46, some 22, [], fun v B R => Prm pb (agrS2 (pubS2 s4 wa) wb (pubK2 s4 wa)) B ∧ By R v x⟩, ⟨24, 47, none, [], fun v B _ => B = [] ∧ v = (.string (txt x))⟩] ([]) (fun bs => [bs 17, bs 23, bs 24]) (hKn rfl) (by simp [joinC, rootC]) (show ∀ m ∈ ([[], M39, []] : List Mem), ∀ x ∈ m, K x.1 from allS (fun _ h => by cases h) (allS (fun y hy => hKx39 (hKn rfl) y (by simpa using hy)) (allS (fun _ h => by cases h) (all0)))) (by kernel_rfl) (fun _ => by first | rfl | kernel_rfl)
  (allS (fun _ _ _ _ _ h => h) (allS (fun _ _ _ _ h hp => ⟨hp.1, hp.2.mono h⟩) (allS (fun _ _ _ _ h hp => ⟨hp.1, hp.2.mono h⟩) (allS (fun _ _ _ _ _ h => h) (all0))))) (show List.Nodup [40, 45, 46, 47] by decide) (show List.Nodup [17, 22, 23, 24] by decide) (allS (blt_lt rfl) (allS (blt_lt rfl) (allS (blt_lt rfl) (allS (blt_lt rfl) (all0)))))
  (allS ⟨_, rfl, fun vs bs R Rj wG hb hj hjr ha => ⟨.inr ⟨_, _, _, _, rfl, rfl, rfl, rfl⟩, ?_⟩⟩ (allS ⟨_, rfl, fun vs bs R Rj wG hb hj hjr ha => ⟨.inr ⟨_, _, _, _, rfl, rfl, rfl, rfl⟩, ?_⟩⟩ (allS ⟨_, rfl, fun vs bs R Rj wG hb hj hjr ha => ⟨.inr ⟨_, _, _, _, rfl, rfl, rfl, rfl⟩, ?_⟩⟩ (allS ⟨_, rfl, fun vs bs R Rj wG hb hj hjr ha => ⟨.inr ⟨_, _, _, _, rfl, rfl, rfl, rfl⟩, ?_⟩⟩ (all0))))) ?_
 ·
  dsimp only [Gc.inp]
  exact OpQ.opL (q_toStr2 rfl (by kernel_rfl) (h39.rd.mono (fun x hx => by have := hb x (by simp [hx]); simp [this]))) rfl ⟨_, rfl, rfl, rfl⟩
 ·
  dsimp only [Gc.inp]
  refine l_call (Mc := M39) (R := []) (aS rfl (aS rfl a0)) (by kernel_rfl) (by simp) (public_b pb s4 v20 wa M39 _ hP39 (by omega) (h20.mono (fun x hx => by have := hb x (by simp [hx]); simp [this])) (hG.sub (fun x hx => by have := hb x (by simp [hx]); simp [this]))) rfl ?_
  rintro v25 M25 J25 ⟨hP25, h25⟩
  exact ⟨_, rfl, by simpa using hP25, h25.mono fun x hx => by simp [hx]⟩
 ·
  dsimp only [Gc.inp]
  have g22 := ha _ (List.mem_of_getElem? (i := 1) rfl) (by kernel_rfl)
  replace g22 : (fun v B R => Prm pb (pubS2 s4 wa) B ∧ By R v (pubK2 s4 wa)) (vs 22) (bs 22) Rj := g22
  dsimp only at g22
  obtain ⟨hP45, h45⟩ := g22
  refine l_call (Mc := bs 22) (R := []) (aS rfl (aS rfl (aS rfl a0))) (by kernel_rfl) (by simp) (agree_b pb (pubS2 s4 wa) v22 (vs 22) wb (pubK2 s4 wa) (bs 22) _ hP45 (by omega) (h22.mono (fun x hx => by have := hb x (by simp [hx]); simp [this])) (h45.mono (fun x hx => by have := hjr x hx; simp [this])) (hG.sub (fun x hx => by have := hb x (by simp [hx]); simp [this]))) rfl ?_
  rintro v25 M25 J25 ⟨hP25, h25⟩
  rw [ag] at h25
  exact ⟨_, rfl, by simpa using hP25, h25.mono fun x hx => by simp [hx]⟩
 ·
  dsimp only [Gc.inp]
  have g22 := ha _ (List.mem_of_getElem? (i := 1) rfl) (by kernel_rfl)
  replace g22 : (fun v B R => Prm pb (pubS2 s4 wa) B ∧ By R v (pubK2 s4 wa)) (vs 22) (bs 22) Rj := g22
  dsimp only at g22
  have g23 := ha _ (List.mem_of_getElem? (i := 2) rfl) (by kernel_rfl)
  replace g23 : (fun v B R => Prm pb (agrS2 (pubS2 s4 wa) wb (pubK2 s4 wa)) B ∧ By R v x) (vs 23) (bs 23) Rj := g23
  dsimp only at g23
  obtain ⟨-, h46⟩ := g23
  exact OpQ.opL (q_toStr2 rfl (by kernel_rfl) (h46.rd.mono (fun x hx => by have := hjr x hx; simp [this]))) rfl ⟨_, rfl, rfl, rfl⟩
 intro vs bs Jn0 hφ hKK
 have kk17 := hKK _ (List.mem_of_getElem? (i := 0) rfl)
 dsimp only at kk17
 have kk22 := hKK _ (List.mem_of_getElem? (i := 1) rfl)
 dsimp only at kk22
 have kk23 := hKK _ (List.mem_of_getElem? (i := 2) rfl)
 dsimp only at kk23
 have kk24 := hKK _ (List.mem_of_getElem? (i := 3) rfl)
 dsimp only at kk24
 clear hKK
 have g17 := ofH hφ
 dsimp only at g17
 replace hφ := ofT hφ
 have g22 := ofH hφ
 dsimp only at g22
 replace hφ := ofT hφ
 have g23 := ofH hφ
 dsimp only at g23
 replace hφ := ofT hφ
 have g24 := ofH hφ
 dsimp only at g24
 clear hφ
 dsimp only [gEnvC, joinC, List.foldr, List.map, List.cons_append, List.nil_append]
 generalize bs 17 = B40 at *
 generalize bs 22 = B45 at *
 generalize bs 23 = B46 at *
 generalize bs 24 = B47 at *
 generalize vs 17 = u40 at *
 generalize vs 22 = u45 at *
 generalize vs 23 = u46 at *
 generalize vs 24 = u47 at *
 obtain ⟨rfl, rfl⟩ := g17
 clear g22
 obtain ⟨hP46, h46⟩ := g23
 obtain ⟨rfl, rfl⟩ := g24
 refine XK.qg hs rfl rfl rfl rfl ((show (!decide (x = x)) = false by simp) ▸ q_sNe rfl rfl rfl rfl h39.lt h39.lt) rfl ?_
 refine XK.q hs rfl (q_pickF rfl rfl) rfl ?_
 refine XK.q hs rfl qm_ rfl ?_
 refine XK.qg hs rfl rfl rfl rfl qm_ rfl ?_
 refine XK.lg [] _ rfl rfl rfl rfl (List.Perm.refl _) (fun _ h => by cases h) fun w0 => (l_callV (aS rfl a0) (by kernel_rfl) (made_f pb _ B46 _ hP46 (by intro z hz; simp [hz])) rfl fun _ => ?_)
 dsimp only [List.nil_append, List.append_eq]
 refine XK.qg hs rfl rfl rfl rfl (q_cmp false rfl rfl (neF (by omega))) rfl ?_
 refine XK.q hs rfl (q_pickF rfl rfl) rfl ?_
 refine XK.fin (kq 1 (kq 54 kn)) ?_
 refine XC.condF rfl ?_
 refine XC.skip ?_
 refine nb ?_
 refine nx (kq 1 kn) ?_
 refine XC.reg1 ?_
 refine mv_ ?_
 refine XL.q (q_addM 256 (a := 1) (b := 1) rfl rfl rfl rfl rfl rfl) rfl ?_
 refine as_ ?_
 refine XL.nil ?_
 refine un (kq 1 kn) ?_
 refine XR.step ?_
 refine XC.seq ?_
 refine XC.reg ?_
 refine mv_ ?_
 refine XL.q (q_cmp false rfl rfl (leF (by decide))) rfl ?_
 refine XL.fin (kq 1 (kq 7 kn)) ?_
 refine XC.condF rfl ?_
 refine XC.exit ?_
 refine te ?_
 refine ue ?_
 refine be rfl ?_
 refine nx kn ?_
 refine XC.reg ?_
 refine as_ ?_
 refine XL.fin (kq 0 kn) ?_
 refine XC.ret ?_
 exact ⟨_, [], [], res1 rfl rfl, List.nil_sublist _, by simp, rfl, rfl, rfl⟩

end Go.Proofs.YtphcaiplgpmnnaaGreatDoor
/- A nil Prim; the walk of PrimNil. -/
namespace Go.Proofs.YtphcaiplgpmnnaaGreatDoor
open Go.Px

theorem popen_n (v : Value) (n : Nat) (xs : List Value) (R : Mem) (hv : Rd R 1 v n xs) (A : Mem) : FnV Tryz.prog 49 [.pointer none, v, v, v] A (.tuple #[.slice none 0 0, .bool false]) := by
 haveI := hv.cel
 refine FnX.enter (N := 96) Tryz.func49 rfl rfl rfl fun w_ => ?_
 refine XC.keep (kq 0 (kq 1 (kq 2 (kq 3 kn)))) ?_
 refine XC.reg ?_
 refine as_ (as_ ?_)
 refine XL.fin (kq 0 (kq 1 (kq 2 (kq 3 kn)))) ?_
 refine XC.seq ?_
 refine XC.reg ?_
 refine mv_ ?_
 refine XL.q (q_ptrEqNil (e := 124) rfl rfl (by kernel_rfl)) rfl ?_
 refine XL.fin (kq 0 (kq 1 (kq 2 (kq 3 (kq 17 kn))))) ?_
 refine XC.condT rfl ?_
 refine XC.reg ?_
 refine as_ (as_ ?_)
 refine XL.fin (kq 8 (kq 9 kn)) ?_
 refine XC.ret ?_
 refine tr ?_
 exact ⟨_, [], [], res2 rfl rfl rfl, List.nil_sublist _, by simp, rfl, rfl, rfl⟩

theorem pmode_n (A : Mem) : FnV Tryz.prog 50 [.pointer none] A (.int .u8 0) := by
 refine FnX.enter (N := 9) Tryz.func50 rfl rfl rfl fun w_ => ?_
 refine XC.keep (kq 0 kn) ?_
 refine XC.reg ?_
 refine as_ ?_
 refine XL.fin (kq 0 kn) ?_
 refine XC.seq ?_
 refine XC.reg ?_
 refine mv_ ?_
 refine XL.q (q_ptrEqNil (e := 124) rfl rfl (by kernel_rfl)) rfl ?_
 refine XL.fin (kq 0 (kq 4 kn)) ?_
 refine XC.condT rfl ?_
 refine XC.reg ?_
 refine as_ ?_
 refine XL.fin (kq 2 kn) ?_
 refine XC.ret ?_
 refine tr ?_
 exact ⟨_, [], [], res1 rfl rfl, List.nil_sublist _, by simp, rfl, rfl, rfl⟩

theorem ptable_n (A : Mem) : FnV Tryz.prog 39 [.pointer none] A (.pointer none) := by
 refine FnX.enter (N := 16) Tryz.func39 rfl rfl rfl fun w_ => ?_
 refine XC.keep (kq 0 kn) ?_
 refine XC.reg ?_
 refine as_ ?_
 refine XL.fin (kq 0 kn) ?_
 refine XC.seq ?_
 refine XC.reg ?_
 refine mv_ ?_
 refine XL.q (q_ptrEqNil (e := 124) rfl rfl (by kernel_rfl)) rfl ?_
 refine mv_ ?_
 refine XL.gn rfl rfl rfl rfl ?_
 refine XL.gn rfl rfl rfl rfl ?_
 refine XL.gn rfl rfl rfl rfl ?_
 refine XL.gn rfl rfl rfl rfl ?_
 refine XL.gn rfl rfl rfl rfl ?_
 refine XL.q (q_pickT rfl rfl) rfl ?_
 refine XL.fin (kq 0 (kq 11 kn)) ?_
 refine XC.condT rfl ?_
 refine XC.reg ?_
 refine as_ ?_
 refine XL.fin (kq 2 kn) ?_
 refine XC.ret ?_
 refine tr ?_
 exact ⟨_, [], [], res1 rfl rfl, List.nil_sublist _, by simp, rfl, rfl, rfl⟩

theorem pmade_n (A : Mem) : FnV Tryz.prog 51 [.pointer none] A (.int .i64 0) := by
 refine FnX.enter (N := 9) Tryz.func51 rfl rfl rfl fun w_ => ?_
 refine XC.keep (kq 0 kn) ?_
 refine XC.reg ?_
 refine as_ ?_
 refine XL.fin (kq 0 kn) ?_
 refine XC.seq ?_
 refine XC.reg ?_
 refine mv_ ?_
 refine XL.q (q_ptrEqNil (e := 124) rfl rfl (by kernel_rfl)) rfl ?_
 refine XL.fin (kq 0 (kq 4 kn)) ?_
 refine XC.condT rfl ?_
 refine XC.reg ?_
 refine as_ ?_
 refine XL.fin (kq 2 kn) ?_
 refine XC.ret ?_
 refine tr ?_
 exact ⟨_, [], [], res1 rfl rfl, List.nil_sublist _, by simp, rfl, rfl, rfl⟩

theorem pfresh_n (A : Mem) : FnV Tryz.prog 40 [.pointer none] A (.slice none 0 0) := by
 refine FnX.enter (N := 55) Tryz.func40 rfl rfl rfl fun w_ => ?_
 refine XC.keep (kq 0 kn) ?_
 refine XC.reg ?_
 refine as_ ?_
 refine XL.fin (kq 0 kn) ?_
 refine XC.seq ?_
 refine XC.reg ?_
 refine mv_ ?_
 refine XL.q (q_ptrEqNil (e := 124) rfl rfl (by kernel_rfl)) rfl ?_
 refine XL.fin (kq 0 (kq 6 kn)) ?_
 refine XC.condT rfl ?_
 refine XC.reg ?_
 refine as_ ?_
 refine XL.fin (kq 2 kn) ?_
 refine XC.ret ?_
 refine tr ?_
 exact ⟨_, [], [], res1 rfl rfl, List.nil_sublist _, by simp, rfl, rfl, rfl⟩

theorem ppublic_n (v : Value) (n : Nat) (xs : List Value) (R : Mem) (hv : Rd R 1 v n xs) (A : Mem) : FnV Tryz.prog 34 [.pointer none, v] A (.slice none 0 0) := by
 haveI := hv.cel
 refine FnX.enter (N := 26) Tryz.func34 rfl rfl rfl fun w_ => ?_
 refine XC.keep (kq 0 (kq 1 kn)) ?_
 refine XC.reg ?_
 refine as_ ?_
 refine XL.fin (kq 0 (kq 1 kn)) ?_
 refine XC.seq ?_
 refine XC.reg ?_
 refine mv_ ?_
 refine XL.q (q_ptrEqNil (e := 124) rfl rfl (by kernel_rfl)) rfl ?_
 refine XL.fin (kq 0 (kq 1 (kq 6 kn))) ?_
 refine XC.condT rfl ?_
 refine XC.reg ?_
 refine as_ ?_
 refine XL.fin (kq 4 kn) ?_
 refine XC.ret ?_
 refine tr ?_
 exact ⟨_, [], [], res1 rfl rfl, List.nil_sublist _, by simp, rfl, rfl, rfl⟩

theorem psignkey_n (v : Value) (n : Nat) (xs : List Value) (R : Mem) (hv : Rd R 1 v n xs) (A : Mem) : FnV Tryz.prog 35 [.pointer none, v] A (.slice none 0 0) := by
 haveI := hv.cel
 refine FnX.enter (N := 18) Tryz.func35 rfl rfl rfl fun w_ => ?_
 refine XC.keep (kq 0 (kq 1 kn)) ?_
 refine XC.reg ?_
 refine as_ ?_
 refine XL.fin (kq 0 (kq 1 kn)) ?_
 refine XC.seq ?_
 refine XC.reg ?_
 refine mv_ ?_
 refine XL.q (q_ptrEqNil (e := 124) rfl rfl (by kernel_rfl)) rfl ?_
 refine XL.fin (kq 0 (kq 1 (kq 6 kn))) ?_
 refine XC.condT rfl ?_
 refine XC.reg ?_
 refine as_ ?_
 refine XL.fin (kq 4 kn) ?_
 refine XC.ret ?_
 refine tr ?_
 exact ⟨_, [], [], res1 rfl rfl, List.nil_sublist _, by simp, rfl, rfl, rfl⟩

theorem pagree_n (v : Value) (n : Nat) (xs : List Value) (R : Mem) (hv : Rd R 1 v n xs) (A : Mem) : FnV Tryz.prog 52 [.pointer none, v, v] A (.slice none 0 0) := by
 haveI := hv.cel
 refine FnX.enter (N := 31) Tryz.func52 rfl rfl rfl fun w_ => ?_
 refine XC.keep (kq 0 (kq 1 (kq 2 kn))) ?_
 refine XC.reg ?_
 refine as_ ?_
 refine XL.fin (kq 0 (kq 1 (kq 2 kn))) ?_
 refine XC.seq ?_
 refine XC.reg ?_
 refine mv_ ?_
 refine XL.q (q_ptrEqNil (e := 124) rfl rfl (by kernel_rfl)) rfl ?_
 refine XL.fin (kq 0 (kq 1 (kq 2 (kq 8 kn)))) ?_
 refine XC.condT rfl ?_
 refine XC.reg ?_
 refine as_ ?_
 refine XL.fin (kq 6 kn) ?_
 refine XC.ret ?_
 refine tr ?_
 exact ⟨_, [], [], res1 rfl rfl, List.nil_sublist _, by simp, rfl, rfl, rfl⟩

theorem pderive_n (v : Value) (n : Nat) (xs : List Value) (R : Mem) (hv : Rd R 1 v n xs) (A : Mem) : FnV Tryz.prog 43 [.pointer none, v, .slice none 0 0, .string (txt []), .int .i64 1] A (.slice none 0 0) := by
 haveI := hv.cel
 refine FnX.enter (N := 108) Tryz.func43 rfl rfl rfl fun w_ => ?_
 refine XC.keep (kq 0 (kq 1 (kq 2 (kq 3 (kq 4 kn))))) ?_
 refine XC.reg ?_
 refine as_ ?_
 refine XL.fin (kq 0 (kq 1 (kq 2 (kq 3 (kq 4 kn))))) ?_
 refine XC.reg ?_
 refine as_ ?_
 refine XL.fin (kq 0 (kq 1 (kq 2 (kq 3 (kq 4 (kq 11 kn)))))) ?_
 refine XC.seq ?_
 refine XC.reg ?_
 refine mv_ ?_
 refine XL.q (q_ptrEqNil (e := 124) rfl rfl (by kernel_rfl)) rfl ?_
 refine mv_ ?_
 refine XL.gn rfl rfl rfl rfl ?_
 refine XL.gn rfl rfl rfl rfl ?_
 refine XL.q (q_pickT rfl rfl) rfl ?_
 refine XL.fin (kq 0 (kq 1 (kq 2 (kq 3 (kq 4 (kq 11 (kq 26 kn))))))) ?_
 refine XC.condT rfl ?_
 refine XC.reg ?_
 refine mv_ (as_ ?_)
 refine XL.fin (kq 10 kn) ?_
 refine XC.ret ?_
 refine tr ?_
 exact ⟨_, [], [], res1 rfl rfl, List.nil_sublist _, by simp, rfl, rfl, rfl⟩

theorem pseal_n (v : Value) (n : Nat) (xs : List Value) (R : Mem) (hv : Rd R 1 v n xs) (A : Mem) : FnV Tryz.prog 45 [.pointer none, v, v, v] A (.slice none 0 0) := by
 haveI := hv.cel
 refine FnX.enter (N := 38) Tryz.func45 rfl rfl rfl fun w_ => ?_
 refine XC.keep (kq 0 (kq 1 (kq 2 (kq 3 kn)))) ?_
 refine XC.reg ?_
 refine as_ ?_
 refine XL.fin (kq 0 (kq 1 (kq 2 (kq 3 kn)))) ?_
 refine XC.seq ?_
 refine XC.reg ?_
 refine mv_ ?_
 refine XL.q (q_ptrEqNil (e := 124) rfl rfl (by kernel_rfl)) rfl ?_
 refine XL.fin (kq 0 (kq 1 (kq 2 (kq 3 (kq 10 kn))))) ?_
 refine XC.condT rfl ?_
 refine XC.reg ?_
 refine as_ ?_
 refine XL.fin (kq 8 kn) ?_
 refine XC.ret ?_
 refine tr ?_
 exact ⟨_, [], [], res1 rfl rfl, List.nil_sublist _, by simp, rfl, rfl, rfl⟩

theorem psign_n (v : Value) (n : Nat) (xs : List Value) (R : Mem) (hv : Rd R 1 v n xs) (A : Mem) : FnV Tryz.prog 46 [.pointer none, v, v] A (.slice none 0 0) := by
 haveI := hv.cel
 refine FnX.enter (N := 32) Tryz.func46 rfl rfl rfl fun w_ => ?_
 refine XC.keep (kq 0 (kq 1 (kq 2 kn))) ?_
 refine XC.reg ?_
 refine as_ ?_
 refine XL.fin (kq 0 (kq 1 (kq 2 kn))) ?_
 refine XC.seq ?_
 refine XC.reg ?_
 refine mv_ ?_
 refine XL.q (q_ptrEqNil (e := 124) rfl rfl (by kernel_rfl)) rfl ?_
 refine XL.fin (kq 0 (kq 1 (kq 2 (kq 8 kn)))) ?_
 refine XC.condT rfl ?_
 refine XC.reg ?_
 refine as_ ?_
 refine XL.fin (kq 6 kn) ?_
 refine XC.ret ?_
 refine tr ?_
 exact ⟨_, [], [], res1 rfl rfl, List.nil_sublist _, by simp, rfl, rfl, rfl⟩

theorem pname_n (u : Value) (n : Nat) (xs : List Value) (R : Mem) (hv : Rd R 1 u n xs) (A : Mem) : FnV Tryz.prog 47 [.pointer none, u] A (.slice none 0 0) := by
 haveI := hv.cel
 refine FnX.enter (N := 51) Tryz.func47 rfl rfl rfl fun w_ => ?_
 refine XC.keep (kq 0 (kq 1 kn)) ?_
 refine XC.reg ?_
 refine as_ ?_
 refine XL.fin (kq 0 (kq 1 kn)) ?_
 refine XC.seq ?_
 refine XC.reg ?_
 refine mv_ ?_
 refine XL.q (q_ptrEqNil (e := 124) rfl rfl (by kernel_rfl)) rfl ?_
 refine XL.fin (kq 0 (kq 1 (kq 12 kn))) ?_
 refine XC.condT rfl ?_
 refine XC.reg ?_
 refine as_ ?_
 refine XL.fin (kq 4 kn) ?_
 refine XC.ret ?_
 refine tr ?_
 exact ⟨_, [], [], res1 rfl rfl, List.nil_sublist _, by simp, rfl, rfl, rfl⟩

theorem pcheck_n (v : Value) (n : Nat) (xs : List Value) (R : Mem) (hv : Rd R 1 v n xs) (A : Mem) : FnV Tryz.prog 36 [.pointer none, v, v, v] A (.bool false) := by
 haveI := hv.cel
 refine FnX.enter (N := 106) Tryz.func36 rfl rfl rfl fun w_ => ?_
 refine XC.keep (kq 0 (kq 1 (kq 2 (kq 3 kn)))) ?_
 refine XC.reg ?_
 refine as_ ?_
 refine XL.fin (kq 0 (kq 1 (kq 2 (kq 3 kn)))) ?_
 refine XC.seq ?_
 refine XC.reg ?_
 refine mv_ ?_
 refine XL.q (q_ptrEqNil (e := 124) rfl rfl (by kernel_rfl)) rfl ?_
 refine mv_ ?_
 refine XL.gn rfl rfl rfl rfl ?_
 refine XL.gn rfl rfl rfl rfl ?_
 refine XL.gn rfl rfl rfl rfl ?_
 refine XL.q (q_pickT rfl rfl) rfl ?_
 refine XL.fin (kq 0 (kq 1 (kq 2 (kq 3 (kq 23 kn))))) ?_
 refine XC.condT rfl ?_
 refine XC.reg ?_
 refine as_ ?_
 refine XL.fin (kq 8 kn) ?_
 refine XC.ret ?_
 refine tr ?_
 exact ⟨_, [], [], res1 rfl rfl, List.nil_sublist _, by simp, rfl, rfl, rfl⟩

theorem pnew_bad (m : Nat) (v : Value) (n : Nat) (xs : List Value) (A : Mem) (hv : Rd A 1 v n xs) (h : 2 ≤ m) : FnV Tryz.prog 48 [.int .u8 ((m : Nat) : Int), v] A (.tuple #[.pointer none, .int .i64 1]) := by
 haveI := hv.cel
 refine FnX.enter (N := 18) Tryz.func48 rfl rfl rfl fun w => ?_
 refine XC.keep (kq 0 (kq 1 kn)) ?_
 refine XC.reg ?_
 refine as_ (as_ ?_)
 refine XL.fin (kq 0 (kq 1 kn)) ?_
 refine XC.seq ?_
 refine XC.reg ?_
 refine mv_ ?_
 refine XL.q (q_cmp true rfl rfl (neT (by omega))) rfl ?_
 refine mv_ ?_
 refine XL.gy rfl rfl (OpQ.opL qm_ rfl ?_)
 refine XL.gy rfl rfl (OpQ.opL (q_cmp true rfl rfl (neT (by omega))) rfl ?_)
 refine XL.q (q_pickT rfl rfl) rfl ?_
 refine XL.fin (kq 0 (kq 1 (kq 11 kn))) ?_
 refine XC.condT rfl ?_
 refine XC.reg ?_
 refine as_ (as_ ?_)
 refine XL.fin (kq 4 (kq 5 kn)) ?_
 refine XC.ret ?_
 refine tr ?_
 exact ⟨_, [], [], res2 rfl rfl rfl, List.nil_sublist _, by simp, rfl, rfl, rfl⟩

theorem pnew_u (m : Nat) (v : Value) (w : List Nat) (A : Mem) (hv : By A v w) : FnX Tryz.prog 48 [.int .u8 ((m : Nat) : Int), v] [] A fun q M J => ∃ op, q = .tuple #[.pointer op, .int .i64 (if m < 2 then 0 else 1)] := by
  rcases (by omega : m = 0 ∨ m = 1 ∨ 2 ≤ m) with rfl | rfl | h
  · exact (pnew_spec true v w A hv).mono fun q M J ⟨pb, h, _⟩ => ⟨_, h⟩
  · exact (pnew_spec false v w A hv).mono fun q M J ⟨pb, h, _⟩ => ⟨_, h⟩
  · exact (pnew_bad m v _ _ A hv.rd h).mono fun q M J ⟨h1, _, _⟩ => ⟨none, by rw [h1, if_neg (by omega)]⟩

theorem primNil_f (m : Nat) (v : Value) (ws : List Nat) (A : Mem) (hm : m < 256) (hr : Rd A 1 v ws.length (nums .u8 ws)) (hx : ∀ x ∈ ws, x < 256) (hG : Glb A) : FnV Tryz.prog 11 [.int .u8 ((m : Nat) : Int), v] A (.bool true) := by
 haveI := hr.cel
 refine FnX.enter (N := 110) Tryz.func11 rfl rfl rfl fun w_ => ?_
 refine XC.keep (kq 0 (kq 1 kn)) ?_
 refine XC.reg ?_
 refine as_ ?_
 refine XL.fin (kq 0 (kq 1 kn)) ?_
 refine XC.seq ?_
 refine XC.reg ?_
 refine XL.callV a0 (by kernel_rfl) (awake08_f _ hG.up) rfl ?_
 refine XL.q (q_not rfl) rfl ?_
 refine mv_ ?_
 refine XL.gy rfl rfl (OpQ.opL qm_ rfl ?_)
 refine XL.gy rfl rfl (OpQ.opL (q_lenV2 (sz := 1) rfl (by kernel_rfl) (by first | assumption | exact Sl.rd (by assumption) (fun _ h => h) | exact By.rd (by assumption))) rfl ?_)
 refine XL.gy rfl rfl (OpQ.opL (q_bin rfl rfl rfl) rfl ?_)
 refine XL.q (q_pickF rfl rfl) rfl ?_
 refine XL.fin (kq 0 (kq 1 (kq 16 kn))) ?_
 refine XC.cond rfl (fun hc => ?_) (fun hc => ?_)
 ·
  refine XC.reg ?_
  refine XL.callV a0 (by kernel_rfl) (awake08_f _ hG.up) rfl ?_
  refine as_ ?_
  refine XL.fin (kq 4 kn) ?_
  refine XC.ret ?_
  refine tr ?_
  exact ⟨_, [], [], res1 rfl rfl, List.nil_sublist _, by simp, rfl, rfl, rfl⟩
 ·
  have hlen : ws.length ≤ 100 := by simp at hc; omega
  have hv : By A v ws := ⟨hr, hx, by omega⟩
  refine XC.skip ?_
  refine nx (kq 0 (kq 1 kn)) ?_
  refine XC.reg ?_
  refine mv_ (mv_ ?_)
  refine XL.lo rfl (l_call0 (aS rfl (aS rfl a0)) (by kernel_rfl) (pnew_u m v ws _ (hv.mono SubC.sub)) rfl ?_)
  rintro v21 M21 J21 ⟨op, rfl⟩
  refine mv_ ?_
  refine XL.q (q_x0 rfl) rfl ?_
  refine XL.q (q_x1 rfl) rfl ?_
  refine as_ (as_ ?_)
  refine XL.fin (kq 0 (kq 1 (kq 6 kn))) ?_
  refine XC.reg ?_
  refine as_ ?_
  refine XL.fin (kq 0 (kq 1 (kq 6 (kq 7 kn)))) ?_
  refine XC.reg ?_
  refine mv_ (mv_ (mv_ (mv_ ?_)))
  refine XL.callV (aS rfl (aS rfl (aS rfl (aS rfl a0)))) (by kernel_rfl) (popen_n v _ _ _ hr _) rfl ?_
  refine mv_ ?_
  refine XL.q (q_x0 rfl) rfl ?_
  refine XL.q (q_x1 rfl) rfl ?_
  refine as_ (as_ ?_)
  refine XL.fin (kq 0 (kq 1 (kq 6 (kq 7 (kq 9 kn))))) ?_
  refine XC.reg ?_
  refine mv_ ?_
  refine XL.q (q_cmp (decide (m < 2)) rfl rfl (by by_cases h : m < 2; rw [if_pos h, decide_eq_true h]; exact eqT rfl; rw [if_neg h, decide_eq_false h]; exact eqF (by decide))) rfl ?_
  refine mv_ ?_
  refine XL.q (q_cmp (decide (m < 2)) rfl rfl (by by_cases h : m < 2; rw [decide_eq_true h]; exact ltT (by omega); rw [decide_eq_false h]; exact ltF (by omega))) rfl ?_
  refine XL.q (q_boolEqR true rfl rfl (by kernel_rfl) (by simp)) rfl ?_
  refine mv_ ?_
  refine XL.gy rfl rfl (OpQ.opL qm_ rfl ?_)
  refine XL.callVg rfl rfl (aS rfl a0) (by kernel_rfl) (pmode_n _) rfl ?_
  refine XL.gy rfl rfl (OpQ.opL (q_cmp true rfl rfl (eqT rfl)) rfl ?_)
  refine XL.q (q_pickT rfl rfl) rfl ?_
  refine mv_ ?_
  refine XL.gy rfl rfl (OpQ.opL qm_ rfl ?_)
  refine XL.callVg rfl rfl (aS rfl a0) (by kernel_rfl) (ptable_n _) rfl ?_
  refine XL.gy rfl rfl (OpQ.opL (q_ptrEqNil (e := 134) rfl rfl (by kernel_rfl)) rfl ?_)
  refine XL.q (q_pickT rfl rfl) rfl ?_
  refine mv_ ?_
  refine XL.gy rfl rfl (OpQ.opL qm_ rfl ?_)
  refine XL.callVg rfl rfl (aS rfl a0) (by kernel_rfl) (pmade_n _) rfl ?_
  refine XL.gy rfl rfl (OpQ.opL (q_cmp true rfl rfl (eqT rfl)) rfl ?_)
  refine XL.q (q_pickT rfl rfl) rfl ?_
  refine mv_ ?_
  refine XL.gy rfl rfl (OpQ.opL qm_ rfl ?_)
  refine XL.callVg rfl rfl (aS rfl a0) (by kernel_rfl) (pfresh_n _) rfl ?_
  refine XL.gy rfl rfl (OpQ.opL (q_lenV2 (sz := 1) rfl (by kernel_rfl) (Rd.nil (R := []))) rfl ?_)
  refine XL.gy rfl rfl (OpQ.opL qm_ rfl ?_)
  refine XL.gy rfl rfl (OpQ.opL qm_ rfl ?_)
  refine XL.callVg rfl rfl (aS rfl (aS rfl a0)) (by kernel_rfl) (ppublic_n v _ _ _ hr _) rfl ?_
  refine XL.gy rfl rfl (OpQ.opL (q_lenV2 (sz := 1) rfl (by kernel_rfl) (Rd.nil (R := []))) rfl ?_)
  refine XL.gy rfl rfl (OpQ.opL (q_num (0 : Int) rfl rfl (add64 (by decide) (by decide) (by decide))) rfl ?_)
  refine XL.gy rfl rfl (OpQ.opL qm_ rfl ?_)
  refine XL.gy rfl rfl (OpQ.opL qm_ rfl ?_)
  refine XL.callVg rfl rfl (aS rfl (aS rfl a0)) (by kernel_rfl) (psignkey_n v _ _ _ hr _) rfl ?_
  refine XL.gy rfl rfl (OpQ.opL (q_lenV2 (sz := 1) rfl (by kernel_rfl) (Rd.nil (R := []))) rfl ?_)
  refine XL.gy rfl rfl (OpQ.opL (q_num (0 : Int) rfl rfl (add64 (by decide) (by decide) (by decide))) rfl ?_)
  refine XL.gy rfl rfl (OpQ.opL qm_ rfl ?_)
  refine XL.gy rfl rfl (OpQ.opL qm_ rfl ?_)
  refine XL.gy rfl rfl (OpQ.opL qm_ rfl ?_)
  refine XL.callVg rfl rfl (aS rfl (aS rfl (aS rfl a0))) (by kernel_rfl) (pagree_n v _ _ _ hr _) rfl ?_
  refine XL.gy rfl rfl (OpQ.opL (q_lenV2 (sz := 1) rfl (by kernel_rfl) (Rd.nil (R := []))) rfl ?_)
  refine XL.gy rfl rfl (OpQ.opL (q_num (0 : Int) rfl rfl (add64 (by decide) (by decide) (by decide))) rfl ?_)
  refine XL.gy rfl rfl (OpQ.opL qm_ rfl ?_)
  refine XL.gy rfl rfl (OpQ.opL qm_ rfl ?_)
  refine XL.callVg rfl rfl (aS rfl (aS rfl (aS rfl (aS rfl (aS rfl a0))))) (by kernel_rfl) (pderive_n v _ _ _ hr _) rfl ?_
  refine XL.gy rfl rfl (OpQ.opL (q_lenV2 (sz := 1) rfl (by kernel_rfl) (Rd.nil (R := []))) rfl ?_)
  refine XL.gy rfl rfl (OpQ.opL (q_num (0 : Int) rfl rfl (add64 (by decide) (by decide) (by decide))) rfl ?_)
  refine XL.gy rfl rfl (OpQ.opL qm_ rfl ?_)
  refine XL.gy rfl rfl (OpQ.opL qm_ rfl ?_)
  refine XL.gy rfl rfl (OpQ.opL qm_ rfl ?_)
  refine XL.gy rfl rfl (OpQ.opL qm_ rfl ?_)
  refine XL.callVg rfl rfl (aS rfl (aS rfl (aS rfl (aS rfl a0)))) (by kernel_rfl) (pseal_n v _ _ _ hr _) rfl ?_
  refine XL.gy rfl rfl (OpQ.opL (q_lenV2 (sz := 1) rfl (by kernel_rfl) (Rd.nil (R := []))) rfl ?_)
  refine XL.gy rfl rfl (OpQ.opL (q_num (0 : Int) rfl rfl (add64 (by decide) (by decide) (by decide))) rfl ?_)
  refine XL.gy rfl rfl (OpQ.opL qm_ rfl ?_)
  refine XL.gy rfl rfl (OpQ.opL qm_ rfl ?_)
  refine XL.gy rfl rfl (OpQ.opL qm_ rfl ?_)
  refine XL.callVg rfl rfl (aS rfl (aS rfl (aS rfl a0))) (by kernel_rfl) (psign_n v _ _ _ hr _) rfl ?_
  refine XL.gy rfl rfl (OpQ.opL (q_lenV2 (sz := 1) rfl (by kernel_rfl) (Rd.nil (R := []))) rfl ?_)
  refine XL.gy rfl rfl (OpQ.opL (q_num (0 : Int) rfl rfl (add64 (by decide) (by decide) (by decide))) rfl ?_)
  refine XL.gy rfl rfl (OpQ.opL qm_ rfl ?_)
  refine XL.gy rfl rfl (OpQ.opL qm_ rfl ?_)
  refine XL.gy rfl rfl (l_buildSlice (e := 23) (sz := 1) (z := [.slice none 0 0]) (by kernel_rfl) (eS rfl e0) (bdS 0 1 rfl (by rfl) bd0) rfl fun b92 => ?_)
  refine XL.callVg rfl rfl (aS rfl (aS rfl a0)) (by kernel_rfl) (pname_n (.slice (some ⟨b92, 0, none⟩) 1 1) 1 [v] [(b92, blk [v] 23)] (Rd.whole (n := 1) List.mem_cons_self (by rfl)) _) rfl ?_
  refine XL.gy rfl rfl (OpQ.opL (q_lenV2 (sz := 1) rfl (by kernel_rfl) (Rd.nil (R := []))) rfl ?_)
  refine XL.gy rfl rfl (OpQ.opL (q_num (0 : Int) rfl rfl (add64 (by decide) (by decide) (by decide))) rfl ?_)
  refine XL.gy rfl rfl (OpQ.opL (q_cmp true rfl rfl (eqT rfl)) rfl ?_)
  refine XL.q (q_pickT rfl rfl) rfl ?_
  refine mv_ ?_
  refine XL.gy rfl rfl (OpQ.opL qm_ rfl ?_)
  refine XL.gy rfl rfl (OpQ.opL (q_not rfl) rfl ?_)
  refine XL.q (q_pickT rfl rfl) rfl ?_
  refine mv_ ?_
  refine XL.gy rfl rfl (OpQ.opL qm_ rfl ?_)
  refine XL.gy rfl rfl (OpQ.opL qm_ rfl ?_)
  refine XL.gy rfl rfl (OpQ.opL qm_ rfl ?_)
  refine XL.gy rfl rfl (OpQ.opL qm_ rfl ?_)
  refine XL.callVg rfl rfl (aS rfl (aS rfl (aS rfl (aS rfl a0)))) (by kernel_rfl) (pcheck_n v _ _ _ hr _) rfl ?_
  refine XL.gy rfl rfl (OpQ.opL (q_not rfl) rfl ?_)
  refine XL.q (q_pickT rfl rfl) rfl ?_
  refine as_ ?_
  refine XL.fin (kq 4 kn) ?_
  refine XC.ret ?_
  exact ⟨_, [], [], res1 rfl rfl, List.nil_sublist _, by simp, rfl, rfl, rfl⟩

end Go.Proofs.YtphcaiplgpmnnaaGreatDoor
/- Terms that came in; what the rows' lists give. -/
namespace Go.Proofs.YtphcaiplgpmnnaaGreatDoor
open Go.Px Go.ChangeShapes Go.WideShapes Go.ChangeAt Go.RowKit
section
variable {H : Type} {enc : TypeId × Value → H} {P : Program} {w : World} {spare : Nat → Bool} {held : Bool} {fuel : Nat} {t e : TypeId} {cs : List Value} {x : DataW H × List MemPlace} {v : Value} {d : DataW H} {p : List MemPlace} {r : Reach} {base : Nat} {k : IntKind}
end
theorem var_heap {P : Program} {W : World} {name : String} {g : Nat} {cs : Array Value} (hg : P.globalNamed name = some g) (h : W.var? P name = some cs) : ∃ e fr, W.heap[g]? = some (.cells cs e fr) := by
  unfold World.var? at h
  rw [hg] at h
  simp only [Option.bind_some] at h
  split at h
  · rename_i c e fr hh
    cases h
    exact ⟨e, fr, hh⟩
  · cases h
def zints (ws : List Nat) : List Int := ws.map fun n : Nat => (n : Int)
theorem zints_nums (k : IntKind) (ws : List Nat) : ((zints ws).map fun z => Value.int k z).toArray = (nums k ws).toArray := by simp [zints, nums]
theorem pow_tab {W : World} {a b : String × DataW Unit} {rest : List (String × DataW Unit)} (h : laidMet Tryz.prog (a :: b :: ("internal/strconv.uint64pow10", Rows.laid_internal_strconv_uint64pow10) :: rest) W) : ∃ e fr, W.heap[2]? = some (Obj.cells (nums .u64 pow10T).toArray e fr) := by
  have h' : laidMet Tryz.prog (("internal/strconv.uint64pow10", Lib.tabData .u64 (zints pow10T)) :: rest) W := h.tail.tail
  have h1 := Lib.tabIs_of_head (g := 2) (t := 240) (e := 28) (n := 20) (by kernel_rfl) (by kernel_rfl) (by kernel_rfl) (by kernel_rfl) (by kernel_rfl) (by kernel_rfl) h'
  obtain ⟨ek, fk, h3⟩ := var_heap (g := 2) (by kernel_rfl) h1
  rw [zints_nums] at h3
  exact ⟨ek, fk, h3⟩
end Go.Proofs.YtphcaiplgpmnnaaGreatDoor

/- What the rows' lists give: the tables of packages sha and strconv. -/
namespace Go.Proofs.YtphcaiplgpmnnaaGreatDoor
open Go.Px
theorem glb_in {W : World} {a b : String × DataW Unit} {rest : List (String × DataW Unit)} (h : laidMet Tryz.prog (a :: b :: ("internal/strconv.uint64pow10", Rows.laid_internal_strconv_uint64pow10) :: ("pawl/sha.round", Rows.laid_pawl_sha_round) :: ("pawl/sha.first", Rows.laid_pawl_sha_first) :: rest) W) : Glb (heapA W) := by
  obtain ⟨e4, f4, h4⟩ := pow_tab h
  have h' : laidMet Tryz.prog (("pawl/sha.round", Lib.tabData .u32 (zints kTab)) :: ("pawl/sha.first", Lib.tabData .u32 (zints hFirst.list)) :: rest) W := h.tail.tail.tail
  have h1 := Lib.tabIs_of_head (g := 1) (t := 194) (e := 22) (n := 64) (by kernel_rfl) (by kernel_rfl) (by kernel_rfl) (by kernel_rfl) (by kernel_rfl) (by kernel_rfl) h'
  have h2 := Lib.tabIs_of_head (g := 0) (t := 159) (e := 22) (n := 8) (by kernel_rfl) (by kernel_rfl) (by kernel_rfl) (by kernel_rfl) (by kernel_rfl) (by kernel_rfl) h'.tail
  obtain ⟨ek, fk, h3⟩ := var_heap (g := 1) (by kernel_rfl) h1
  obtain ⟨ef, ff, h5⟩ := var_heap (g := 0) (by kernel_rfl) h2
  rw [zints_nums] at h3 h5
  exact ⟨⟨ef, ff, heapA_mem.2 h5⟩, ⟨ek, fk, heapA_mem.2 h3⟩, ⟨e4, f4, heapA_mem.2 h4⟩⟩
end Go.Proofs.YtphcaiplgpmnnaaGreatDoor

/- The card of the law PrimNil: it returns true for every input; each argument reads behind the call as it read before; the listed package variables are tied to the program's text. No further condition. -/
namespace Go.Proofs.YtphcaiplgpmnnaaGreatDoor.primNil
open Go.ChangeShapes Go.WideShapes Go.ChangeAt Go.RowKit

theorem own : ownKnob Tryz.prog.godebug = none := by kernel_rfl
theorem laidOut : laidOutB Tryz.prog = true := by kernel_rfl

noncomputable def laidWorld (os : Os) : World := World.laidAll Tryz.prog os Rows.primNilRow.laid
theorem laid_met (os : Os) : laidMetH Tryz.prog Rows.primNilRow.laid ((laidWorld os).forCall (fun _ _ => 0) ⟨#[], #[.int .u8 0, .slice none 0 0], []⟩).memory := by
  rw [MakeChecks.laidMetH_plain _ _ _ (by kernel_rfl)]; exact laidMet_laidAll _ (by kernel_rfl) (by kernel_rfl)
theorem reads (os : Os) {H : Type} (enc : TypeId × Value → H) : ∃ places, DataW.whole enc Tryz.prog ((laidWorld os).forCall (fun _ _ => 0) ⟨#[], #[.int .u8 0, .slice none 0 0], []⟩).memory Tryz.f11.params.toList Rows.primNilSpec.vars false (#[.int .u8 0, .slice none 0 0] : Array Value).toList 8 = some ([.lit (.int .u8 0), .nil], [], places) :=
  ⟨[], by kernel_rfl⟩

theorem lifted (os : Os) (started : os.Started) (H : Type) (enc : TypeId × Value → H) (F : Stop.Interp) :
    ReturnsInHanded {} Tryz.checked os 11 .any ((OpenSpec.ofChange Rows.primNilSpec).preRow enc Tryz.prog Tryz.f11 Rows.primNilRow.domain false Rows.primNilRow.laid) (((OpenSpec.ofChange Rows.primNilSpec).at F).post enc Tryz.prog Tryz.f11 false true false false) := by
  obtain ⟨places, hx⟩ := reads os enc
  refine returnsInHanded_of_row (C := Tryz.checked) (s := (OpenSpec.ofChange Rows.primNilSpec)) own started (by kernel_rfl) Tryz.func11
    (witness_row_at (enc := enc) (C := Tryz.checked) false (laidWorld os) #[.int .u8 0, .slice none 0 0] (World.laidAll_os _ _ _) (by kernel_rfl) (by kernel_rfl) (by kernel_rfl)
      (OpenSpec.preRow_of_cond 8 hx (by kernel_rfl) (fun k hk => by cases hk) (by kernel_rfl) (laid_met os))) ?_
  intro W base args ds gs before hval0 hW _ _ _ hL _ _
  have hval : ∀ (j : Nat) t v, Tryz.f11.params[j]? = some t → args[j]? = some v → Value.okWide Tryz.prog W .any base t v := hval0
  have hW' := hW
  obtain ⟨p, q, hA0, hV, rfl, hfz, hnd⟩ := hW
  have hA : DataW.TrodAll enc Tryz.prog W 0 (fun _ => true) true Tryz.f11.params.toList args.toList ds p := hA0
  rw [Tryz.params11] at hA hval
  obtain ⟨v0, vs0, d0, ds0, p0, q0, hargs, rfl, rfl, k0, r0_⟩ := trodAll_cons hA
  obtain ⟨v1, vs1, d1, ds1, p1, q1, rfl, rfl, rfl, k1, r1_⟩ := trodAll_cons r0_
  obtain ⟨rfl, rfl, rfl⟩ := trodAll_nil r1_
  obtain rfl : args = #[v0, v1] := by cases args; simp_all
  obtain ⟨rfl, rfl⟩ := trodVars_none hV
  have lt0 : ∀ x ∈ p0, x.block < W.heap.size := by obtain ⟨m, hm⟩ := k0; exact DataW.trod_lt m _ _ _ hm
  have lt1 : ∀ x ∈ p1, x.block < W.heap.size := by obtain ⟨m, hm⟩ := k1; exact DataW.trod_lt m _ _ _ hm
  obtain ⟨x0, rfl, hx0⟩ := Px.inU Tryz.underlying5 rfl (hval 0 5 v0 rfl rfl) k0
  obtain ⟨x1, r1, hx1, l1⟩ := Px.inSlU Tryz.underlying23 Tryz.underlying5 (by kernel_rfl) rfl (hval 1 23 v1 rfl rfl) k1
  clear hA0 hval0
  rw [MakeChecks.laidMetH_plain _ _ _ (by kernel_rfl)] at hL
  have hG := glb_in hL
  refine Calls.mono ((primNil_f x0 v1 x1 _ hx0 r1 hx1 hG).calls (Px.heapA_fx W)) fun e W' ⟨he, bel⟩ => ?_
  subst he
  exact ⟨_, rfl, _, _, _, [], _, [], hW', trodAll_mk1 (shut_bool Tryz.underlying4 _), (trodAll_cons_mk (Below.trod laidOut (by kernel_rfl) (of_decide_eq_true (by kernel_rfl)) k0 bel lt0) (trodAll_cons_mk (Below.trod laidOut (by kernel_rfl) (of_decide_eq_true (by kernel_rfl)) k1 bel lt1) trodAll_mk0)), rfl, bel.frame _, fun h => by cases h⟩

theorem said : Rows.PrimNilSaid :=
  OpenClaim.holds_of_cond 11 Tryz.f11 rfl rfl rfl rfl rfl rfl rfl ⟨rfl, rfl, rfl, rfl, rfl⟩ rfl rfl rfl rfl rfl (by kernel_rfl) Tryz.func11 (by kernel_rfl)
    (of_decide_eq_true (by kernel_rfl)) (by unfold Func.isWrapper; first | (rw [if_pos (by decide +kernel)]; kernel_rfl) | (rw [if_neg (by decide +kernel)]; exact ⟨rfl, rfl⟩))
    (fun os started H enc _ F => by rw [OpenClaim.pre_eq_preRow]; exact lifted os started H enc F)
theorem plain (f : FuncId) (fn : Func) (hf : Tryz.pinned.checked.prog.funcNamed "pawl/pawllaw08.PrimNil" = some f) (hfn : Tryz.pinned.checked.prog.funcs[f]? = some fn) :
    true = Tryz.pinned.checked.prog.looks [] ∧ ∀ (j : Nat) t, fn.params[j]? = some t → Tryz.pinned.checked.prog.wantsStandIn t = false := by
  obtain rfl : f = 11 := Option.some.inj ((show Tryz.prog.funcNamed "pawl/pawllaw08.PrimNil" = some 11 by kernel_rfl).symm.trans hf) |>.symm
  obtain rfl : fn = Tryz.f11 := (Option.some.inj (Tryz.func11.symm.trans hfn)).symm
  refine ⟨by kernel_rfl, fun j t ht => ?_⟩
  rw [Tryz.params11] at ht
  have hm := Array.mem_of_getElem? ht
  simp only [List.mem_toArray, List.mem_cons, List.not_mem_nil, or_false] at hm
  rcases hm with rfl | rfl
  · exact (show Tryz.prog.wantsStandIn 5 = false by kernel_rfl)
  · exact (show Tryz.prog.wantsStandIn 23 = false by kernel_rfl)

theorem proved : Rows.PrimNilCardSaid :=
  Claim7.holds_tied_plain_at .later [] _ _ _ _ said (fun _ h => by cases h) (by kernel_rfl) (fun _ h => by cases h) primNil_row_tie rfl ⟨rfl, rfl⟩ (by kernel_rfl) rfl plain (by kernel_rfl)
#print axioms proved
end Go.Proofs.YtphcaiplgpmnnaaGreatDoor.primNil



