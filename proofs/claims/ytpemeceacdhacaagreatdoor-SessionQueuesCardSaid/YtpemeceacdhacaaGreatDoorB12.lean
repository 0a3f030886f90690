/- Part 12 of the texts of this claim, one behind the other. -/
import Derived.Test.YtpemeceacdhacaaGreatDoorB11
set_option linter.unusedVariables false
set_option linter.unusedSimpArgs false
set_option maxRecDepth 100000
namespace Go.Proofs.YtpemeceacdhacaaGreatDoor
open Go.Px
theorem B0S {P : Program} {fn : Func} {l : Env} {R : Mem} {t1 t2 u x b1 b2 n1 n2 : Nat} {y1 y2 : TypeId} {c1 c2 : List Value} {e1 e2 : TypeId} {f1 f2 : Nat × Nat} {v z : Value} (h : fn.results = #[.cell t1 y1, .cell t2 y2, .tmp u, .tmp x]) (h1 : lk l t1 = some (vP b1)) (h2 : lk l t2 = some (vP b2)) (hu : lk l u = some v) (hx : lk l x = some z) (ht1 : A3l P y1 = some n1) (ht2 : A3l P y2 = some n2)
    (hb1 : (b1, Obj.cells c1.toArray e1 f1) ∈ R) (hb2 : (b2, Obj.cells c2.toArray e2 f2) ∈ R) (hn1 : c1.length = n1) (hn2 : c2.length = n2) : Res P fn l R (.tuple #[.agg c1.toArray, .agg c2.toArray, v, z]) := fun N a w ha hw => by
  obtain ⟨d1, g1, g2, g3⟩ := M3 ht1
  obtain ⟨d2, k1, k2, k3⟩ := M3 ht2
  have l1 := run_loadVar_row (P := P) w b1 e1 y1 c1.toArray f1 d1 (hw b1 _ hb1) g1 (by cases d1 <;> simp_all [TypeDesc.isRow]) (by rw [g3, ← hn1]; simp)
  have l2 := run_loadVar_row (P := P) w b2 e2 y2 c2.toArray f2 d2 (hw b2 _ hb2) k1 (by cases d2 <;> simp_all [TypeDesc.isRow]) (by rw [k3, ← hn2]; simp)
  simp [results, h, ha.slot t1 _ h1, ha.slot t2 _ h2, ha.slot u _ hu, ha.slot x _ hx, asAddr, l1, l2]
noncomputable def F6 (s : Ps) (r : Rsd) : Rsd := { r with sk := A8J (H7 s r.own) r.sk, sn := (r.sn + 1) % 4294967296 }
noncomputable def B2U (s : Ps) (r : Rsd) (w : LN) : LN := A3g w (A3T (H8 s r.own) r.prev r.sn)
noncomputable def A3h (s : Ps) (r : Rsd) (w t : LN) : Ps := selS (A0S (H7 s r.own) r.sk) (A3S (H7 s r.own) r.sk) (B2U s r w) t
noncomputable def A06 (s : Ps) (r : Rsd) (w t : LN) : LN := selK (A0S (H7 s r.own) r.sk) (A3S (H7 s r.own) r.sk) (B2U s r w) t
theorem A1G (s : Ps) (key : LN) : (A0S s key).ts.length ≤ s.ts.length + 3 ∧ (A0S s key).n = s.n ∧ (A0S s key).real = s.real := by
  have h1 := A02 s key [] A2z 2
  have h2 := A0u s key [] A2z 2
  have e : ([] : List (LN)).length = 0 := rfl
  unfold A0S
  exact ⟨by omega, h2.2.1, h2.1⟩
theorem A69 (pb : Nat) (s : Ps) (r : Rsd) (vo vt vr vk vl vs vw vx : Value) (w tx : LN) (MP A : Mem) (hP : Prm pb s MP) (hn : s.ts.length + 200 ≤ 1040000) (hr : RsR A r vo vt vr vk vl vs) (hsk : 0 < r.sk.length) (hw : By A vw w) (hwl : w.length ≤ 1000000) (hx : By A vx tx) (hxl : tx.length ≤ 1000000) (hG : Glb A) : FnX Tryz.prog 41 [(vP pb), .agg (rsC vo vt vr vk vl vs r).toArray, vw, vx] MP A fun q M J => ∃ q1 q2 q3, q = .tuple #[q1, .agg #[q2, (vU r.prev), (vU r.sn)], q3, .int .i64 0] ∧ Prm pb (A3h s r w tx) M ∧ RsV (J ++ A) q1 (F6 s r) ∧ By (J ++ A) q2 (H8 s r.own) ∧ By (J ++ A) q3 (A06 s r w tx) := by
 haveI := hr.own.cel
 haveI := hr.their.cel
 haveI := hr.root.cel
 haveI := hr.sk.cel
 haveI := hr.tk.cel
 haveI := hw.cel
 haveI := hx.cel
 have hst := hr.st
 obtain ⟨sb, u0, rows0, rfl, hsb, hrd0, hrw0⟩ := hst
 have f1 := B0M s r.own
 have f2 := A1G (H7 s r.own) r.sk
 have f3 := B0N s r.own
 unfold rsC
 refine FnX.enterZ (N := 52) Tryz.func41 rfl rfl rfl fun w_ => ?_
 refine A7 (F2 0 1 2 3) (A1 ?_)
 refine A4 rfl (bx_ fun b5 => ?_)
 refine A4 rfl (C5 (cs := [vS, vS, vS, vS, D3, vS, D3, D3, .pointer none]) kR rfl fun b8 => ?_)
 refine A4 rfl (C5 (cs := [vS, .int .u32 0, .int .u32 0]) kR rfl fun b9 => ?_)
 refine as_ (as_ (A0 (I8 0 2 3 5 8 9) (A6 (A1 ?_))))
 refine A3 (qf_ 3 3) rfl ?_
 refine A3 (qf_ 3 0) rfl ?_
 refine A3 ql_ rfl ?_
 refine A3 (E5 (sz := 1) rfl kR hr.sk.rd) rfl ?_
 refine A3 (E7 false rfl rfl (eqF qO)) rfl ?_
 refine A0 (R8 0 2 3 5 8 9 19) ?_
 refine B0 rfl ?_
 refine A5 (nx (I8 0 2 3 5 8 9) ?_)
 refine D9 (MP) (_) true (.range 11) [(0, 0), (1, 0), (2, 1), (4, 0), (5, 1), (6, 0), (7, 0), (8, 1), (3, 3), (9, 3), (10, 4), (11, 2)] kR kR qP fun hs K n0 hKm hKs hKn => ?_
 refine km_ hs ?_
 refine E2 hs rfl (qf_ 0 0) rfl ?_
 refine H4 hs rfl hKs ql_ ?_
 refine E2 hs rfl (qf_ 7 7) rfl ?_
 refine H4 hs rfl hKs ql_ ?_
 refine E2 hs rfl (qf_ 3 3) rfl ?_
 refine E2 hs rfl (qf_ 4 1) rfl ?_
 refine H4 hs rfl hKs ql_ ?_
 refine V8 [⟨3, 25, none, MP, fun v B R => Prm pb (H7 s r.own) B ∧ By R v (H8 s r.own)⟩, ⟨9, 31, none, [], fun v B R => B = [] ∧ ∃ u, v = .agg #[u, (vU r.prev), (vU r.sn)] ∧ By R u (H8 s r.own)⟩, ⟨10, 12, none, [], fun v B _ => ∃ b, v = (vP b) ∧ B = [(b, blk [vS, .int .u32 0, .int .u32 0] 59)]⟩] ([(b9, blk [vS, .int .u32 0, .int .u32 0] 59), (b8, blk [vS, vS, vS, vS, .int .u32 0, vS, .int .u32 0, .int .u32 0, .pointer none] 38), (b5, blk [vo, vt, vr, vk, (vU r.sn), vl, (vU r.tn), (vU r.prev), (vP sb)] 38)]) (fun bs => [bs 3, bs 9, bs 10]) (hKn rfl) (by simp [N9, U7]) (show ∀ m ∈ ([MP, [], []] : List Mem), ∀ x ∈ m, K x.1 from A2 (hKm) (A2 (fun _ h => by cases h) (A2 (fun _ h => by cases h) (G9)))) kR (fun _ => by first | rfl | kernel_rfl)
  (A2 (fun _ _ _ _ h ⟨p1, p2⟩ => ⟨p1, p2.mono h⟩) (A2 (fun _ _ _ _ h ⟨p1, u, e, p2⟩ => ⟨p1, u, e, p2.mono h⟩) (A2 (fun _ _ _ _ _ h => h) (G9)))) (show List.Nodup [25, 31, 12] by decide) (show List.Nodup [3, 9, 10] by decide) (A2 (C4 rfl) (A2 (C4 rfl) (A2 (C4 rfl) (G9))))
  (A2 ⟨_, rfl, fun vs bs R Rj wG hb hj hjr ha => ⟨.inl rfl, ?_⟩⟩ (A2 ⟨_, rfl, fun vs bs R Rj wG hb hj hjr ha => ⟨.inl rfl, ?_⟩⟩ (A2 ⟨_, rfl, fun vs bs R Rj wG hb hj hjr ha => ⟨.inl rfl, ?_⟩⟩ (G9)))) ?_
 ·
  dsimp only [Gc.inp]
  refine B3 (Mc := MP) (R := []) (aS rfl (aS rfl (a0))) kR qM (Y3 pb s vo r.own MP _ hP qO (hr.own.mono (fun x hx => by have := hb x (by simp [hx]); simp [this])) (hG.sub (fun x hx => by have := hb x (by simp [hx]); simp [this]))) rfl ?_
  rintro v25 M25 J25 ⟨hP25, h25⟩
  exact ⟨_, rfl, by simpa using hP25, h25.mono fun x hx => by simp [hx]⟩
 ·
  dsimp only [Gc.inp]
  have g3 := ha _ (List.mem_of_getElem? (i := 0) rfl) kR
  replace g3 : (fun v B R => Prm pb (H7 s r.own) B ∧ By R v (H8 s r.own)) (vs 3) (bs 3) Rj := g3
  dsimp only at g3
  obtain ⟨-, h25⟩ := g3
  haveI := h25.cel
  dsimp only [L5, List.map, List.cons_append, List.nil_append]
  exact OpQ.opL (D7 (place := fun x => #[(0, 1), (1, 1), (2, 1)][x]?) (z := [vS, .int .u32 0, .int .u32 0]) (fun _ => by kernel_rfl) (eS rfl (eS rfl (eS rfl e0))) (bdS 0 1 rfl qR (bdS 1 1 rfl qR (bdS 2 1 rfl qR bd0)))) rfl ⟨_, rfl, rfl, _, rfl, h25⟩
 ·
  dsimp only [Gc.inp]
  exact C5 (cs := [vS, .int .u32 0, .int .u32 0]) kR rfl fun b => ⟨_, rfl, b, rfl, rfl⟩
 intro vs bs Jn0 hφ hKK
 have kk3 := hKK _ (List.mem_of_getElem? (i := 0) rfl)
 dsimp only at kk3
 have kk9 := hKK _ (List.mem_of_getElem? (i := 1) rfl)
 dsimp only at kk9
 have kk10 := hKK _ (List.mem_of_getElem? (i := 2) rfl)
 dsimp only at kk10
 clear hKK
 have g3 := ofH hφ
 dsimp only at g3
 replace hφ := ofT hφ
 have g9 := ofH hφ
 dsimp only at g9
 replace hφ := ofT hφ
 have g10 := ofH hφ
 dsimp only at g10
 clear hφ
 dsimp only [L5, N9, List.foldr, List.map, List.cons_append, List.nil_append]
 generalize bs 3 = B25 at *
 generalize bs 9 = B31 at *
 generalize bs 10 = B12 at *
 generalize vs 3 = u25 at *
 generalize vs 9 = u31 at *
 generalize vs 10 = u12 at *
 obtain ⟨hP25, -⟩ := g3
 obtain ⟨rfl, v25, rfl, h25⟩ := g9
 obtain ⟨b12, rfl, rfl⟩ := g10
 haveI := h25.cel
 refine I4 rfl rfl rfl (A9 (vs := [v25, (vU r.prev), (vU r.sn)]) rfl rfl rfl kR qR (A2 h25.one al2) UpC.upd ?_)
 refine G2 (R8 0 2 3 5 8 9 12) (A1 ?_)
 refine A3 (qw_ 9) rfl ?_
 refine E4 (aS rfl a0) kR (FnX.amb qS (A3U r vo vt vr vk vl _ A hr)) rfl ?_
 rintro v33 M33 J33 ⟨cb, rfl, hSt⟩
 obtain ⟨u5, rows5, BS, rfl, hs5, hw5⟩ := hSt.ex
 unfold rsC
 refine A4 rfl (A9 (vs := [vo, vt, vr, vk, (vU r.sn), vl, (vU r.tn), (vU r.prev), (vP cb)]) rfl rfl rfl kR qR (A2 hr.own.one (A2 hr.their.one (A2 hr.root.one (A2 hr.sk.one (A2 rfl (A2 hr.tk.one al3)))))) UpC.upd ?_)
 refine A0 (R8 0 2 3 5 8 9 12) ?_
 refine V7 (B := (cb, blk [u5] 153) :: BS) qP ?_
 have hrd5 := hs5.rd (R := BS) fun _ h => h
 refine A1 (mv_ ?_)
 refine A3 (qf_ 3 3) rfl ?_
 refine A3 (A1i (n := 2) rfl kR (by first | exact At.mem | exact mA (by assumption)) TakeC.take) rfl ?_
 refine A4 rfl (B3 (Mc := B25) (R := _) (aS rfl (aS rfl (a0))) kR qP (A1C pb (H7 s r.own) vk r.sk r.sn B25 _ hP25 (hr.sk.mono qS) qO hG.up) rfl ?_)
 rintro v38 M38 J38 ⟨k1, k2, rfl, hP38, hb1, hb2⟩
 haveI := hb1.cel
 haveI := hb2.cel
 refine mv_ ?_
 refine A3 (U6 rfl) rfl ?_
 refine A3 (U0 rfl) rfl ?_
 refine A4 rfl (C5 (cs := [vS, .int .u32 0]) kR rfl fun b14 => ?_)
 refine as_ ?_
 refine A4 rfl (A9 (vs := [k2, .int .u32 (((r.sn + 1) % 4294967296 : Nat) : Int)]) rfl rfl rfl kR qR (A2 hb2.one (A2 rfl G9)) UpC.upd ?_)
 refine A0 (A3u 0 2 3 5 8 9 12 13 14) (A1 ?_)
 refine A3 (qw_ 2) rfl ?_
 refine A3 (qf_ 3 3) rfl ?_
 refine A4 rfl (I1 (vs := [k2, .int .u32 (((r.sn + 1) % 4294967296 : Nat) : Int)]) (cs' := [vo, vt, vr, k2, .int .u32 (((r.sn + 1) % 4294967296 : Nat) : Int), vl, (vU r.tn), (vU r.prev), (vP cb)]) rfl rfl rfl kR (by exact (show 3 + 2 ≤ 9 by decide)) (A2 hb2.one (A2 rfl G9)) rfl UpC.upd ?_)
 refine A0 (A0e 0 2 3 5 8 9 12 13) ?_
 refine D9 (M38 ++ [(b8, blk [vS, vS, vS, vS, .int .u32 0, vS, .int .u32 0, .int .u32 0, .pointer none] 38)]) (_) true [0, 1, 2, 3, 4, 5, 6, 7, 8, 9, 11, 12] [(0, 1), (1, 1), (2, 0), (3, 0), (4, 0), (5, 1), (7, 0), (6, 2), (8, 2), (9, 2), (10, 2), (11, 0), (12, 0)] kR kR qP fun hs K n0 hKm hKs hKn => ?_
 refine H4 hs rfl hKs (qw_ 9) ?_
 refine H4 hs rfl hKs (qw_ 3) ?_
 refine km_ hs ?_
 refine km_ hs ?_
 refine km_ hs ?_
 refine H4 hs rfl hKs (qw_ 3) ?_
 refine km_ hs ?_
 refine F5 [] _ rfl rfl (List.Perm.refl _) (fun _ h => by cases h) fun w0 => (I5 (aS rfl (aS rfl a0)) kR (A65 vw v25 w (H8 s r.own) r.prev r.sn _ (hw.mono qS) (h25.mono qS) qO hr.prev hr.sn) rfl ?_)
 rintro v49 M49 J49 ⟨rfl, h49⟩ _
 haveI := h49.cel
 dsimp only [List.nil_append, List.append_eq]
 refine F5 M38 _ rfl rfl qP (fun x hx => hKm x (List.mem_append_left _ hx)) fun w0 => (B3 (Mc := M38) (R := _) (aS rfl (aS rfl (aS rfl (aS rfl (a0))))) kR qP (B0R pb (A0S (H7 s r.own) r.sk) k1 v49 vx (A3S (H7 s r.own) r.sk) (B2U s r w) tx M38 _ hP38 qO (hb1.mono qS) (h49.mono qS) (hx.mono qS) (by unfold B2U; rw [A16, A1D]; omega) hG.up) rfl ?_)
 rintro v51 M51 J51 ⟨hP51, h51⟩ hKx51
 haveI := h51.cel
 refine F5 [(b8, blk [vS, vS, vS, vS, .int .u32 0, vS, .int .u32 0, .int .u32 0, .pointer none] 38)] _ rfl rfl qP (fun x hx => hKm x (List.mem_append_right _ hx)) fun w0 => (A9 (vs := [vo, vt, vr, k2, .int .u32 (((r.sn + 1) % 4294967296 : Nat) : Int), vl, (vU r.tn), (vU r.prev), (vP cb)]) rfl rfl rfl kR qR (A2 hr.own.one (A2 hr.their.one (A2 hr.root.one (A2 hb2.one (A2 rfl (A2 hr.tk.one al3)))))) UpC.upd ?_)
 intro _
 dsimp only [List.cons_append, List.nil_append, List.append_eq]
 refine I4 rfl rfl rfl (A9 (vs := [v25, (vU r.prev), (vU r.sn)]) rfl rfl rfl kR qR (A2 h25.one al2) UpC.upd ?_)
 refine E2 hs rfl (E8 rfl) rfl ?_
 refine E2 hs rfl (E8 rfl) rfl ?_
 refine G2 (F2 8 9 10 11) (A8 ?_)
 exact ⟨_, M51, [], B0S (n1 := 9) (n2 := 3) rfl rfl rfl rfl rfl kR kR At.mem At.mem qR qR, Fit.none (Fit.last qP), _, v25, v51, rfl, hP51, ⟨vo, vt, vr, k2, vl, _, rfl, ⟨hr.own.mono qS, hr.their.mono qS, hr.root.mono qS, hb2.mono qS, hr.tk.mono qS, ⟨cb, u5, rows5, rfl, by simp, hrd5.mono qS, hw5.mono skT qS⟩, Nat.mod_lt _ qD, hr.tn, hr.prev, hr.sks⟩⟩, h25.mono qS, h51.mono qS⟩

def ahE (N n : Nat) : Int := if n < N then 8 else if 16 < n - N then 7 else 0
def ahX (s : Ps) (key : LN) (N n : Nat) (of : LN) (sks : List Skp) : Ast := if ahE N n = 0 then rep (aSt of) (n - N) (s, key, N, sks) else (s, key, N, sks)
theorem A9A {N n : Nat} (h : ahE N n = 0) : N ≤ n ∧ n - N ≤ 16 := by
  unfold ahE at h
  split at h
  · cases h
  · split at h
    · cases h
    · omega
theorem A9B {s : Ps} {key : LN} {N n : Nat} {of : LN} {sks : List Skp} (h : ahE N n ≠ 0) : ahX s key N n of sks = (s, key, N, sks) := if_neg h
theorem A7a {s : Ps} {key : LN} {N n : Nat} {of : LN} {sks : List Skp} (h : ahE N n = 0) : ahX s key N n of sks = rep (aSt of) (n - N) (s, key, N, sks) := if_pos h
theorem B2v (of : LN) (i : Nat) (x : Ast) : (rep (aSt of) i x).1.n = x.1.n ∧ (rep (aSt of) i x).1.real = x.1.real := by
  induction i with
  | zero => exact ⟨rfl, rfl⟩
  | succ i ih =>
    have h := A1G (rep (aSt of) i x).1 (rep (aSt of) i x).2.1
    exact ⟨h.2.1.trans ih.1, h.2.2.trans ih.2⟩
theorem B2w (s : Ps) (key : LN) (N n : Nat) (of : LN) (sks : List Skp) (hN : N < 4294967296) (hn : n < 4294967296) (hl : sks.length ≤ 1000) :
    (ahX s key N n of sks).1.ts.length ≤ s.ts.length + 48 ∧ (ahX s key N n of sks).1.n = s.n ∧ (ahX s key N n of sks).2.2.1 < 4294967296 ∧ (ahX s key N n of sks).2.2.2.length ≤ 1000 := by
  by_cases h : ahE N n = 0
  · obtain ⟨h1, h2⟩ := A9A h
    rw [A7a h]
    have a := A9x of (n - N) (s, key, N, sks)
    have b := B2v of (n - N) (s, key, N, sks)
    have c := B0L of (n - N) (s, key, N, sks)
    have d := A9y of (n - N) (s, key, N, sks) hl
    dsimp only at a b c d
    exact ⟨by omega, b.1, by omega, d⟩
  · rw [A9B h]
    exact ⟨by dsimp only; omega, rfl, hN, hl⟩
theorem A7b (pb sb : Nat) (s : Ps) (kv vof : Value) (key of : LN) (N n : Nat) (sks : List Skp) (R MP MS A : Mem) (hP : Prm pb s MP) (hS : Sto R sb sks MS) (hR : ∀ x, x ∈ R → x ∈ A) (hk : By R kv key) (hof : By R vof of) (hl : sks.length ≤ 1000) (hn32 : n < 4294967296) (hn : s.ts.length ≤ 1000000) (hG : Glb A) :
    FnX Tryz.prog 81 [(vP pb), .agg #[kv, (vU N)], vof, (vU n), (vP sb)] (MP ++ MS) A fun q M J => ∃ MP' MS' kv', M = MP' ++ MS' ∧ q = .tuple #[.agg #[kv', .int .u32 (((ahX s key N n of sks).2.2.1 : Nat) : Int)], .int .i64 (ahE N n)] ∧ Prm pb (ahX s key N n of sks).1 MP' ∧ Sto (J ++ R) sb (ahX s key N n of sks).2.2.2 MS' ∧ By (J ++ R) kv' (ahX s key N n of sks).2.1 := by
  by_cases h : ahE N n = 0
  · obtain ⟨h1, h2⟩ := A9A h
    rw [A7a h, h]
    exact A5i pb sb s kv vof key of N n sks R MP MS A hP hS hR hk hof hl h1 h2 hn32 hn hG
  · rw [A9B h]
    unfold ahE at h ⊢
    by_cases h1 : n < N
    · rw [if_pos h1]
      refine (FnV.frame (A5j _ _ kv vof key of N n _ (hk.mono fun x hx => List.mem_append_right _ (hR x hx)) (hof.mono fun x hx => List.mem_append_right _ (hR x hx)) h1)).mono fun q M J ⟨e1, e2, e3⟩ => ?_
      subst e1; subst e2; subst e3
      exact ⟨MP, MS, kv, rfl, rfl, hP, hS, hk⟩
    · rw [if_neg h1] at h ⊢
      by_cases h2 : 16 < n - N
      · rw [if_pos h2]
        refine (FnV.frame (A5k _ _ kv vof key of N n _ (hk.mono fun x hx => List.mem_append_right _ (hR x hx)) (hof.mono fun x hx => List.mem_append_right _ (hR x hx)) qO hn32 h2)).mono fun q M J ⟨e1, e2, e3⟩ => ?_
        subst e1; subst e2; subst e3
        exact ⟨MP, MS, kv, rfl, rfl, hP, hS, hk⟩
      · rw [if_neg h2] at h
        exact absurd rfl h
def alW (w hk : LN) (hp hn : Nat) : LN := A3g w (A3T hk hp hn)
def A0T (r : Rsd) (hk : LN) : Bool := !(decide (hk = r.their)) || decide (r.tk = [])
def opA (s : Ps) (r : Rsd) (hp : Nat) : Ast := if r.tk = [] then (s, r.tk, r.tn, r.sks) else ahX s r.tk r.tn hp r.their r.sks
def A7c (r : Rsd) (hp : Nat) : Int := if r.tk = [] then 0 else ahE r.tn hp
noncomputable def B3z (x : Ast) (r : Rsd) (hk : LN) : Ps × Rsd := (A9z x.1 r.root r.own hk, ⟨r.own, hk, B2S x.1 r.root r.own hk, r.sk, r.sn, B2T x.1 r.root r.own hk, 0, r.prev, x.2.2.2⟩)
noncomputable def opB (s : Ps) (r : Rsd) (hk : LN) (hp : Nat) : Ps × Rsd := if A0T r hk = true then B3z (opA s r hp) r hk else (s, r)
def opC (x : Ps × Rsd) (hn : Nat) : Ast := ahX x.1 x.2.tk x.2.tn hn x.2.their x.2.sks
def opD (x : Ps × Rsd) (hn : Nat) : Ps := A0S (opC x hn).1 (opC x hn).2.1
def A7x (x : Ps × Rsd) (hn : Nat) : LN := A3S (opC x hn).1 (opC x hn).2.1
def opG (r : Rsd) (x : Ps × Rsd) (hn : Nat) : Rsd := ⟨r.own, x.2.their, x.2.root, r.sk, r.sn, A8J (opC x hn).1 (opC x hn).2.1, ((opC x hn).2.2.1 + 1) % 4294967296, r.prev, (opC x hn).2.2.2⟩
noncomputable def opF (s : Ps) (r : Rsd) : Ps × Rsd := (A9z (D8 s) r.root (E1 s) r.their, ⟨E1 s, r.their, B2S (D8 s) r.root (E1 s) r.their, B2T (D8 s) r.root (E1 s) r.their, 0, r.tk, r.tn, r.sn, r.sks⟩)
noncomputable def opZ (b : Bool) (s : Ps) (r : Rsd) : Ps × Rsd := if b = true then opF s r else (s, r)
noncomputable def U9 (s : Ps) (r : Rsd) (w hk : LN) (hp hn : Nat) (g : LN) : Ps × Rsd × Int × LN :=
  match A2G r.sks hk hn with
  | some k => match A1F s k (alW w hk hp hn) g with
    | none => (s, r, 6, [])
    | some t => (s, ⟨r.own, r.their, r.root, r.sk, r.sn, r.tk, r.tn, r.prev, A3e r.sks hk hn⟩, 0, t)
  | none => if A0T r hk = true ∧ A7c r hp ≠ 0 then ((opA s r hp).1, r, A7c r hp, []) else
    if ahE (opB s r hk hp).2.tn hn ≠ 0 then ((opC (opB s r hk hp) hn).1, r, ahE (opB s r hk hp).2.tn hn, []) else
    match A1F (opD (opB s r hk hp) hn) (A7x (opB s r hk hp) hn) (alW w hk hp hn) g with
    | none => (opD (opB s r hk hp) hn, r, 6, [])
    | some t => ((opZ (A0T r hk) (opD (opB s r hk hp) hn) (opG r (opB s r hk hp) hn)).1, (opZ (A0T r hk) (opD (opB s r hk hp) hn) (opG r (opB s r hk hp) hn)).2, 0, t)
section
variable {s : Ps} {r : Rsd} {w hk : LN} {hp hn : Nat} {g t k : LN}
theorem B2x (h : A2G r.sks hk hn = some k) (h2 : A1F s k (alW w hk hp hn) g = none) : U9 s r w hk hp hn g = (s, r, 6, []) := by unfold U9; rw [h]; dsimp only; rw [h2]
theorem B0T (h : A2G r.sks hk hn = some k) (h2 : A1F s k (alW w hk hp hn) g = some t) : U9 s r w hk hp hn g = (s, ⟨r.own, r.their, r.root, r.sk, r.sn, r.tk, r.tn, r.prev, A3e r.sks hk hn⟩, 0, t) := by unfold U9; rw [h]; dsimp only; rw [h2]
theorem B0U (h : A2G r.sks hk hn = none) (h1 : A0T r hk = true) (h2 : A7c r hp ≠ 0) : U9 s r w hk hp hn g = ((opA s r hp).1, r, A7c r hp, []) := by unfold U9; rw [h]; dsimp only; rw [if_pos ⟨h1, h2⟩]
theorem oR_n {x : Ps × Rsd} (h : A2G r.sks hk hn = none) (hx : opB s r hk hp = x) (h1 : A0T r hk = true → A7c r hp = 0) (h2 : ahE x.2.tn hn ≠ 0) : U9 s r w hk hp hn g = ((opC x hn).1, r, ahE x.2.tn hn, []) := by
  unfold U9; rw [h]; dsimp only; rw [if_neg (fun h3 => h3.2 (h1 h3.1)), hx, if_pos h2]
theorem B3A {x : Ps × Rsd} (h : A2G r.sks hk hn = none) (hx : opB s r hk hp = x) (h1 : A0T r hk = true → A7c r hp = 0) (h2 : ahE x.2.tn hn = 0) (h3 : A1F (opD x hn) (A7x x hn) (alW w hk hp hn) g = none) : U9 s r w hk hp hn g = (opD x hn, r, 6, []) := by
  unfold U9; rw [h]; dsimp only; rw [if_neg (fun h3 => h3.2 (h1 h3.1)), hx, if_neg (fun h => h h2), h3]
theorem A4K {x : Ps × Rsd} (h : A2G r.sks hk hn = none) (hx : opB s r hk hp = x) (h1 : A0T r hk = true → A7c r hp = 0) (h2 : ahE x.2.tn hn = 0) (h3 : A1F (opD x hn) (A7x x hn) (alW w hk hp hn) g = some t) : U9 s r w hk hp hn g = ((opZ (A0T r hk) (opD x hn) (opG r x hn)).1, (opZ (A0T r hk) (opD x hn) (opG r x hn)).2, 0, t) := by
  unfold U9; rw [h]; dsimp only; rw [if_neg (fun h3 => h3.2 (h1 h3.1)), hx, if_neg (fun h => h h2), h3]
end
theorem A0O {P : Program} {fn : Func} {l : Env} {R : Mem} {t u x b n : Nat} {ty : TypeId} {cs : List Value} {e : TypeId} {fr : Nat × Nat} {v z : Value} (h : fn.results = #[.cell t ty, .tmp u, .tmp x]) (hv : lk l t = some (vP b)) (hu : lk l u = some v) (hx : lk l x = some z) (ht : A3l P ty = some n)
    (hb : (b, Obj.cells cs.toArray e fr) ∈ R) (hn : cs.length = n) : Res P fn l R (.tuple #[.agg cs.toArray, v, z]) := fun N a w ha hw => by
  obtain ⟨dsc, h1, h2, h3⟩ := M3 ht
  have hl := run_loadVar_row (P := P) w b e ty cs.toArray fr dsc (hw b _ hb) h1 (by cases dsc <;> simp_all [TypeDesc.isRow]) (by rw [h3, ← hn]; simp)
  simp [results, h, ha.slot t _ hv, ha.slot u _ hu, ha.slot x _ hx, asAddr, hl]

theorem B2y {s : Ps} {r : Rsd} {hk : LN} {hp : Nat} (h : A0T r hk = true) : opB s r hk hp = B3z (opA s r hp) r hk := if_pos h
theorem B2z {s : Ps} {r : Rsd} {hk : LN} {hp : Nat} (h : A0T r hk = false) : opB s r hk hp = (s, r) := if_neg (by rw [h]; decide)
theorem B2A {s : Ps} {r : Rsd} {hp : Nat} (h : r.tk = []) : opA s r hp = (s, r.tk, r.tn, r.sks) := if_pos h
theorem A7d {s : Ps} {r : Rsd} {hp : Nat} (h : r.tk ≠ []) : opA s r hp = ahX s r.tk r.tn hp r.their r.sks := if_neg h
theorem B0V {r : Rsd} {hp : Nat} (h : r.tk = []) : A7c r hp = 0 := if_pos h
theorem A2A {r : Rsd} {hp : Nat} (h : r.tk ≠ []) : A7c r hp = ahE r.tn hp := if_neg h
theorem B3B {b : Bool} (h : b = true) (s : Ps) (r : Rsd) : opZ b s r = opF s r := if_pos h
theorem B3C {b : Bool} (h : b = false) (s : Ps) (r : Rsd) : opZ b s r = (s, r) := if_neg (by rw [h]; decide)
theorem B2B (s : Ps) (r : Rsd) (hp : Nat) (hN : r.tn < 4294967296) (hn : hp < 4294967296) (hl : r.sks.length ≤ 1000) :
    (opA s r hp).1.ts.length ≤ s.ts.length + 48 ∧ (opA s r hp).1.n = s.n ∧ (opA s r hp).2.2.1 < 4294967296 ∧ (opA s r hp).2.2.2.length ≤ 1000 := by
  unfold opA
  split
  · exact ⟨by dsimp only; omega, rfl, hN, hl⟩
  · exact B2w s r.tk r.tn hp r.their r.sks hN hn hl
theorem len0 {l : LN} : (decide ((l.length : Int) = 0)) = decide (l = []) := by
  cases l with
  | nil => rfl
  | cons a l => simp only [List.length_cons]; rw [decide_eq_false qO, decide_eq_false qM]
set_option maxHeartbeats 2000000 in
theorem B0W (pb : Nat) (s : Ps) (r : Rsd) (vo vt vr vk vl vs vw vh vg : Value) (w hk g : LN) (hp hn : Nat) (MP A : Mem) (hP : Prm pb s MP) (hl : s.ts.length + 500 ≤ 1000000) (hsn : s.n < 1000000000) (hr : RsR A r vo vt vr vk vl vs) (hw : By A vw w) (hh : By A vh hk) (hwl : w.length + hk.length ≤ 1000000) (hhp : hp < 4294967296) (hhn : hn < 4294967296) (hg : By A vg g) (hgl : g.length ≤ 10000000) (hSel : X0 s.ts) (hK1 : ∀ k, A2G r.sks hk hn = some k → Kok s k) (hS2 : X0 (opD (opB s r hk hp) hn).ts) (hK2 : Kok (opD (opB s r hk hp) hn) (A7x (opB s r hk hp) hn)) (hG : Glb A) : FnX Tryz.prog 45 [(vP pb), .agg (rsC vo vt vr vk vl vs r).toArray, vw, .agg #[vh, (vU hp), (vU hn)], vg] MP A fun q M J => ∃ q1 q2, q = .tuple #[q1, q2, .int .i64 (U9 s r w hk hp hn g).2.2.1] ∧ Prm pb (U9 s r w hk hp hn g).1 M ∧ RsV (J ++ A) q1 (U9 s r w hk hp hn g).2.1 ∧ By (J ++ A) q2 (U9 s r w hk hp hn g).2.2.2 := by
 haveI := hr.own.cel
 haveI := hr.their.cel
 haveI := hr.root.cel
 haveI := hr.sk.cel
 haveI := hr.tk.cel
 haveI := hw.cel
 haveI := hh.cel
 haveI := hg.cel
 have hst := hr.st
 obtain ⟨sb, u0, rows0, rfl, hsb, hrd0, hrw0⟩ := hst
 unfold rsC
 refine FnX.enterZ (N := 181) Tryz.func45 rfl rfl rfl fun w_ => ?_
 refine A7 (H5 0 1 2 3 4) (A1 ?_)
 refine A4 rfl (bx_ fun b6 => ?_)
 refine A4 rfl (bx_ fun b8 => ?_)
 refine A4 rfl (C5 (cs := [vS, vS, vS, vS, D3, vS, D3, D3, .pointer none]) kR rfl fun b10 => ?_)
 refine as_ (as_ (A0 (I8 0 2 4 6 8 10) (A1 (mv_ ?_))))
 refine A3 (qw_ 3) rfl ?_
 refine E4 (aS rfl (aS rfl a0)) kR (A65 vw vh w hk hp hn _ (hw.mono qS) (hh.mono qS) qO hhp hhn) rfl ?_
 rintro v31 M31 J31 ⟨rfl, h31⟩
 haveI := h31.cel
 change By _ v31 (alW w hk hp hn) at h31
 have hal : (alW w hk hp hn).length ≤ 2000000 := by unfold alW; rw [A16, A1D]; omega
 refine as_ (A0 (I8 0 4 6 8 10 13) (A6 (A1 ?_)))
 refine A3 (qf_ 8 8) rfl ?_
 refine A3 ql_ rfl ?_
 refine A3 (qf_ 0 0) rfl ?_
 refine A3 ql_ rfl ?_
 refine A3 (qf_ 2 2) rfl ?_
 refine A3 ql_ rfl ?_
 refine E4 (aS rfl (aS rfl (aS rfl a0))) kR (A8H sb u0 vh rows0 r.sks hk hn _ (mA hsb) (hrd0.mono qS) (hrw0.mono skT qS) (by have := hr.sks; omega) (hh.mono qS)) rfl ?_
 rintro v39 M39 J39 ⟨rfl, u39, rfl, h39⟩
 haveI := h39.cel
 refine mv_ ?_
 refine A3 (U6 rfl) rfl ?_
 refine A3 (U0 rfl) rfl ?_
 refine as_ (as_ (A0 (A0e 0 4 6 8 10 13 14 15) (A1 (mv_ (A0 (A0e 0 4 6 8 10 13 14 42) ?_)))))
 refine C1 rfl ?_ ?_ <;> intro hc
 ·
  obtain ⟨k, hgk⟩ : ∃ k, A2G r.sks hk hn = some k := Option.isSome_iff_exists.1 hc
  rw [hgk, Option.getD_some] at h39
  refine A1 (mv_ (mv_ (mv_ (mv_ ?_))))
  refine E4 (aS rfl (aS rfl (aS rfl (aS rfl a0)))) kR (A68 pb s u39 v31 vg k (alW w hk hp hn) g MP _ hP (by intro x hx; simp [hx]) qO hSel (h39.mono qS) (h31.mono qS) (hg.mono qS) (hK1 k hgk) qO hG.up) rfl ?_
  rintro v48 M48 J48 ⟨rfl, u48, rfl, h48⟩
  haveI := h48.cel
  refine mv_ ?_
  refine A3 (U6 rfl) rfl ?_
  refine A3 (U0 rfl) rfl ?_
  refine as_ (as_ (A0 (H5 6 8 10 16 17) (A6 (A1 (mv_ ?_)))))
  refine A3 (P2 rfl) rfl ?_
  refine A0 (H5 6 8 10 16 52) ?_
  refine C1 rfl ?_ ?_ <;> intro hc
  ·
   have hno : A1F s k (alW w hk hp hn) g = none := by simpa using hc
   refine A1 ?_
   refine A3 (qw_ 9) rfl ?_
   refine A4 rfl (A9 (vs := [vo, vt, vr, vk, (vU r.sn), vl, (vU r.tn), (vU r.prev), (vP sb)]) rfl rfl rfl kR qR (A2 hr.own.one (A2 hr.their.one (A2 hr.root.one (A2 hr.sk.one (A2 rfl (A2 hr.tk.one al3)))))) UpC.upd ?_)
   refine as_ (as_ (A0 (E0 10 11 12) (A8 (tr (tr ?_)))))
   rw [B2x hgk hno]
   exact ⟨_, MP, [], A0O (n := 9) rfl rfl rfl rfl kR At.mem qR, Fit.none (Fit.last qP), _, _, rfl, hP, ⟨vo, vt, vr, vk, vl, _, rfl, hr.mono qS⟩, By.nil⟩
  ·
   obtain ⟨t, hot⟩ : ∃ t, A1F s k (alW w hk hp hn) g = some t := by
    cases hq : A1F s k (alW w hk hp hn) g with
    | none => rw [hq] at hc; cases hc
    | some t => exact ⟨t, rfl⟩
   rw [hot, Option.getD_some] at h48
   refine A5 (nx (F2 6 8 10 16) (A1 ?_))
   refine A3 (qw_ 9) rfl ?_
   refine E4 (aS rfl a0) kR (FnX.amb qS (A3U r vo vt vr vk vl _ A hr)) rfl ?_
   rintro v66 M66 J66 ⟨cb, rfl, hSt⟩
   unfold rsC
   refine A4 rfl (C5 (cs := [vS, vS, vS, vS, D3, vS, D3, D3, .pointer none]) kR rfl fun b18 => ?_)
   refine A4 rfl (A9 (vs := [vo, vt, vr, vk, (vU r.sn), vl, (vU r.tn), (vU r.prev), (vP cb)]) rfl rfl rfl kR qR (A2 hr.own.one (A2 hr.their.one (A2 hr.root.one (A2 hr.sk.one (A2 rfl (A2 hr.tk.one al3)))))) UpC.upd ?_)
   refine A0 (F2 8 10 16 18) (A1 ?_)
   refine A3 (qf_ 8 8) rfl ?_
   refine A3 ql_ rfl ?_
   refine A3 (qf_ 0 0) rfl ?_
   refine A3 ql_ rfl ?_
   refine A3 (qf_ 2 2) rfl ?_
   refine A3 ql_ rfl ?_
   refine A4 rfl (B3 (Mc := M66) (R := _) (aS rfl (aS rfl (aS rfl (a0)))) kR qP (A60 cb vh r.sks hk hn A M66 _ hSt qS (by have := hr.sks; omega) hh) rfl ?_)
   rintro v62 M62 J62 ⟨rfl, hSt2⟩
   obtain ⟨u5, rows5, BS5, rfl, hs5, hw5⟩ := hSt2.ex
   have hrd5 := hs5.rd (R := BS5) fun _ h => h
   refine A0 (E0 10 16 18) ?_
   refine V7 (B := (cb, blk [u5] 153) :: BS5) qP ?_
   refine A1 ?_
   refine A3 (qw_ 9) rfl ?_
   refine mv_ ?_
   refine A4 rfl (A9 (vs := [vo, vt, vr, vk, (vU r.sn), vl, (vU r.tn), (vU r.prev), (vP cb)]) rfl rfl rfl kR qR (A2 hr.own.one (A2 hr.their.one (A2 hr.root.one (A2 hr.sk.one (A2 rfl (A2 hr.tk.one al3)))))) UpC.upd ?_)
   refine as_ (as_ (A0 (E0 10 11 12) (A8 (tr ?_))))
   rw [B0T hgk hot]
   exact ⟨_, MP, [], A0O (n := 9) rfl rfl rfl rfl kR At.mem qR, Fit.none (Fit.last qP), _, u48, rfl, hP, ⟨vo, vt, vr, vk, vl, _, rfl, ⟨hr.own.mono qS, hr.their.mono qS, hr.root.mono qS, hr.sk.mono qS, hr.tk.mono qS, ⟨cb, u5, rows5, rfl, by simp, hrd5.mono qS, hw5.mono skT qS⟩, hr.sn, hr.tn, hr.prev, Nat.le_trans (A4D _ _ _) hr.sks⟩⟩, h48.mono qS⟩
 ·
  have hgn : A2G r.sks hk hn = none := by simpa using hc
  refine A5 (nx (I8 0 4 6 8 10 13) (A1 ?_))
  refine A3 (qw_ 9) rfl ?_
  refine E4 (aS rfl a0) kR (FnX.amb qS (A3U r vo vt vr vk vl _ A hr)) rfl ?_
  rintro v66 M66 J66 ⟨cb, rfl, hSt⟩
  unfold rsC
  refine A4 rfl (C5 (cs := [vS, vS, vS, vS, D3, vS, D3, D3, .pointer none]) kR rfl fun b19 => ?_)
  refine A4 rfl (A9 (vs := [vo, vt, vr, vk, (vU r.sn), vl, (vU r.tn), (vU r.prev), (vP cb)]) rfl rfl rfl kR qR (A2 hr.own.one (A2 hr.their.one (A2 hr.root.one (A2 hr.sk.one (A2 rfl (A2 hr.tk.one al3)))))) UpC.upd ?_)
  refine A0 (R8 0 4 6 8 10 13 19) ?_
  refine N7 (α := Mem) (fun _ => [(0, (vP pb)), (4, vg), (6, (vP b6)), (8, (vP b8)), (10, (vP b10)), (13, v31), (19, (vP b19)), (20, .bool (A0T r hk))]) (fun _ => [(b19, blk [vo, vt, vr, vk, (vU r.sn), vl, (vU r.tn), (vU r.prev), (vP cb)] 38), (b10, blk [vS, vS, vS, vS, .int .u32 0, vS, .int .u32 0, .int .u32 0, .pointer none] 38), (b8, blk [vh, (vU hp), (vU hn)] 59), (b6, blk [vo, vt, vr, vk, (vU r.sn), vl, (vU r.tn), (vU r.prev), (vP sb)] 38)] ++ (MP ++ M66)) (fun J => J) (fun J => By (J ++ A) v31 (alW w hk hp hn)) ?_ ?_
  ·
   refine C8 ?_
   refine A3 (qf_ 0 0) rfl ?_
   refine A3 ql_ rfl ?_
   refine A3 (qf_ 1 1) rfl ?_
   refine A3 ql_ rfl ?_
   refine D6 (aS rfl (aS rfl a0)) kR (S7 vh vt hk r.their _ (hh.mono qS) (hr.their.mono qS)) rfl ?_
   refine A3 (P2 rfl) rfl ?_
   refine mv_ ?_
   refine P8 (t := 73) rfl (fun hb => ?_) (fun hb => ?_)
   ·
    refine H2 rfl rfl rfl rfl ?_
    refine H2 rfl rfl rfl rfl ?_
    refine H2 rfl rfl rfl rfl ?_
    refine H2 rfl rfl rfl rfl ?_
    refine H2 rfl rfl rfl rfl ?_
    refine A3 (E6 rfl rfl) rfl ?_
    refine as_ (E3 ?_)
    exact jn _ (h31.mono qS) (kq 0 (kq 4 (kq 6 (kq 8 (kq 10 (kq 13 (kq 19 (kp 20 (by unfold A0T; rw [hb]; rfl) kn)))))))) (Fit.pick (B := [(b19, blk [vo, vt, vr, vk, (vU r.sn), vl, (vU r.tn), (vU r.prev), (vP cb)] 38)]) qP (Fit.pick (B := [(b10, blk [vS, vS, vS, vS, .int .u32 0, vS, .int .u32 0, .int .u32 0, .pointer none] 38)]) qP (Fit.pick (B := [(b8, blk [vh, (vU hp), (vU hn)] 59)]) qP (Fit.pick (B := [(b6, blk [vo, vt, vr, vk, (vU r.sn), vl, (vU r.tn), (vU r.prev), (vP sb)] 38)]) qP (Fit.pick (B := MP) qP (Fit.last qP)))))) qI
   ·
    refine C6 rfl rfl (OpQ.opL (qf_ 5 5) rfl ?_)
    refine C6 rfl rfl (OpQ.opL (qf_ 5 0) rfl ?_)
    refine C6 rfl rfl (OpQ.opL ql_ rfl ?_)
    refine C6 rfl rfl (OpQ.opL (E5 (sz := 1) rfl kR hr.tk.rd) rfl ?_)
    refine C6 rfl rfl (OpQ.opL (E9 rfl rfl rfl) rfl ?_)
    refine A3 (D1 rfl rfl) rfl ?_
    refine as_ (E3 ?_)
    exact jn _ (h31.mono qS) (kq 0 (kq 4 (kq 6 (kq 8 (kq 10 (kq 13 (kq 19 (kp 20 (by unfold A0T; rw [hb, Bool.false_or, ← len0]; rfl) kn)))))))) (Fit.pick (B := [(b19, blk [vo, vt, vr, vk, (vU r.sn), vl, (vU r.tn), (vU r.prev), (vP cb)] 38)]) qP (Fit.pick (B := [(b10, blk [vS, vS, vS, vS, .int .u32 0, vS, .int .u32 0, .int .u32 0, .pointer none] 38)]) qP (Fit.pick (B := [(b8, blk [vh, (vU hp), (vU hn)] 59)]) qP (Fit.pick (B := [(b6, blk [vo, vt, vr, vk, (vU r.sn), vl, (vU r.tn), (vU r.prev), (vP sb)] 38)]) qP (Fit.pick (B := MP) qP (Fit.last qP)))))) qI
  ·
   rintro J12 h31
   try dsimp only at h31 ⊢
   haveI := h31.cel
   have hab := B2B s r hp hr.tn hhp hr.sks
   obtain ⟨x, hx0⟩ : ∃ z, opB s r hk hp = z := ⟨_, rfl⟩
   refine N7 (α := Mem × Mem × Mem × Value × Value × Value) (fun y => [(0, (vP pb)), (4, vg), (6, (vP b6)), (8, (vP b8)), (10, (vP b10)), (13, v31), (19, (vP b19)), (20, .bool (A0T r hk))]) (fun y => [(b19, blk [vo, y.2.2.2.1, y.2.2.2.2.1, vk, (vU r.sn), y.2.2.2.2.2, (vU x.2.tn), (vU r.prev), (vP cb)] 38), (b10, blk [vS, vS, vS, vS, .int .u32 0, vS, .int .u32 0, .int .u32 0, .pointer none] 38), (b8, blk [vh, (vU hp), (vU hn)] 59), (b6, blk [vo, vt, vr, vk, (vU r.sn), vl, (vU r.tn), (vU r.prev), (vP sb)] 38)] ++ (y.1 ++ y.2.1)) (fun y => y.2.2.1) (fun y => Prm pb x.1 y.1 ∧ Sto (y.2.2.1 ++ A) cb x.2.sks y.2.1 ∧ By (y.2.2.1 ++ A) y.2.2.2.1 x.2.their ∧ By (y.2.2.1 ++ A) y.2.2.2.2.1 x.2.root ∧ By (y.2.2.1 ++ A) y.2.2.2.2.2 x.2.tk ∧ By (y.2.2.1 ++ A) v31 (alW w hk hp hn) ∧ (A0T r hk = true → A7c r hp = 0)) ?_ ?_
   ·
    refine A1 (mv_ (A0 (A3u 0 4 6 8 10 13 19 20 80) ?_))
    refine C1 rfl ?_ ?_ <;> intro hc
    ·
     have hfr : A0T r hk = true := hc
     refine N7 (α := Mem × Mem × Mem × Value) (fun y => [(0, (vP pb)), (4, vg), (6, (vP b6)), (8, (vP b8)), (10, (vP b10)), (13, v31), (19, (vP b19)), (20, .bool (A0T r hk))]) (fun y => [(b19, blk [vo, vt, vr, vk, (vU r.sn), y.2.2.2, .int .u32 (((opA s r hp).2.2.1 : Nat) : Int), (vU r.prev), (vP cb)] 38), (b10, blk [vS, vS, vS, vS, .int .u32 0, vS, .int .u32 0, .int .u32 0, .pointer none] 38), (b8, blk [vh, (vU hp), (vU hn)] 59), (b6, blk [vo, vt, vr, vk, (vU r.sn), vl, (vU r.tn), (vU r.prev), (vP sb)] 38)] ++ (y.1 ++ y.2.1)) (fun y => y.2.2.1) (fun y => Prm pb (opA s r hp).1 y.1 ∧ Sto (y.2.2.1 ++ A) cb (opA s r hp).2.2.2 y.2.1 ∧ By (y.2.2.1 ++ A) y.2.2.2 (opA s r hp).2.1 ∧ By (y.2.2.1 ++ A) v31 (alW w hk hp hn) ∧ A7c r hp = 0) ?_ ?_
     ·
      refine A1 ?_
      refine A3 (qf_ 5 5) rfl ?_
      refine A3 (qf_ 5 0) rfl ?_
      refine A3 ql_ rfl ?_
      refine A3 (E5 (sz := 1) rfl kR hr.tk.rd) rfl ?_
      refine A3 (E9 rfl rfl rfl) rfl ?_
      refine A0 (A3u 0 4 6 8 10 13 19 20 85) ?_
      refine C1 rfl ?_ ?_ <;> intro hc
      ·
       have htk : r.tk ≠ [] := by intro e; rw [e] at hc; simp [G4] at hc
       rw [A7d htk, A2A htk] at *
       refine A1 (mv_ ?_)
       refine A3 (qf_ 5 5) rfl ?_
       refine A3 (A1i (n := 2) rfl kR (by first | exact At.mem | exact mA (by assumption)) TakeC.take) rfl ?_
       refine A3 (qf_ 1 1) rfl ?_
       refine A3 ql_ rfl ?_
       refine A3 (qf_ 1 1) rfl ?_
       refine A3 ql_ rfl ?_
       refine A3 (qf_ 8 8) rfl ?_
       refine A3 ql_ rfl ?_
       refine A4 rfl (B3 (Mc := MP ++ M66) (R := _) (aS rfl (aS rfl (aS rfl (aS rfl (aS rfl (a0)))))) kR qP (A7b pb cb s vl vt r.tk r.their r.tn hp r.sks A MP M66 _ hP hSt qS hr.tk hr.their hr.sks hhp qO hG.up) rfl ?_)
       rintro v96 M96 J96 ⟨MP1, MS1, ka, rfl, rfl, hP1, hSt1, ka_⟩
       haveI := ka_.cel
       refine mv_ ?_
       refine A3 (U6 rfl) rfl ?_
       refine A3 (U0 rfl) rfl ?_
       refine A4 rfl (C5 (cs := [vS, .int .u32 0]) kR rfl fun b21 => ?_)
       refine A4 rfl (A9 (vs := [ka, .int .u32 (((ahX s r.tk r.tn hp r.their r.sks).2.2.1 : Nat) : Int)]) rfl rfl rfl kR qR (A2 ka_.one (A2 rfl G9)) UpC.upd ?_)
       refine as_ (A0 (kq 0 (A3u 4 6 8 10 13 19 20 21 22)) (A6 (A1 (mv_ ?_))))
       refine A3 (E9 rfl rfl rfl) rfl ?_
       refine A0 (kq 0 (kq 4 (A3u 6 8 10 13 19 20 21 22 100))) ?_
       refine C1 rfl ?_ ?_ <;> intro hc
       ·
        have hE : ahE r.tn hp ≠ 0 := by intro e; rw [e] at hc; simp [G4] at hc
        refine A1 ?_
        refine A3 (qw_ 9) rfl ?_
        refine mv_ ?_
        refine A4 rfl (A9 (vs := [vo, vt, vr, vk, (vU r.sn), vl, (vU r.tn), (vU r.prev), (vP sb)]) rfl rfl rfl kR qR (A2 hr.own.one (A2 hr.their.one (A2 hr.root.one (A2 hr.sk.one (A2 rfl (A2 hr.tk.one al3)))))) UpC.upd ?_)
        refine as_ (as_ (A0 (E0 10 11 12) (A8 (tr (jr (jr ?_))))))
        rw [B0U hgn hfr (by rw [A2A htk]; exact hE), A2A htk, A7d htk]
        exact ⟨_, MP1, [], A0O (n := 9) rfl rfl rfl rfl kR At.mem qR, Fit.none (Fit.last qP), _, _, rfl, hP1, ⟨vo, vt, vr, vk, vl, _, rfl, hr.mono qS⟩, By.nil⟩
       ·
        have hE : ahE r.tn hp = 0 := by simpa [G4] using hc
        refine A5 (nx (A3u 0 4 6 8 10 13 19 20 21) (C8 ?_))
        refine A3 (qw_ 2) rfl ?_
        refine A3 (qf_ 5 5) rfl ?_
        refine A4 rfl (I1 (vs := [ka, .int .u32 (((ahX s r.tk r.tn hp r.their r.sks).2.2.1 : Nat) : Int)]) (cs' := [vo, vt, vr, vk, (vU r.sn), ka, .int .u32 (((ahX s r.tk r.tn hp r.their r.sks).2.2.1 : Nat) : Int), (vU r.prev), (vP cb)]) rfl rfl rfl kR (by exact (show 5 + 2 ≤ 9 by decide)) (A2 ka_.one (A2 rfl G9)) rfl UpC.upd ?_)
        refine E3 ?_
        exact jn (MP1, MS1, J96 ++ J12, ka) ⟨hP1, hSt1.mono qS, ka_.mono qS, h31.mono qS, hE⟩ (A0e 0 4 6 8 10 13 19 20) (Fit.pick (B := [(b19, blk [vo, vt, vr, vk, (vU r.sn), ka, .int .u32 (((ahX s r.tk r.tn hp r.their r.sks).2.2.1 : Nat) : Int), (vU r.prev), (vP cb)] 38)]) qP (Fit.pick (B := [(b10, blk [vS, vS, vS, vS, .int .u32 0, vS, .int .u32 0, .int .u32 0, .pointer none] 38)]) qP (Fit.pick (B := [(b8, blk [vh, (vU hp), (vU hn)] 59)]) qP (Fit.pick (B := [(b6, blk [vo, vt, vr, vk, (vU r.sn), vl, (vU r.tn), (vU r.prev), (vP sb)] 38)]) qP (Fit.pick (B := MP1) qP (Fit.last qP)))))) qI
      ·
       have htk : r.tk = [] := by cases hq : r.tk with | nil => rfl | cons a l => rw [hq] at hc; simp [G4] at hc
       refine A5 ?_
       rw [B2A htk, B0V htk]
       exact jn (MP, M66, J12, vl) ⟨hP, hSt.mono qS, hr.tk.mono qS, h31, rfl⟩ (A0e 0 4 6 8 10 13 19 20) (Fit.pick (B := [(b19, blk [vo, vt, vr, vk, (vU r.sn), vl, (vU r.tn), (vU r.prev), (vP cb)] 38)]) qP (Fit.pick (B := [(b10, blk [vS, vS, vS, vS, .int .u32 0, vS, .int .u32 0, .int .u32 0, .pointer none] 38)]) qP (Fit.pick (B := [(b8, blk [vh, (vU hp), (vU hn)] 59)]) qP (Fit.pick (B := [(b6, blk [vo, vt, vr, vk, (vU r.sn), vl, (vU r.tn), (vU r.prev), (vP sb)] 38)]) qP (Fit.pick (B := MP) qP (Fit.last qP)))))) qI
     ·
      rintro ⟨MP1, MS1, J18, ka⟩ ⟨hP1, hSt1, ka_, h31, hAE⟩
      dsimp only at hP1 hSt1 ka_ h31 ⊢
      haveI := h31.cel
      haveI := ka_.cel
      obtain ⟨xa, hxa⟩ : ∃ z, opA s r hp = z := ⟨_, rfl⟩
      rw [hxa] at hP1 hSt1 ka_ hab ⊢
      have htl := A4G xa.1 r.root r.own hk
      refine A1 (mv_ ?_)
      refine A3 (qf_ 2 2) rfl ?_
      refine A3 ql_ rfl ?_
      refine A3 (qf_ 0 0) rfl ?_
      refine A3 ql_ rfl ?_
      refine A3 (qf_ 0 0) rfl ?_
      refine A3 ql_ rfl ?_
      refine A4 rfl (B3 (Mc := MP1) (R := _) (aS rfl (aS rfl (aS rfl (aS rfl (a0))))) kR qP (A64 pb xa.1 vr vo vh r.root r.own hk MP1 _ hP1 qO (hr.root.mono qS) (hr.own.mono qS) (hh.mono qS) hG.up) rfl ?_)
      rintro v113 M113 J113 ⟨y0, y1, rfl, hP113, gy0, gy1⟩
      haveI := gy0.cel
      haveI := gy1.cel
      refine mv_ ?_
      refine A3 (U6 rfl) rfl ?_
      refine A3 (U0 rfl) rfl ?_
      refine A3 (qf_ 2 2) rfl ?_
      refine A4 rfl (F0 rfl rfl gy0.one kR SetC.set UpC.upd ?_)
      refine A3 (qf_ 5 5) rfl ?_
      refine A4 rfl (I1 (vs := [y1, (vU 0)]) (cs' := [vo, vt, y0, vk, (vU r.sn), y1, (vU 0), (vU r.prev), (vP cb)]) rfl rfl rfl kR (by exact (show 5 + 2 ≤ 9 by decide)) (A2 gy1.one (A2 rfl G9)) rfl UpC.upd ?_)
      refine A0 (A0e 0 4 6 8 10 13 19 20) (C8 ?_)
      refine A3 (qf_ 0 0) rfl ?_
      refine A3 ql_ rfl ?_
      refine E4 (aS rfl a0) kR (K2 vh hk _ (hh.mono qS)) rfl ?_
      rintro v120 M120 J120 ⟨rfl, h120⟩
      haveI := h120.cel
      refine A3 (qf_ 1 1) rfl ?_
      refine A4 rfl (F0 rfl rfl h120.one kR SetC.set UpC.upd ?_)
      refine E3 ?_
      have e : x = B3z xa r hk := by rw [← hx0, B2y hfr, hxa]
      rw [e]
      exact jn (M113, MS1, J120 ++ (J113 ++ J18), v120, y0, y1) ⟨hP113, hSt1.mono qS, h120.mono qS, gy0.mono qS, gy1.mono qS, h31.mono qS, fun _ => hAE⟩ (A0e 0 4 6 8 10 13 19 20) (Fit.pick (B := [(b19, blk [vo, v120, y0, vk, (vU r.sn), y1, (vU 0), (vU r.prev), (vP cb)] 38)]) qP (Fit.pick (B := [(b10, blk [vS, vS, vS, vS, .int .u32 0, vS, .int .u32 0, .int .u32 0, .pointer none] 38)]) qP (Fit.pick (B := [(b8, blk [vh, (vU hp), (vU hn)] 59)]) qP (Fit.pick (B := [(b6, blk [vo, vt, vr, vk, (vU r.sn), vl, (vU r.tn), (vU r.prev), (vP sb)] 38)]) qP (Fit.pick (B := M113) qP (Fit.last qP)))))) qI
    ·
     have hfr : A0T r hk = false := hc
     refine A5 ?_
     have e : x = (s, r) := by rw [← hx0, B2z hfr]
     rw [e]
     exact jn (MP, M66, J12, vt, vr, vl) ⟨hP, hSt.mono qS, hr.their.mono qS, hr.root.mono qS, hr.tk.mono qS, h31, fun h => by rw [hfr] at h; cases h⟩ (A0e 0 4 6 8 10 13 19 20) (Fit.pick (B := [(b19, blk [vo, vt, vr, vk, (vU r.sn), vl, (vU r.tn), (vU r.prev), (vP cb)] 38)]) qP (Fit.pick (B := [(b10, blk [vS, vS, vS, vS, .int .u32 0, vS, .int .u32 0, .int .u32 0, .pointer none] 38)]) qP (Fit.pick (B := [(b8, blk [vh, (vU hp), (vU hn)] 59)]) qP (Fit.pick (B := [(b6, blk [vo, vt, vr, vk, (vU r.sn), vl, (vU r.tn), (vU r.prev), (vP sb)] 38)]) qP (Fit.pick (B := MP) qP (Fit.last qP)))))) qI
   ·
    have hxb : x.1.ts.length ≤ s.ts.length + 55 ∧ x.1.n = s.n ∧ x.2.tn < 4294967296 ∧ x.2.sks.length ≤ 1000 := by
     have hab := B2B s r hp hr.tn hhp hr.sks
     have htl := A4G (opA s r hp).1 r.root r.own hk
     cases hf : A0T r hk with
     | true => rw [← hx0, B2y hf]; exact ⟨by show (A9z _ _ _ _).ts.length ≤ _; omega, htl.2.trans hab.2.1, (show 0 < 4294967296 by decide), hab.2.2.2⟩
     | false => rw [← hx0, B2z hf]; exact ⟨Nat.le_add_right _ _, rfl, hr.tn, hr.sks⟩
    have hcb := B2w x.1 x.2.tk x.2.tn hn x.2.their x.2.sks hxb.2.2.1 hhn hxb.2.2.2
    change (opC x hn).1.ts.length ≤ _ ∧ (opC x hn).1.n = _ ∧ (opC x hn).2.2.1 < _ ∧ (opC x hn).2.2.2.length ≤ _ at hcb
    have hsl := A1G (opC x hn).1 (opC x hn).2.1
    change (opD x hn).ts.length ≤ _ ∧ (opD x hn).n = _ ∧ _ at hsl
    have hfl := A63 (opD x hn)
    rintro ⟨MP2, MS2, J20, zt, zr, zk⟩ ⟨hP2, hSt2, zt_, zr_, zk_, h31, hF0⟩
    dsimp only at hP2 hSt2 zt_ zr_ zk_ h31 ⊢
    haveI := h31.cel
    haveI := zt_.cel
    haveI := zr_.cel
    haveI := zk_.cel
    refine A1 (mv_ ?_)
    refine A3 (qf_ 5 5) rfl ?_
    refine A3 (A1i (n := 2) rfl kR (by first | exact At.mem | exact mA (by assumption)) TakeC.take) rfl ?_
    refine A3 (qf_ 1 1) rfl ?_
    refine A3 ql_ rfl ?_
    refine A3 (qf_ 2 2) rfl ?_
    refine A3 ql_ rfl ?_
    refine A3 (qf_ 8 8) rfl ?_
    refine A3 ql_ rfl ?_
    refine A4 rfl (B3 (Mc := MP2 ++ MS2) (R := _) (aS rfl (aS rfl (aS rfl (aS rfl (aS rfl (a0)))))) kR qP (A7b pb cb x.1 zk zt x.2.tk x.2.their x.2.tn hn x.2.sks (J20 ++ A) MP2 MS2 _ hP2 hSt2 qS zk_ zt_ hxb.2.2.2 hhn qO hG.up) rfl ?_)
    rintro v132 M132 J132 ⟨MP3, MS3, kv, rfl, rfl, hP3, hSt3, gkv⟩
    haveI := gkv.cel
    change Prm pb (opC x hn).1 MP3 at hP3
    change Sto _ cb (opC x hn).2.2.2 MS3 at hSt3
    change By _ kv (opC x hn).2.1 at gkv
    change XL _ _ _ _ ((132, .tuple #[.agg #[kv, .int .u32 (((opC x hn).2.2.1 : Nat) : Int)], .int .i64 (ahE x.2.tn hn)]) :: _) _ _
    refine mv_ ?_
    refine A3 (U6 rfl) rfl ?_
    refine A3 (U0 rfl) rfl ?_
    refine A4 rfl (C5 (cs := [vS, .int .u32 0]) kR rfl fun b23 => ?_)
    refine A4 rfl (A9 (vs := [kv, .int .u32 (((opC x hn).2.2.1 : Nat) : Int)]) rfl rfl rfl kR qR (A2 gkv.one (A2 rfl G9)) UpC.upd ?_)
    refine as_ (A0 (A3u 0 4 6 10 13 19 20 23 24) (A6 (A1 (mv_ ?_))))
    refine A3 (E9 rfl rfl rfl) rfl ?_
    refine A0 (kq 0 (A3u 4 6 10 13 19 20 23 24 136)) ?_
    refine C1 rfl ?_ ?_ <;> intro hc
    ·
     have hE2 : ahE x.2.tn hn ≠ 0 := by intro e; rw [e] at hc; simp [G4] at hc
     refine A1 ?_
     refine A3 (qw_ 9) rfl ?_
     refine mv_ ?_
     refine A4 rfl (A9 (vs := [vo, vt, vr, vk, (vU r.sn), vl, (vU r.tn), (vU r.prev), (vP sb)]) rfl rfl rfl kR qR (A2 hr.own.one (A2 hr.their.one (A2 hr.root.one (A2 hr.sk.one (A2 rfl (A2 hr.tk.one al3)))))) UpC.upd ?_)
     refine as_ (as_ (A0 (E0 10 11 12) (A8 (tr ?_))))
     rw [oR_n hgn hx0 hF0 hE2]
     exact ⟨_, MP3, [], A0O (n := 9) rfl rfl rfl rfl kR At.mem qR, Fit.none (Fit.last qP), _, _, rfl, hP3, ⟨vo, vt, vr, vk, vl, _, rfl, hr.mono qS⟩, By.nil⟩
    ·
     have hE2 : ahE x.2.tn hn = 0 := by simpa [G4] using hc
     refine A5 (nx (A0e 0 4 6 10 13 19 20 23) (A1 (mv_ ?_)))
     refine A3 (qw_ 2) rfl ?_
     refine A4 rfl (B3 (Mc := MP3) (R := _) (aS rfl (aS rfl (a0))) kR qP (A1C pb (opC x hn).1 kv (opC x hn).2.1 (opC x hn).2.2.1 MP3 _ hP3 (gkv.mono qS) qO hG.up) rfl ?_)
     rintro v142 M142 J142 ⟨k1, k2, rfl, hP142, gk1, gk2⟩
     haveI := gk1.cel
     haveI := gk2.cel
     change Prm pb (opD x hn) M142 at hP142
     change By _ k1 (A7x x hn) at gk1
     refine mv_ ?_
     refine A3 (U6 rfl) rfl ?_
     refine A3 (U0 rfl) rfl ?_
     refine A4 rfl (C5 (cs := [vS, .int .u32 0]) kR rfl fun b26 => ?_)
     refine as_ ?_
     refine A4 rfl (A9 (vs := [k2, .int .u32 ((((opC x hn).2.2.1 + 1) % 4294967296 : Nat) : Int)]) rfl rfl rfl kR qR (A2 gk2.one (A2 rfl G9)) UpC.upd ?_)
     refine A0 (A3u 0 4 6 10 13 19 20 25 26) (A1 (mv_ (mv_ (mv_ (mv_ ?_)))))
     refine E4 (aS rfl (aS rfl (aS rfl (aS rfl a0)))) kR (A68 pb (opD x hn) k1 v31 vg (A7x x hn) (alW w hk hp hn) g M142 _ hP142 (by intro x hx; simp [hx]) qO (hx0 ▸ hS2) (gk1.mono qS) (h31.mono qS) (hg.mono qS) (hx0 ▸ hK2) qO hG.up) rfl ?_
     rintro v150 M150 J150 ⟨rfl, u150, rfl, h150⟩
     haveI := h150.cel
     refine mv_ ?_
     refine A3 (U6 rfl) rfl ?_
     refine A3 (U0 rfl) rfl ?_
     refine as_ (as_ (A0 (A0e 0 6 10 19 20 26 27 28) (A6 (A1 (mv_ ?_)))))
     refine A3 (P2 rfl) rfl ?_
     refine A0 (A0e 0 6 10 19 20 26 27 154) ?_
     refine C1 rfl ?_ ?_ <;> intro hc
     ·
      have hno : A1F (opD x hn) (A7x x hn) (alW w hk hp hn) g = none := by simpa using hc
      refine A1 ?_
      refine A3 (qw_ 9) rfl ?_
      refine A4 rfl (A9 (vs := [vo, vt, vr, vk, (vU r.sn), vl, (vU r.tn), (vU r.prev), (vP sb)]) rfl rfl rfl kR qR (A2 hr.own.one (A2 hr.their.one (A2 hr.root.one (A2 hr.sk.one (A2 rfl (A2 hr.tk.one al3)))))) UpC.upd ?_)
      refine as_ (as_ (A0 (E0 10 11 12) (A8 (tr ?_))))
      rw [B3A hgn hx0 hF0 hE2 hno]
      exact ⟨_, M142, [], A0O (n := 9) rfl rfl rfl rfl kR At.mem qR, Fit.none (Fit.last qP), _, _, rfl, hP142, ⟨vo, vt, vr, vk, vl, _, rfl, hr.mono qS⟩, By.nil⟩
     ·
      obtain ⟨t, hot⟩ : ∃ t, A1F (opD x hn) (A7x x hn) (alW w hk hp hn) g = some t := by
       cases hq : A1F (opD x hn) (A7x x hn) (alW w hk hp hn) g with
       | none => rw [hq] at hc; cases hc
       | some t => exact ⟨t, rfl⟩
      rw [hot, Option.getD_some] at h150
      refine A5 (nx (I8 0 10 19 20 26 27) (A1 ?_))
      refine A3 (qw_ 2) rfl ?_
      refine A3 (qf_ 5 5) rfl ?_
      refine A4 rfl (I1 (vs := [k2, .int .u32 ((((opC x hn).2.2.1 + 1) % 4294967296 : Nat) : Int)]) (cs' := [vo, zt, zr, vk, (vU r.sn), k2, .int .u32 ((((opC x hn).2.2.1 + 1) % 4294967296 : Nat) : Int), (vU r.prev), (vP cb)]) rfl rfl rfl kR (by exact (show 5 + 2 ≤ 9 by decide)) (A2 gk2.one (A2 rfl G9)) rfl UpC.upd ?_)
      refine A0 (H5 0 10 19 20 27) (A6 (A1 (mv_ (A0 (H5 0 10 19 27 158) ?_))))
      refine C1 rfl ?_ ?_ <;> intro hc
      ·
       have hf : A0T r hk = true := hc
       refine D9 (M142) (_) true [0, 1, 2, 3, 4, 5, 7] [(0, 0), (1, 0), (2, 1), (3, 0), (5, 0), (4, 2), (6, 2), (7, 0), (8, 2)] kR kR qP fun hs K n0 hKm hKs hKn => ?_
       refine E2 hs rfl (qf_ 3 3) rfl ?_
       refine E2 hs rfl (qf_ 4 1) rfl ?_
       refine H4 hs rfl hKs ql_ ?_
       refine km_ hs ?_
       refine E2 hs rfl (qf_ 7 7) rfl ?_
       refine F5 _ _ rfl rfl (List.Perm.refl _) hKm fun w0 => (B3 (Mc := M142) (R := _) (aS rfl (a0)) kR qP (P6 pb (opD x hn) M142 _ hP142 qO qO hG.up) rfl ?_)
       rintro v163 M163 J163 ⟨hP163, h163⟩ hKx163
       haveI := h163.cel
       refine I4 rfl rfl rfl (F0 rfl rfl rfl kR SetC.set UpC.upd ?_)
       refine E2 hs rfl (qf_ 0 0) rfl ?_
       refine I4 rfl rfl rfl (F0 rfl rfl h163.one kR SetC.set UpC.upd ?_)
       refine G2 (F2 0 10 19 27) (C8 (mv_ ?_))
       refine A3 (qf_ 2 2) rfl ?_
       refine A3 ql_ rfl ?_
       refine A3 (qf_ 0 0) rfl ?_
       refine A3 ql_ rfl ?_
       refine A3 (qf_ 1 1) rfl ?_
       refine A3 ql_ rfl ?_
       refine A4 rfl (B3 (Mc := M163) (R := _) (aS rfl (aS rfl (aS rfl (aS rfl (a0))))) kR qP (A64 pb (D8 (opD x hn)) zr v163 zt x.2.root (E1 (opD x hn)) x.2.their M163 _ hP163 qO (zr_.mono qS) (h163.mono qS) (zt_.mono qS) hG.up) rfl ?_)
       rintro v174 M174 J174 ⟨c0, c1, rfl, hP174, gc0, gc1⟩
       haveI := gc0.cel
       haveI := gc1.cel
       refine mv_ ?_
       refine A3 (U6 rfl) rfl ?_
       refine A3 (U0 rfl) rfl ?_
       refine A3 (qf_ 2 2) rfl ?_
       refine A4 rfl (F0 rfl rfl gc0.one kR SetC.set UpC.upd ?_)
       refine A3 (qf_ 3 3) rfl ?_
       refine A4 rfl (I1 (vs := [c1, (vU 0)]) (cs' := [v163, zt, c0, c1, (vU 0), k2, .int .u32 ((((opC x hn).2.2.1 + 1) % 4294967296 : Nat) : Int), (vU r.sn), (vP cb)]) rfl rfl rfl kR (by exact (show 3 + 2 ≤ 9 by decide)) (A2 gc1.one (A2 rfl G9)) rfl UpC.upd ?_)
       refine A0 (E0 10 19 27) ?_
       obtain ⟨u5, rows5, BS5, rfl, hs5, hw5⟩ := hSt3.ex
       have hrd5 := hs5.rd (R := BS5) fun _ h => h
       refine V7 (B := (cb, blk [u5] 153) :: BS5) qP ?_
       refine A1 ?_
       refine A3 (qw_ 9) rfl ?_
       refine mv_ ?_
       refine A4 rfl (A9 (vs := [v163, zt, c0, c1, (vU 0), k2, .int .u32 ((((opC x hn).2.2.1 + 1) % 4294967296 : Nat) : Int), (vU r.sn), (vP cb)]) rfl rfl rfl kR qR (A2 h163.one (A2 zt_.one (A2 gc0.one (A2 gc1.one (A2 rfl (A2 gk2.one al3)))))) UpC.upd ?_)
       refine as_ (as_ (A0 (E0 10 11 12) (A8 ?_)))
       rw [A4K hgn hx0 hF0 hE2 hot, B3B hf]
       exact ⟨_, M174, [], A0O (n := 9) rfl rfl rfl rfl kR At.mem qR, Fit.none (Fit.last qP), _, u150, rfl, hP174, ⟨v163, zt, c0, c1, k2, _, rfl, ⟨h163.mono qS, zt_.mono qS, gc0.mono qS, gc1.mono qS, gk2.mono qS, ⟨cb, u5, rows5, rfl, by simp, hrd5.mono qS, hw5.mono skT qS⟩, (show 0 < 4294967296 by decide), Nat.mod_lt _ qD, hr.sn, hcb.2.2.2⟩⟩, h150.mono qS⟩
      ·
       have hf : A0T r hk = false := hc
       refine A5 (nx (E0 10 19 27) ?_)
       obtain ⟨u5, rows5, BS5, rfl, hs5, hw5⟩ := hSt3.ex
       have hrd5 := hs5.rd (R := BS5) fun _ h => h
       refine V7 (B := (cb, blk [u5] 153) :: BS5) qP ?_
       refine A1 ?_
       refine A3 (qw_ 9) rfl ?_
       refine mv_ ?_
       refine A4 rfl (A9 (vs := [vo, zt, zr, vk, (vU r.sn), k2, .int .u32 ((((opC x hn).2.2.1 + 1) % 4294967296 : Nat) : Int), (vU r.prev), (vP cb)]) rfl rfl rfl kR qR (A2 hr.own.one (A2 zt_.one (A2 zr_.one (A2 hr.sk.one (A2 rfl (A2 gk2.one al3)))))) UpC.upd ?_)
       refine as_ (as_ (A0 (E0 10 11 12) (A8 ?_)))
       rw [A4K hgn hx0 hF0 hE2 hot, B3C hf]
       exact ⟨_, M142, [], A0O (n := 9) rfl rfl rfl rfl kR At.mem qR, Fit.none (Fit.last qP), _, u150, rfl, hP142, ⟨vo, zt, zr, vk, k2, _, rfl, ⟨hr.own.mono qS, zt_.mono qS, zr_.mono qS, hr.sk.mono qS, gk2.mono qS, ⟨cb, u5, rows5, rfl, by simp, hrd5.mono qS, hw5.mono skT qS⟩, hr.sn, Nat.mod_lt _ qD, hr.prev, hcb.2.2.2⟩⟩, h150.mono qS⟩

theorem StF.cel {R : Mem} {v : Value} {sks : List Skp} (h : StF R v sks) : Cel v [v] := by obtain ⟨sb, u, rows, rfl, _⟩ := h; infer_instance
def B0X : LN := [115, 101, 115, 115, 105, 111, 110]
structure Ses where
  id : LN
  wi : LN
  he : He
  tell : Bool
  r : Rsd
def seC (vi vw p r u vo vt vr vk vl vs : Value) (x : Ses) : List Value := [vi, vw, p, r, u, (vU x.he.signed), .bool x.he.has, (vU x.he.once), .bool x.tell, vo, vt, vr, vk, (vU x.r.sn), vl, (vU x.r.tn), (vU x.r.prev), vs]
structure SeR (R : Mem) (x : Ses) (vi vw p r u vo vt vr vk vl vs : Value) : Prop where
  id : By R vi x.id
  wi : By R vw x.wi
  he : HeR R x.he p r u
  hil : x.he.ig.length ≤ 1000000
  r : RsR R x.r vo vt vr vk vl vs
theorem SeR.mono {R R' : Mem} {x : Ses} {vi vw p r u vo vt vr vk vl vs : Value} (h : SeR R x vi vw p r u vo vt vr vk vl vs) (hR : ∀ z, z ∈ R → z ∈ R') : SeR R' x vi vw p r u vo vt vr vk vl vs := ⟨h.id.mono hR, h.wi.mono hR, h.he.mono hR, h.hil, h.r.mono hR⟩
theorem A8L (v : Value) (w : LN) (A : Mem) (h : By A v w) : FnX Tryz.prog 40 [v] [] A fun r M J => Sl 1 r w.length (I2 .u8 w) M := by
 haveI := h.cel
 have hwl := h.len
 refine FnX.enterZ (N := 8) Tryz.func40 rfl rfl rfl fun w_ => ?_
 refine A7 (C9 0) (A1 (as_ (A0 (C9 0) (A6 (A1 (mv_ ?_))))))
 refine A3 (V4 (e := 5) rfl kR (by first | assumption | exact Sl.rd (by assumption) qI | exact By.rd (by assumption))) rfl ?_
 refine A0 (C7 0 4) ?_
 refine C1 rfl ?_ ?_ <;> intro hc
 ·
  have h0 := h.rd.isNil hc
  obtain rfl : w = [] := List.eq_nil_of_length_eq_zero h0
  refine A1 (as_ (A0 (C9 2) (A8 (tr ?_))))
  exact ⟨_, [], [], G5 rfl rfl, qZ, Sl.nil⟩
 ·
  refine A5 (nx (C9 0) (A1 ?_))
  refine A4 rfl (C0 (e := 5) (sz := 1) (z := []) kR e0 bd0 rfl fun b5 => ?_)
  refine mv_ ?_
  refine A4 rfl (F9 (e := 5) (sz := 1) (by_ := 1) rfl rfl kR rfl (Sl.fresh (n := 0) (cs := []) (e := 5) rfl qD) (h.rd.mono qS) T8 qP (by unfold maxLen; omega) qO rfl fun v7 B7 hs7 => ?_)
  refine as_ (A0 (C9 2) (A8 ?_))
  exact ⟨_, B7, [], G5 rfl rfl, Fit.none (Fit.last qP), A9N hs7 qO qM⟩
theorem A9C (pb : Nat) (s : Ps) (vw : Value) (w : LN) (h : He) (p r u : Value) (MP A : Mem) (hP : Prm pb s MP) (hn : s.ts.length ≤ 1040000) (hw : By A vw w) (gh : HeR A h p r u) (hil : h.ig.length ≤ 1000000) (hl : h.ia.length + h.ig.length + h.key.length ≤ 1000000) (hG : Glb A) : FnX Tryz.prog 38 [(vP pb), vw, .agg (heC p r u h).toArray] MP A fun q M J => Prm pb (A5f s [B0X, w, heW [] h]) M ∧ By J q (A3d s [B0X, w, heW [] h]) := by
 obtain ⟨bt, bm, hPT⟩ := hP.t
 haveI := hw.cel
 haveI := gh.ia.cel
 haveI := gh.ig.cel
 haveI := gh.key.cel
 unfold heC
 refine FnX.enterZ (N := 15) Tryz.func38 rfl rfl rfl fun w_ => ?_
 refine A7 (E0 0 1 2) (A1 ?_)
 refine A4 rfl (bx_ fun b5 => ?_)
 refine as_ (A0 (E0 0 1 5) (A1 (mv_ ?_)))
 refine A4 rfl (C0 (e := 5) (sz := 1) (z := [zu8, zu8, zu8, zu8, zu8, zu8, zu8]) kR (eS rfl (eS rfl (eS rfl (eS rfl (eS rfl (eS rfl (eS rfl e0))))))) (bdS 0 1 rfl qR (bdS 1 1 rfl qR (bdS 2 1 rfl qR (bdS 3 1 rfl qR (bdS 4 1 rfl qR (bdS 5 1 rfl qR (bdS 6 1 rfl qR bd0))))))) rfl fun b8 => ?_)
 refine A4 rfl (A5G rfl kR UpC.upd rfl ?_)
 refine A1t (B := [_]) (PickC.sing).perm ?_
 refine mv_ ?_
 refine A3 (D5 (n := 6) (vs := [p, r, u, (vU h.signed), .bool h.has, (vU h.once)]) rfl kR At.mem rfl (C2 [] [p, r, u, (vU h.signed), .bool h.has, (vU h.once)] [])) rfl ?_
 refine E4 (aS rfl a0) kR (B0I h p r u _ (gh.mono qS) qO) rfl ?_
 rintro v12 M12 J12 ⟨rfl, h12⟩
 haveI := h12.cel
 refine A4 rfl (C0 (e := 22) (sz := 1) (z := [vS, vS, vS]) kR (eS rfl (eS rfl (eS rfl e0))) (bdS 0 1 rfl qR (bdS 1 1 rfl qR (bdS 2 1 rfl qR bd0))) rfl fun b13 => ?_)
 refine A4 rfl (B3 (Mc := MP) (R := _) (aS rfl (aS rfl (a0))) kR qP (B2s pb bt bm s rfl _ [B0X, w, heW [] h] MP _ hPT qO ⟨_, Rd.whole (n := 3) At.mem qR, Lst.cons ⟨Rd.whole (n := 7) (cs := I2 .u8 B0X) At.mem qR, by decide, by decide⟩ (Lst.cons (hw.mono qS) (Lst.cons (h12.mono qS) Lst.nil))⟩ (show 3 ≤ 1000 by decide) (fun z hz => by simp only [List.mem_cons, List.not_mem_nil, or_false] at hz; rcases hz with rfl | rfl | rfl; decide; exact hw.lt; exact h12.lt) hG.up) rfl ?_)
 rintro v14 M14 J14 ⟨hP14, h14⟩
 haveI := h14.cel
 refine as_ (A0 (C9 6) (A8 ?_))
 exact ⟨_, M14, [], G5 rfl rfl, Fit.none (Fit.last qP), hP14.p, h14.mono qS⟩
theorem A2B (x : Ses) (vi vw p0 r0 u0 vo vt vr vk0 vl vst : Value) (e : Ev) (vs p r u vk vg : Value) (A : Mem) (hx : SeR A x vi vw p0 r0 u0 vo vt vr vk0 vl vst) (he_ : EvR A e vs p r u vk vg) (hwi : x.wi.length ≤ 1000000) (hl : e.ses.length + e.he.ia.length + e.he.ig.length + e.he.key.length ≤ 1000000) : FnX Tryz.prog 42 [.agg (seC vi vw p0 r0 u0 vo vt vr vk0 vl vst x).toArray, .agg (evC vs p r u vk vg e).toArray] [] A fun q M J => M = [] ∧ By J q (x.wi ++ frW [] e) := by
 haveI := he_.ses.cel
 haveI := he_.he.ia.cel
 haveI := he_.he.ig.cel
 haveI := he_.he.key.cel
 haveI := he_.hk.cel
 haveI := he_.g.cel
 haveI := hx.id.cel
 haveI := hx.wi.cel
 haveI := hx.he.ia.cel
 haveI := hx.he.ig.cel
 haveI := hx.he.key.cel
 haveI := hx.r.own.cel
 haveI := hx.r.their.cel
 haveI := hx.r.root.cel
 haveI := hx.r.sk.cel
 haveI := hx.r.tk.cel
 haveI := hx.r.st.cel
 unfold seC evC
 refine FnX.enterZ (N := 11) Tryz.func42 rfl rfl rfl fun w_ => ?_
 refine A7 (C7 0 1) (A1 ?_)
 refine A4 rfl (bx_ fun b2 => ?_)
 refine A4 rfl (bx_ fun b3 => ?_)
 refine as_ (A0 (C7 2 3) ?_)
 refine F4 [0, 1, 2, 3, 4, 6] [(0, 0), (1, 1), (3, 1), (2, 2), (4, 2), (5, 2), (6, 0)] kR kR fun hs => ?_
 refine D4 hs rfl (qf_ 1 1) rfl ?_
 refine S0 hs rfl ql_ rfl ?_
 refine S0 hs rfl (D5 (n := 16) (vs := [.int .i64 e.fu, .int .i64 e.fd, .int .i64 e.tu, .int .i64 e.td, vs, .bool e.has, p, r, u, (vU e.he.signed), .bool e.he.has, (vU e.he.once), vk, (vU e.hp), (vU e.hn), vg]) rfl kR At.mem rfl (C2 [] [.int .i64 e.fu, .int .i64 e.fd, .int .i64 e.tu, .int .i64 e.td, vs, .bool e.has, p, r, u, (vU e.he.signed), .bool e.he.has, (vU e.he.once), vk, (vU e.hp), (vU e.hn), vg] [])) rfl ?_
 refine A1e rfl (aS rfl a0) kR (A8L vw x.wi _ (hx.wi.mono qS)) rfl ?_
 rintro v7 M7 J7 hs7
 haveI := hs7.cel
 refine A1e rfl (aS rfl a0) kR (B0J e vs p r u vk vg _ (he_.mono qS) qO) rfl ?_
 rintro v9 M9 J9 ⟨rfl, h9⟩
 haveI := h9.cel
 have h9l := A6W [] e
 have hwl := hx.wi.len
 refine I3 rfl rfl rfl (F9 (e := 5) (sz := 1) (by_ := 1) rfl rfl kR rfl hs7 (h9.rd.mono qS) T8 qP (by unfold maxLen; simp at h9l; omega) (by simp at h9l; omega) rfl fun v10 B10 hs10 => ?_)
 haveI := hs10.cel
 refine fa_ hs ?_
 refine G8 (C9 4) (A8 ?_)
 exact ⟨_, [], B10, G5 rfl rfl, Fit.pick qP qZ, rfl, ⟨A3x (hs10.rd fun z hz => by simp [hz]) (by rw [List.length_append]) (by rw [Z6]), (fun z hz => (List.mem_append.1 hz).elim (hx.wi.lt z) (h9.lt z)), by rw [List.length_append]; simp at h9l; omega⟩⟩

structure OpnH (s : Ps) (r : Rsd) (hk : LN) (hp hn : Nat) : Prop where
  sel : X0 s.ts
  k1 : ∀ k, A2G r.sks hk hn = some k → Kok s k
  s2 : X0 (opD (opB s r hk hp) hn).ts
  k2 : Kok (opD (opB s r hk hp) hn) (A7x (opB s r hk hp) hn)
def K32 (w : LN) : Prop := (∀ x ∈ w, x < 256) ∧ w.length = 32
def KK (s : Ps) (w : LN) : Prop := Kok s w ∧ K32 w
structure GS (s : Ps) : Prop where
  tok : Tok s.ts
  sel : X0 s.ts
theorem KK.ext {s s' : Ps} {w : LN} (h : KK s w) (he : Pext s s') : KK s' w := ⟨h.1.ext he, h.2⟩
theorem KK.rok {s : Ps} {w : LN} (h : KK s w) : s.real = false → Rok s.ts w := h.1.rok
theorem X0.pub {s : Ps} (h : X0 s.ts) (w : LN) : X0 (H7 s w).ts := by
  unfold H7
  split
  · exact h
  · exact (h.rd w).not (show (3 : Nat) ≠ 6 by decide)
theorem B3D (ts : List Tm) (s o : Int) : (agT ts s o).kind = 4 := by
  unfold agT
  split <;> (try split) <;> (try split) <;> rfl
theorem X0.agr {s : Ps} (h : X0 s.ts) (a B : LN) : X0 (K0 s a B).ts := by
  unfold K0
  split
  · exact h
  · exact ((h.rd a).rd B).not (by rw [B3D]; decide)
def A8M (s : Ps) (key : LN) (ws : List (LN)) (lb : LN) (n : Nat) (L : List (LN)) : Prop := A3D s key ws lb n = s ∧ A4q s key ws lb n = L ∧ ∀ w ∈ key :: ws, KK s w
theorem A8M.ext {s s' : Ps} {key lb : LN} {ws : List (LN)} {n : Nat} {L : List (LN)} (h : A8M s key ws lb n L) (he : Pext s s') (hg : GS s) (hg' : GS s') (hb : B256 lb) (hbl : lb.length ≤ 1000) (hn : n ≤ 8) (hl : s'.ts.length + ws.length ≤ 1040000) : A8M s' key ws lb n L := by
  obtain ⟨l, e⟩ := he.ts
  have hle : s.ts.length ≤ s'.ts.length := by rw [e, List.length_append]; omega
  have hr : s.real = false → ∀ w ∈ key :: ws, Rok s.ts w := fun hr w hw => (h.2.2 w hw).rok hr
  obtain ⟨a, b⟩ := A6C hg.tok hr hb hbl (show n ≤ 100 by omega) qO (by rw [h.1]; exact he) hg'.tok qO
  exact ⟨a, b.trans h.2.1, fun w hw => (h.2.2 w hw).ext he⟩
theorem B0Y : B256 A3f := ⟨by decide⟩
theorem B0Z : B256 A2z := ⟨by decide⟩
structure TrnAt (s : Ps) (root a b R C : LN) : Prop where
  ex : ∃ k L, A25 s a b k ∧ A8M s root [k] A3f 2 L ∧ L.getD 0 [] = R ∧ L.getD 1 [] = C
theorem TrnAt.ext {s s' : Ps} {root a b R C : LN} (h : TrnAt s root a b R C) (he : Pext s s') (hg : GS s) (hg' : GS s') (hl : s'.ts.length ≤ 1030000) : TrnAt s' root a b R C := by
  obtain ⟨k, L, h1, h2, h3, h4⟩ := h.ex
  exact ⟨k, L, h1.ext he, h2.ext he hg hg' B0Y qD qD (by show _ + 1 ≤ _; omega), h3, h4⟩
def A9D (s : Ps) (c k c' : LN) : Prop := ∃ L, A8M s c [] A2z 2 L ∧ L.getD 0 [] = k ∧ L.getD 1 [] = c'
theorem A9D.ext {s s' : Ps} {c k c' : LN} (h : A9D s c k c') (he : Pext s s') (hg : GS s) (hg' : GS s') (hl : s'.ts.length ≤ 1030000) : A9D s' c k c' := by
  obtain ⟨L, h1, h2, h3⟩ := h
  exact ⟨L, h1.ext he hg hg' B0Z qD qD (by show _ + 0 ≤ _; omega), h2, h3⟩
end Go.Proofs.YtpemeceacdhacaaGreatDoor
