/- Part 19 of the texts of this claim, one behind the other. -/
import Derived.Test.YtlilcmjbaknafaaGreatDoorB18
set_option linter.unusedVariables false
set_option linter.unusedSimpArgs false
set_option maxRecDepth 100000
namespace Go.Proofs.YtlilcmjbaknafaaGreatDoor
open Go.Px
structure OpnH (s : Ps) (r : Rsd) (hk : LN) (hp hn : Nat) : Prop where
  sel : X3 s.ts
  k1 : ∀ k, A5M r.sks hk hn = some k → Kok s k
  s2 : X3 (opD (opB s r hk hp) hn).ts
  k2 : Kok (opD (opB s r hk hp) hn) (A9y (opB s r hk hp) hn)
theorem B5M {s : Ps} {r : Rsd} {w hk : LN} {hp hn : Nat} {g : LN} (h : (N5 s r w hk hp hn g).2.2.1 ≠ 0) : (N5 s r w hk hp hn g).2.1 = r ∧ (N5 s r w hk hp hn g).2.2.2 = [] := by
  revert h
  unfold N5
  split
  · split
    · exact fun _ => ⟨rfl, rfl⟩
    · exact fun h => absurd rfl h
  · split
    · exact fun _ => ⟨rfl, rfl⟩
    · split
      · exact fun _ => ⟨rfl, rfl⟩
      · split
        · exact fun _ => ⟨rfl, rfl⟩
        · exact fun h => absurd rfl h
theorem B2o (tb pb : Nat) (s : Ps) (r0 r1 : Rsd) (vk vg : Value) (hk g lt : LN) (hp hn : Nat) (oz : Ps × Rsd × Int × LN) (M0 A : Mem) (hPr : Par A tb pb s r0 r1 M0) (hn_ : s.ts.length + 500 ≤ 1000000) (hsn : s.n < 1000000000) (hhk : By A vk hk) (hkl : hk.length ≤ 100000) (hhp : hp < 4294967296) (hhn : hn < 4294967296) (hgg : By A vg g) (hgl : g.length ≤ 10000000) (hO : OpnH s r0 hk hp hn) (hoz : (N5 s r0 F1 hk hp hn g) = oz) (hG : Glb A) : FnX Tryz.prog 10 [(vP tb), .agg #[.int .i64 0, vk, (vU hp), (vU hn), vg, .string (txt lt)]] M0 A fun q M J => Par (J ++ A) tb pb oz.1 oz.2.1 r1 M ∧ q = .tuple #[.string (txt oz.2.2.2), .int .i64 oz.2.2.1] := by
 obtain ⟨ao, at_, ar, ak, al, aq, bo, bt, br, bk, bl, bq, MP, rfl, h0, h1, hP⟩ := hPr
 haveI := h0.own.cel
 haveI := h0.their.cel
 haveI := h0.root.cel
 haveI := h0.sk.cel
 haveI := h0.tk.cel
 haveI := h0.st.cel
 haveI := h1.own.cel
 haveI := h1.their.cel
 haveI := h1.root.cel
 haveI := h1.sk.cel
 haveI := h1.tk.cel
 haveI := h1.st.cel
 haveI := hhk.cel
 haveI := hgg.cel
 unfold rsC
 refine FnX.enterZ (N := 43) Tryz.func10 rfl rfl rfl fun w_ => ?_
 refine B4 (D3 0 1) (A1 ?_)
 refine A4 rfl (bx_ fun b3 => ?_)
 refine as_ (as_ (A0 (D3 0 3) ?_))
 refine K8 (MP) (_) true [0, 1, 2, 3, 4, 5, 6, 7, 8, 9, 10, 11, 12, 13, 14, 15, 16, 17, 18, 19, 20, 21, 22, 24, 25] [(0, 0), (1, 0), (2, 0), (3, 1), (4, 0), (5, 0), (6, 1), (7, 0), (8, 0), (9, 0), (10, 1), (13, 0), (14, 1), (15, 0), (16, 1), (11, 8), (12, 8), (17, 8), (18, 8), (19, 8), (22, 8), (20, 9), (21, 10), (23, 2), (24, 0), (25, 0)] kR kR qP fun hs K n0 hKm hKs hKn => ?_
 refine km_ hs ?_
 refine K1 hs rfl (E4 rfl) rfl ?_
 refine K1 hs rfl (qf_ 0 0) rfl ?_
 refine V2 hs rfl hKs ql_ ?_
 refine km_ hs ?_
 refine K1 hs rfl (qf_ 0 0) rfl ?_
 refine V2 hs rfl hKs ql_ ?_
 refine K1 hs rfl (E4 rfl) rfl ?_
 refine K1 hs rfl (qf_ 1 1) rfl ?_
 refine K1 hs rfl (D0 (e := 41) (n := 2) (sz := 9) (i := 0) 1 rfl rfl kR kR rfl qD rfl) rfl ?_
 refine V2 hs rfl hKs (T3 (n := 9) (vs := [ao, at_, ar, ak, (vU r0.sn), al, (vU r0.tn), (vU r0.prev), aq]) rfl kR At.mem rfl (N9 [(vP pb)] [ao, at_, ar, ak, (vU r0.sn), al, (vU r0.tn), (vU r0.prev), aq] [bo, bt, br, bk, (vU r1.sn), bl, (vU r1.tn), (vU r1.prev), bq])) ?_
 refine K1 hs rfl (qf_ 1 1) rfl ?_
 refine V2 hs rfl hKs (T3 (n := 3) (vs := [vk, (vU hp), (vU hn)]) rfl kR At.mem rfl (N9 [.int .i64 0] [vk, (vU hp), (vU hn)] [vg, .string (txt lt)])) ?_
 refine K1 hs rfl (qf_ 4 4) rfl ?_
 refine V2 hs rfl hKs ql_ ?_
 refine A0B [⟨11, 21, none, [], fun v B _ => ∃ b, v = .slice (some ⟨b, 0, none⟩) 4 4 ∧ B = [(b, blk (nums .u8 [119, 105, 116, 104]) 5)]⟩, ⟨12, 22, some 11, [], fun v B R => B = [] ∧ By R v [119, 105, 116, 104]⟩, ⟨17, 27, none, MP, fun v B R => ∃ q1 q2, v = .tuple #[q1, q2, .int .i64 oz.2.2.1] ∧ Prm pb oz.1 B ∧ RsV R q1 oz.2.1 ∧ By R q2 oz.2.2.2⟩, ⟨18, 9, none, [], fun v B R => B = [] ∧ ∃ q1 q2, v = .tuple #[q1, q2, .int .i64 oz.2.2.1] ∧ RsV R q1 oz.2.1 ∧ By R q2 oz.2.2.2⟩, ⟨19, 28, none, [], fun v B R => B = [] ∧ RsV R v oz.2.1⟩, ⟨22, 6, none, [], fun v B _ => ∃ b, v = (vP b) ∧ B = [(b, blk [vS, vS, vS, vS, .int .u32 0, vS, .int .u32 0, .int .u32 0, .pointer none] 41)]⟩] [⟨20, 29, none, [], fun v B R => B = [] ∧ By R v oz.2.2.2⟩, ⟨21, 30, none, [], fun v B R => B = [] ∧ v = .int .i64 oz.2.2.1⟩] ([(b3, blk [.int .i64 0, vk, (vU hp), (vU hn), vg, .string (txt lt)] 31), (tb, blk [(vP pb), ao, at_, ar, ak, (vU r0.sn), al, (vU r0.tn), (vU r0.prev), aq, bo, bt, br, bk, (vU r1.sn), bl, (vU r1.tn), (vU r1.prev), bq] 45)]) (fun bs => [bs 12, bs 17, bs 18, bs 19, bs 22, bs 20, bs 21]) (hKn rfl) (by simp [A0r, A1m]) (show ∀ m ∈ ([[], MP, [], [], [], [], []] : List Mem), ∀ x ∈ m, K x.1 from A6 (fun _ h => by cases h) (A6 (hKm) (A6 (fun _ h => by cases h) (A6 (fun _ h => by cases h) (A6 (fun _ h => by cases h) (A6 (fun _ h => by cases h) (A6 (fun _ h => by cases h) (I6)))))))) kR (fun _ => by first | rfl | kernel_rfl)
  (A6 (fun _ _ _ _ _ h => h) (A6 (fun _ _ _ _ hR h => ⟨h.1, h.2.mono hR⟩) (A6 (fun _ _ _ _ h ⟨q1, q2, e, p1, p2, p3⟩ => ⟨q1, q2, e, p1, p2.mono h, p3.mono h⟩) (A6 (fun _ _ _ _ h ⟨e0, q1, q2, e, p2, p3⟩ => ⟨e0, q1, q2, e, p2.mono h, p3.mono h⟩) (A6 (fun _ _ _ _ h hp => ⟨hp.1, hp.2.mono h⟩) (A6 (fun _ _ _ _ _ h => h) (A6 (fun _ _ _ _ hR h => ⟨h.1, h.2.mono hR⟩) (A6 (fun _ _ _ _ _ h => h) (I6))))))))) (show List.Nodup [21, 22, 27, 9, 28, 6, 29, 30] by decide) (show List.Nodup [11, 12, 17, 18, 19, 22, 20, 21] by decide) (A6 (C5 rfl) (A6 (C5 rfl) (A6 (C5 rfl) (A6 (C5 rfl) (A6 (C5 rfl) (A6 (C5 rfl) (A6 (C5 rfl) (A6 (C5 rfl) (I6)))))))))
  hs (List.cons_ne_nil _ _) (A6 ⟨_, rfl, fun vs bs R Rj wG hb hj hjr ha => ⟨.inl rfl, ?_⟩⟩ (A6 ⟨_, rfl, fun vs bs R Rj wG hb hj hjr ha => ⟨.inl rfl, ?_⟩⟩ (A6 ⟨_, rfl, fun vs bs R Rj wG hb hj hjr ha => ⟨.inl rfl, ?_⟩⟩ (A6 ⟨_, rfl, fun vs bs R Rj wG hb hj hjr ha => ⟨.inl rfl, ?_⟩⟩ (A6 ⟨_, rfl, fun vs bs R Rj wG hb hj hjr ha => ⟨.inl rfl, ?_⟩⟩ (A6 ⟨_, rfl, fun vs bs R Rj wG hb hj hjr ha => ⟨.inl rfl, ?_⟩⟩ (I6))))))) (A6 ⟨rfl, rfl, _, _, _, _, rfl, fun vs bs Rj hj ha => ?_⟩ (A6 ⟨rfl, rfl, _, _, _, _, rfl, fun vs bs Rj hj ha => ?_⟩ (I6))) ?_
 ·
  dsimp only [Gc.inp]
  exact C4 (e := 5) (sz := 1) (z := [zu8, zu8, zu8, zu8]) kR (eS rfl (eS rfl (eS rfl (eS rfl e0)))) (bdS 0 1 rfl qR (bdS 1 1 rfl qR (bdS 2 1 rfl qR (bdS 3 1 rfl qR bd0)))) rfl fun b => ⟨_, rfl, b, rfl, rfl⟩
 ·
  dsimp only [Gc.inp]
  have g11 := ha _ (List.mem_of_getElem? (i := 0) rfl) kR
  replace g11 : (fun v B _ => ∃ b, v = .slice (some ⟨b, 0, none⟩) 4 4 ∧ B = [(b, blk (nums .u8 [119, 105, 116, 104]) 5)]) (vs 11) (bs 11) Rj := g11
  dsimp only at g11
  obtain ⟨b, e, eB⟩ := g11
  dsimp only [P5, List.map, List.cons_append, List.nil_append]
  rw [e, eB]
  refine OpL.frzAll ?_
  exact A2I rfl kR UpC.upd rfl (fun J2 hJ => ⟨_, rfl, rfl, ⟨Rd.whole (n := 4) (List.mem_append_left _ (hJ _ (List.mem_append_left _ (List.mem_singleton.2 rfl)))) qR, by decide, by decide⟩⟩)
 ·
  dsimp only [Gc.inp]
  have g12 := ha _ (List.mem_of_getElem? (i := 1) rfl) kR
  replace g12 : (fun v B R => B = [] ∧ By R v [119, 105, 116, 104]) (vs 12) (bs 12) Rj := g12
  dsimp only at g12
  obtain ⟨-, h12⟩ := g12
  haveI := h12.cel
  refine C6 (Mc := MP) (R := []) (aS rfl (aS rfl (aS rfl (aS rfl (aS rfl (a0)))))) kR qM (FnX.amb (A := Rj) (fun x hx => by have := hjr x hx; simp [this]) (B2l pb s r0 ao at_ ar ak al aq _ vk vg F1 hk g hp hn MP Rj hP hn_ hsn (h0.mono (fun x hx => hj x (qS x hx))) h12 (hhk.mono (fun x hx => hj x (qS x hx))) (by show 4 + hk.length ≤ 1000000; omega) hhp hhn (hgg.mono (fun x hx => hj x (qS x hx))) hgl hO.sel hO.k1 hO.s2 hO.k2 (hG.sub (fun x hx => hj x (qS x hx))))) rfl ?_
  rintro v27 M27 J27 ⟨q1, q2, rfl, hP27, p2, p3⟩
  rw [hoz] at hP27 p2 p3 ⊢
  exact ⟨_, rfl, q1, q2, rfl, by simpa using hP27, p2.mono (fun x hx => by simpa using hx), p3.mono (fun x hx => by simpa using hx)⟩
 ·
  dsimp only [Gc.inp]
  have g17 := ha _ (List.mem_of_getElem? (i := 2) rfl) kR
  replace g17 : (fun v B R => ∃ q1 q2, v = .tuple #[q1, q2, .int .i64 oz.2.2.1] ∧ Prm pb oz.1 B ∧ RsV R q1 oz.2.1 ∧ By R q2 oz.2.2.2) (vs 17) (bs 17) Rj := g17
  dsimp only at g17
  obtain ⟨q1, q2, e, -, k⟩ := g17
  exact OpQ.opL qm_ rfl ⟨_, rfl, rfl, q1, q2, e, k⟩
 ·
  dsimp only [Gc.inp]
  have g18 := ha _ (List.mem_of_getElem? (i := 3) rfl) kR
  replace g18 : (fun v B R => B = [] ∧ ∃ q1 q2, v = .tuple #[q1, q2, .int .i64 oz.2.2.1] ∧ RsV R q1 oz.2.1 ∧ By R q2 oz.2.2.2) (vs 18) (bs 18) Rj := g18
  dsimp only at g18
  obtain ⟨-, q1, q2, e, k, -⟩ := g18
  exact OpQ.opL (G4 (vs := #[q1, q2, .int .i64 oz.2.2.1]) (by rw [← e]; rfl) rfl) rfl ⟨_, rfl, rfl, k⟩
 ·
  dsimp only [Gc.inp]
  exact C3 (cs := [vS, vS, vS, vS, F5, vS, F5, F5, .pointer none]) kR rfl fun b => ⟨_, rfl, b, rfl, rfl⟩
 ·
  have g18 := ha _ (List.mem_of_getElem? (i := 3) rfl) kR
  replace g18 : (fun v B R => B = [] ∧ ∃ q1 q2, v = .tuple #[q1, q2, .int .i64 oz.2.2.1] ∧ RsV R q1 oz.2.1 ∧ By R q2 oz.2.2.2) (vs 18) (bs 18) Rj := g18
  dsimp only at g18
  obtain ⟨-, q1, q2, e, -, k⟩ := g18
  exact ⟨_, G4 (vs := #[q1, q2, .int .i64 oz.2.2.1]) (by rw [← e]; rfl) rfl, rfl, k⟩
 ·
  have g18 := ha _ (List.mem_of_getElem? (i := 3) rfl) kR
  replace g18 : (fun v B R => B = [] ∧ ∃ q1 q2, v = .tuple #[q1, q2, .int .i64 oz.2.2.1] ∧ RsV R q1 oz.2.1 ∧ By R q2 oz.2.2.2) (vs 18) (bs 18) Rj := g18
  dsimp only at g18
  obtain ⟨-, q1, q2, e, -⟩ := g18
  exact ⟨_, G4 (vs := #[q1, q2, .int .i64 oz.2.2.1]) (by rw [← e]; rfl) rfl, rfl, rfl⟩
 intro vs bs Jn0 hφ hKK
 have kk11 := hKK _ (List.mem_of_getElem? (i := 0) rfl)
 dsimp only at kk11
 have kk12 := hKK _ (List.mem_of_getElem? (i := 1) rfl)
 dsimp only at kk12
 have kk17 := hKK _ (List.mem_of_getElem? (i := 2) rfl)
 dsimp only at kk17
 have kk18 := hKK _ (List.mem_of_getElem? (i := 3) rfl)
 dsimp only at kk18
 have kk19 := hKK _ (List.mem_of_getElem? (i := 4) rfl)
 dsimp only at kk19
 have kk22 := hKK _ (List.mem_of_getElem? (i := 5) rfl)
 dsimp only at kk22
 have kk20 := hKK _ (List.mem_of_getElem? (i := 6) rfl)
 dsimp only at kk20
 have kk21 := hKK _ (List.mem_of_getElem? (i := 7) rfl)
 dsimp only at kk21
 clear hKK
 have g11 := ofH hφ
 dsimp only at g11
 replace hφ := ofT hφ
 have g12 := ofH hφ
 dsimp only at g12
 replace hφ := ofT hφ
 have g17 := ofH hφ
 dsimp only at g17
 replace hφ := ofT hφ
 have g18 := ofH hφ
 dsimp only at g18
 replace hφ := ofT hφ
 have g19 := ofH hφ
 dsimp only at g19
 replace hφ := ofT hφ
 have g22 := ofH hφ
 dsimp only at g22
 replace hφ := ofT hφ
 have g20 := ofH hφ
 dsimp only at g20
 replace hφ := ofT hφ
 have g21 := ofH hφ
 dsimp only at g21
 clear hφ
 dsimp only [P5, A0r, List.foldr, List.map, List.cons_append, List.nil_append]
 generalize bs 11 = B21 at *
 generalize bs 12 = B22 at *
 generalize bs 17 = B27 at *
 generalize bs 18 = B9 at *
 generalize bs 19 = B28 at *
 generalize bs 22 = B6 at *
 generalize bs 20 = B29 at *
 generalize bs 21 = B30 at *
 generalize vs 11 = u21 at *
 generalize vs 12 = u22 at *
 generalize vs 17 = u27 at *
 generalize vs 18 = u9 at *
 generalize vs 19 = u28 at *
 generalize vs 22 = u6 at *
 generalize vs 20 = u29 at *
 generalize vs 21 = u30 at *
 obtain ⟨-, -, -, hP27, -⟩ := g17
 clear g18
 obtain ⟨b, rfl, rfl⟩ := g11
 obtain ⟨rfl, h22⟩ := g12
 obtain ⟨rfl, wo, wt, wr, wk, wl, wq, rfl, hn1⟩ := g19
 obtain ⟨rfl, h29⟩ := g20
 obtain ⟨rfl, rfl⟩ := g21
 obtain ⟨b6, rfl, rfl⟩ := g22
 haveI := hn1.own.cel
 haveI := hn1.their.cel
 haveI := hn1.root.cel
 haveI := hn1.sk.cel
 haveI := hn1.tk.cel
 haveI := hn1.st.cel
 haveI := h29.cel
 unfold rsC
 refine T6 rfl rfl rfl (A8 (vs := [wo, wt, wr, wk, (vU oz.2.1.sn), wl, (vU oz.2.1.tn), (vU oz.2.1.prev), wq]) rfl rfl rfl kR qR (A6 hn1.own.one (A6 hn1.their.one (A6 hn1.root.one (A6 hn1.sk.one (A6 rfl (A6 hn1.tk.one (A6 rfl (A6 rfl (A6 hn1.st.one I6))))))))) UpC.upd ?_)
 refine K1 hs rfl (G6 rfl) rfl ?_
 refine K1 hs rfl (G6 rfl) rfl ?_
 refine P8 (E6 0 3 6 7 8) (A3 (A1 (mv_ ?_)))
 refine A2 (D9 rfl rfl rfl) rfl ?_
 refine A0 (H5 0 3 6 7 8 32) ?_
 refine C0 rfl ?_ ?_ <;> intro hc
 ·
  refine G3 (.range 7) (zp 0 [0, 0, 1, 1, 0, 0, 0, 2]) kR kR fun hs => ?_
  refine fm_ hs ?_
  refine C2 hs rfl (qf_ 0 0) rfl ?_
  refine H2 hs rfl ql_ rfl ?_
  refine H2 hs rfl (qw_ 9) rfl ?_
  refine C2 hs rfl (E4 rfl) rfl ?_
  refine C2 hs rfl (qf_ 1 1) rfl ?_
  refine C2 hs rfl (D0 (e := 41) (n := 2) (sz := 9) (i := 0) 1 rfl rfl kR kR rfl qD rfl) rfl ?_
  refine G2 rfl rfl rfl (L3 (vs := [wo, wt, wr, wk, (vU oz.2.1.sn), wl, (vU oz.2.1.tn), (vU oz.2.1.prev), wq]) (cs' := [(vP pb), wo, wt, wr, wk, (vU oz.2.1.sn), wl, (vU oz.2.1.tn), (vU oz.2.1.prev), wq, bo, bt, br, bk, (vU r1.sn), bl, (vU r1.tn), (vU r1.prev), bq]) rfl rfl rfl kR (by exact (show 1 + 9 ≤ 19 by decide)) (A6 hn1.own.one (A6 hn1.their.one (A6 hn1.root.one (A6 hn1.sk.one (A6 rfl (A6 hn1.tk.one (A6 rfl (A6 rfl (A6 hn1.st.one I6))))))))) rfl UpC.upd ?_)
  refine E9 (D3 7 8) (A1 (mv_ ?_))
  refine A2 (R8 rfl kR (h29.rd.mono qS)) rfl ?_
  refine mv_ (as_ (as_ (A0 (D3 4 5) (B0 ?_))))
  exact ⟨_, (tb, blk [(vP pb), wo, wt, wr, wk, (vU oz.2.1.sn), wl, (vU oz.2.1.tn), (vU oz.2.1.prev), wq, bo, bt, br, bk, (vU r1.sn), bl, (vU r1.tn), (vU r1.prev), bq] 45) :: B27, [], A1U rfl rfl rfl, Fit.none (Fit.pick (B := [_]) qP (Fit.last qP)), ⟨wo, wt, wr, wk, wl, wq, bo, bt, br, bk, bl, bq, B27, rfl, hn1.mono qS, h1.mono qS, hP27⟩, rfl⟩
 ·
  have he0 : oz.2.2.1 ≠ 0 := by intro e; rw [e] at hc; simp [I0] at hc
  have hre : oz.2.1 = r0 := by have h := B5M (hoz ▸ he0); rw [hoz] at h; exact h.1
  rw [hre]
  refine A7 (nx (D3 7 8) (A1 (mv_ ?_)))
  refine A2 (R8 rfl kR (h29.rd.mono qS)) rfl ?_
  refine mv_ (as_ (as_ (A0 (D3 4 5) (B0 ?_))))
  exact ⟨_, (tb, blk [(vP pb), ao, at_, ar, ak, (vU r0.sn), al, (vU r0.tn), (vU r0.prev), aq, bo, bt, br, bk, (vU r1.sn), bl, (vU r1.tn), (vU r1.prev), bq] 45) :: B27, [], A1U rfl rfl rfl, Fit.none (Fit.pick (B := [_]) qP (Fit.last qP)), ⟨ao, at_, ar, ak, al, aq, bo, bt, br, bk, bl, bq, B27, rfl, h0.mono qS, h1.mono qS, hP27⟩, rfl⟩
theorem B2p (tb pb : Nat) (s : Ps) (r0 r1 : Rsd) (vk vg : Value) (hk g lt : LN) (hp hn : Nat) (oz : Ps × Rsd × Int × LN) (M0 A : Mem) (hPr : Par A tb pb s r0 r1 M0) (hn_ : s.ts.length + 500 ≤ 1000000) (hsn : s.n < 1000000000) (hhk : By A vk hk) (hkl : hk.length ≤ 100000) (hhp : hp < 4294967296) (hhn : hn < 4294967296) (hgg : By A vg g) (hgl : g.length ≤ 10000000) (hO : OpnH s r1 hk hp hn) (hoz : (N5 s r1 F1 hk hp hn g) = oz) (hG : Glb A) : FnX Tryz.prog 10 [(vP tb), .agg #[.int .i64 1, vk, (vU hp), (vU hn), vg, .string (txt lt)]] M0 A fun q M J => Par (J ++ A) tb pb oz.1 r0 oz.2.1 M ∧ q = .tuple #[.string (txt oz.2.2.2), .int .i64 oz.2.2.1] := by
 obtain ⟨ao, at_, ar, ak, al, aq, bo, bt, br, bk, bl, bq, MP, rfl, h0, h1, hP⟩ := hPr
 haveI := h0.own.cel
 haveI := h0.their.cel
 haveI := h0.root.cel
 haveI := h0.sk.cel
 haveI := h0.tk.cel
 haveI := h0.st.cel
 haveI := h1.own.cel
 haveI := h1.their.cel
 haveI := h1.root.cel
 haveI := h1.sk.cel
 haveI := h1.tk.cel
 haveI := h1.st.cel
 haveI := hhk.cel
 haveI := hgg.cel
 unfold rsC
 refine FnX.enterZ (N := 43) Tryz.func10 rfl rfl rfl fun w_ => ?_
 refine B4 (D3 0 1) (A1 ?_)
 refine A4 rfl (bx_ fun b3 => ?_)
 refine as_ (as_ (A0 (D3 0 3) ?_))
 refine K8 (MP) (_) true [0, 1, 2, 3, 4, 5, 6, 7, 8, 9, 10, 11, 12, 13, 14, 15, 16, 17, 18, 19, 20, 21, 22, 24, 25] [(0, 0), (1, 0), (2, 0), (3, 1), (4, 0), (5, 0), (6, 1), (7, 0), (8, 0), (9, 0), (10, 1), (13, 0), (14, 1), (15, 0), (16, 1), (11, 8), (12, 8), (17, 8), (18, 8), (19, 8), (22, 8), (20, 9), (21, 10), (23, 2), (24, 0), (25, 0)] kR kR qP fun hs K n0 hKm hKs hKn => ?_
 refine km_ hs ?_
 refine K1 hs rfl (E4 rfl) rfl ?_
 refine K1 hs rfl (qf_ 0 0) rfl ?_
 refine V2 hs rfl hKs ql_ ?_
 refine km_ hs ?_
 refine K1 hs rfl (qf_ 0 0) rfl ?_
 refine V2 hs rfl hKs ql_ ?_
 refine K1 hs rfl (E4 rfl) rfl ?_
 refine K1 hs rfl (qf_ 1 1) rfl ?_
 refine K1 hs rfl (D0 (e := 41) (n := 2) (sz := 9) (i := 1) 10 rfl rfl kR kR rfl qD rfl) rfl ?_
 refine V2 hs rfl hKs (T3 (n := 9) (vs := [bo, bt, br, bk, (vU r1.sn), bl, (vU r1.tn), (vU r1.prev), bq]) rfl kR At.mem rfl (N9 [(vP pb), ao, at_, ar, ak, (vU r0.sn), al, (vU r0.tn), (vU r0.prev), aq] [bo, bt, br, bk, (vU r1.sn), bl, (vU r1.tn), (vU r1.prev), bq] [])) ?_
 refine K1 hs rfl (qf_ 1 1) rfl ?_
 refine V2 hs rfl hKs (T3 (n := 3) (vs := [vk, (vU hp), (vU hn)]) rfl kR At.mem rfl (N9 [.int .i64 1] [vk, (vU hp), (vU hn)] [vg, .string (txt lt)])) ?_
 refine K1 hs rfl (qf_ 4 4) rfl ?_
 refine V2 hs rfl hKs ql_ ?_
 refine A0B [⟨11, 21, none, [], fun v B _ => ∃ b, v = .slice (some ⟨b, 0, none⟩) 4 4 ∧ B = [(b, blk (nums .u8 [119, 105, 116, 104]) 5)]⟩, ⟨12, 22, some 11, [], fun v B R => B = [] ∧ By R v [119, 105, 116, 104]⟩, ⟨17, 27, none, MP, fun v B R => ∃ q1 q2, v = .tuple #[q1, q2, .int .i64 oz.2.2.1] ∧ Prm pb oz.1 B ∧ RsV R q1 oz.2.1 ∧ By R q2 oz.2.2.2⟩, ⟨18, 9, none, [], fun v B R => B = [] ∧ ∃ q1 q2, v = .tuple #[q1, q2, .int .i64 oz.2.2.1] ∧ RsV R q1 oz.2.1 ∧ By R q2 oz.2.2.2⟩, ⟨19, 28, none, [], fun v B R => B = [] ∧ RsV R v oz.2.1⟩, ⟨22, 6, none, [], fun v B _ => ∃ b, v = (vP b) ∧ B = [(b, blk [vS, vS, vS, vS, .int .u32 0, vS, .int .u32 0, .int .u32 0, .pointer none] 41)]⟩] [⟨20, 29, none, [], fun v B R => B = [] ∧ By R v oz.2.2.2⟩, ⟨21, 30, none, [], fun v B R => B = [] ∧ v = .int .i64 oz.2.2.1⟩] ([(b3, blk [.int .i64 1, vk, (vU hp), (vU hn), vg, .string (txt lt)] 31), (tb, blk [(vP pb), ao, at_, ar, ak, (vU r0.sn), al, (vU r0.tn), (vU r0.prev), aq, bo, bt, br, bk, (vU r1.sn), bl, (vU r1.tn), (vU r1.prev), bq] 45)]) (fun bs => [bs 12, bs 17, bs 18, bs 19, bs 22, bs 20, bs 21]) (hKn rfl) (by simp [A0r, A1m]) (show ∀ m ∈ ([[], MP, [], [], [], [], []] : List Mem), ∀ x ∈ m, K x.1 from A6 (fun _ h => by cases h) (A6 (hKm) (A6 (fun _ h => by cases h) (A6 (fun _ h => by cases h) (A6 (fun _ h => by cases h) (A6 (fun _ h => by cases h) (A6 (fun _ h => by cases h) (I6)))))))) kR (fun _ => by first | rfl | kernel_rfl)
  (A6 (fun _ _ _ _ _ h => h) (A6 (fun _ _ _ _ hR h => ⟨h.1, h.2.mono hR⟩) (A6 (fun _ _ _ _ h ⟨q1, q2, e, p1, p2, p3⟩ => ⟨q1, q2, e, p1, p2.mono h, p3.mono h⟩) (A6 (fun _ _ _ _ h ⟨e0, q1, q2, e, p2, p3⟩ => ⟨e0, q1, q2, e, p2.mono h, p3.mono h⟩) (A6 (fun _ _ _ _ h hp => ⟨hp.1, hp.2.mono h⟩) (A6 (fun _ _ _ _ _ h => h) (A6 (fun _ _ _ _ hR h => ⟨h.1, h.2.mono hR⟩) (A6 (fun _ _ _ _ _ h => h) (I6))))))))) (show List.Nodup [21, 22, 27, 9, 28, 6, 29, 30] by decide) (show List.Nodup [11, 12, 17, 18, 19, 22, 20, 21] by decide) (A6 (C5 rfl) (A6 (C5 rfl) (A6 (C5 rfl) (A6 (C5 rfl) (A6 (C5 rfl) (A6 (C5 rfl) (A6 (C5 rfl) (A6 (C5 rfl) (I6)))))))))
  hs (List.cons_ne_nil _ _) (A6 ⟨_, rfl, fun vs bs R Rj wG hb hj hjr ha => ⟨.inl rfl, ?_⟩⟩ (A6 ⟨_, rfl, fun vs bs R Rj wG hb hj hjr ha => ⟨.inl rfl, ?_⟩⟩ (A6 ⟨_, rfl, fun vs bs R Rj wG hb hj hjr ha => ⟨.inl rfl, ?_⟩⟩ (A6 ⟨_, rfl, fun vs bs R Rj wG hb hj hjr ha => ⟨.inl rfl, ?_⟩⟩ (A6 ⟨_, rfl, fun vs bs R Rj wG hb hj hjr ha => ⟨.inl rfl, ?_⟩⟩ (A6 ⟨_, rfl, fun vs bs R Rj wG hb hj hjr ha => ⟨.inl rfl, ?_⟩⟩ (I6))))))) (A6 ⟨rfl, rfl, _, _, _, _, rfl, fun vs bs Rj hj ha => ?_⟩ (A6 ⟨rfl, rfl, _, _, _, _, rfl, fun vs bs Rj hj ha => ?_⟩ (I6))) ?_
 ·
  dsimp only [Gc.inp]
  exact C4 (e := 5) (sz := 1) (z := [zu8, zu8, zu8, zu8]) kR (eS rfl (eS rfl (eS rfl (eS rfl e0)))) (bdS 0 1 rfl qR (bdS 1 1 rfl qR (bdS 2 1 rfl qR (bdS 3 1 rfl qR bd0)))) rfl fun b => ⟨_, rfl, b, rfl, rfl⟩
 ·
  dsimp only [Gc.inp]
  have g11 := ha _ (List.mem_of_getElem? (i := 0) rfl) kR
  replace g11 : (fun v B _ => ∃ b, v = .slice (some ⟨b, 0, none⟩) 4 4 ∧ B = [(b, blk (nums .u8 [119, 105, 116, 104]) 5)]) (vs 11) (bs 11) Rj := g11
  dsimp only at g11
  obtain ⟨b, e, eB⟩ := g11
  dsimp only [P5, List.map, List.cons_append, List.nil_append]
  rw [e, eB]
  refine OpL.frzAll ?_
  exact A2I rfl kR UpC.upd rfl (fun J2 hJ => ⟨_, rfl, rfl, ⟨Rd.whole (n := 4) (List.mem_append_left _ (hJ _ (List.mem_append_left _ (List.mem_singleton.2 rfl)))) qR, by decide, by decide⟩⟩)
 ·
  dsimp only [Gc.inp]
  have g12 := ha _ (List.mem_of_getElem? (i := 1) rfl) kR
  replace g12 : (fun v B R => B = [] ∧ By R v [119, 105, 116, 104]) (vs 12) (bs 12) Rj := g12
  dsimp only at g12
  obtain ⟨-, h12⟩ := g12
  haveI := h12.cel
  refine C6 (Mc := MP) (R := []) (aS rfl (aS rfl (aS rfl (aS rfl (aS rfl (a0)))))) kR qM (FnX.amb (A := Rj) (fun x hx => by have := hjr x hx; simp [this]) (B2l pb s r1 bo bt br bk bl bq _ vk vg F1 hk g hp hn MP Rj hP hn_ hsn (h1.mono (fun x hx => hj x (qS x hx))) h12 (hhk.mono (fun x hx => hj x (qS x hx))) (by show 4 + hk.length ≤ 1000000; omega) hhp hhn (hgg.mono (fun x hx => hj x (qS x hx))) hgl hO.sel hO.k1 hO.s2 hO.k2 (hG.sub (fun x hx => hj x (qS x hx))))) rfl ?_
  rintro v27 M27 J27 ⟨q1, q2, rfl, hP27, p2, p3⟩
  rw [hoz] at hP27 p2 p3 ⊢
  exact ⟨_, rfl, q1, q2, rfl, by simpa using hP27, p2.mono (fun x hx => by simpa using hx), p3.mono (fun x hx => by simpa using hx)⟩
 ·
  dsimp only [Gc.inp]
  have g17 := ha _ (List.mem_of_getElem? (i := 2) rfl) kR
  replace g17 : (fun v B R => ∃ q1 q2, v = .tuple #[q1, q2, .int .i64 oz.2.2.1] ∧ Prm pb oz.1 B ∧ RsV R q1 oz.2.1 ∧ By R q2 oz.2.2.2) (vs 17) (bs 17) Rj := g17
  dsimp only at g17
  obtain ⟨q1, q2, e, -, k⟩ := g17
  exact OpQ.opL qm_ rfl ⟨_, rfl, rfl, q1, q2, e, k⟩
 ·
  dsimp only [Gc.inp]
  have g18 := ha _ (List.mem_of_getElem? (i := 3) rfl) kR
  replace g18 : (fun v B R => B = [] ∧ ∃ q1 q2, v = .tuple #[q1, q2, .int .i64 oz.2.2.1] ∧ RsV R q1 oz.2.1 ∧ By R q2 oz.2.2.2) (vs 18) (bs 18) Rj := g18
  dsimp only at g18
  obtain ⟨-, q1, q2, e, k, -⟩ := g18
  exact OpQ.opL (G4 (vs := #[q1, q2, .int .i64 oz.2.2.1]) (by rw [← e]; rfl) rfl) rfl ⟨_, rfl, rfl, k⟩
 ·
  dsimp only [Gc.inp]
  exact C3 (cs := [vS, vS, vS, vS, F5, vS, F5, F5, .pointer none]) kR rfl fun b => ⟨_, rfl, b, rfl, rfl⟩
 ·
  have g18 := ha _ (List.mem_of_getElem? (i := 3) rfl) kR
  replace g18 : (fun v B R => B = [] ∧ ∃ q1 q2, v = .tuple #[q1, q2, .int .i64 oz.2.2.1] ∧ RsV R q1 oz.2.1 ∧ By R q2 oz.2.2.2) (vs 18) (bs 18) Rj := g18
  dsimp only at g18
  obtain ⟨-, q1, q2, e, -, k⟩ := g18
  exact ⟨_, G4 (vs := #[q1, q2, .int .i64 oz.2.2.1]) (by rw [← e]; rfl) rfl, rfl, k⟩
 ·
  have g18 := ha _ (List.mem_of_getElem? (i := 3) rfl) kR
  replace g18 : (fun v B R => B = [] ∧ ∃ q1 q2, v = .tuple #[q1, q2, .int .i64 oz.2.2.1] ∧ RsV R q1 oz.2.1 ∧ By R q2 oz.2.2.2) (vs 18) (bs 18) Rj := g18
  dsimp only at g18
  obtain ⟨-, q1, q2, e, -⟩ := g18
  exact ⟨_, G4 (vs := #[q1, q2, .int .i64 oz.2.2.1]) (by rw [← e]; rfl) rfl, rfl, rfl⟩
 intro vs bs Jn0 hφ hKK
 have kk11 := hKK _ (List.mem_of_getElem? (i := 0) rfl)
 dsimp only at kk11
 have kk12 := hKK _ (List.mem_of_getElem? (i := 1) rfl)
 dsimp only at kk12
 have kk17 := hKK _ (List.mem_of_getElem? (i := 2) rfl)
 dsimp only at kk17
 have kk18 := hKK _ (List.mem_of_getElem? (i := 3) rfl)
 dsimp only at kk18
 have kk19 := hKK _ (List.mem_of_getElem? (i := 4) rfl)
 dsimp only at kk19
 have kk22 := hKK _ (List.mem_of_getElem? (i := 5) rfl)
 dsimp only at kk22
 have kk20 := hKK _ (List.mem_of_getElem? (i := 6) rfl)
 dsimp only at kk20
 have kk21 := hKK _ (List.mem_of_getElem? (i := 7) rfl)
 dsimp only at kk21
 clear hKK
 have g11 := ofH hφ
 dsimp only at g11
 replace hφ := ofT hφ
 have g12 := ofH hφ
 dsimp only at g12
 replace hφ := ofT hφ
 have g17 := ofH hφ
 dsimp only at g17
 replace hφ := ofT hφ
 have g18 := ofH hφ
 dsimp only at g18
 replace hφ := ofT hφ
 have g19 := ofH hφ
 dsimp only at g19
 replace hφ := ofT hφ
 have g22 := ofH hφ
 dsimp only at g22
 replace hφ := ofT hφ
 have g20 := ofH hφ
 dsimp only at g20
 replace hφ := ofT hφ
 have g21 := ofH hφ
 dsimp only at g21
 clear hφ
 dsimp only [P5, A0r, List.foldr, List.map, List.cons_append, List.nil_append]
 generalize bs 11 = B21 at *
 generalize bs 12 = B22 at *
 generalize bs 17 = B27 at *
 generalize bs 18 = B9 at *
 generalize bs 19 = B28 at *
 generalize bs 22 = B6 at *
 generalize bs 20 = B29 at *
 generalize bs 21 = B30 at *
 generalize vs 11 = u21 at *
 generalize vs 12 = u22 at *
 generalize vs 17 = u27 at *
 generalize vs 18 = u9 at *
 generalize vs 19 = u28 at *
 generalize vs 22 = u6 at *
 generalize vs 20 = u29 at *
 generalize vs 21 = u30 at *
 obtain ⟨-, -, -, hP27, -⟩ := g17
 clear g18
 obtain ⟨b, rfl, rfl⟩ := g11
 obtain ⟨rfl, h22⟩ := g12
 obtain ⟨rfl, wo, wt, wr, wk, wl, wq, rfl, hn1⟩ := g19
 obtain ⟨rfl, h29⟩ := g20
 obtain ⟨rfl, rfl⟩ := g21
 obtain ⟨b6, rfl, rfl⟩ := g22
 haveI := hn1.own.cel
 haveI := hn1.their.cel
 haveI := hn1.root.cel
 haveI := hn1.sk.cel
 haveI := hn1.tk.cel
 haveI := hn1.st.cel
 haveI := h29.cel
 unfold rsC
 refine T6 rfl rfl rfl (A8 (vs := [wo, wt, wr, wk, (vU oz.2.1.sn), wl, (vU oz.2.1.tn), (vU oz.2.1.prev), wq]) rfl rfl rfl kR qR (A6 hn1.own.one (A6 hn1.their.one (A6 hn1.root.one (A6 hn1.sk.one (A6 rfl (A6 hn1.tk.one (A6 rfl (A6 rfl (A6 hn1.st.one I6))))))))) UpC.upd ?_)
 refine K1 hs rfl (G6 rfl) rfl ?_
 refine K1 hs rfl (G6 rfl) rfl ?_
 refine P8 (E6 0 3 6 7 8) (A3 (A1 (mv_ ?_)))
 refine A2 (D9 rfl rfl rfl) rfl ?_
 refine A0 (H5 0 3 6 7 8 32) ?_
 refine C0 rfl ?_ ?_ <;> intro hc
 ·
  refine G3 (.range 7) (zp 0 [0, 0, 1, 1, 0, 0, 0, 2]) kR kR fun hs => ?_
  refine fm_ hs ?_
  refine C2 hs rfl (qf_ 0 0) rfl ?_
  refine H2 hs rfl ql_ rfl ?_
  refine H2 hs rfl (qw_ 9) rfl ?_
  refine C2 hs rfl (E4 rfl) rfl ?_
  refine C2 hs rfl (qf_ 1 1) rfl ?_
  refine C2 hs rfl (D0 (e := 41) (n := 2) (sz := 9) (i := 1) 10 rfl rfl kR kR rfl qD rfl) rfl ?_
  refine G2 rfl rfl rfl (L3 (vs := [wo, wt, wr, wk, (vU oz.2.1.sn), wl, (vU oz.2.1.tn), (vU oz.2.1.prev), wq]) (cs' := [(vP pb), ao, at_, ar, ak, (vU r0.sn), al, (vU r0.tn), (vU r0.prev), aq, wo, wt, wr, wk, (vU oz.2.1.sn), wl, (vU oz.2.1.tn), (vU oz.2.1.prev), wq]) rfl rfl rfl kR (by exact (show 10 + 9 ≤ 19 by decide)) (A6 hn1.own.one (A6 hn1.their.one (A6 hn1.root.one (A6 hn1.sk.one (A6 rfl (A6 hn1.tk.one (A6 rfl (A6 rfl (A6 hn1.st.one I6))))))))) rfl UpC.upd ?_)
  refine E9 (D3 7 8) (A1 (mv_ ?_))
  refine A2 (R8 rfl kR (h29.rd.mono qS)) rfl ?_
  refine mv_ (as_ (as_ (A0 (D3 4 5) (B0 ?_))))
  exact ⟨_, (tb, blk [(vP pb), ao, at_, ar, ak, (vU r0.sn), al, (vU r0.tn), (vU r0.prev), aq, wo, wt, wr, wk, (vU oz.2.1.sn), wl, (vU oz.2.1.tn), (vU oz.2.1.prev), wq] 45) :: B27, [], A1U rfl rfl rfl, Fit.none (Fit.pick (B := [_]) qP (Fit.last qP)), ⟨ao, at_, ar, ak, al, aq, wo, wt, wr, wk, wl, wq, B27, rfl, h0.mono qS, hn1.mono qS, hP27⟩, rfl⟩
 ·
  have he0 : oz.2.2.1 ≠ 0 := by intro e; rw [e] at hc; simp [I0] at hc
  have hre : oz.2.1 = r1 := by have h := B5M (hoz ▸ he0); rw [hoz] at h; exact h.1
  rw [hre]
  refine A7 (nx (D3 7 8) (A1 (mv_ ?_)))
  refine A2 (R8 rfl kR (h29.rd.mono qS)) rfl ?_
  refine mv_ (as_ (as_ (A0 (D3 4 5) (B0 ?_))))
  exact ⟨_, (tb, blk [(vP pb), ao, at_, ar, ak, (vU r0.sn), al, (vU r0.tn), (vU r0.prev), aq, bo, bt, br, bk, (vU r1.sn), bl, (vU r1.tn), (vU r1.prev), bq] 45) :: B27, [], A1U rfl rfl rfl, Fit.none (Fit.pick (B := [_]) qP (Fit.last qP)), ⟨ao, at_, ar, ak, al, aq, bo, bt, br, bk, bl, bq, B27, rfl, h0.mono qS, h1.mono qS, hP27⟩, rfl⟩

def K32 (w : LN) : Prop := (∀ x ∈ w, x < 256) ∧ w.length = 32
def KK (s : Ps) (w : LN) : Prop := Kok s w ∧ K32 w
structure GS (s : Ps) : Prop where
  tok : Tok s.ts
  sel : X3 s.ts
theorem KK.ext {s s' : Ps} {w : LN} (h : KK s w) (he : Pext s s') : KK s' w := ⟨h.1.ext he, h.2⟩
theorem KK.rok {s : Ps} {w : LN} (h : KK s w) : s.real = false → Rok s.ts w := h.1.rok
theorem A7x (i : Int) : K32 (bts i) := ⟨B3p _, A0N _ qD⟩
theorem B4u (s : Ps) : K32 (I9 s) := by
  cases hr : s.real with
  | true =>
    rw [A7Z hr, B7g, A5I]
    exact ⟨A3r _ _, A0J _ _⟩
  | false => rw [A5y hr]; exact A7x _
theorem X3.fresh {s : Ps} (h : X3 s.ts) : X3 (F2 s).ts := by
  cases hr : s.real with
  | true => rw [A5x hr]; exact h
  | false => rw [A25 hr]; exact h.not (show (1 : Nat) ≠ 6 by decide)
theorem X3.pub {s : Ps} (h : X3 s.ts) (w : LN) : X3 (L2 s w).ts := by
  unfold L2
  split
  · exact h
  · exact (h.rd w).not (show (3 : Nat) ≠ 6 by decide)
theorem C0T (ts : List Tm) (s o : Int) : (agT ts s o).kind = 4 := by
  unfold agT
  split <;> (try split) <;> (try split) <;> rfl
theorem X3.agr {s : Ps} (h : X3 s.ts) (a B : LN) : X3 (X7 s a B).ts := by
  unfold X7
  split
  · exact h
  · exact ((h.rd a).rd B).not (by rw [C0T]; decide)
theorem X3.der {s : Ps} (h : X3 s.ts) (key : LN) (ws : List (LN)) (lb : LN) (n : Nat) : X3 (A4t s key ws lb n).ts := by
  cases hr : s.real with
  | true => rw [A6t hr]; exact h
  | false =>
    rw [A3H hr]
    have h1 : ∀ (ws : List (LN)) (st : List Tm × List Int), X3 st.1 → X3 (ws.foldl A0g st).1 := by
      intro ws
      induction ws with
      | nil => intro st h; exact h
      | cons w ws ih => intro st h; exact ih _ (h.rd w)
    have h2 : ∀ (ts : List Tm) (ofs : List Int) (n : Nat), X3 ts → X3 (N0 ts ofs lb n).1 := by
      intro ts ofs n
      induction n with
      | zero => exact id
      | succ n ih =>
        intro h
        rw [show N0 ts ofs lb (n + 1) = A9s ofs lb (N0 ts ofs lb n) n from P0 n]
        exact (ih h).not (show (5 : Nat) ≠ 6 by decide)
    exact h2 _ _ n (h1 (key :: ws) (s.ts, []) h)
theorem A4g {s : Ps} (h : GS s) (hn : s.n < 1000000000) : GS (F2 s) ∧ KK (F2 s) (I9 s) := by
  obtain ⟨h1, h2⟩ := B0G h.tok qO
  refine ⟨⟨?_, h.sel.fresh⟩, h1, B4u s⟩
  cases hr : s.real with
  | true => rw [A5x hr]; exact h.tok
  | false => exact h2 hr
theorem B9v {s : Ps} {w : LN} (h : GS s) (hw : KK s w) (hl : s.ts.length ≤ 1040000) : GS (L2 s w) ∧ V6 (L2 s w) w (I2 s w) := by
  obtain ⟨h1, -, h3⟩ := B9c hw.1 h.tok qO
  exact ⟨⟨h3, h.sel.pub w⟩, h1⟩
theorem V6.k32 {s : Ps} {b B : LN} (h : V6 s b B) : K32 B := by
  unfold V6 at h
  split at h
  · rw [h]; exact ⟨B1k _ _, A2t _ _⟩
  · obtain ⟨i, j, -, -, -, rfl⟩ := h; exact A7x _
theorem V6.kk {s : Ps} {b B : LN} (h : V6 s b B) : KK s B := ⟨h.kok.2, h.k32⟩
theorem A2u.kk {s : Ps} {a b k : LN} (h : A2u s a b k) : KK s k := by
  cases hr : s.real with
  | true =>
    rw [A2u.t hr] at h
    exact ⟨fun h2 => (by rw [hr] at h2; cases h2), by rw [h.1]; exact ⟨B1k _ _, A2t _ _⟩⟩
  | false =>
    rw [A2u.f hr] at h
    obtain ⟨i, j, m, -, -, -, -, h5, rfl⟩ := h
    exact ⟨fun _ => ⟨m, (List.getElem?_eq_some_iff.1 h5).1, rfl⟩, A7x _⟩
theorem C0U {s : Ps} {a b B : LN} (h : GS s) (ha : KK s a) (hB : V6 s b B) (hb : K32 b) (hl : s.ts.length ≤ 1040000) : GS (X7 s a B) ∧ A2u (X7 s a B) a b (A04 s a B) := by
  obtain ⟨h1, h2⟩ := B9f ha.1 hB h.tok qO ha.2.1 hb.1
  exact ⟨⟨h2, h.sel.agr a B⟩, h1⟩
def B2q (s : Ps) (key : LN) (ws : List (LN)) (lb : LN) (n : Nat) (L : List (LN)) : Prop := A4t s key ws lb n = s ∧ A6s s key ws lb n = L ∧ ∀ w ∈ key :: ws, KK s w
theorem B9w {s : Ps} {key lb : LN} {ws : List (LN)} {n : Nat} (h : GS s) (hk : ∀ w ∈ key :: ws, KK s w) (hb : B256 lb) (hbl : lb.length ≤ 1000) (hn : n ≤ 8) (hl : s.ts.length + ws.length ≤ 1040000) :
    GS (A4t s key ws lb n) ∧ (∀ i, i < n → KK (A4t s key ws lb n) ((A6s s key ws lb n).getD i [])) ∧ B2q (A4t s key ws lb n) key ws lb n (A6s s key ws lb n) := by
  have hr : s.real = false → ∀ w ∈ key :: ws, Rok s.ts w := fun hr w hw => (hk w hw).rok hr
  have ht := B7J h.tok hr hb hbl (show n ≤ 100 by omega) qO
  have he := A8v s key ws lb n
  have hlen := A26 s key ws lb n
  obtain ⟨a, b⟩ := A6S h.tok hr hb hbl (show n ≤ 100 by omega) qO (Pext.refl _) ht qO
  exact ⟨⟨ht, h.sel.der _ _ _ _⟩, fun i hi => ⟨B7L h.tok hr hb hbl qO qO hi, B7N hn hi⟩, a, b, fun w hw => (hk w hw).ext he.p⟩
theorem B2q.ext {s s' : Ps} {key lb : LN} {ws : List (LN)} {n : Nat} {L : List (LN)} (h : B2q s key ws lb n L) (he : Pext s s') (hg : GS s) (hg' : GS s') (hb : B256 lb) (hbl : lb.length ≤ 1000) (hn : n ≤ 8) (hl : s'.ts.length + ws.length ≤ 1040000) : B2q s' key ws lb n L := by
  obtain ⟨l, e⟩ := he.ts
  have hle : s.ts.length ≤ s'.ts.length := by rw [e, List.length_append]; omega
  have hr : s.real = false → ∀ w ∈ key :: ws, Rok s.ts w := fun hr w hw => (h.2.2 w hw).rok hr
  obtain ⟨a, b⟩ := A6S hg.tok hr hb hbl (show n ≤ 100 by omega) qO (by rw [h.1]; exact he) hg'.tok qO
  exact ⟨a, b.trans h.2.1, fun w hw => (h.2.2 w hw).ext he⟩
theorem B2r : B256 A5N := ⟨by decide⟩
theorem B2s : B256 A4w := ⟨by decide⟩
structure TrnAt (s : Ps) (root a b R C : LN) : Prop where
  ex : ∃ k L, A2u s a b k ∧ B2q s root [k] A5N 2 L ∧ L.getD 0 [] = R ∧ L.getD 1 [] = C
theorem A8y (s : Ps) (root sec pub : LN) : Ext s (A4j s root sec pub) := (B5r s sec pub).trans (A8v _ _ _ _ _)
theorem B9x (s : Ps) (a B : LN) : (X7 s a B).ts.length ≤ s.ts.length + 3 := A34 s a B
theorem B4v {s : Ps} {root a b B : LN} (h : GS s) (hr : KK s root) (ha : KK s a) (hB : V6 s b B) (hb : K32 b) (hl : s.ts.length ≤ 1030000) :
    GS (A4j s root a B) ∧ KK (A4j s root a B) (B2I s root a B) ∧ KK (A4j s root a B) (A9u s root a B) ∧ TrnAt (A4j s root a B) root a b (B2I s root a B) (A9u s root a B) := by
  obtain ⟨h1, h2⟩ := C0U h ha hB hb qO
  have hle := B9x s a B
  obtain ⟨g1, g2, g3⟩ := B9w (key := root) (ws := [A04 s a B]) (lb := A5N) (n := 2) h1 (fun w hw => by
    rcases List.mem_cons.1 hw with rfl | hw
    · exact hr.ext (B5r s a B).p
    · rw [List.mem_singleton.1 hw]; exact h2.kk) B2r qD qD (by show _ + 1 ≤ _; omega)
  exact ⟨g1, g2 0 qD, g2 1 qD, ⟨_, _, h2.ext (A8v _ _ _ _ _).p, g3, rfl, rfl⟩⟩
theorem TrnAt.ext {s s' : Ps} {root a b R C : LN} (h : TrnAt s root a b R C) (he : Pext s s') (hg : GS s) (hg' : GS s') (hl : s'.ts.length ≤ 1030000) : TrnAt s' root a b R C := by
  obtain ⟨k, L, h1, h2, h3, h4⟩ := h.ex
  exact ⟨k, L, h1.ext he, h2.ext he hg hg' B2r qD qD (by show _ + 1 ≤ _; omega), h3, h4⟩
theorem TrnAt.comm {s : Ps} {root a b R C : LN} (h : TrnAt s root a b R C) : TrnAt s root b a R C := by
  obtain ⟨k, L, h1, h2, h3, h4⟩ := h.ex
  exact ⟨k, L, h1.comm, h2, h3, h4⟩
theorem TrnAt.eq {s : Ps} {root a b B R C : LN} (h : TrnAt s root a b R C) (hB : V6 s b B) (hg : GS s) (hl : s.ts.length ≤ 1030000) : A4j s root a B = s ∧ B2I s root a B = R ∧ A9u s root a B = C := by
  obtain ⟨k, L, h1, h2, h3, h4⟩ := h.ex
  obtain ⟨e1, e2⟩ := h1.eq hB hg.tok qO
  unfold B2I A9u C0O A4j
  rw [e1, e2, h2.1, h2.2.1]
  exact ⟨rfl, h3, h4⟩
def A2P (s : Ps) (c k c' : LN) : Prop := ∃ L, B2q s c [] A4w 2 L ∧ L.getD 0 [] = k ∧ L.getD 1 [] = c'
theorem B2t {s : Ps} {c : LN} (h : GS s) (hc : KK s c) (hl : s.ts.length ≤ 1030000) : GS (X0 s c) ∧ KK (X0 s c) (A0t s c) ∧ KK (X0 s c) (A31 s c) ∧ A2P (X0 s c) c (A0t s c) (A31 s c) := by
  obtain ⟨g1, g2, g3⟩ := B9w (key := c) (ws := []) (lb := A4w) (n := 2) h (fun w hw => by rw [List.mem_singleton.1 hw]; exact hc) B2s qD qD (by show _ + 0 ≤ _; omega)
  exact ⟨g1, g2 0 qD, g2 1 qD, _, g3, rfl, rfl⟩
theorem A7y (s : Ps) (c : LN) : Ext s (X0 s c) := A8v _ _ _ _ _
theorem A2P.ext {s s' : Ps} {c k c' : LN} (h : A2P s c k c') (he : Pext s s') (hg : GS s) (hg' : GS s') (hl : s'.ts.length ≤ 1030000) : A2P s' c k c' := by
  obtain ⟨L, h1, h2, h3⟩ := h
  exact ⟨L, h1.ext he hg hg' B2s qD qD (by show _ + 0 ≤ _; omega), h2, h3⟩
theorem A2P.eq {s : Ps} {c k c' : LN} (h : A2P s c k c') : X0 s c = s ∧ A0t s c = k ∧ A31 s c = c' := by
  obtain ⟨L, h1, h2, h3⟩ := h
  unfold A0t A31 C0I X0
  rw [h1.1, h1.2.1]
  exact ⟨rfl, h2, h3⟩
theorem B9y (s : Ps) (w a b : LN) : Ext s (A9x s w a b) := by
  unfold A9x
  split
  · exact Ext.refl s
  · exact ⟨⟨rfl, A8g _ _ _⟩, rfl, Nat.le_refl _⟩
theorem C0V {s : Ps} {w a b : LN} (h : GS s) (hw : KK s w) (ha : ∀ x ∈ a, x < 256) (hb : ∀ x ∈ b, x < 256) (la : a.length ≤ 16777216) (lb : b.length ≤ 16777216) (hl : s.ts.length ≤ 1030000) : GS (A9x s w a b) := by
  unfold A9x
  split
  · exact h
  · rename_i hr
    obtain ⟨i, hi, rfl⟩ := hw.1 (by cases hq : s.real with | true => exact absurd hq hr | false => rfl)
    obtain ⟨e1, e2⟩ := C0H hi qO fun x => A2L x a b
    rw [e1]
    obtain ⟨l, g1, g2, g3, g4⟩ := A4u (B0I (x := ((i : Nat) : Int)) (A5L qO) ha hb la lb) h.tok
    exact ⟨g4, h.sel.add fun _ => ⟨_, a, b, rfl, hb, lb⟩⟩
theorem A8z (s : Ps) (w a b : LN) : (A9x s w a b).ts.length ≤ s.ts.length + 2 ∧ (A9x s w a b).n = s.n := by
  unfold A9x
  split
  · exact ⟨by omega, rfl⟩
  · refine ⟨?_, rfl⟩
    have h1 := V0 (ts := s.ts) (ws := w)
    have h2 := A1K (ts := rdT s.ts w) (t := A2L ((rdI s.ts w : Nat) : Int) a b)
    show (add (rdT s.ts w) (A2L ((rdI s.ts w : Nat) : Int) a b)).length ≤ _
    omega

def SkW (s : Ps) (x : Skp) : Prop := KK s x.key ∧ x.of.length = 32 ∧ x.n < 4294967296
structure WfR (s : Ps) (r : Rsd) : Prop where
  own : KK s r.own
  root : KK s r.root
  sk : r.sk = [] ∨ KK s r.sk
  tk : r.tk = [] ∨ KK s r.tk
  th : r.their = [] ∨ ∃ b, K32 b ∧ V6 s b r.their
  sks : ∀ x ∈ r.sks, SkW s x
  tt : r.tk ≠ [] → r.their ≠ []
theorem SkW.ext {s s' : Ps} {x : Skp} (h : SkW s x) (he : Pext s s') : SkW s' x := ⟨h.1.ext he, h.2⟩
theorem WfR.ext {s s' : Ps} {r : Rsd} (h : WfR s r) (he : Pext s s') : WfR s' r :=
  ⟨h.own.ext he, h.root.ext he, h.sk.imp id fun k => k.ext he, h.tk.imp id fun k => k.ext he, h.th.imp id fun ⟨b, k, p⟩ => ⟨b, k, p.ext he⟩, fun x hx => (h.sks x hx).ext he, h.tt⟩
theorem A8A {sks : List Skp} {of : LN} {n : Nat} {x : Skp} (h : x ∈ A2S sks of n) : x ∈ sks := by
  unfold A2S at h
  split at h
  · exact h
  · exact List.mem_of_mem_eraseIdx h
theorem B4w {sks : List Skp} {x y : Skp} (h : y ∈ B39 sks x) : y ∈ sks ∨ y = x := by
  rcases List.mem_append.1 (List.mem_of_mem_drop (show y ∈ (A2S sks x.of x.n ++ [x]).drop _ from h)) with h | h
  · exact .inl (A8A h)
  · exact .inr (List.mem_singleton.1 h)
theorem B4x {sks : List Skp} {of k : LN} {n : Nat} (h : A5M sks of n = some k) : ∃ x ∈ sks, x.key = k := by
  unfold A5M at h
  split at h
  · cases h
  · obtain ⟨x, h1, h2⟩ := Option.map_eq_some_iff.1 h
    exact ⟨x, List.mem_of_getElem? h1, h2⟩
theorem A8B : ∀ x ∈ F1, x < 256 := by decide
theorem B4y {hk : LN} (h : ∀ x ∈ hk, x < 256) (p n : Nat) : ∀ x ∈ A5P hk p n, x < 256 := fun x hx => by
  unfold A5P at hx
  simp only [List.mem_append] at hx
  rcases hx with ((h1 | h1) | h1) | h1
  · exact A33 _ _ x h1
  · exact h x h1
  · exact A33 _ _ x h1
  · exact A33 _ _ x h1
theorem B9z {w hk : LN} (hw : ∀ x ∈ w, x < 256) (h : ∀ x ∈ hk, x < 256) (p n : Nat) : ∀ x ∈ alW w hk p n, x < 256 := fun x hx => by
  unfold alW A4Z at hx
  simp only [List.mem_append] at hx
  rcases hx with ((h1 | h1) | h1) | h1
  · exact A33 _ _ x h1
  · exact hw x h1
  · exact A33 _ _ x h1
  · exact B4y h p n x h1
theorem B7V (w hk : LN) (p n : Nat) : (alW w hk p n).length = w.length + hk.length + 20 := by unfold alW; rw [A2y, A2h]; omega
theorem A9o (K N wa p : LN) : (V9 K N wa p).length = p.length + 16 := by unfold V9; rw [List.length_append, Y7, A4b]
theorem B4z (s : Ps) (w a b : LN) : (B7D s w a b).length ≤ b.length + 32 := by
  unfold B7D
  split
  · rw [A9o]; omega
  · unfold B5e; rw [show (bts _).length = 32 from A0N _ qD]; omega
structure Snt (s : Ps) (hk : LN) (hp hn : Nat) (g : LN) : Prop where
  pub : ∃ b, K32 b ∧ V6 s b hk
  hp : hp < 4294967296
  hn : hn < 4294967296
  gl : g.length ≤ 1000
theorem Snt.ext {s s' : Ps} {hk : LN} {hp hn : Nat} {g : LN} (h : Snt s hk hp hn g) (he : Pext s s') : Snt s' hk hp hn g := by
  obtain ⟨⟨b, h1, h2⟩, h3, h4, h5⟩ := h
  exact ⟨⟨b, h1, h2.ext he⟩, h3, h4, h5⟩
theorem A2l (s : Ps) (r : Rsd) (w t : LN) : (U5 s r w t).ts.length ≤ s.ts.length + 7 ∧ (U5 s r w t).n = s.n := by
  have h1 := A35 s r.own
  have h2 := A0F (L2 s r.own) r.sk
  have h3 := A8z (X0 (L2 s r.own) r.sk) (A0t (L2 s r.own) r.sk) (B2c s r w) t
  have h4 := B7h s r.own
  unfold U5
  exact ⟨by omega, by omega⟩
theorem B9A {s : Ps} {r : Rsd} {w t : LN} (h : GS s) (hr : WfR s r) (hsk : r.sk ≠ []) (hp : r.prev < 4294967296) (hn : r.sn < 4294967296) (hw : ∀ x ∈ w, x < 256) (hwl : w.length ≤ 1000) (ht : ∀ x ∈ t, x < 256) (htl : t.length ≤ 900) (hl : s.ts.length ≤ 1020000) :
    GS (U5 s r w t) ∧ Ext s (U5 s r w t) ∧ WfR (U5 s r w t) (V7 s r) ∧ V6 (U5 s r w t) r.own (I2 s r.own) ∧ Snt (U5 s r w t) (I2 s r.own) r.prev r.sn (A0V s r w t) ∧ A2P (U5 s r w t) r.sk (A0t (L2 s r.own) r.sk) (A31 (L2 s r.own) r.sk) ∧ KK (U5 s r w t) (A0t (L2 s r.own) r.sk) ∧
    (∀ s', GS s' → Pext (U5 s r w t) s' → s'.ts.length ≤ 1048576 → A1Q s' (A0t (L2 s r.own) r.sk) (alW w (I2 s r.own) r.prev r.sn) (A0V s r w t) = some t) := by
  have hk : KK s r.sk := hr.sk.resolve_left hsk
  have l1 := A35 s r.own
  obtain ⟨g1, p1⟩ := B9v h hr.own qO
  have e1 := B5n s r.own
  obtain ⟨g2, k2, k3, sa⟩ := B2t (c := r.sk) g1 (hk.ext e1.p) qO
  have e2 := A7y (L2 s r.own) r.sk
  have l2 := A0F (L2 s r.own) r.sk
  have hal : ∀ x ∈ B2c s r w, x < 256 := B9z hw p1.k32.1 _ _
  have hall : (B2c s r w).length = w.length + 32 + 20 := by rw [← p1.k32.2]; exact B7V _ _ _ _
  have g3 := C0V (a := B2c s r w) (b := t) g2 k2 hal ht qO qO qO
  have e3 := B9y (X0 (L2 s r.own) r.sk) (A0t (L2 s r.own) r.sk) (B2c s r w) t
  have l3 := A8z (X0 (L2 s r.own) r.sk) (A0t (L2 s r.own) r.sk) (B2c s r w) t
  have eA : Ext s (U5 s r w t) := e1.trans (e2.trans e3)
  have g3' : GS (U5 s r w t) := g3
  have p3 : V6 (U5 s r w t) r.own (I2 s r.own) := p1.ext (e2.trans e3).p
  refine ⟨g3', eA, ?_, p3, ⟨⟨_, hr.own.2, p3⟩, hp, hn, ?_⟩, ?_, k2.ext e3.p, ?_⟩
  · have h' := hr.ext eA.p
    exact ⟨h'.own, h'.root, .inr (k3.ext e3.p), h'.tk, h'.th, h'.sks, h'.tt⟩
  · have := B4z (X0 (L2 s r.own) r.sk) (A0t (L2 s r.own) r.sk) (B2c s r w) t
    unfold A0V; omega
  · have := A2l s r w t
    exact sa.ext e3.p g2 g3 (show (U5 s r w t).ts.length ≤ _ by omega)
  · intro s' g' e' l'
    exact B7E g2.tok k2.1 hal ht (Nat.le_trans (Nat.le_of_eq hall) qO) qO e' g'.tok l'
theorem B9B {of : LN} (ho : of.length = 32) : ∀ (i : Nat) {x : Ast}, GS x.1 → KK x.1 x.2.1 → (∀ y ∈ x.2.2.2, SkW x.1 y) → x.2.2.1 + i < 4294967296 → x.1.ts.length + 3 * i ≤ 1020000 →
    GS (rep (aSt of) i x).1 ∧ Ext x.1 (rep (aSt of) i x).1 ∧ KK (rep (aSt of) i x).1 (rep (aSt of) i x).2.1 ∧ ∀ y ∈ (rep (aSt of) i x).2.2.2, SkW (rep (aSt of) i x).1 y
  | 0, x, h1, h2, h3, _, _ => ⟨h1, Ext.refl _, h2, h3⟩
  | i + 1, x, h1, h2, h3, hn, hl => by
    obtain ⟨g1, g2, g3, g4⟩ := B9B ho i h1 h2 h3 qO qO
    have hts := B1s of i x
    have hnn := B4e of i x
    have e1 := A7y (rep (aSt of) i x).1 (rep (aSt of) i x).2.1
    obtain ⟨a1, a2, a3, -⟩ := B2t g1 g3 qO
    refine ⟨a1, g2.trans e1, a3, fun y hy => ?_⟩
    rcases B4w (show y ∈ B39 (rep (aSt of) i x).2.2.2 ⟨of, (rep (aSt of) i x).2.2.1, A0t (rep (aSt of) i x).1 (rep (aSt of) i x).2.1⟩ from hy) with hy | rfl
    · exact (g4 y hy).ext e1.p
    · exact ⟨a2, ho, by show (rep (aSt of) i x).2.2.1 < _; omega⟩
theorem B9C {s : Ps} {key of : LN} {N n : Nat} {sks : List Skp} (h : GS s) (hk : KK s key) (ho : of.length = 32) (hs : ∀ y ∈ sks, SkW s y) (hn : n < 4294967296) (hl : s.ts.length ≤ 1010000) :
    GS (ahX s key N n of sks).1 ∧ Ext s (ahX s key N n of sks).1 ∧ KK (ahX s key N n of sks).1 (ahX s key N n of sks).2.1 ∧ ∀ y ∈ (ahX s key N n of sks).2.2.2, SkW (ahX s key N n of sks).1 y := by
  by_cases hE : ahE N n = 0
  · obtain ⟨h1, h2⟩ := B2f hE
    rw [A2A hE]
    exact B9B ho (n - N) (x := (s, key, N, sks)) h hk hs (by dsimp only; omega) (by dsimp only; omega)
  · rw [A8w hE]
    exact ⟨h, Ext.refl _, hk, hs⟩
theorem B9D {s : Ps} {r : Rsd} {w hk g : LN} {hp hn : Nat} (h : GS s) (hr : WfR s r) (hm : Snt s hk hp hn g) (tn : r.tn < 4294967296) (sn : s.n < 1000000000) (hsl : r.sks.length ≤ 1000) (hl : s.ts.length ≤ 1000000) :
    OpnH s r hk hp hn ∧ GS (N5 s r w hk hp hn g).1 ∧ Ext s (N5 s r w hk hp hn g).1 ∧ WfR (N5 s r w hk hp hn g).1 (N5 s r w hk hp hn g).2.1 ∧ (N5 s r w hk hp hn g).1.ts.length ≤ s.ts.length + 200 ∧ (N5 s r w hk hp hn g).1.n ≤ s.n + 1 ∧ (N5 s r w hk hp hn g).2.1.sks.length ≤ 1000 ∧ (r.their ≠ [] → (N5 s r w hk hp hn g).2.1.their ≠ []) := by
  obtain ⟨b, hb, hB⟩ := hm.pub
  have kB := hB.kk
  have hkn : hk ≠ [] := fun e => by have := kB.2.2; rw [e] at this; cases this
  -- the first half
  have hA : GS (opA s r hp).1 ∧ Ext s (opA s r hp).1 ∧ (∀ y ∈ (opA s r hp).2.2.2, SkW (opA s r hp).1 y) := by
    by_cases h0 : r.tk = []
    · rw [B2j h0]; exact ⟨h, Ext.refl _, hr.sks⟩
    · rw [A5U h0]
      obtain ⟨b', hb', hB'⟩ := hr.th.resolve_left (hr.tt h0)
      obtain ⟨x1, x2, x3, x4⟩ := B9C (N := r.tn) (n := hp) h (hr.tk.resolve_left h0) hB'.k32.2 hr.sks hm.hp qO
      exact ⟨x1, x2, x4⟩
  obtain ⟨a1, a2, a3⟩ := hA
  have lA := B7T s r hp tn hm.hp hsl
  have lT := A1t (opA s r hp).1 r.root r.own hk
  obtain ⟨t1, t2, t3, -⟩ := B4v a1 (hr.root.ext a2.p) (hr.own.ext a2.p) (hB.ext a2.p) hb qO
  have tE := A8y (opA s r hp).1 r.root r.own hk
  have hBx : ∀ x, opB s r hk hp = x → GS x.1 ∧ Ext s x.1 ∧ KK x.1 x.2.root ∧ KK x.1 x.2.tk ∧ (∃ b, K32 b ∧ V6 x.1 b x.2.their) ∧ (∀ y ∈ x.2.sks, SkW x.1 y) ∧ x.2.tn < 4294967296 ∧ x.2.sks.length ≤ 1000 ∧ x.1.ts.length ≤ s.ts.length + 55 ∧ x.1.n = s.n := by
    intro x hx
    subst hx
    cases hf : A1R r hk with
    | true =>
      rw [B4t hf]
      exact ⟨t1, a2.trans tE, t2, t3, ⟨b, hb, (hB.ext a2.p).ext tE.p⟩, fun y hy => (a3 y hy).ext tE.p, (show 0 < 4294967296 by decide), lA.2.2.2, by show (A4j _ _ _ _).ts.length ≤ _; omega, lT.2.trans lA.2.1⟩
    | false =>
      rw [B7R hf]
      have htk : r.tk ≠ [] := fun e => by unfold A1R at hf; rw [e] at hf; simp at hf
      exact ⟨h, Ext.refl _, hr.root, hr.tk.resolve_left htk, hr.th.resolve_left (hr.tt htk), hr.sks, tn, hsl, by dsimp only; omega, rfl⟩
  obtain ⟨x, hx⟩ : ∃ x, opB s r hk hp = x := ⟨_, rfl⟩
  obtain ⟨b1, b2, b3, b4, ⟨bt, bt1, bt2⟩, b6, b7, b8, b9, b10⟩ := hBx x hx
  have hC := B9C (N := x.2.tn) (n := hn) b1 b4 bt2.k32.2 b6 hm.hn qO
  have lC := B7O x.1 x.2.tk x.2.tn hn x.2.their x.2.sks b7 hm.hn b8
  change GS (opC x hn).1 ∧ Ext x.1 (opC x hn).1 ∧ KK (opC x hn).1 (opC x hn).2.1 ∧ ∀ y ∈ (opC x hn).2.2.2, SkW (opC x hn).1 y at hC
  change (opC x hn).1.ts.length ≤ _ ∧ (opC x hn).1.n = _ ∧ (opC x hn).2.2.1 < _ ∧ (opC x hn).2.2.2.length ≤ _ at lC
  obtain ⟨c1, c2, c3, c4⟩ := hC
  obtain ⟨d1, d2, d3, -⟩ := B2t c1 c3 qO
  have dE := A7y (opC x hn).1 (opC x hn).2.1
  have dL := A0F (opC x hn).1 (opC x hn).2.1
  have hD : Ext s (opD x hn) := b2.trans (c2.trans dE)
  have hW : WfR (opD x hn) (opG r x hn) := by
    have h' := hr.ext hD.p
    exact ⟨h'.own, b3.ext (c2.trans dE).p, h'.sk, .inr d3, .inr ⟨bt, bt1, bt2.ext (c2.trans dE).p⟩, fun y hy => (c4 y hy).ext dE.p, fun _ e => by have e2 : x.2.their = [] := e; have := bt2.k32.2; rw [e2] at this; cases this⟩
  obtain ⟨f1, f2⟩ := A4g (s := opD x hn) d1 (by show (X0 _ _).n < _; omega)
  have fE := A3a (opD x hn)
  have fL := A0T (opD x hn)
  have lT2 := A1t (F2 (opD x hn)) x.2.root (I9 (opD x hn)) x.2.their
  have lD : (opD x hn).ts.length ≤ s.ts.length + 110 ∧ (opD x hn).n = s.n := by
    show (X0 _ _).ts.length ≤ _ ∧ (X0 _ _).n = _
    exact ⟨by omega, by omega⟩
  obtain ⟨u1, u2, u3, -⟩ := B4v f1 ((b3.ext (c2.trans dE).p).ext fE.p) f2 ((bt2.ext (c2.trans dE).p).ext fE.p) bt1 qO
  have uE := A8y (F2 (opD x hn)) x.2.root (I9 (opD x hn)) x.2.their
  have hO : OpnH s r hk hp hn := ⟨h.sel, fun k hk_ => by obtain ⟨y, hy, rfl⟩ := B4x hk_; exact (hr.sks y hy).1.1, by rw [hx]; exact d1.sel, by rw [hx]; exact d2.1⟩
  refine ⟨hO, ?_⟩
  have hsame : GS s ∧ Ext s s ∧ WfR s r ∧ s.ts.length ≤ s.ts.length + 200 ∧ s.n ≤ s.n + 1 ∧ r.sks.length ≤ 1000 ∧ (r.their ≠ [] → r.their ≠ []) := ⟨h, Ext.refl _, hr, by omega, by omega, hsl, id⟩
  have hth : x.2.their ≠ [] := fun e => by have := bt2.k32.2; rw [e] at this; cases this
  unfold N5
  split
  · split
    · exact hsame
    · exact ⟨h, Ext.refl _, ⟨hr.own, hr.root, hr.sk, hr.tk, hr.th, fun y hy => hr.sks y (A8A hy), hr.tt⟩, by dsimp only; omega, by dsimp only; omega, Nat.le_trans (A3b _ _ _) hsl, id⟩
  · split
    · exact ⟨a1, a2, hr.ext a2.p, by dsimp only; omega, by dsimp only; omega, hsl, id⟩
    · rw [hx]
      split
      · exact ⟨c1, b2.trans c2, hr.ext (b2.trans c2).p, by dsimp only; omega, by dsimp only; omega, hsl, id⟩
      · split
        · exact ⟨d1, hD, hr.ext hD.p, by dsimp only; omega, by dsimp only; omega, hsl, id⟩
        · cases hf : A1R r hk with
          | false =>
            rw [B9u rfl]
            exact ⟨d1, hD, hW, by dsimp only; omega, by dsimp only; omega, lC.2.2.2, fun _ => hth⟩
          | true =>
            rw [B7S rfl]
            have hW2 := hW.ext (fE.trans uE).p
            refine ⟨u1, hD.trans (fE.trans uE), ⟨f2.ext uE.p, u2, .inr u3, hW2.tk, hW2.th, hW2.sks, hW2.tt⟩, ?_, ?_, lC.2.2.2, fun _ => hth⟩
            · show (A4j (F2 (opD x hn)) x.2.root (I9 (opD x hn)) x.2.their).ts.length ≤ _
              omega
            · show (A4j (F2 (opD x hn)) x.2.root (I9 (opD x hn)) x.2.their).n ≤ _
              omega
theorem wf0 (m : Nat) : GS (A9w (rS m) (rK m) (rP m)) ∧ WfR (A9w (rS m) (rK m) (rP m)) (A9v (rS m) (rK m) (rP m)) ∧ WfR (A9w (rS m) (rK m) (rP m)) (B7i (rK m) (rO m)) ∧ (A9w (rS m) (rK m) (rP m)).ts.length ≤ 12 ∧ (A9w (rS m) (rK m) (rP m)).n = 3 ∧
    TrnAt (A9w (rS m) (rK m) (rP m)) (rK m) (A9v (rS m) (rK m) (rP m)).own (rO m) (A9v (rS m) (rK m) (rP m)).root (A9v (rS m) (rK m) (rP m)).sk ∧ (A9v (rS m) (rK m) (rP m)).sk ≠ [] := by
  have g0 : GS (rg0 m) := ⟨Tok.nil, X3.nil⟩
  have n0 : (rg0 m).n = 0 := rfl
  have t0 : (rg0 m).ts.length = 0 := rfl
  obtain ⟨g1, k1⟩ := A4g g0 qO
  have l1 := A0T (rg0 m)
  obtain ⟨g2, k2⟩ := A4g g1 qO
  have l2 := A0T (F2 (rg0 m))
  have e2 := A3a (F2 (rg0 m))
  obtain ⟨g3, p3⟩ := B9v g2 k2 qO
  have l3 := A35 (F2 (F2 (rg0 m))) (rO m)
  have n3 := B7h (F2 (F2 (rg0 m))) (rO m)
  have e3 := B5n (F2 (F2 (rg0 m))) (rO m)
  change GS (rS m) at g3
  change V6 (rS m) (rO m) (rP m) at p3
  change (rS m).ts.length ≤ _ at l3
  change (rS m).n = _ at n3
  obtain ⟨g4, k4⟩ := A4g g3 qO
  have l4 := A0T (rS m)
  have e4 := A3a (rS m)
  have kK : KK (F2 (rS m)) (rK m) := ((k1.ext e2.p).ext e3.p).ext e4.p
  have kO : KK (F2 (rS m)) (rO m) := (k2.ext e3.p).ext e4.p
  obtain ⟨g5, k5, k6, ta⟩ := B4v g4 kK k4 (p3.ext e4.p) k2.2 qO
  have e5 := A8y (F2 (rS m)) (rK m) (I9 (rS m)) (rP m)
  have l5 := A1t (F2 (rS m)) (rK m) (I9 (rS m)) (rP m)
  refine ⟨g5, ⟨k4.ext e5.p, k5, .inr k6, .inl rfl, .inr ⟨_, k2.2, (p3.ext e4.p).ext e5.p⟩, (fun x hx => by cases hx), fun h => absurd rfl h⟩, ⟨kO.ext e5.p, kK.ext e5.p, .inl rfl, .inl rfl, .inl rfl, (fun x hx => by cases hx), fun h => absurd rfl h⟩, ?_, ?_, ta, ?_⟩
  · show (A4j _ _ _ _).ts.length ≤ _; omega
  · show (A4j _ _ _ _).n = _; omega
  · intro e
    have := k6.2.2
    rw [show A9u (F2 (rS m)) (rK m) (I9 (rS m)) (rP m) = [] from e] at this
    cases this

def B9X (hk : LN) (k : Nat → LN) (sks : List Skp) : Nat → List Skp
  | 0 => sks
  | i + 1 => B39 (B9X hk k sks i) ⟨hk, i, k i⟩
theorem B5N {s : Ps} {hk : LN} {c k : Nat → LN} {sks : List Skp} : ∀ (i : Nat), (∀ j, j < i → A2P s (c j) (k j) (c (j + 1))) → rep (aSt hk) i (s, c 0, 0, sks) = (s, c i, i, B9X hk k sks i)
  | 0, _ => rfl
  | i + 1, h => by
    show aSt hk (rep (aSt hk) i (s, c 0, 0, sks)) = _
    rw [B5N i fun j hj => h j qO]
    obtain ⟨e1, e2, e3⟩ := (h i qO).eq
    unfold aSt
    dsimp only
    rw [e1, e2, e3]
    rfl
theorem B7W {s : Ps} {r : Rsd} {w hk b R C g t : LN} {hp n : Nat} {c k : Nat → LN} (hg : GS s) (hl : s.ts.length ≤ 1000000) (h0 : A5M r.sks hk n = none) (hfr : A1R r hk = true) (hA : opA s r hp = (s, r.tk, r.tn, r.sks)) (hAE : A9n r hp = 0) (ta : TrnAt s r.root r.own b R C) (hB : V6 s b hk)
    (hc : c 0 = C) (h16 : n ≤ 16) (hst : ∀ j, j ≤ n → A2P s (c j) (k j) (c (j + 1))) (ho : A1Q s (k n) (alW w hk hp n) g = some t) :
    N5 s r w hk hp n g = (A4j (F2 s) R (I9 s) hk, ⟨I9 s, hk, B2I (F2 s) R (I9 s) hk, A9u (F2 s) R (I9 s) hk, 0, c (n + 1), n + 1, r.sn, B9X hk k r.sks n⟩, 0, t) := by
  obtain ⟨e1, e2, e3⟩ := ta.eq hB hg qO
  have hx : opB s r hk hp = (s, ⟨r.own, hk, R, r.sk, r.sn, C, 0, r.prev, r.sks⟩) := by
    rw [B4t hfr, hA]
    unfold B9W
    dsimp only
    rw [e1, e2, e3]
  have hE : ahE 0 n = 0 := B2g (Nat.zero_le _) qO
  have hC : opC (s, (⟨r.own, hk, R, r.sk, r.sn, C, 0, r.prev, r.sks⟩ : Rsd)) n = (s, c n, n, B9X hk k r.sks n) := by
    show ahX s C 0 n hk r.sks = _
    rw [A2A hE, Nat.sub_zero, ← hc]
    exact B5N n fun j hj => hst j qO
  obtain ⟨f1, f2, f3⟩ := (hst n (Nat.le_refl _)).eq
  have hD : opD (s, (⟨r.own, hk, R, r.sk, r.sn, C, 0, r.prev, r.sks⟩ : Rsd)) n = s := by unfold opD; rw [hC]; exact f1
  have hK : A9y (s, (⟨r.own, hk, R, r.sk, r.sn, C, 0, r.prev, r.sks⟩ : Rsd)) n = k n := by unfold A9y; rw [hC]; exact f2
  rw [B2i h0 hx (fun _ => hAE) hE (by rw [hD, hK]; exact ho), B7S hfr, hD]
  unfold opF opG
  rw [hC]
  dsimp only
  rw [f3, Nat.mod_eq_of_lt qO]
noncomputable def snd (m : Nat) : Nat → Ps × Rsd
  | 0 => (A9w (rS m) (rK m) (rP m), A9v (rS m) (rK m) (rP m))
  | i + 1 => (U5 (snd m i).1 (snd m i).2 F1 [i % 256], V7 (snd m i).1 (snd m i).2)
noncomputable def B9E (m i : Nat) : LN := I2 (snd m i).1 (snd m i).2.own
noncomputable def B9Y (m i : Nat) : LN := A0t (L2 (snd m i).1 (snd m i).2.own) (snd m i).2.sk
noncomputable def sndG (m i : Nat) : LN := A0V (snd m i).1 (snd m i).2 F1 [i % 256]
structure SnF (m i : Nat) : Prop where
  gs : GS (snd m i).1
  ext : Ext (snd m 0).1 (snd m i).1
  wf : WfR (snd m i).1 (snd m i).2
  len : (snd m i).1.ts.length ≤ 12 + 7 * i
  n : (snd m i).1.n = 3
  prev : (snd m i).2.prev = 0
  sn : (snd m i).2.sn = i
  own : (snd m i).2.own = (snd m 0).2.own
  sk : (snd m i).2.sk ≠ []
structure SnG (m i : Nat) : Prop where
  gs : GS (snd m (i + 1)).1
  ext : Ext (snd m i).1 (snd m (i + 1)).1
  wf : WfR (snd m (i + 1)).1 (snd m (i + 1)).2
  pub : V6 (snd m (i + 1)).1 (snd m i).2.own (B9E m i)
  snt : Snt (snd m (i + 1)).1 (B9E m i) 0 i (sndG m i)
  step : A2P (snd m (i + 1)).1 (snd m i).2.sk (B9Y m i) (snd m (i + 1)).2.sk
  kk : KK (snd m (i + 1)).1 (B9Y m i)
  opn : ∀ s', GS s' → Pext (snd m (i + 1)).1 s' → s'.ts.length ≤ 1048576 → A1Q s' (B9Y m i) (alW F1 (B9E m i) 0 i) (sndG m i) = some [i % 256]
def skL (hk : LN) (k : Nat → LN) (n : Nat) : List Skp := (List.range n).map fun j => ⟨hk, j, k j⟩
noncomputable def sndS (m k : Nat) : Ps := (snd m (k + 1)).1
structure SkF (m k : Nat) (z : Ps × Rsd × Int × LN) : Prop where
  e : z.2.2.1 = 0
  t : z.2.2.2 = [k % 256]
  gs : GS z.1
  wf : WfR z.1 z.2.1
  ext : Ext (sndS m k) z.1
  len : z.1.ts.length ≤ 600
  n : z.1.n ≤ 4
  their : z.2.1.their = B9E m 0
  tk : z.2.1.tk ≠ []
  tn : z.2.1.tn = k + 1
  sks : z.2.1.sks = skL (B9E m 0) (B9Y m) k
structure Lnk (s : Ps) (a b : Rsd) : Prop where
  gs : GS s
  wa : WfR s a
  wb : WfR s b
  ta : TrnAt s b.root b.own a.own a.root a.sk
  sn : a.sn = 0
  sk : a.sk ≠ []
  ska : a.sks = []
  skb : b.sks = []
  an : a.tn < 4294967296
  bn : b.tn < 4294967296
  bs : b.sn < 4294967296
structure Png (s : Ps) (a b : Rsd) (t : LN) (s2 : Ps) (b2 : Rsd) : Prop where
  o : OpnH (U5 s a F1 t) b (I2 s a.own) a.prev 0
  e : N5 (U5 s a F1 t) b F1 (I2 s a.own) a.prev 0 (A0V s a F1 t) = (s2, b2, 0, t)
  l : Lnk s2 b2 (V7 s a)
  snt : Snt (U5 s a F1 t) (I2 s a.own) a.prev 0 (A0V s a F1 t)
  s2e : s2 = A4j (F2 (U5 s a F1 t)) a.root (I9 (U5 s a F1 t)) (I2 s a.own)
  b2e : b2 = ⟨I9 (U5 s a F1 t), I2 s a.own, B2I (F2 (U5 s a F1 t)) a.root (I9 (U5 s a F1 t)) (I2 s a.own), A9u (F2 (U5 s a F1 t)) a.root (I9 (U5 s a F1 t)) (I2 s a.own), 0, A31 (L2 s a.own) a.sk, 1, b.sn, []⟩
  len : s2.ts.length ≤ s.ts.length + 20
  n : s2.n = s.n + 1
theorem ping {s : Ps} {a b : Rsd} {t : LN} (h : Lnk s a b) (hfr : A1R b (I2 s a.own) = true) (hp : b.tk = [] ∨ b.tn = a.prev) (pv : a.prev < 4294967296) (ht : ∀ x ∈ t, x < 256) (htl : t.length ≤ 900) (hl : s.ts.length ≤ 900000) (hn : s.n < 900000000) : ∃ s2 b2, Png s a b t s2 b2 := by
  obtain ⟨a1, a2, a3, a4, a5, a6, a7, a8⟩ := B9A (w := F1) (t := t) h.gs h.wa h.sk pv (by rw [h.sn]; decide) A8B qD ht htl qO
  rw [h.sn] at a5 a8
  have l1 := A2l s a F1 t
  have hO := B9D (w := F1) (g := A0V s a F1 t) a1 (h.wb.ext a2.p) a5 h.bn qO (by rw [h.skb]; exact Nat.zero_le _) qO
  have hA : opA (U5 s a F1 t) b a.prev = (U5 s a F1 t, b.tk, b.tn, b.sks) ∧ A9n b a.prev = 0 := by
    by_cases h0 : b.tk = []
    · exact ⟨B2j h0, B2k h0⟩
    · have e := hp.resolve_left h0
      have hE : ahE b.tn a.prev = 0 := by rw [e]; exact B2g (Nat.le_refl _) qO
      rw [A5U h0, A3g h0, A2A hE]
      refine ⟨?_, hE⟩
      rw [e, Nat.sub_self]; rfl
  have e := B7W (s := U5 s a F1 t) (r := b) (w := F1) (g := A0V s a F1 t) (t := t) (hp := a.prev) (n := 0) (c := fun j => if j = 0 then a.sk else (V7 s a).sk) (k := fun _ => A0t (L2 s a.own) a.sk) a1 qO (by rw [h.skb]; rfl) hfr hA.1 hA.2 (h.ta.ext a2.p h.gs a1 qO) a4 rfl qD
    (fun j hj => by rw [show j = 0 by omega]; exact a6) (a8 _ a1 (Pext.refl _) qO)
  rw [h.skb] at e
  change _ = (_, (⟨_, _, _, _, 0, A31 (L2 s a.own) a.sk, 1, b.sn, []⟩ : Rsd), 0, t) at e
  obtain ⟨o1, o2, o3, o4, o5, o6, o7, o8⟩ := hO
  rw [e] at o2 o3 o4 o5 o6
  obtain ⟨f1, f2⟩ := A4g a1 qO
  have fE := A3a (U5 s a F1 t)
  have l2 := A0T (U5 s a F1 t)
  have kr : KK (F2 (U5 s a F1 t)) a.root := (h.wa.root.ext a2.p).ext fE.p
  obtain ⟨t1, t2, t3, t4⟩ := B4v f1 kr f2 (a4.ext fE.p) h.wa.own.2 qO
  have tE := A8y (F2 (U5 s a F1 t)) a.root (I9 (U5 s a F1 t)) (I2 s a.own)
  have l3 := A1t (F2 (U5 s a F1 t)) a.root (I9 (U5 s a F1 t)) (I2 s a.own)
  refine ⟨_, _, ⟨o1, e, ⟨t1, o4, a3.ext (fE.trans tE).p, t4.comm, rfl, ?_, rfl, h.ska, (show 1 < 4294967296 by decide), h.an, ?_⟩, a5, rfl, rfl, by omega, by omega⟩⟩
  · intro e3
    have := t3.2.2
    rw [show A9u (F2 (U5 s a F1 t)) a.root (I9 (U5 s a F1 t)) (I2 s a.own) = [] from e3] at this
    cases this
  · show (a.sn + 1) % 4294967296 < _; exact Nat.mod_lt _ qD

theorem Par.mono {R R' : Mem} {tb pb : Nat} {s : Ps} {r0 r1 : Rsd} {M : Mem} (h : Par R tb pb s r0 r1 M) (hR : ∀ x, x ∈ R → x ∈ R') : Par R' tb pb s r0 r1 M := by
  obtain ⟨ao, at_, ar, ak, al, aq, bo, bt, br, bk, bl, bq, MP, h1, h2, h3, h4⟩ := h
  exact ⟨ao, at_, ar, ak, al, aq, bo, bt, br, bk, bl, bq, MP, h1, h2.mono hR, h3.mono hR, h4⟩
def hiW : LN := [104, 105]
def hoW : LN := [104, 111]
noncomputable def p0S (m : Nat) : Ps := A9w (rS m) (rK m) (rP m)
noncomputable def p0A (m : Nat) : Rsd := A9v (rS m) (rK m) (rP m)
noncomputable def p0B (m : Nat) : Rsd := B7i (rK m) (rO m)
theorem lnk0 (m : Nat) : Lnk (p0S m) (p0A m) (p0B m) ∧ (p0S m).ts.length ≤ 12 ∧ (p0S m).n = 3 := by
  obtain ⟨w1, w2, w3, w4, w5, w6, w7⟩ := wf0 m
  exact ⟨⟨w1, w2, w3, w6.comm, rfl, w7, rfl, rfl, (show 0 < 4294967296 by decide), (show 0 < 4294967296 by decide), (show 0 < 4294967296 by decide)⟩, w4, w5⟩
theorem B5O {r : Rsd} (h : r.tk = []) (hk : LN) : A1R r hk = true := by unfold A1R; rw [h]; simp
theorem A4h (A : Mem) (hG : Glb A) : FnV Tryz.prog 7 [] A (.bool true) := by
 refine FnX.enter (N := 55) Tryz.func7 rfl rfl rfl fun w_ => ?_
 refine B4 kn (A1 (as_ (A0 kn (A1 ?_))))
 refine C7 (aS rfl a0) kR (A8x 1 _ qD hG.up) rfl ?_
 rintro v10 M10 J10 ⟨tb, pb, rfl, hp10⟩
 change Par _ tb pb (p0S 1) (p0A 1) (p0B 1) M10 at hp10
 obtain ⟨L0, n0, n1⟩ := lnk0 1
 obtain ⟨s2, rb2, Q⟩ := ping (t := hiW) L0 (B5O rfl _) (.inl rfl) (show 0 < 4294967296 by decide) qD qD qO qO
 have q1 := Q.len
 have q2 := Q.n
 have q3 : rb2.sn = 0 := by rw [Q.b2e]
 have q4 : rb2.prev = 0 := by rw [Q.b2e]; rfl
 obtain ⟨s4, ra4, V⟩ := ping (t := hoW) Q.l (B5O rfl _) (.inl rfl) (by rw [q4]; decide) qD qD qO qO
 have l1 := A2l (p0S 1) (p0A 1) F1 hiW
 have l2 := A2l s2 rb2 F1 hoW
 have g1 := Q.snt.gl
 have g2 := V.snt.gl
 have ak : 0 < (p0A 1).sk.length := List.length_pos_iff.2 L0.sk
 have bk : 0 < rb2.sk.length := List.length_pos_iff.2 Q.l.sk
 have h1l := A36 (p0S 1) (p0A 1).own
 have h2l := A36 s2 rb2.own
 refine as_ (A0 (D5 1) (A3 (A1 (mv_ ?_))))
 refine A2 (G5 (e := 45) rfl rfl kR) rfl ?_
 refine A0 (D3 1 12) ?_
 refine C9 rfl ?_
 refine A7 (nx (D5 1) (A1 (mv_ ?_)))
 refine A4 rfl (C6 (Mc := M10) (R := _) (aS rfl (aS rfl (aS rfl (a0)))) kR qP (B2m tb pb (p0S 1) (p0A 1) (p0B 1) hiW M10 _ (hp10.mono qS) qO ak ⟨by decide⟩ qD hG.up) rfl ?_)
 rintro v15 M15 J15 ⟨hp15, vk, vg, rfl, hvk, hvg⟩
 haveI := hvk.cel
 haveI := hvg.cel
 refine mv_ ?_
 refine A2 (A0G rfl) rfl ?_
 refine A2 (A0x rfl) rfl ?_
 refine A4 rfl (C3 (cs := [A4p, vS, F5, F5, vS, .string ByteArray.empty]) kR rfl fun b2 => ?_)
 refine A4 rfl (A8 (vs := [.int .i64 1, vk, .int .u32 (((p0A 1).prev : Nat) : Int), .int .u32 (((p0A 1).sn : Nat) : Int), vg, .string (txt hiW)]) rfl rfl rfl kR qR (A6 rfl (A6 hvk.one (A6 rfl (A6 rfl (A6 hvg.one (A6 rfl I6)))))) UpC.upd ?_)
 refine as_ (A0 (D8 1 2 3) (A1 (mv_ ?_)))
 refine A2 (qw_ 6) rfl ?_
 refine A4 rfl (C6 (Mc := M15) (R := _) (aS rfl (aS rfl (a0))) kR qP (B2p tb pb (U5 (p0S 1) (p0A 1) F1 hiW) (V7 (p0S 1) (p0A 1)) (p0B 1) vk vg (I2 (p0S 1) (p0A 1).own) (A0V (p0S 1) (p0A 1) F1 hiW) hiW (p0A 1).prev (p0A 1).sn (s2, rb2, 0, hiW) M15 _ (hp15.mono qS) qO qO (hvk.mono qS) qO Q.snt.hp Q.snt.hn (hvg.mono qS) qO Q.o Q.e hG.up) rfl ?_)
 rintro v21 M21 J21 ⟨hp21, rfl⟩
 dsimp only at hp21 ⊢
 refine mv_ ?_
 refine A2 (A0G rfl) rfl ?_
 refine A2 (A0x rfl) rfl ?_
 refine as_ (as_ (A0 (D7 1 3 4 5) (A1 (mv_ ?_))))
 refine A4 rfl (C6 (Mc := M21) (R := _) (aS rfl (aS rfl (aS rfl (a0)))) kR qP (B2n tb pb s2 (V7 (p0S 1) (p0A 1)) rb2 hoW M21 _ (hp21.mono qS) qO bk ⟨by decide⟩ qD hG.up) rfl ?_)
 rintro v26 M26 J26 ⟨hp26, wk, wg, rfl, hwk, hwg⟩
 haveI := hwk.cel
 haveI := hwg.cel
 refine mv_ ?_
 refine A2 (A0G rfl) rfl ?_
 refine A2 (A0x rfl) rfl ?_
 refine A4 rfl (C3 (cs := [A4p, vS, F5, F5, vS, .string ByteArray.empty]) kR rfl fun b6 => ?_)
 refine A4 rfl (A8 (vs := [.int .i64 0, wk, (vU rb2.prev), (vU rb2.sn), wg, .string (txt hoW)]) rfl rfl rfl kR qR (A6 rfl (A6 hwk.one (A6 rfl (A6 rfl (A6 hwg.one (A6 rfl I6)))))) UpC.upd ?_)
 refine as_ (A0 (H5 1 3 4 5 6 7) (A1 (mv_ ?_)))
 refine A2 (qw_ 6) rfl ?_
 refine A4 rfl (C6 (Mc := M26) (R := _) (aS rfl (aS rfl (a0))) kR qP (B2o tb pb (U5 s2 rb2 F1 hoW) (V7 (p0S 1) (p0A 1)) (V7 s2 rb2) wk wg (I2 s2 rb2.own) (A0V s2 rb2 F1 hoW) hoW rb2.prev rb2.sn (s4, ra4, 0, hoW) M26 _ (hp26.mono qS) qO qO (hwk.mono qS) qO V.snt.hp (by rw [q3]; decide) (hwg.mono qS) qO (by rw [q3]; exact V.o) (by rw [q3]; exact V.e) hG.up) rfl ?_)
 rintro v32 M32 J32 ⟨hp32, rfl⟩
 dsimp only
 refine mv_ ?_
 refine A2 (A0G rfl) rfl ?_
 refine A2 (A0x rfl) rfl ?_
 refine as_ (as_ (A0 (H5 3 4 5 7 8 9) (A1 (mv_ (mv_ ?_)))))
 refine D6 rfl rfl (OpQ.opL qm_ rfl ?_)
 refine D6 rfl rfl (OpQ.opL (F4 true rfl rfl (eqT rfl)) rfl ?_)
 refine A2 (E2 rfl rfl) rfl ?_
 refine mv_ ?_
 refine D6 rfl rfl (OpQ.opL qm_ rfl ?_)
 refine D6 rfl rfl (OpQ.opL (A7J rfl rfl rfl) rfl ?_)
 refine A2 (E2 rfl rfl) rfl ?_
 refine mv_ ?_
 refine D6 rfl rfl (OpQ.opL qm_ rfl ?_)
 refine A2 (E2 rfl rfl) rfl ?_
 refine mv_ ?_
 refine D6 rfl rfl (OpQ.opL qm_ rfl ?_)
 refine D6 rfl rfl (OpQ.opL (F4 true rfl rfl (eqT rfl)) rfl ?_)
 refine A2 (E2 rfl rfl) rfl ?_
 refine mv_ ?_
 refine D6 rfl rfl (OpQ.opL qm_ rfl ?_)
 refine D6 rfl rfl (OpQ.opL (A7J rfl rfl rfl) rfl ?_)
 refine A2 (E2 rfl rfl) rfl ?_
 refine as_ (A0 (D5 0) (B0 ?_))
 exact ⟨_, [], [], I4 rfl rfl, List.nil_sublist _, by simp, rfl, rfl, rfl⟩

end Go.Proofs.YtlilcmjbaknafaaGreatDoor
