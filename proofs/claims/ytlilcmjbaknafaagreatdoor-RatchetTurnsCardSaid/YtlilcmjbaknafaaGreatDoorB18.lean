/- Part 18 of the texts of this claim, one behind the other. -/
import Derived.Test.YtlilcmjbaknafaaGreatDoorB17
set_option linter.unusedVariables false
set_option linter.unusedSimpArgs false
set_option maxRecDepth 100000
namespace Go.Proofs.YtlilcmjbaknafaaGreatDoor
open Go.Px
structure OpnH (s : Ps) (r : Rsd) (hk : LN) (hp hn : Nat) : Prop where
  sel : W4 s.ts
  k1 : ∀ k, A5j r.sks hk hn = some k → Kok s k
  s2 : W4 (opD (opB s r hk hp) hn).ts
  k2 : Kok (opD (opB s r hk hp) hn) (A80 (opB s r hk hp) hn)
theorem B44 {s : Ps} {r : Rsd} {w hk : LN} {hp hn : Nat} {g : LN} (h : (Q7 s r w hk hp hn g).2.2.1 ≠ 0) : (Q7 s r w hk hp hn g).2.1 = r ∧ (Q7 s r w hk hp hn g).2.2.2 = [] := by
  revert h
  unfold Q7
  split
  · split
    · exact fun _ => ⟨rfl, rfl⟩
    · exact fun h => absurd rfl h
  · split
    · exact fun _ => ⟨rfl, rfl⟩
    · split
      · exact fun _ => ⟨rfl, rfl⟩
      · split
        · exact fun _ => ⟨rfl, rfl⟩
        · exact fun h => absurd rfl h
theorem B1E (tb pb : Nat) (s : Ps) (r0 r1 : Rsd) (vk vg : Value) (hk g lt : LN) (hp hn : Nat) (oz : Ps × Rsd × Int × LN) (M0 A : Mem) (hPr : Par A tb pb s r0 r1 M0) (hn_ : s.ts.length + 500 ≤ 1000000) (hsn : s.n < 1000000000) (hhk : By A vk hk) (hkl : hk.length ≤ 100000) (hhp : hp < 4294967296) (hhn : hn < 4294967296) (hgg : By A vg g) (hgl : g.length ≤ 10000000) (hO : OpnH s r0 hk hp hn) (hoz : (Q7 s r0 F3 hk hp hn g) = oz) (hG : Glb A) : FnX Tryz.prog 10 [(vP tb), .agg #[.int .i64 0, vk, (vU hp), (vU hn), vg, .string (txt lt)]] M0 A fun q M J => Par (J ++ A) tb pb oz.1 oz.2.1 r1 M ∧ q = .tuple #[.string (txt oz.2.2.2), .int .i64 oz.2.2.1] := by
 obtain ⟨ao, at_, ar, ak, al, aq, bo, bt, br, bk, bl, bq, MP, rfl, h0, h1, hP⟩ := hPr
 haveI := h0.own.cel
 haveI := h0.their.cel
 haveI := h0.root.cel
 haveI := h0.sk.cel
 haveI := h0.tk.cel
 haveI := h0.st.cel
 haveI := h1.own.cel
 haveI := h1.their.cel
 haveI := h1.root.cel
 haveI := h1.sk.cel
 haveI := h1.tk.cel
 haveI := h1.st.cel
 haveI := hhk.cel
 haveI := hgg.cel
 unfold rsC
 refine FnX.enterZ (N := 43) Tryz.func10 rfl rfl rfl fun w_ => ?_
 refine B0 (D2 0 1) (A1 ?_)
 refine A5 rfl (bx_ fun b3 => ?_)
 refine as_ (as_ (A0 (D2 0 3) ?_))
 refine N1 (MP) (_) true [0, 1, 2, 3, 4, 5, 6, 7, 8, 9, 10, 11, 12, 13, 14, 15, 16, 17, 18, 19, 20, 21, 22, 24, 25] [(0, 0), (1, 0), (2, 0), (3, 1), (4, 0), (5, 0), (6, 1), (7, 0), (8, 0), (9, 0), (10, 1), (13, 0), (14, 1), (15, 0), (16, 1), (11, 8), (12, 8), (17, 8), (18, 8), (19, 8), (22, 8), (20, 9), (21, 10), (23, 2), (24, 0), (25, 0)] kR kR qP fun hs K n0 hKm hKs hKn => ?_
 refine km_ hs ?_
 refine L9 hs rfl (E6 rfl) rfl ?_
 refine L9 hs rfl (qf_ 0 0) rfl ?_
 refine Z0 hs rfl hKs ql_ ?_
 refine km_ hs ?_
 refine L9 hs rfl (qf_ 0 0) rfl ?_
 refine Z0 hs rfl hKs ql_ ?_
 refine L9 hs rfl (E6 rfl) rfl ?_
 refine L9 hs rfl (qf_ 1 1) rfl ?_
 refine L9 hs rfl (D1 (e := 41) (n := 2) (sz := 9) (i := 0) 1 rfl rfl kR kR rfl qD rfl) rfl ?_
 refine Z0 hs rfl hKs (T4 (n := 9) (vs := [ao, at_, ar, ak, (vU r0.sn), al, (vU r0.tn), (vU r0.prev), aq]) rfl kR At.mem rfl (R5 [(vP pb)] [ao, at_, ar, ak, (vU r0.sn), al, (vU r0.tn), (vU r0.prev), aq] [bo, bt, br, bk, (vU r1.sn), bl, (vU r1.tn), (vU r1.prev), bq])) ?_
 refine L9 hs rfl (qf_ 1 1) rfl ?_
 refine Z0 hs rfl hKs (T4 (n := 3) (vs := [vk, (vU hp), (vU hn)]) rfl kR At.mem rfl (R5 [.int .i64 0] [vk, (vU hp), (vU hn)] [vg, .string (txt lt)])) ?_
 refine L9 hs rfl (qf_ 4 4) rfl ?_
 refine Z0 hs rfl hKs ql_ ?_
 refine A1W [⟨11, 21, none, [], fun v B _ => ∃ b, v = .slice (some ⟨b, 0, none⟩) 4 4 ∧ B = [(b, blk (nums .u8 [119, 105, 116, 104]) 5)]⟩, ⟨12, 22, some 11, [], fun v B R => B = [] ∧ By R v [119, 105, 116, 104]⟩, ⟨17, 27, none, MP, fun v B R => ∃ q1 q2, v = .tuple #[q1, q2, .int .i64 oz.2.2.1] ∧ Prm pb oz.1 B ∧ RsV R q1 oz.2.1 ∧ By R q2 oz.2.2.2⟩, ⟨18, 9, none, [], fun v B R => B = [] ∧ ∃ q1 q2, v = .tuple #[q1, q2, .int .i64 oz.2.2.1] ∧ RsV R q1 oz.2.1 ∧ By R q2 oz.2.2.2⟩, ⟨19, 28, none, [], fun v B R => B = [] ∧ RsV R v oz.2.1⟩, ⟨22, 6, none, [], fun v B _ => ∃ b, v = (vP b) ∧ B = [(b, blk [vS, vS, vS, vS, .int .u32 0, vS, .int .u32 0, .int .u32 0, .pointer none] 41)]⟩] [⟨20, 29, none, [], fun v B R => B = [] ∧ By R v oz.2.2.2⟩, ⟨21, 30, none, [], fun v B R => B = [] ∧ v = .int .i64 oz.2.2.1⟩] ([(b3, blk [.int .i64 0, vk, (vU hp), (vU hn), vg, .string (txt lt)] 31), (tb, blk [(vP pb), ao, at_, ar, ak, (vU r0.sn), al, (vU r0.tn), (vU r0.prev), aq, bo, bt, br, bk, (vU r1.sn), bl, (vU r1.tn), (vU r1.prev), bq] 45)]) (fun bs => [bs 12, bs 17, bs 18, bs 19, bs 22, bs 20, bs 21]) (hKn rfl) (by simp [A1c, A1w]) (show ∀ m ∈ ([[], MP, [], [], [], [], []] : List Mem), ∀ x ∈ m, K x.1 from A8 (fun _ h => by cases h) (A8 (hKm) (A8 (fun _ h => by cases h) (A8 (fun _ h => by cases h) (A8 (fun _ h => by cases h) (A8 (fun _ h => by cases h) (A8 (fun _ h => by cases h) (L6)))))))) kR (fun _ => by first | rfl | kernel_rfl)
  (A8 (fun _ _ _ _ _ h => h) (A8 (fun _ _ _ _ hR h => ⟨h.1, h.2.mono hR⟩) (A8 (fun _ _ _ _ h ⟨q1, q2, e, p1, p2, p3⟩ => ⟨q1, q2, e, p1, p2.mono h, p3.mono h⟩) (A8 (fun _ _ _ _ h ⟨e0, q1, q2, e, p2, p3⟩ => ⟨e0, q1, q2, e, p2.mono h, p3.mono h⟩) (A8 (fun _ _ _ _ h hp => ⟨hp.1, hp.2.mono h⟩) (A8 (fun _ _ _ _ _ h => h) (A8 (fun _ _ _ _ hR h => ⟨h.1, h.2.mono hR⟩) (A8 (fun _ _ _ _ _ h => h) (L6))))))))) (show List.Nodup [21, 22, 27, 9, 28, 6, 29, 30] by decide) (show List.Nodup [11, 12, 17, 18, 19, 22, 20, 21] by decide) (A8 (C8 rfl) (A8 (C8 rfl) (A8 (C8 rfl) (A8 (C8 rfl) (A8 (C8 rfl) (A8 (C8 rfl) (A8 (C8 rfl) (A8 (C8 rfl) (L6)))))))))
  hs (List.cons_ne_nil _ _) (A8 ⟨_, rfl, fun vs bs R Rj wG hb hj hjr ha => ⟨.inl rfl, ?_⟩⟩ (A8 ⟨_, rfl, fun vs bs R Rj wG hb hj hjr ha => ⟨.inl rfl, ?_⟩⟩ (A8 ⟨_, rfl, fun vs bs R Rj wG hb hj hjr ha => ⟨.inl rfl, ?_⟩⟩ (A8 ⟨_, rfl, fun vs bs R Rj wG hb hj hjr ha => ⟨.inl rfl, ?_⟩⟩ (A8 ⟨_, rfl, fun vs bs R Rj wG hb hj hjr ha => ⟨.inl rfl, ?_⟩⟩ (A8 ⟨_, rfl, fun vs bs R Rj wG hb hj hjr ha => ⟨.inl rfl, ?_⟩⟩ (L6))))))) (A8 ⟨rfl, rfl, _, _, _, _, rfl, fun vs bs Rj hj ha => ?_⟩ (A8 ⟨rfl, rfl, _, _, _, _, rfl, fun vs bs Rj hj ha => ?_⟩ (L6))) ?_
 ·
  dsimp only [Gc.inp]
  exact C3 (e := 5) (sz := 1) (z := [zu8, zu8, zu8, zu8]) kR (eS rfl (eS rfl (eS rfl (eS rfl e0)))) (bdS 0 1 rfl qR (bdS 1 1 rfl qR (bdS 2 1 rfl qR (bdS 3 1 rfl qR bd0)))) rfl fun b => ⟨_, rfl, b, rfl, rfl⟩
 ·
  dsimp only [Gc.inp]
  have g11 := ha _ (List.mem_of_getElem? (i := 0) rfl) kR
  replace g11 : (fun v B _ => ∃ b, v = .slice (some ⟨b, 0, none⟩) 4 4 ∧ B = [(b, blk (nums .u8 [119, 105, 116, 104]) 5)]) (vs 11) (bs 11) Rj := g11
  dsimp only at g11
  obtain ⟨b, e, eB⟩ := g11
  dsimp only [U1, List.map, List.cons_append, List.nil_append]
  rw [e, eB]
  refine OpL.frzAll ?_
  exact A4a rfl kR UpC.upd rfl (fun J2 hJ => ⟨_, rfl, rfl, ⟨Rd.whole (n := 4) (List.mem_append_left _ (hJ _ (List.mem_append_left _ (List.mem_singleton.2 rfl)))) qR, by decide, by decide⟩⟩)
 ·
  dsimp only [Gc.inp]
  have g12 := ha _ (List.mem_of_getElem? (i := 1) rfl) kR
  replace g12 : (fun v B R => B = [] ∧ By R v [119, 105, 116, 104]) (vs 12) (bs 12) Rj := g12
  dsimp only at g12
  obtain ⟨-, h12⟩ := g12
  haveI := h12.cel
  refine E0 (Mc := MP) (R := []) (aS rfl (aS rfl (aS rfl (aS rfl (aS rfl (a0)))))) kR qM (FnX.amb (A := Rj) (fun x hx => by have := hjr x hx; simp [this]) (B1B pb s r0 ao at_ ar ak al aq _ vk vg F3 hk g hp hn MP Rj hP hn_ hsn (h0.mono (fun x hx => hj x (qS x hx))) h12 (hhk.mono (fun x hx => hj x (qS x hx))) (by show 4 + hk.length ≤ 1000000; omega) hhp hhn (hgg.mono (fun x hx => hj x (qS x hx))) hgl hO.sel hO.k1 hO.s2 hO.k2 (hG.sub (fun x hx => hj x (qS x hx))))) rfl ?_
  rintro v27 M27 J27 ⟨q1, q2, rfl, hP27, p2, p3⟩
  rw [hoz] at hP27 p2 p3 ⊢
  exact ⟨_, rfl, q1, q2, rfl, by simpa using hP27, p2.mono (fun x hx => by simpa using hx), p3.mono (fun x hx => by simpa using hx)⟩
 ·
  dsimp only [Gc.inp]
  have g17 := ha _ (List.mem_of_getElem? (i := 2) rfl) kR
  replace g17 : (fun v B R => ∃ q1 q2, v = .tuple #[q1, q2, .int .i64 oz.2.2.1] ∧ Prm pb oz.1 B ∧ RsV R q1 oz.2.1 ∧ By R q2 oz.2.2.2) (vs 17) (bs 17) Rj := g17
  dsimp only at g17
  obtain ⟨q1, q2, e, -, k⟩ := g17
  exact OpQ.opL qm_ rfl ⟨_, rfl, rfl, q1, q2, e, k⟩
 ·
  dsimp only [Gc.inp]
  have g18 := ha _ (List.mem_of_getElem? (i := 3) rfl) kR
  replace g18 : (fun v B R => B = [] ∧ ∃ q1 q2, v = .tuple #[q1, q2, .int .i64 oz.2.2.1] ∧ RsV R q1 oz.2.1 ∧ By R q2 oz.2.2.2) (vs 18) (bs 18) Rj := g18
  dsimp only at g18
  obtain ⟨-, q1, q2, e, k, -⟩ := g18
  exact OpQ.opL (I3 (vs := #[q1, q2, .int .i64 oz.2.2.1]) (by rw [← e]; rfl) rfl) rfl ⟨_, rfl, rfl, k⟩
 ·
  dsimp only [Gc.inp]
  exact C4 (cs := [vS, vS, vS, vS, G3, vS, G3, G3, .pointer none]) kR rfl fun b => ⟨_, rfl, b, rfl, rfl⟩
 ·
  have g18 := ha _ (List.mem_of_getElem? (i := 3) rfl) kR
  replace g18 : (fun v B R => B = [] ∧ ∃ q1 q2, v = .tuple #[q1, q2, .int .i64 oz.2.2.1] ∧ RsV R q1 oz.2.1 ∧ By R q2 oz.2.2.2) (vs 18) (bs 18) Rj := g18
  dsimp only at g18
  obtain ⟨-, q1, q2, e, -, k⟩ := g18
  exact ⟨_, I3 (vs := #[q1, q2, .int .i64 oz.2.2.1]) (by rw [← e]; rfl) rfl, rfl, k⟩
 ·
  have g18 := ha _ (List.mem_of_getElem? (i := 3) rfl) kR
  replace g18 : (fun v B R => B = [] ∧ ∃ q1 q2, v = .tuple #[q1, q2, .int .i64 oz.2.2.1] ∧ RsV R q1 oz.2.1 ∧ By R q2 oz.2.2.2) (vs 18) (bs 18) Rj := g18
  dsimp only at g18
  obtain ⟨-, q1, q2, e, -⟩ := g18
  exact ⟨_, I3 (vs := #[q1, q2, .int .i64 oz.2.2.1]) (by rw [← e]; rfl) rfl, rfl, rfl⟩
 intro vs bs Jn0 hφ hKK
 have kk11 := hKK _ (List.mem_of_getElem? (i := 0) rfl)
 dsimp only at kk11
 have kk12 := hKK _ (List.mem_of_getElem? (i := 1) rfl)
 dsimp only at kk12
 have kk17 := hKK _ (List.mem_of_getElem? (i := 2) rfl)
 dsimp only at kk17
 have kk18 := hKK _ (List.mem_of_getElem? (i := 3) rfl)
 dsimp only at kk18
 have kk19 := hKK _ (List.mem_of_getElem? (i := 4) rfl)
 dsimp only at kk19
 have kk22 := hKK _ (List.mem_of_getElem? (i := 5) rfl)
 dsimp only at kk22
 have kk20 := hKK _ (List.mem_of_getElem? (i := 6) rfl)
 dsimp only at kk20
 have kk21 := hKK _ (List.mem_of_getElem? (i := 7) rfl)
 dsimp only at kk21
 clear hKK
 have g11 := ofH hφ
 dsimp only at g11
 replace hφ := ofT hφ
 have g12 := ofH hφ
 dsimp only at g12
 replace hφ := ofT hφ
 have g17 := ofH hφ
 dsimp only at g17
 replace hφ := ofT hφ
 have g18 := ofH hφ
 dsimp only at g18
 replace hφ := ofT hφ
 have g19 := ofH hφ
 dsimp only at g19
 replace hφ := ofT hφ
 have g22 := ofH hφ
 dsimp only at g22
 replace hφ := ofT hφ
 have g20 := ofH hφ
 dsimp only at g20
 replace hφ := ofT hφ
 have g21 := ofH hφ
 dsimp only at g21
 clear hφ
 dsimp only [U1, A1c, List.foldr, List.map, List.cons_append, List.nil_append]
 generalize bs 11 = B21 at *
 generalize bs 12 = B22 at *
 generalize bs 17 = B27 at *
 generalize bs 18 = B9 at *
 generalize bs 19 = B28 at *
 generalize bs 22 = B6 at *
 generalize bs 20 = B29 at *
 generalize bs 21 = B30 at *
 generalize vs 11 = u21 at *
 generalize vs 12 = u22 at *
 generalize vs 17 = u27 at *
 generalize vs 18 = u9 at *
 generalize vs 19 = u28 at *
 generalize vs 22 = u6 at *
 generalize vs 20 = u29 at *
 generalize vs 21 = u30 at *
 obtain ⟨-, -, -, hP27, -⟩ := g17
 clear g18
 obtain ⟨b, rfl, rfl⟩ := g11
 obtain ⟨rfl, h22⟩ := g12
 obtain ⟨rfl, wo, wt, wr, wk, wl, wq, rfl, hn1⟩ := g19
 obtain ⟨rfl, h29⟩ := g20
 obtain ⟨rfl, rfl⟩ := g21
 obtain ⟨b6, rfl, rfl⟩ := g22
 haveI := hn1.own.cel
 haveI := hn1.their.cel
 haveI := hn1.root.cel
 haveI := hn1.sk.cel
 haveI := hn1.tk.cel
 haveI := hn1.st.cel
 haveI := h29.cel
 unfold rsC
 refine U4 rfl rfl rfl (A9 (vs := [wo, wt, wr, wk, (vU oz.2.1.sn), wl, (vU oz.2.1.tn), (vU oz.2.1.prev), wq]) rfl rfl rfl kR qR (A8 hn1.own.one (A8 hn1.their.one (A8 hn1.root.one (A8 hn1.sk.one (A8 rfl (A8 hn1.tk.one (A8 rfl (A8 rfl (A8 hn1.st.one L6))))))))) UpC.upd ?_)
 refine L9 hs rfl (H8 rfl) rfl ?_
 refine L9 hs rfl (H8 rfl) rfl ?_
 refine T3 (E4 0 3 6 7 8) (A3 (A1 (mv_ ?_)))
 refine A2 (D4 rfl rfl rfl) rfl ?_
 refine A0 (H3 0 3 6 7 8 32) ?_
 refine C1 rfl ?_ ?_ <;> intro hc
 ·
  refine F8 (.range 7) (zp 0 [0, 0, 1, 1, 0, 0, 0, 2]) kR kR fun hs => ?_
  refine fm_ hs ?_
  refine C2 hs rfl (qf_ 0 0) rfl ?_
  refine G4 hs rfl ql_ rfl ?_
  refine G4 hs rfl (qw_ 9) rfl ?_
  refine C2 hs rfl (E6 rfl) rfl ?_
  refine C2 hs rfl (qf_ 1 1) rfl ?_
  refine C2 hs rfl (D1 (e := 41) (n := 2) (sz := 9) (i := 0) 1 rfl rfl kR kR rfl qD rfl) rfl ?_
  refine F5 rfl rfl rfl (N8 (vs := [wo, wt, wr, wk, (vU oz.2.1.sn), wl, (vU oz.2.1.tn), (vU oz.2.1.prev), wq]) (cs' := [(vP pb), wo, wt, wr, wk, (vU oz.2.1.sn), wl, (vU oz.2.1.tn), (vU oz.2.1.prev), wq, bo, bt, br, bk, (vU r1.sn), bl, (vU r1.tn), (vU r1.prev), bq]) rfl rfl rfl kR (by exact (show 1 + 9 ≤ 19 by decide)) (A8 hn1.own.one (A8 hn1.their.one (A8 hn1.root.one (A8 hn1.sk.one (A8 rfl (A8 hn1.tk.one (A8 rfl (A8 rfl (A8 hn1.st.one L6))))))))) rfl UpC.upd ?_)
  refine E7 (D2 7 8) (A1 (mv_ ?_))
  refine A2 (Q3 rfl kR (h29.rd.mono qS)) rfl ?_
  refine mv_ (as_ (as_ (A0 (D2 4 5) (B4 ?_))))
  exact ⟨_, (tb, blk [(vP pb), wo, wt, wr, wk, (vU oz.2.1.sn), wl, (vU oz.2.1.tn), (vU oz.2.1.prev), wq, bo, bt, br, bk, (vU r1.sn), bl, (vU r1.tn), (vU r1.prev), bq] 45) :: B27, [], A13 rfl rfl rfl, Fit.none (Fit.pick (B := [_]) qP (Fit.last qP)), ⟨wo, wt, wr, wk, wl, wq, bo, bt, br, bk, bl, bq, B27, rfl, hn1.mono qS, h1.mono qS, hP27⟩, rfl⟩
 ·
  have he0 : oz.2.2.1 ≠ 0 := by intro e; rw [e] at hc; simp [I1] at hc
  have hre : oz.2.1 = r0 := by have h := B44 (hoz ▸ he0); rw [hoz] at h; exact h.1
  rw [hre]
  refine A6 (nx (D2 7 8) (A1 (mv_ ?_)))
  refine A2 (Q3 rfl kR (h29.rd.mono qS)) rfl ?_
  refine mv_ (as_ (as_ (A0 (D2 4 5) (B4 ?_))))
  exact ⟨_, (tb, blk [(vP pb), ao, at_, ar, ak, (vU r0.sn), al, (vU r0.tn), (vU r0.prev), aq, bo, bt, br, bk, (vU r1.sn), bl, (vU r1.tn), (vU r1.prev), bq] 45) :: B27, [], A13 rfl rfl rfl, Fit.none (Fit.pick (B := [_]) qP (Fit.last qP)), ⟨ao, at_, ar, ak, al, aq, bo, bt, br, bk, bl, bq, B27, rfl, h0.mono qS, h1.mono qS, hP27⟩, rfl⟩
theorem B1F (tb pb : Nat) (s : Ps) (r0 r1 : Rsd) (vk vg : Value) (hk g lt : LN) (hp hn : Nat) (oz : Ps × Rsd × Int × LN) (M0 A : Mem) (hPr : Par A tb pb s r0 r1 M0) (hn_ : s.ts.length + 500 ≤ 1000000) (hsn : s.n < 1000000000) (hhk : By A vk hk) (hkl : hk.length ≤ 100000) (hhp : hp < 4294967296) (hhn : hn < 4294967296) (hgg : By A vg g) (hgl : g.length ≤ 10000000) (hO : OpnH s r1 hk hp hn) (hoz : (Q7 s r1 F3 hk hp hn g) = oz) (hG : Glb A) : FnX Tryz.prog 10 [(vP tb), .agg #[.int .i64 1, vk, (vU hp), (vU hn), vg, .string (txt lt)]] M0 A fun q M J => Par (J ++ A) tb pb oz.1 r0 oz.2.1 M ∧ q = .tuple #[.string (txt oz.2.2.2), .int .i64 oz.2.2.1] := by
 obtain ⟨ao, at_, ar, ak, al, aq, bo, bt, br, bk, bl, bq, MP, rfl, h0, h1, hP⟩ := hPr
 haveI := h0.own.cel
 haveI := h0.their.cel
 haveI := h0.root.cel
 haveI := h0.sk.cel
 haveI := h0.tk.cel
 haveI := h0.st.cel
 haveI := h1.own.cel
 haveI := h1.their.cel
 haveI := h1.root.cel
 haveI := h1.sk.cel
 haveI := h1.tk.cel
 haveI := h1.st.cel
 haveI := hhk.cel
 haveI := hgg.cel
 unfold rsC
 refine FnX.enterZ (N := 43) Tryz.func10 rfl rfl rfl fun w_ => ?_
 refine B0 (D2 0 1) (A1 ?_)
 refine A5 rfl (bx_ fun b3 => ?_)
 refine as_ (as_ (A0 (D2 0 3) ?_))
 refine N1 (MP) (_) true [0, 1, 2, 3, 4, 5, 6, 7, 8, 9, 10, 11, 12, 13, 14, 15, 16, 17, 18, 19, 20, 21, 22, 24, 25] [(0, 0), (1, 0), (2, 0), (3, 1), (4, 0), (5, 0), (6, 1), (7, 0), (8, 0), (9, 0), (10, 1), (13, 0), (14, 1), (15, 0), (16, 1), (11, 8), (12, 8), (17, 8), (18, 8), (19, 8), (22, 8), (20, 9), (21, 10), (23, 2), (24, 0), (25, 0)] kR kR qP fun hs K n0 hKm hKs hKn => ?_
 refine km_ hs ?_
 refine L9 hs rfl (E6 rfl) rfl ?_
 refine L9 hs rfl (qf_ 0 0) rfl ?_
 refine Z0 hs rfl hKs ql_ ?_
 refine km_ hs ?_
 refine L9 hs rfl (qf_ 0 0) rfl ?_
 refine Z0 hs rfl hKs ql_ ?_
 refine L9 hs rfl (E6 rfl) rfl ?_
 refine L9 hs rfl (qf_ 1 1) rfl ?_
 refine L9 hs rfl (D1 (e := 41) (n := 2) (sz := 9) (i := 1) 10 rfl rfl kR kR rfl qD rfl) rfl ?_
 refine Z0 hs rfl hKs (T4 (n := 9) (vs := [bo, bt, br, bk, (vU r1.sn), bl, (vU r1.tn), (vU r1.prev), bq]) rfl kR At.mem rfl (R5 [(vP pb), ao, at_, ar, ak, (vU r0.sn), al, (vU r0.tn), (vU r0.prev), aq] [bo, bt, br, bk, (vU r1.sn), bl, (vU r1.tn), (vU r1.prev), bq] [])) ?_
 refine L9 hs rfl (qf_ 1 1) rfl ?_
 refine Z0 hs rfl hKs (T4 (n := 3) (vs := [vk, (vU hp), (vU hn)]) rfl kR At.mem rfl (R5 [.int .i64 1] [vk, (vU hp), (vU hn)] [vg, .string (txt lt)])) ?_
 refine L9 hs rfl (qf_ 4 4) rfl ?_
 refine Z0 hs rfl hKs ql_ ?_
 refine A1W [⟨11, 21, none, [], fun v B _ => ∃ b, v = .slice (some ⟨b, 0, none⟩) 4 4 ∧ B = [(b, blk (nums .u8 [119, 105, 116, 104]) 5)]⟩, ⟨12, 22, some 11, [], fun v B R => B = [] ∧ By R v [119, 105, 116, 104]⟩, ⟨17, 27, none, MP, fun v B R => ∃ q1 q2, v = .tuple #[q1, q2, .int .i64 oz.2.2.1] ∧ Prm pb oz.1 B ∧ RsV R q1 oz.2.1 ∧ By R q2 oz.2.2.2⟩, ⟨18, 9, none, [], fun v B R => B = [] ∧ ∃ q1 q2, v = .tuple #[q1, q2, .int .i64 oz.2.2.1] ∧ RsV R q1 oz.2.1 ∧ By R q2 oz.2.2.2⟩, ⟨19, 28, none, [], fun v B R => B = [] ∧ RsV R v oz.2.1⟩, ⟨22, 6, none, [], fun v B _ => ∃ b, v = (vP b) ∧ B = [(b, blk [vS, vS, vS, vS, .int .u32 0, vS, .int .u32 0, .int .u32 0, .pointer none] 41)]⟩] [⟨20, 29, none, [], fun v B R => B = [] ∧ By R v oz.2.2.2⟩, ⟨21, 30, none, [], fun v B R => B = [] ∧ v = .int .i64 oz.2.2.1⟩] ([(b3, blk [.int .i64 1, vk, (vU hp), (vU hn), vg, .string (txt lt)] 31), (tb, blk [(vP pb), ao, at_, ar, ak, (vU r0.sn), al, (vU r0.tn), (vU r0.prev), aq, bo, bt, br, bk, (vU r1.sn), bl, (vU r1.tn), (vU r1.prev), bq] 45)]) (fun bs => [bs 12, bs 17, bs 18, bs 19, bs 22, bs 20, bs 21]) (hKn rfl) (by simp [A1c, A1w]) (show ∀ m ∈ ([[], MP, [], [], [], [], []] : List Mem), ∀ x ∈ m, K x.1 from A8 (fun _ h => by cases h) (A8 (hKm) (A8 (fun _ h => by cases h) (A8 (fun _ h => by cases h) (A8 (fun _ h => by cases h) (A8 (fun _ h => by cases h) (A8 (fun _ h => by cases h) (L6)))))))) kR (fun _ => by first | rfl | kernel_rfl)
  (A8 (fun _ _ _ _ _ h => h) (A8 (fun _ _ _ _ hR h => ⟨h.1, h.2.mono hR⟩) (A8 (fun _ _ _ _ h ⟨q1, q2, e, p1, p2, p3⟩ => ⟨q1, q2, e, p1, p2.mono h, p3.mono h⟩) (A8 (fun _ _ _ _ h ⟨e0, q1, q2, e, p2, p3⟩ => ⟨e0, q1, q2, e, p2.mono h, p3.mono h⟩) (A8 (fun _ _ _ _ h hp => ⟨hp.1, hp.2.mono h⟩) (A8 (fun _ _ _ _ _ h => h) (A8 (fun _ _ _ _ hR h => ⟨h.1, h.2.mono hR⟩) (A8 (fun _ _ _ _ _ h => h) (L6))))))))) (show List.Nodup [21, 22, 27, 9, 28, 6, 29, 30] by decide) (show List.Nodup [11, 12, 17, 18, 19, 22, 20, 21] by decide) (A8 (C8 rfl) (A8 (C8 rfl) (A8 (C8 rfl) (A8 (C8 rfl) (A8 (C8 rfl) (A8 (C8 rfl) (A8 (C8 rfl) (A8 (C8 rfl) (L6)))))))))
  hs (List.cons_ne_nil _ _) (A8 ⟨_, rfl, fun vs bs R Rj wG hb hj hjr ha => ⟨.inl rfl, ?_⟩⟩ (A8 ⟨_, rfl, fun vs bs R Rj wG hb hj hjr ha => ⟨.inl rfl, ?_⟩⟩ (A8 ⟨_, rfl, fun vs bs R Rj wG hb hj hjr ha => ⟨.inl rfl, ?_⟩⟩ (A8 ⟨_, rfl, fun vs bs R Rj wG hb hj hjr ha => ⟨.inl rfl, ?_⟩⟩ (A8 ⟨_, rfl, fun vs bs R Rj wG hb hj hjr ha => ⟨.inl rfl, ?_⟩⟩ (A8 ⟨_, rfl, fun vs bs R Rj wG hb hj hjr ha => ⟨.inl rfl, ?_⟩⟩ (L6))))))) (A8 ⟨rfl, rfl, _, _, _, _, rfl, fun vs bs Rj hj ha => ?_⟩ (A8 ⟨rfl, rfl, _, _, _, _, rfl, fun vs bs Rj hj ha => ?_⟩ (L6))) ?_
 ·
  dsimp only [Gc.inp]
  exact C3 (e := 5) (sz := 1) (z := [zu8, zu8, zu8, zu8]) kR (eS rfl (eS rfl (eS rfl (eS rfl e0)))) (bdS 0 1 rfl qR (bdS 1 1 rfl qR (bdS 2 1 rfl qR (bdS 3 1 rfl qR bd0)))) rfl fun b => ⟨_, rfl, b, rfl, rfl⟩
 ·
  dsimp only [Gc.inp]
  have g11 := ha _ (List.mem_of_getElem? (i := 0) rfl) kR
  replace g11 : (fun v B _ => ∃ b, v = .slice (some ⟨b, 0, none⟩) 4 4 ∧ B = [(b, blk (nums .u8 [119, 105, 116, 104]) 5)]) (vs 11) (bs 11) Rj := g11
  dsimp only at g11
  obtain ⟨b, e, eB⟩ := g11
  dsimp only [U1, List.map, List.cons_append, List.nil_append]
  rw [e, eB]
  refine OpL.frzAll ?_
  exact A4a rfl kR UpC.upd rfl (fun J2 hJ => ⟨_, rfl, rfl, ⟨Rd.whole (n := 4) (List.mem_append_left _ (hJ _ (List.mem_append_left _ (List.mem_singleton.2 rfl)))) qR, by decide, by decide⟩⟩)
 ·
  dsimp only [Gc.inp]
  have g12 := ha _ (List.mem_of_getElem? (i := 1) rfl) kR
  replace g12 : (fun v B R => B = [] ∧ By R v [119, 105, 116, 104]) (vs 12) (bs 12) Rj := g12
  dsimp only at g12
  obtain ⟨-, h12⟩ := g12
  haveI := h12.cel
  refine E0 (Mc := MP) (R := []) (aS rfl (aS rfl (aS rfl (aS rfl (aS rfl (a0)))))) kR qM (FnX.amb (A := Rj) (fun x hx => by have := hjr x hx; simp [this]) (B1B pb s r1 bo bt br bk bl bq _ vk vg F3 hk g hp hn MP Rj hP hn_ hsn (h1.mono (fun x hx => hj x (qS x hx))) h12 (hhk.mono (fun x hx => hj x (qS x hx))) (by show 4 + hk.length ≤ 1000000; omega) hhp hhn (hgg.mono (fun x hx => hj x (qS x hx))) hgl hO.sel hO.k1 hO.s2 hO.k2 (hG.sub (fun x hx => hj x (qS x hx))))) rfl ?_
  rintro v27 M27 J27 ⟨q1, q2, rfl, hP27, p2, p3⟩
  rw [hoz] at hP27 p2 p3 ⊢
  exact ⟨_, rfl, q1, q2, rfl, by simpa using hP27, p2.mono (fun x hx => by simpa using hx), p3.mono (fun x hx => by simpa using hx)⟩
 ·
  dsimp only [Gc.inp]
  have g17 := ha _ (List.mem_of_getElem? (i := 2) rfl) kR
  replace g17 : (fun v B R => ∃ q1 q2, v = .tuple #[q1, q2, .int .i64 oz.2.2.1] ∧ Prm pb oz.1 B ∧ RsV R q1 oz.2.1 ∧ By R q2 oz.2.2.2) (vs 17) (bs 17) Rj := g17
  dsimp only at g17
  obtain ⟨q1, q2, e, -, k⟩ := g17
  exact OpQ.opL qm_ rfl ⟨_, rfl, rfl, q1, q2, e, k⟩
 ·
  dsimp only [Gc.inp]
  have g18 := ha _ (List.mem_of_getElem? (i := 3) rfl) kR
  replace g18 : (fun v B R => B = [] ∧ ∃ q1 q2, v = .tuple #[q1, q2, .int .i64 oz.2.2.1] ∧ RsV R q1 oz.2.1 ∧ By R q2 oz.2.2.2) (vs 18) (bs 18) Rj := g18
  dsimp only at g18
  obtain ⟨-, q1, q2, e, k, -⟩ := g18
  exact OpQ.opL (I3 (vs := #[q1, q2, .int .i64 oz.2.2.1]) (by rw [← e]; rfl) rfl) rfl ⟨_, rfl, rfl, k⟩
 ·
  dsimp only [Gc.inp]
  exact C4 (cs := [vS, vS, vS, vS, G3, vS, G3, G3, .pointer none]) kR rfl fun b => ⟨_, rfl, b, rfl, rfl⟩
 ·
  have g18 := ha _ (List.mem_of_getElem? (i := 3) rfl) kR
  replace g18 : (fun v B R => B = [] ∧ ∃ q1 q2, v = .tuple #[q1, q2, .int .i64 oz.2.2.1] ∧ RsV R q1 oz.2.1 ∧ By R q2 oz.2.2.2) (vs 18) (bs 18) Rj := g18
  dsimp only at g18
  obtain ⟨-, q1, q2, e, -, k⟩ := g18
  exact ⟨_, I3 (vs := #[q1, q2, .int .i64 oz.2.2.1]) (by rw [← e]; rfl) rfl, rfl, k⟩
 ·
  have g18 := ha _ (List.mem_of_getElem? (i := 3) rfl) kR
  replace g18 : (fun v B R => B = [] ∧ ∃ q1 q2, v = .tuple #[q1, q2, .int .i64 oz.2.2.1] ∧ RsV R q1 oz.2.1 ∧ By R q2 oz.2.2.2) (vs 18) (bs 18) Rj := g18
  dsimp only at g18
  obtain ⟨-, q1, q2, e, -⟩ := g18
  exact ⟨_, I3 (vs := #[q1, q2, .int .i64 oz.2.2.1]) (by rw [← e]; rfl) rfl, rfl, rfl⟩
 intro vs bs Jn0 hφ hKK
 have kk11 := hKK _ (List.mem_of_getElem? (i := 0) rfl)
 dsimp only at kk11
 have kk12 := hKK _ (List.mem_of_getElem? (i := 1) rfl)
 dsimp only at kk12
 have kk17 := hKK _ (List.mem_of_getElem? (i := 2) rfl)
 dsimp only at kk17
 have kk18 := hKK _ (List.mem_of_getElem? (i := 3) rfl)
 dsimp only at kk18
 have kk19 := hKK _ (List.mem_of_getElem? (i := 4) rfl)
 dsimp only at kk19
 have kk22 := hKK _ (List.mem_of_getElem? (i := 5) rfl)
 dsimp only at kk22
 have kk20 := hKK _ (List.mem_of_getElem? (i := 6) rfl)
 dsimp only at kk20
 have kk21 := hKK _ (List.mem_of_getElem? (i := 7) rfl)
 dsimp only at kk21
 clear hKK
 have g11 := ofH hφ
 dsimp only at g11
 replace hφ := ofT hφ
 have g12 := ofH hφ
 dsimp only at g12
 replace hφ := ofT hφ
 have g17 := ofH hφ
 dsimp only at g17
 replace hφ := ofT hφ
 have g18 := ofH hφ
 dsimp only at g18
 replace hφ := ofT hφ
 have g19 := ofH hφ
 dsimp only at g19
 replace hφ := ofT hφ
 have g22 := ofH hφ
 dsimp only at g22
 replace hφ := ofT hφ
 have g20 := ofH hφ
 dsimp only at g20
 replace hφ := ofT hφ
 have g21 := ofH hφ
 dsimp only at g21
 clear hφ
 dsimp only [U1, A1c, List.foldr, List.map, List.cons_append, List.nil_append]
 generalize bs 11 = B21 at *
 generalize bs 12 = B22 at *
 generalize bs 17 = B27 at *
 generalize bs 18 = B9 at *
 generalize bs 19 = B28 at *
 generalize bs 22 = B6 at *
 generalize bs 20 = B29 at *
 generalize bs 21 = B30 at *
 generalize vs 11 = u21 at *
 generalize vs 12 = u22 at *
 generalize vs 17 = u27 at *
 generalize vs 18 = u9 at *
 generalize vs 19 = u28 at *
 generalize vs 22 = u6 at *
 generalize vs 20 = u29 at *
 generalize vs 21 = u30 at *
 obtain ⟨-, -, -, hP27, -⟩ := g17
 clear g18
 obtain ⟨b, rfl, rfl⟩ := g11
 obtain ⟨rfl, h22⟩ := g12
 obtain ⟨rfl, wo, wt, wr, wk, wl, wq, rfl, hn1⟩ := g19
 obtain ⟨rfl, h29⟩ := g20
 obtain ⟨rfl, rfl⟩ := g21
 obtain ⟨b6, rfl, rfl⟩ := g22
 haveI := hn1.own.cel
 haveI := hn1.their.cel
 haveI := hn1.root.cel
 haveI := hn1.sk.cel
 haveI := hn1.tk.cel
 haveI := hn1.st.cel
 haveI := h29.cel
 unfold rsC
 refine U4 rfl rfl rfl (A9 (vs := [wo, wt, wr, wk, (vU oz.2.1.sn), wl, (vU oz.2.1.tn), (vU oz.2.1.prev), wq]) rfl rfl rfl kR qR (A8 hn1.own.one (A8 hn1.their.one (A8 hn1.root.one (A8 hn1.sk.one (A8 rfl (A8 hn1.tk.one (A8 rfl (A8 rfl (A8 hn1.st.one L6))))))))) UpC.upd ?_)
 refine L9 hs rfl (H8 rfl) rfl ?_
 refine L9 hs rfl (H8 rfl) rfl ?_
 refine T3 (E4 0 3 6 7 8) (A3 (A1 (mv_ ?_)))
 refine A2 (D4 rfl rfl rfl) rfl ?_
 refine A0 (H3 0 3 6 7 8 32) ?_
 refine C1 rfl ?_ ?_ <;> intro hc
 ·
  refine F8 (.range 7) (zp 0 [0, 0, 1, 1, 0, 0, 0, 2]) kR kR fun hs => ?_
  refine fm_ hs ?_
  refine C2 hs rfl (qf_ 0 0) rfl ?_
  refine G4 hs rfl ql_ rfl ?_
  refine G4 hs rfl (qw_ 9) rfl ?_
  refine C2 hs rfl (E6 rfl) rfl ?_
  refine C2 hs rfl (qf_ 1 1) rfl ?_
  refine C2 hs rfl (D1 (e := 41) (n := 2) (sz := 9) (i := 1) 10 rfl rfl kR kR rfl qD rfl) rfl ?_
  refine F5 rfl rfl rfl (N8 (vs := [wo, wt, wr, wk, (vU oz.2.1.sn), wl, (vU oz.2.1.tn), (vU oz.2.1.prev), wq]) (cs' := [(vP pb), ao, at_, ar, ak, (vU r0.sn), al, (vU r0.tn), (vU r0.prev), aq, wo, wt, wr, wk, (vU oz.2.1.sn), wl, (vU oz.2.1.tn), (vU oz.2.1.prev), wq]) rfl rfl rfl kR (by exact (show 10 + 9 ≤ 19 by decide)) (A8 hn1.own.one (A8 hn1.their.one (A8 hn1.root.one (A8 hn1.sk.one (A8 rfl (A8 hn1.tk.one (A8 rfl (A8 rfl (A8 hn1.st.one L6))))))))) rfl UpC.upd ?_)
  refine E7 (D2 7 8) (A1 (mv_ ?_))
  refine A2 (Q3 rfl kR (h29.rd.mono qS)) rfl ?_
  refine mv_ (as_ (as_ (A0 (D2 4 5) (B4 ?_))))
  exact ⟨_, (tb, blk [(vP pb), ao, at_, ar, ak, (vU r0.sn), al, (vU r0.tn), (vU r0.prev), aq, wo, wt, wr, wk, (vU oz.2.1.sn), wl, (vU oz.2.1.tn), (vU oz.2.1.prev), wq] 45) :: B27, [], A13 rfl rfl rfl, Fit.none (Fit.pick (B := [_]) qP (Fit.last qP)), ⟨ao, at_, ar, ak, al, aq, wo, wt, wr, wk, wl, wq, B27, rfl, h0.mono qS, hn1.mono qS, hP27⟩, rfl⟩
 ·
  have he0 : oz.2.2.1 ≠ 0 := by intro e; rw [e] at hc; simp [I1] at hc
  have hre : oz.2.1 = r1 := by have h := B44 (hoz ▸ he0); rw [hoz] at h; exact h.1
  rw [hre]
  refine A6 (nx (D2 7 8) (A1 (mv_ ?_)))
  refine A2 (Q3 rfl kR (h29.rd.mono qS)) rfl ?_
  refine mv_ (as_ (as_ (A0 (D2 4 5) (B4 ?_))))
  exact ⟨_, (tb, blk [(vP pb), ao, at_, ar, ak, (vU r0.sn), al, (vU r0.tn), (vU r0.prev), aq, bo, bt, br, bk, (vU r1.sn), bl, (vU r1.tn), (vU r1.prev), bq] 45) :: B27, [], A13 rfl rfl rfl, Fit.none (Fit.pick (B := [_]) qP (Fit.last qP)), ⟨ao, at_, ar, ak, al, aq, bo, bt, br, bk, bl, bq, B27, rfl, h0.mono qS, h1.mono qS, hP27⟩, rfl⟩

def K32 (w : LN) : Prop := (∀ x ∈ w, x < 256) ∧ w.length = 32
def KK (s : Ps) (w : LN) : Prop := Kok s w ∧ K32 w
structure GS (s : Ps) : Prop where
  tok : Tok s.ts
  sel : W4 s.ts
theorem KK.ext {s s' : Ps} {w : LN} (h : KK s w) (he : Pext s s') : KK s' w := ⟨h.1.ext he, h.2⟩
theorem KK.rok {s : Ps} {w : LN} (h : KK s w) : s.real = false → Rok s.ts w := h.1.rok
theorem A7a (i : Int) : K32 (bts i) := ⟨B2E _, A0w _ qD⟩
theorem B3R (s : Ps) : K32 (G2 s) := by
  cases hr : s.real with
  | true =>
    rw [A2H hr, A63, A0B]
    exact ⟨A20 _ _, A0s _ _⟩
  | false => rw [A45 hr]; exact A7a _
theorem W4.fresh {s : Ps} (h : W4 s.ts) : W4 (E2 s).ts := by
  cases hr : s.real with
  | true => rw [A44 hr]; exact h
  | false => rw [A2G hr]; exact h.not (show (1 : Nat) ≠ 6 by decide)
theorem W4.pub {s : Ps} (h : W4 s.ts) (w : LN) : W4 (K1 s w).ts := by
  unfold K1
  split
  · exact h
  · exact (h.rd w).not (show (3 : Nat) ≠ 6 by decide)
theorem C0a (ts : List Tm) (s o : Int) : (agT ts s o).kind = 4 := by
  unfold agT
  split <;> (try split) <;> (try split) <;> rfl
theorem W4.agr {s : Ps} (h : W4 s.ts) (a B : LN) : W4 (W9 s a B).ts := by
  unfold W9
  split
  · exact h
  · exact ((h.rd a).rd B).not (by rw [C0a]; decide)
theorem W4.der {s : Ps} (h : W4 s.ts) (key : LN) (ws : List (LN)) (lb : LN) (n : Nat) : W4 (A3X s key ws lb n).ts := by
  cases hr : s.real with
  | true => rw [A55 hr]; exact h
  | false =>
    rw [A3g hr]
    have h1 : ∀ (ws : List (LN)) (st : List Tm × List Int), W4 st.1 → W4 (ws.foldl Z3 st).1 := by
      intro ws
      induction ws with
      | nil => intro st h; exact h
      | cons w ws ih => intro st h; exact ih _ (h.rd w)
    have h2 : ∀ (ts : List Tm) (ofs : List Int) (n : Nat), W4 ts → W4 (L3 ts ofs lb n).1 := by
      intro ts ofs n
      induction n with
      | zero => exact id
      | succ n ih =>
        intro h
        rw [show L3 ts ofs lb (n + 1) = A8X ofs lb (L3 ts ofs lb n) n from N5 n]
        exact (ih h).not (show (5 : Nat) ≠ 6 by decide)
    exact h2 _ _ n (h1 (key :: ws) (s.ts, []) h)
theorem A3P {s : Ps} (h : GS s) (hn : s.n < 1000000000) : GS (E2 s) ∧ KK (E2 s) (G2 s) := by
  obtain ⟨h1, h2⟩ := B0a h.tok qO
  refine ⟨⟨?_, h.sel.fresh⟩, h1, B3R s⟩
  cases hr : s.real with
  | true => rw [A44 hr]; exact h.tok
  | false => exact h2 hr
theorem B8L {s : Ps} {w : LN} (h : GS s) (hw : KK s w) (hl : s.ts.length ≤ 1040000) : GS (K1 s w) ∧ U6 (K1 s w) w (H5 s w) := by
  obtain ⟨h1, -, h3⟩ := B8s hw.1 h.tok qO
  exact ⟨⟨h3, h.sel.pub w⟩, h1⟩
theorem U6.k32 {s : Ps} {b B : LN} (h : U6 s b B) : K32 B := by
  unfold U6 at h
  split at h
  · rw [h]; exact ⟨B0M _ _, A2a _ _⟩
  · obtain ⟨i, j, -, -, -, rfl⟩ := h; exact A7a _
theorem U6.kk {s : Ps} {b B : LN} (h : U6 s b B) : KK s B := ⟨h.kok.2, h.k32⟩
theorem A2c.kk {s : Ps} {a b k : LN} (h : A2c s a b k) : KK s k := by
  cases hr : s.real with
  | true =>
    rw [A2c.t hr] at h
    exact ⟨fun h2 => (by rw [hr] at h2; cases h2), by rw [h.1]; exact ⟨B0M _ _, A2a _ _⟩⟩
  | false =>
    rw [A2c.f hr] at h
    obtain ⟨i, j, m, -, -, -, -, h5, rfl⟩ := h
    exact ⟨fun _ => ⟨m, (List.getElem?_eq_some_iff.1 h5).1, rfl⟩, A7a _⟩
theorem C0b {s : Ps} {a b B : LN} (h : GS s) (ha : KK s a) (hB : U6 s b B) (hb : K32 b) (hl : s.ts.length ≤ 1040000) : GS (W9 s a B) ∧ A2c (W9 s a B) a b (A0p s a B) := by
  obtain ⟨h1, h2⟩ := B8v ha.1 hB h.tok qO ha.2.1 hb.1
  exact ⟨⟨h2, h.sel.agr a B⟩, h1⟩
def B1G (s : Ps) (key : LN) (ws : List (LN)) (lb : LN) (n : Nat) (L : List (LN)) : Prop := A3X s key ws lb n = s ∧ A5v s key ws lb n = L ∧ ∀ w ∈ key :: ws, KK s w
theorem B8M {s : Ps} {key lb : LN} {ws : List (LN)} {n : Nat} (h : GS s) (hk : ∀ w ∈ key :: ws, KK s w) (hb : B256 lb) (hbl : lb.length ≤ 1000) (hn : n ≤ 8) (hl : s.ts.length + ws.length ≤ 1040000) :
    GS (A3X s key ws lb n) ∧ (∀ i, i < n → KK (A3X s key ws lb n) ((A5v s key ws lb n).getD i [])) ∧ B1G (A3X s key ws lb n) key ws lb n (A5v s key ws lb n) := by
  have hr : s.real = false → ∀ w ∈ key :: ws, Rok s.ts w := fun hr w hw => (hk w hw).rok hr
  have ht := B6V h.tok hr hb hbl (show n ≤ 100 by omega) qO
  have he := A76 s key ws lb n
  have hlen := A2I s key ws lb n
  obtain ⟨a, b⟩ := A6r h.tok hr hb hbl (show n ≤ 100 by omega) qO (Pext.refl _) ht qO
  exact ⟨⟨ht, h.sel.der _ _ _ _⟩, fun i hi => ⟨B6X h.tok hr hb hbl qO qO hi, B6Z hn hi⟩, a, b, fun w hw => (hk w hw).ext he.p⟩
theorem B1G.ext {s s' : Ps} {key lb : LN} {ws : List (LN)} {n : Nat} {L : List (LN)} (h : B1G s key ws lb n L) (he : Pext s s') (hg : GS s) (hg' : GS s') (hb : B256 lb) (hbl : lb.length ≤ 1000) (hn : n ≤ 8) (hl : s'.ts.length + ws.length ≤ 1040000) : B1G s' key ws lb n L := by
  obtain ⟨l, e⟩ := he.ts
  have hle : s.ts.length ≤ s'.ts.length := by rw [e, List.length_append]; omega
  have hr : s.real = false → ∀ w ∈ key :: ws, Rok s.ts w := fun hr w hw => (h.2.2 w hw).rok hr
  obtain ⟨a, b⟩ := A6r hg.tok hr hb hbl (show n ≤ 100 by omega) qO (by rw [h.1]; exact he) hg'.tok qO
  exact ⟨a, b.trans h.2.1, fun w hw => (h.2.2 w hw).ext he⟩
theorem B1H : B256 A3F := ⟨by decide⟩
theorem B1I : B256 A2b := ⟨by decide⟩
structure TrnAt (s : Ps) (root a b R C : LN) : Prop where
  ex : ∃ k L, A2c s a b k ∧ B1G s root [k] A3F 2 L ∧ L.getD 0 [] = R ∧ L.getD 1 [] = C
theorem A78 (s : Ps) (root sec pub : LN) : Ext s (A2O s root sec pub) := (B4K s sec pub).trans (A76 _ _ _ _ _)
theorem B8N (s : Ps) (a B : LN) : (W9 s a B).ts.length ≤ s.ts.length + 3 := A3C s a B
theorem B3S {s : Ps} {root a b B : LN} (h : GS s) (hr : KK s root) (ha : KK s a) (hB : U6 s b B) (hb : K32 b) (hl : s.ts.length ≤ 1030000) :
    GS (A2O s root a B) ∧ KK (A2O s root a B) (A7X s root a B) ∧ KK (A2O s root a B) (A6y s root a B) ∧ TrnAt (A2O s root a B) root a b (A7X s root a B) (A6y s root a B) := by
  obtain ⟨h1, h2⟩ := C0b h ha hB hb qO
  have hle := B8N s a B
  obtain ⟨g1, g2, g3⟩ := B8M (key := root) (ws := [A0p s a B]) (lb := A3F) (n := 2) h1 (fun w hw => by
    rcases List.mem_cons.1 hw with rfl | hw
    · exact hr.ext (B4K s a B).p
    · rw [List.mem_singleton.1 hw]; exact h2.kk) B1H qD qD (by show _ + 1 ≤ _; omega)
  exact ⟨g1, g2 0 qD, g2 1 qD, ⟨_, _, h2.ext (A76 _ _ _ _ _).p, g3, rfl, rfl⟩⟩
theorem TrnAt.ext {s s' : Ps} {root a b R C : LN} (h : TrnAt s root a b R C) (he : Pext s s') (hg : GS s) (hg' : GS s') (hl : s'.ts.length ≤ 1030000) : TrnAt s' root a b R C := by
  obtain ⟨k, L, h1, h2, h3, h4⟩ := h.ex
  exact ⟨k, L, h1.ext he, h2.ext he hg hg' B1H qD qD (by show _ + 1 ≤ _; omega), h3, h4⟩
theorem TrnAt.comm {s : Ps} {root a b R C : LN} (h : TrnAt s root a b R C) : TrnAt s root b a R C := by
  obtain ⟨k, L, h1, h2, h3, h4⟩ := h.ex
  exact ⟨k, L, h1.comm, h2, h3, h4⟩
theorem TrnAt.eq {s : Ps} {root a b B R C : LN} (h : TrnAt s root a b R C) (hB : U6 s b B) (hg : GS s) (hl : s.ts.length ≤ 1030000) : A2O s root a B = s ∧ A7X s root a B = R ∧ A6y s root a B = C := by
  obtain ⟨k, L, h1, h2, h3, h4⟩ := h.ex
  obtain ⟨e1, e2⟩ := h1.eq hB hg.tok qO
  unfold A7X A6y B8w A2O
  rw [e1, e2, h2.1, h2.2.1]
  exact ⟨rfl, h3, h4⟩
def A2t (s : Ps) (c k c' : LN) : Prop := ∃ L, B1G s c [] A2b 2 L ∧ L.getD 0 [] = k ∧ L.getD 1 [] = c'
theorem B1J {s : Ps} {c : LN} (h : GS s) (hc : KK s c) (hl : s.ts.length ≤ 1030000) : GS (W3 s c) ∧ KK (W3 s c) (A0g s c) ∧ KK (W3 s c) (A1e s c) ∧ A2t (W3 s c) c (A0g s c) (A1e s c) := by
  obtain ⟨g1, g2, g3⟩ := B8M (key := c) (ws := []) (lb := A2b) (n := 2) h (fun w hw => by rw [List.mem_singleton.1 hw]; exact hc) B1I qD qD (by show _ + 0 ≤ _; omega)
  exact ⟨g1, g2 0 qD, g2 1 qD, _, g3, rfl, rfl⟩
theorem A7b (s : Ps) (c : LN) : Ext s (W3 s c) := A76 _ _ _ _ _
theorem A2t.ext {s s' : Ps} {c k c' : LN} (h : A2t s c k c') (he : Pext s s') (hg : GS s) (hg' : GS s') (hl : s'.ts.length ≤ 1030000) : A2t s' c k c' := by
  obtain ⟨L, h1, h2, h3⟩ := h
  exact ⟨L, h1.ext he hg hg' B1I qD qD (by show _ + 0 ≤ _; omega), h2, h3⟩
theorem A2t.eq {s : Ps} {c k c' : LN} (h : A2t s c k c') : W3 s c = s ∧ A0g s c = k ∧ A1e s c = c' := by
  obtain ⟨L, h1, h2, h3⟩ := h
  unfold A0g A1e B9b W3
  rw [h1.1, h1.2.1]
  exact ⟨rfl, h2, h3⟩
theorem B8O (s : Ps) (w a b : LN) : Ext s (A8Z s w a b) := by
  unfold A8Z
  split
  · exact Ext.refl s
  · exact ⟨⟨rfl, A7R _ _ _⟩, rfl, Nat.le_refl _⟩
theorem C0c {s : Ps} {w a b : LN} (h : GS s) (hw : KK s w) (ha : ∀ x ∈ a, x < 256) (hb : ∀ x ∈ b, x < 256) (la : a.length ≤ 16777216) (lb : b.length ≤ 16777216) (hl : s.ts.length ≤ 1030000) : GS (A8Z s w a b) := by
  unfold A8Z
  split
  · exact h
  · rename_i hr
    obtain ⟨i, hi, rfl⟩ := hw.1 (by cases hq : s.real with | true => exact absurd hq hr | false => rfl)
    obtain ⟨e1, e2⟩ := B9Z hi qO fun x => A2p x a b
    rw [e1]
    obtain ⟨l, g1, g2, g3, g4⟩ := A3Y (B0c (x := ((i : Nat) : Int)) (A5g qO) ha hb la lb) h.tok
    exact ⟨g4, h.sel.add fun _ => ⟨_, a, b, rfl, hb, lb⟩⟩
theorem A79 (s : Ps) (w a b : LN) : (A8Z s w a b).ts.length ≤ s.ts.length + 2 ∧ (A8Z s w a b).n = s.n := by
  unfold A8Z
  split
  · exact ⟨by omega, rfl⟩
  · refine ⟨?_, rfl⟩
    have h1 := U0 (ts := s.ts) (ws := w)
    have h2 := A1t (ts := rdT s.ts w) (t := A2p ((rdI s.ts w : Nat) : Int) a b)
    show (add (rdT s.ts w) (A2p ((rdI s.ts w : Nat) : Int) a b)).length ≤ _
    omega

def SkW (s : Ps) (x : Skp) : Prop := KK s x.key ∧ x.of.length = 32 ∧ x.n < 4294967296
structure WfR (s : Ps) (r : Rsd) : Prop where
  own : KK s r.own
  root : KK s r.root
  sk : r.sk = [] ∨ KK s r.sk
  tk : r.tk = [] ∨ KK s r.tk
  th : r.their = [] ∨ ∃ b, K32 b ∧ U6 s b r.their
  sks : ∀ x ∈ r.sks, SkW s x
  tt : r.tk ≠ [] → r.their ≠ []
theorem SkW.ext {s s' : Ps} {x : Skp} (h : SkW s x) (he : Pext s s') : SkW s' x := ⟨h.1.ext he, h.2⟩
theorem WfR.ext {s s' : Ps} {r : Rsd} (h : WfR s r) (he : Pext s s') : WfR s' r :=
  ⟨h.own.ext he, h.root.ext he, h.sk.imp id fun k => k.ext he, h.tk.imp id fun k => k.ext he, h.th.imp id fun ⟨b, k, p⟩ => ⟨b, k, p.ext he⟩, fun x hx => (h.sks x hx).ext he, h.tt⟩
theorem A8a {sks : List Skp} {of : LN} {n : Nat} {x : Skp} (h : x ∈ A4s sks of n) : x ∈ sks := by
  unfold A4s at h
  split at h
  · exact h
  · exact List.mem_of_mem_eraseIdx h
theorem B3T {sks : List Skp} {x y : Skp} (h : y ∈ B4G sks x) : y ∈ sks ∨ y = x := by
  rcases List.mem_append.1 (List.mem_of_mem_drop (show y ∈ (A4s sks x.of x.n ++ [x]).drop _ from h)) with h | h
  · exact .inl (A8a h)
  · exact .inr (List.mem_singleton.1 h)
theorem B3U {sks : List Skp} {of k : LN} {n : Nat} (h : A5j sks of n = some k) : ∃ x ∈ sks, x.key = k := by
  unfold A5j at h
  split at h
  · cases h
  · obtain ⟨x, h1, h2⟩ := Option.map_eq_some_iff.1 h
    exact ⟨x, List.mem_of_getElem? h1, h2⟩
theorem B3V : ∀ x ∈ F3, x < 256 := by decide
theorem B3W {hk : LN} (h : ∀ x ∈ hk, x < 256) (p n : Nat) : ∀ x ∈ A5l hk p n, x < 256 := fun x hx => by
  unfold A5l at hx
  simp only [List.mem_append] at hx
  rcases hx with ((h1 | h1) | h1) | h1
  · exact A4t _ _ x h1
  · exact h x h1
  · exact A4t _ _ x h1
  · exact A4t _ _ x h1
theorem B8P {w hk : LN} (hw : ∀ x ∈ w, x < 256) (h : ∀ x ∈ hk, x < 256) (p n : Nat) : ∀ x ∈ alW w hk p n, x < 256 := fun x hx => by
  unfold alW A4w at hx
  simp only [List.mem_append] at hx
  rcases hx with ((h1 | h1) | h1) | h1
  · exact A4t _ _ x h1
  · exact hw x h1
  · exact A4t _ _ x h1
  · exact B3W h p n x h1
theorem B67 (w hk : LN) (p n : Nat) : (alW w hk p n).length = w.length + hk.length + 20 := by unfold alW; rw [A2f, A1Y]; omega
theorem A8V (K N wa p : LN) : (V0 K N wa p).length = p.length + 16 := by unfold V0; rw [List.length_append, X6, A3J]
theorem B3X (s : Ps) (w a b : LN) : (B6O s w a b).length ≤ b.length + 32 := by
  unfold B6O
  split
  · rw [A8V]; omega
  · unfold B4v; rw [show (bts _).length = 32 from A0w _ qD]; omega
structure Snt (s : Ps) (hk : LN) (hp hn : Nat) (g : LN) : Prop where
  pub : ∃ b, K32 b ∧ U6 s b hk
  hp : hp < 4294967296
  hn : hn < 4294967296
  gl : g.length ≤ 1000
theorem Snt.ext {s s' : Ps} {hk : LN} {hp hn : Nat} {g : LN} (h : Snt s hk hp hn g) (he : Pext s s') : Snt s' hk hp hn g := by
  obtain ⟨⟨b, h1, h2⟩, h3, h4, h5⟩ := h
  exact ⟨⟨b, h1, h2.ext he⟩, h3, h4, h5⟩
theorem A1b (s : Ps) (r : Rsd) (w t : LN) : (U7 s r w t).ts.length ≤ s.ts.length + 7 ∧ (U7 s r w t).n = s.n := by
  have h1 := A3D s r.own
  have h2 := A0q (K1 s r.own) r.sk
  have h3 := A79 (W3 (K1 s r.own) r.sk) (A0g (K1 s r.own) r.sk) (B1r s r w) t
  have h4 := B6x s r.own
  unfold U7
  exact ⟨by omega, by omega⟩
theorem C0d {s : Ps} {r : Rsd} {w t : LN} (h : GS s) (hr : WfR s r) (hsk : r.sk ≠ []) (hp : r.prev < 4294967296) (hn : r.sn < 4294967296) (hw : ∀ x ∈ w, x < 256) (hwl : w.length ≤ 1000) (ht : ∀ x ∈ t, x < 256) (htl : t.length ≤ 900) (hl : s.ts.length ≤ 1020000) :
    GS (U7 s r w t) ∧ Ext s (U7 s r w t) ∧ WfR (U7 s r w t) (V1 s r) ∧ U6 (U7 s r w t) r.own (H5 s r.own) ∧ Snt (U7 s r w t) (H5 s r.own) r.prev r.sn (A1A s r w t) ∧ A2t (U7 s r w t) r.sk (A0g (K1 s r.own) r.sk) (A1e (K1 s r.own) r.sk) ∧ KK (U7 s r w t) (A0g (K1 s r.own) r.sk) ∧
    (∀ s', GS s' → Pext (U7 s r w t) s' → s'.ts.length ≤ 1048576 → A1B s' (A0g (K1 s r.own) r.sk) (alW w (H5 s r.own) r.prev r.sn) (A1A s r w t) = some t) := by
  have hk : KK s r.sk := hr.sk.resolve_left hsk
  have l1 := A3D s r.own
  obtain ⟨g1, p1⟩ := B8L h hr.own qO
  have e1 := B4F s r.own
  obtain ⟨g2, k2, k3, sa⟩ := B1J (c := r.sk) g1 (hk.ext e1.p) qO
  have e2 := A7b (K1 s r.own) r.sk
  have l2 := A0q (K1 s r.own) r.sk
  have hal : ∀ x ∈ B1r s r w, x < 256 := B8P hw p1.k32.1 _ _
  have hall : (B1r s r w).length = w.length + 32 + 20 := by rw [← p1.k32.2]; exact B67 _ _ _ _
  have g3 := C0c (a := B1r s r w) (b := t) g2 k2 hal ht qO qO qO
  have e3 := B8O (W3 (K1 s r.own) r.sk) (A0g (K1 s r.own) r.sk) (B1r s r w) t
  have l3 := A79 (W3 (K1 s r.own) r.sk) (A0g (K1 s r.own) r.sk) (B1r s r w) t
  have eA : Ext s (U7 s r w t) := e1.trans (e2.trans e3)
  have g3' : GS (U7 s r w t) := g3
  have p3 : U6 (U7 s r w t) r.own (H5 s r.own) := p1.ext (e2.trans e3).p
  refine ⟨g3', eA, ?_, p3, ⟨⟨_, hr.own.2, p3⟩, hp, hn, ?_⟩, ?_, k2.ext e3.p, ?_⟩
  · have h' := hr.ext eA.p
    exact ⟨h'.own, h'.root, .inr (k3.ext e3.p), h'.tk, h'.th, h'.sks, h'.tt⟩
  · have := B3X (W3 (K1 s r.own) r.sk) (A0g (K1 s r.own) r.sk) (B1r s r w) t
    unfold A1A; omega
  · have := A1b s r w t
    exact sa.ext e3.p g2 g3 (show (U7 s r w t).ts.length ≤ _ by omega)
  · intro s' g' e' l'
    exact B6P g2.tok k2.1 hal ht (Nat.le_trans (Nat.le_of_eq hall) qO) qO e' g'.tok l'
theorem B8Q {of : LN} (ho : of.length = 32) : ∀ (i : Nat) {x : Ast}, GS x.1 → KK x.1 x.2.1 → (∀ y ∈ x.2.2.2, SkW x.1 y) → x.2.2.1 + i < 4294967296 → x.1.ts.length + 3 * i ≤ 1020000 →
    GS (rep (aSt of) i x).1 ∧ Ext x.1 (rep (aSt of) i x).1 ∧ KK (rep (aSt of) i x).1 (rep (aSt of) i x).2.1 ∧ ∀ y ∈ (rep (aSt of) i x).2.2.2, SkW (rep (aSt of) i x).1 y
  | 0, x, h1, h2, h3, _, _ => ⟨h1, Ext.refl _, h2, h3⟩
  | i + 1, x, h1, h2, h3, hn, hl => by
    obtain ⟨g1, g2, g3, g4⟩ := B8Q ho i h1 h2 h3 qO qO
    have hts := B0U of i x
    have hnn := B3B of i x
    have e1 := A7b (rep (aSt of) i x).1 (rep (aSt of) i x).2.1
    obtain ⟨a1, a2, a3, -⟩ := B1J g1 g3 qO
    refine ⟨a1, g2.trans e1, a3, fun y hy => ?_⟩
    rcases B3T (show y ∈ B4G (rep (aSt of) i x).2.2.2 ⟨of, (rep (aSt of) i x).2.2.1, A0g (rep (aSt of) i x).1 (rep (aSt of) i x).2.1⟩ from hy) with hy | rfl
    · exact (g4 y hy).ext e1.p
    · exact ⟨a2, ho, by show (rep (aSt of) i x).2.2.1 < _; omega⟩
theorem B8R {s : Ps} {key of : LN} {N n : Nat} {sks : List Skp} (h : GS s) (hk : KK s key) (ho : of.length = 32) (hs : ∀ y ∈ sks, SkW s y) (hn : n < 4294967296) (hl : s.ts.length ≤ 1010000) :
    GS (ahX s key N n of sks).1 ∧ Ext s (ahX s key N n of sks).1 ∧ KK (ahX s key N n of sks).1 (ahX s key N n of sks).2.1 ∧ ∀ y ∈ (ahX s key N n of sks).2.2.2, SkW (ahX s key N n of sks).1 y := by
  by_cases hE : ahE N n = 0
  · obtain ⟨h1, h2⟩ := B1u hE
    rw [A3N hE]
    exact B8Q ho (n - N) (x := (s, key, N, sks)) h hk hs (by dsimp only; omega) (by dsimp only; omega)
  · rw [B1w hE]
    exact ⟨h, Ext.refl _, hk, hs⟩
theorem C0e {s : Ps} {r : Rsd} {w hk g : LN} {hp hn : Nat} (h : GS s) (hr : WfR s r) (hm : Snt s hk hp hn g) (tn : r.tn < 4294967296) (sn : s.n < 1000000000) (hsl : r.sks.length ≤ 1000) (hl : s.ts.length ≤ 1000000) :
    OpnH s r hk hp hn ∧ GS (Q7 s r w hk hp hn g).1 ∧ Ext s (Q7 s r w hk hp hn g).1 ∧ WfR (Q7 s r w hk hp hn g).1 (Q7 s r w hk hp hn g).2.1 ∧ (Q7 s r w hk hp hn g).1.ts.length ≤ s.ts.length + 200 ∧ (Q7 s r w hk hp hn g).1.n ≤ s.n + 1 ∧ (Q7 s r w hk hp hn g).2.1.sks.length ≤ 1000 ∧ (r.their ≠ [] → (Q7 s r w hk hp hn g).2.1.their ≠ []) := by
  obtain ⟨b, hb, hB⟩ := hm.pub
  have kB := hB.kk
  have hkn : hk ≠ [] := fun e => by have := kB.2.2; rw [e] at this; cases this
  -- the first half
  have hA : GS (opA s r hp).1 ∧ Ext s (opA s r hp).1 ∧ (∀ y ∈ (opA s r hp).2.2.2, SkW (opA s r hp).1 y) := by
    by_cases h0 : r.tk = []
    · rw [B1z h0]; exact ⟨h, Ext.refl _, hr.sks⟩
    · rw [A5q h0]
      obtain ⟨b', hb', hB'⟩ := hr.th.resolve_left (hr.tt h0)
      obtain ⟨x1, x2, x3, x4⟩ := B8R (N := r.tn) (n := hp) h (hr.tk.resolve_left h0) hB'.k32.2 hr.sks hm.hp qO
      exact ⟨x1, x2, x4⟩
  obtain ⟨a1, a2, a3⟩ := hA
  have lA := B65 s r hp tn hm.hp hsl
  have lT := A09 (opA s r hp).1 r.root r.own hk
  obtain ⟨t1, t2, t3, -⟩ := B3S a1 (hr.root.ext a2.p) (hr.own.ext a2.p) (hB.ext a2.p) hb qO
  have tE := A78 (opA s r hp).1 r.root r.own hk
  have hBx : ∀ x, opB s r hk hp = x → GS x.1 ∧ Ext s x.1 ∧ KK x.1 x.2.root ∧ KK x.1 x.2.tk ∧ (∃ b, K32 b ∧ U6 x.1 b x.2.their) ∧ (∀ y ∈ x.2.sks, SkW x.1 y) ∧ x.2.tn < 4294967296 ∧ x.2.sks.length ≤ 1000 ∧ x.1.ts.length ≤ s.ts.length + 55 ∧ x.1.n = s.n := by
    intro x hx
    subst hx
    cases hf : A1i r hk with
    | true =>
      rw [B3Q hf]
      exact ⟨t1, a2.trans tE, t2, t3, ⟨b, hb, (hB.ext a2.p).ext tE.p⟩, fun y hy => (a3 y hy).ext tE.p, (show 0 < 4294967296 by decide), lA.2.2.2, by show (A2O _ _ _ _).ts.length ≤ _; omega, lT.2.trans lA.2.1⟩
    | false =>
      rw [B63 hf]
      have htk : r.tk ≠ [] := fun e => by unfold A1i at hf; rw [e] at hf; simp at hf
      exact ⟨h, Ext.refl _, hr.root, hr.tk.resolve_left htk, hr.th.resolve_left (hr.tt htk), hr.sks, tn, hsl, by dsimp only; omega, rfl⟩
  obtain ⟨x, hx⟩ : ∃ x, opB s r hk hp = x := ⟨_, rfl⟩
  obtain ⟨b1, b2, b3, b4, ⟨bt, bt1, bt2⟩, b6, b7, b8, b9, b10⟩ := hBx x hx
  have hC := B8R (N := x.2.tn) (n := hn) b1 b4 bt2.k32.2 b6 hm.hn qO
  have lC := B60 x.1 x.2.tk x.2.tn hn x.2.their x.2.sks b7 hm.hn b8
  change GS (opC x hn).1 ∧ Ext x.1 (opC x hn).1 ∧ KK (opC x hn).1 (opC x hn).2.1 ∧ ∀ y ∈ (opC x hn).2.2.2, SkW (opC x hn).1 y at hC
  change (opC x hn).1.ts.length ≤ _ ∧ (opC x hn).1.n = _ ∧ (opC x hn).2.2.1 < _ ∧ (opC x hn).2.2.2.length ≤ _ at lC
  obtain ⟨c1, c2, c3, c4⟩ := hC
  obtain ⟨d1, d2, d3, -⟩ := B1J c1 c3 qO
  have dE := A7b (opC x hn).1 (opC x hn).2.1
  have dL := A0q (opC x hn).1 (opC x hn).2.1
  have hD : Ext s (opD x hn) := b2.trans (c2.trans dE)
  have hW : WfR (opD x hn) (opG r x hn) := by
    have h' := hr.ext hD.p
    exact ⟨h'.own, b3.ext (c2.trans dE).p, h'.sk, .inr d3, .inr ⟨bt, bt1, bt2.ext (c2.trans dE).p⟩, fun y hy => (c4 y hy).ext dE.p, fun _ e => by have e2 : x.2.their = [] := e; have := bt2.k32.2; rw [e2] at this; cases this⟩
  obtain ⟨f1, f2⟩ := A3P (s := opD x hn) d1 (by show (W3 _ _).n < _; omega)
  have fE := A2M (opD x hn)
  have fL := A0C (opD x hn)
  have lT2 := A09 (E2 (opD x hn)) x.2.root (G2 (opD x hn)) x.2.their
  have lD : (opD x hn).ts.length ≤ s.ts.length + 110 ∧ (opD x hn).n = s.n := by
    show (W3 _ _).ts.length ≤ _ ∧ (W3 _ _).n = _
    exact ⟨by omega, by omega⟩
  obtain ⟨u1, u2, u3, -⟩ := B3S f1 ((b3.ext (c2.trans dE).p).ext fE.p) f2 ((bt2.ext (c2.trans dE).p).ext fE.p) bt1 qO
  have uE := A78 (E2 (opD x hn)) x.2.root (G2 (opD x hn)) x.2.their
  have hO : OpnH s r hk hp hn := ⟨h.sel, fun k hk_ => by obtain ⟨y, hy, rfl⟩ := B3U hk_; exact (hr.sks y hy).1.1, by rw [hx]; exact d1.sel, by rw [hx]; exact d2.1⟩
  refine ⟨hO, ?_⟩
  have hsame : GS s ∧ Ext s s ∧ WfR s r ∧ s.ts.length ≤ s.ts.length + 200 ∧ s.n ≤ s.n + 1 ∧ r.sks.length ≤ 1000 ∧ (r.their ≠ [] → r.their ≠ []) := ⟨h, Ext.refl _, hr, by omega, by omega, hsl, id⟩
  have hth : x.2.their ≠ [] := fun e => by have := bt2.k32.2; rw [e] at this; cases this
  unfold Q7
  split
  · split
    · exact hsame
    · exact ⟨h, Ext.refl _, ⟨hr.own, hr.root, hr.sk, hr.tk, hr.th, fun y hy => hr.sks y (A8a hy), hr.tt⟩, by dsimp only; omega, by dsimp only; omega, Nat.le_trans (A5i _ _ _) hsl, id⟩
  · split
    · exact ⟨a1, a2, hr.ext a2.p, by dsimp only; omega, by dsimp only; omega, hsl, id⟩
    · rw [hx]
      split
      · exact ⟨c1, b2.trans c2, hr.ext (b2.trans c2).p, by dsimp only; omega, by dsimp only; omega, hsl, id⟩
      · split
        · exact ⟨d1, hD, hr.ext hD.p, by dsimp only; omega, by dsimp only; omega, hsl, id⟩
        · cases hf : A1i r hk with
          | false =>
            rw [B8K rfl]
            exact ⟨d1, hD, hW, by dsimp only; omega, by dsimp only; omega, lC.2.2.2, fun _ => hth⟩
          | true =>
            rw [B64 rfl]
            have hW2 := hW.ext (fE.trans uE).p
            refine ⟨u1, hD.trans (fE.trans uE), ⟨f2.ext uE.p, u2, .inr u3, hW2.tk, hW2.th, hW2.sks, hW2.tt⟩, ?_, ?_, lC.2.2.2, fun _ => hth⟩
            · show (A2O (E2 (opD x hn)) x.2.root (G2 (opD x hn)) x.2.their).ts.length ≤ _
              omega
            · show (A2O (E2 (opD x hn)) x.2.root (G2 (opD x hn)) x.2.their).n ≤ _
              omega
theorem wf0 (m : Nat) : GS (B0Z (rS m) (rK m) (rP m)) ∧ WfR (B0Z (rS m) (rK m) (rP m)) (B1W (rS m) (rK m) (rP m)) ∧ WfR (B0Z (rS m) (rK m) (rP m)) (B8x (rK m) (rO m)) ∧ (B0Z (rS m) (rK m) (rP m)).ts.length ≤ 12 ∧ (B0Z (rS m) (rK m) (rP m)).n = 3 ∧
    TrnAt (B0Z (rS m) (rK m) (rP m)) (rK m) (B1W (rS m) (rK m) (rP m)).own (rO m) (B1W (rS m) (rK m) (rP m)).root (B1W (rS m) (rK m) (rP m)).sk ∧ (B1W (rS m) (rK m) (rP m)).sk ≠ [] := by
  have g0 : GS (rg0 m) := ⟨Tok.nil, W4.nil⟩
  have n0 : (rg0 m).n = 0 := rfl
  have t0 : (rg0 m).ts.length = 0 := rfl
  obtain ⟨g1, k1⟩ := A3P g0 qO
  have l1 := A0C (rg0 m)
  obtain ⟨g2, k2⟩ := A3P g1 qO
  have l2 := A0C (E2 (rg0 m))
  have e2 := A2M (E2 (rg0 m))
  obtain ⟨g3, p3⟩ := B8L g2 k2 qO
  have l3 := A3D (E2 (E2 (rg0 m))) (rO m)
  have n3 := B6x (E2 (E2 (rg0 m))) (rO m)
  have e3 := B4F (E2 (E2 (rg0 m))) (rO m)
  change GS (rS m) at g3
  change U6 (rS m) (rO m) (rP m) at p3
  change (rS m).ts.length ≤ _ at l3
  change (rS m).n = _ at n3
  obtain ⟨g4, k4⟩ := A3P g3 qO
  have l4 := A0C (rS m)
  have e4 := A2M (rS m)
  have kK : KK (E2 (rS m)) (rK m) := ((k1.ext e2.p).ext e3.p).ext e4.p
  have kO : KK (E2 (rS m)) (rO m) := (k2.ext e3.p).ext e4.p
  obtain ⟨g5, k5, k6, ta⟩ := B3S g4 kK k4 (p3.ext e4.p) k2.2 qO
  have e5 := A78 (E2 (rS m)) (rK m) (G2 (rS m)) (rP m)
  have l5 := A09 (E2 (rS m)) (rK m) (G2 (rS m)) (rP m)
  refine ⟨g5, ⟨k4.ext e5.p, k5, .inr k6, .inl rfl, .inr ⟨_, k2.2, (p3.ext e4.p).ext e5.p⟩, (fun x hx => by cases hx), fun h => absurd rfl h⟩, ⟨kO.ext e5.p, kK.ext e5.p, .inl rfl, .inl rfl, .inl rfl, (fun x hx => by cases hx), fun h => absurd rfl h⟩, ?_, ?_, ta, ?_⟩
  · show (A2O _ _ _ _).ts.length ≤ _; omega
  · show (A2O _ _ _ _).n = _; omega
  · intro e
    have := k6.2.2
    rw [show A6y (E2 (rS m)) (rK m) (G2 (rS m)) (rP m) = [] from e] at this
    cases this

def B9f (hk : LN) (k : Nat → LN) (sks : List Skp) : Nat → List Skp
  | 0 => sks
  | i + 1 => B4G (B9f hk k sks i) ⟨hk, i, k i⟩
theorem B46 {s : Ps} {hk : LN} {c k : Nat → LN} {sks : List Skp} : ∀ (i : Nat), (∀ j, j < i → A2t s (c j) (k j) (c (j + 1))) → rep (aSt hk) i (s, c 0, 0, sks) = (s, c i, i, B9f hk k sks i)
  | 0, _ => rfl
  | i + 1, h => by
    show aSt hk (rep (aSt hk) i (s, c 0, 0, sks)) = _
    rw [B46 i fun j hj => h j qO]
    obtain ⟨e1, e2, e3⟩ := (h i qO).eq
    unfold aSt
    dsimp only
    rw [e1, e2, e3]
    rfl
theorem B7a {s : Ps} {r : Rsd} {w hk b R C g t : LN} {hp n : Nat} {c k : Nat → LN} (hg : GS s) (hl : s.ts.length ≤ 1000000) (h0 : A5j r.sks hk n = none) (hfr : A1i r hk = true) (hA : opA s r hp = (s, r.tk, r.tn, r.sks)) (hAE : A8U r hp = 0) (ta : TrnAt s r.root r.own b R C) (hB : U6 s b hk)
    (hc : c 0 = C) (h16 : n ≤ 16) (hst : ∀ j, j ≤ n → A2t s (c j) (k j) (c (j + 1))) (ho : A1B s (k n) (alW w hk hp n) g = some t) :
    Q7 s r w hk hp n g = (A2O (E2 s) R (G2 s) hk, ⟨G2 s, hk, A7X (E2 s) R (G2 s) hk, A6y (E2 s) R (G2 s) hk, 0, c (n + 1), n + 1, r.sn, B9f hk k r.sks n⟩, 0, t) := by
  obtain ⟨e1, e2, e3⟩ := ta.eq hB hg qO
  have hx : opB s r hk hp = (s, ⟨r.own, hk, R, r.sk, r.sn, C, 0, r.prev, r.sks⟩) := by
    rw [B3Q hfr, hA]
    unfold B9e
    dsimp only
    rw [e1, e2, e3]
  have hE : ahE 0 n = 0 := B1v (Nat.zero_le _) qO
  have hC : opC (s, (⟨r.own, hk, R, r.sk, r.sn, C, 0, r.prev, r.sks⟩ : Rsd)) n = (s, c n, n, B9f hk k r.sks n) := by
    show ahX s C 0 n hk r.sks = _
    rw [A3N hE, Nat.sub_zero, ← hc]
    exact B46 n fun j hj => hst j qO
  obtain ⟨f1, f2, f3⟩ := (hst n (Nat.le_refl _)).eq
  have hD : opD (s, (⟨r.own, hk, R, r.sk, r.sn, C, 0, r.prev, r.sks⟩ : Rsd)) n = s := by unfold opD; rw [hC]; exact f1
  have hK : A80 (s, (⟨r.own, hk, R, r.sk, r.sn, C, 0, r.prev, r.sks⟩ : Rsd)) n = k n := by unfold A80; rw [hC]; exact f2
  rw [B1y h0 hx (fun _ => hAE) hE (by rw [hD, hK]; exact ho), B64 hfr, hD]
  unfold opF opG
  rw [hC]
  dsimp only
  rw [f3, Nat.mod_eq_of_lt qO]
noncomputable def snd (m : Nat) : Nat → Ps × Rsd
  | 0 => (B0Z (rS m) (rK m) (rP m), B1W (rS m) (rK m) (rP m))
  | i + 1 => (U7 (snd m i).1 (snd m i).2 F3 [i % 256], V1 (snd m i).1 (snd m i).2)
noncomputable def B8S (m i : Nat) : LN := H5 (snd m i).1 (snd m i).2.own
noncomputable def B9g (m i : Nat) : LN := A0g (K1 (snd m i).1 (snd m i).2.own) (snd m i).2.sk
noncomputable def sndG (m i : Nat) : LN := A1A (snd m i).1 (snd m i).2 F3 [i % 256]
structure SnF (m i : Nat) : Prop where
  gs : GS (snd m i).1
  ext : Ext (snd m 0).1 (snd m i).1
  wf : WfR (snd m i).1 (snd m i).2
  len : (snd m i).1.ts.length ≤ 12 + 7 * i
  n : (snd m i).1.n = 3
  prev : (snd m i).2.prev = 0
  sn : (snd m i).2.sn = i
  own : (snd m i).2.own = (snd m 0).2.own
  sk : (snd m i).2.sk ≠ []
structure SnG (m i : Nat) : Prop where
  gs : GS (snd m (i + 1)).1
  ext : Ext (snd m i).1 (snd m (i + 1)).1
  wf : WfR (snd m (i + 1)).1 (snd m (i + 1)).2
  pub : U6 (snd m (i + 1)).1 (snd m i).2.own (B8S m i)
  snt : Snt (snd m (i + 1)).1 (B8S m i) 0 i (sndG m i)
  step : A2t (snd m (i + 1)).1 (snd m i).2.sk (B9g m i) (snd m (i + 1)).2.sk
  kk : KK (snd m (i + 1)).1 (B9g m i)
  opn : ∀ s', GS s' → Pext (snd m (i + 1)).1 s' → s'.ts.length ≤ 1048576 → A1B s' (B9g m i) (alW F3 (B8S m i) 0 i) (sndG m i) = some [i % 256]
def skL (hk : LN) (k : Nat → LN) (n : Nat) : List Skp := (List.range n).map fun j => ⟨hk, j, k j⟩
noncomputable def sndS (m k : Nat) : Ps := (snd m (k + 1)).1
structure SkF (m k : Nat) (z : Ps × Rsd × Int × LN) : Prop where
  e : z.2.2.1 = 0
  t : z.2.2.2 = [k % 256]
  gs : GS z.1
  wf : WfR z.1 z.2.1
  ext : Ext (sndS m k) z.1
  len : z.1.ts.length ≤ 600
  n : z.1.n ≤ 4
  their : z.2.1.their = B8S m 0
  tk : z.2.1.tk ≠ []
  tn : z.2.1.tn = k + 1
  sks : z.2.1.sks = skL (B8S m 0) (B9g m) k
structure Lnk (s : Ps) (a b : Rsd) : Prop where
  gs : GS s
  wa : WfR s a
  wb : WfR s b
  ta : TrnAt s b.root b.own a.own a.root a.sk
  sn : a.sn = 0
  sk : a.sk ≠ []
  ska : a.sks = []
  skb : b.sks = []
  an : a.tn < 4294967296
  bn : b.tn < 4294967296
  bs : b.sn < 4294967296
structure Png (s : Ps) (a b : Rsd) (t : LN) (s2 : Ps) (b2 : Rsd) : Prop where
  o : OpnH (U7 s a F3 t) b (H5 s a.own) a.prev 0
  e : Q7 (U7 s a F3 t) b F3 (H5 s a.own) a.prev 0 (A1A s a F3 t) = (s2, b2, 0, t)
  l : Lnk s2 b2 (V1 s a)
  snt : Snt (U7 s a F3 t) (H5 s a.own) a.prev 0 (A1A s a F3 t)
  s2e : s2 = A2O (E2 (U7 s a F3 t)) a.root (G2 (U7 s a F3 t)) (H5 s a.own)
  b2e : b2 = ⟨G2 (U7 s a F3 t), H5 s a.own, A7X (E2 (U7 s a F3 t)) a.root (G2 (U7 s a F3 t)) (H5 s a.own), A6y (E2 (U7 s a F3 t)) a.root (G2 (U7 s a F3 t)) (H5 s a.own), 0, A1e (K1 s a.own) a.sk, 1, b.sn, []⟩
  len : s2.ts.length ≤ s.ts.length + 20
  n : s2.n = s.n + 1
theorem C0f {s : Ps} {a b : Rsd} {t : LN} (h : Lnk s a b) (hfr : A1i b (H5 s a.own) = true) (hp : b.tk = [] ∨ b.tn = a.prev) (pv : a.prev < 4294967296) (ht : ∀ x ∈ t, x < 256) (htl : t.length ≤ 900) (hl : s.ts.length ≤ 900000) (hn : s.n < 900000000) : ∃ s2 b2, Png s a b t s2 b2 := by
  obtain ⟨a1, a2, a3, a4, a5, a6, a7, a8⟩ := C0d (w := F3) (t := t) h.gs h.wa h.sk pv (by rw [h.sn]; decide) B3V qD ht htl qO
  rw [h.sn] at a5 a8
  have l1 := A1b s a F3 t
  have hO := C0e (w := F3) (g := A1A s a F3 t) a1 (h.wb.ext a2.p) a5 h.bn qO (by rw [h.skb]; exact Nat.zero_le _) qO
  have hA : opA (U7 s a F3 t) b a.prev = (U7 s a F3 t, b.tk, b.tn, b.sks) ∧ A8U b a.prev = 0 := by
    by_cases h0 : b.tk = []
    · exact ⟨B1z h0, B1A h0⟩
    · have e := hp.resolve_left h0
      have hE : ahE b.tn a.prev = 0 := by rw [e]; exact B1v (Nat.le_refl _) qO
      rw [A5q h0, A2R h0, A3N hE]
      refine ⟨?_, hE⟩
      rw [e, Nat.sub_self]; rfl
  have e := B7a (s := U7 s a F3 t) (r := b) (w := F3) (g := A1A s a F3 t) (t := t) (hp := a.prev) (n := 0) (c := fun j => if j = 0 then a.sk else (V1 s a).sk) (k := fun _ => A0g (K1 s a.own) a.sk) a1 qO (by rw [h.skb]; rfl) hfr hA.1 hA.2 (h.ta.ext a2.p h.gs a1 qO) a4 rfl qD
    (fun j hj => by rw [show j = 0 by omega]; exact a6) (a8 _ a1 (Pext.refl _) qO)
  rw [h.skb] at e
  change _ = (_, (⟨_, _, _, _, 0, A1e (K1 s a.own) a.sk, 1, b.sn, []⟩ : Rsd), 0, t) at e
  obtain ⟨o1, o2, o3, o4, o5, o6, o7, o8⟩ := hO
  rw [e] at o2 o3 o4 o5 o6
  obtain ⟨f1, f2⟩ := A3P a1 qO
  have fE := A2M (U7 s a F3 t)
  have l2 := A0C (U7 s a F3 t)
  have kr : KK (E2 (U7 s a F3 t)) a.root := (h.wa.root.ext a2.p).ext fE.p
  obtain ⟨t1, t2, t3, t4⟩ := B3S f1 kr f2 (a4.ext fE.p) h.wa.own.2 qO
  have tE := A78 (E2 (U7 s a F3 t)) a.root (G2 (U7 s a F3 t)) (H5 s a.own)
  have l3 := A09 (E2 (U7 s a F3 t)) a.root (G2 (U7 s a F3 t)) (H5 s a.own)
  refine ⟨_, _, ⟨o1, e, ⟨t1, o4, a3.ext (fE.trans tE).p, t4.comm, rfl, ?_, rfl, h.ska, (show 1 < 4294967296 by decide), h.an, ?_⟩, a5, rfl, rfl, by omega, by omega⟩⟩
  · intro e3
    have := t3.2.2
    rw [show A6y (E2 (U7 s a F3 t)) a.root (G2 (U7 s a F3 t)) (H5 s a.own) = [] from e3] at this
    cases this
  · show (a.sn + 1) % 4294967296 < _; exact Nat.mod_lt _ qD

theorem Par.mono {R R' : Mem} {tb pb : Nat} {s : Ps} {r0 r1 : Rsd} {M : Mem} (h : Par R tb pb s r0 r1 M) (hR : ∀ x, x ∈ R → x ∈ R') : Par R' tb pb s r0 r1 M := by
  obtain ⟨ao, at_, ar, ak, al, aq, bo, bt, br, bk, bl, bq, MP, h1, h2, h3, h4⟩ := h
  exact ⟨ao, at_, ar, ak, al, aq, bo, bt, br, bk, bl, bq, MP, h1, h2.mono hR, h3.mono hR, h4⟩
def hiW : LN := [104, 105]
def hoW : LN := [104, 111]
noncomputable def p0S (m : Nat) : Ps := B0Z (rS m) (rK m) (rP m)
noncomputable def p0A (m : Nat) : Rsd := B1W (rS m) (rK m) (rP m)
noncomputable def p0B (m : Nat) : Rsd := B8x (rK m) (rO m)
theorem lnk0 (m : Nat) : Lnk (p0S m) (p0A m) (p0B m) ∧ (p0S m).ts.length ≤ 12 ∧ (p0S m).n = 3 := by
  obtain ⟨w1, w2, w3, w4, w5, w6, w7⟩ := wf0 m
  exact ⟨⟨w1, w2, w3, w6.comm, rfl, w7, rfl, rfl, (show 0 < 4294967296 by decide), (show 0 < 4294967296 by decide), (show 0 < 4294967296 by decide)⟩, w4, w5⟩
theorem B48 {r : Rsd} (h : r.tk = []) (hk : LN) : A1i r hk = true := by unfold A1i; rw [h]; simp
theorem B1K (A : Mem) (hG : Glb A) : FnV Tryz.prog 7 [] A (.bool true) := by
 refine FnX.enter (N := 55) Tryz.func7 rfl rfl rfl fun w_ => ?_
 refine B0 kn (A1 (as_ (A0 kn (A1 ?_))))
 refine C5 (aS rfl a0) kR (A77 1 _ qD hG.up) rfl ?_
 rintro v10 M10 J10 ⟨tb, pb, rfl, hp10⟩
 change Par _ tb pb (p0S 1) (p0A 1) (p0B 1) M10 at hp10
 obtain ⟨L0, n0, n1⟩ := lnk0 1
 obtain ⟨s2, rb2, Q⟩ := C0f (t := hiW) L0 (B48 rfl _) (.inl rfl) (show 0 < 4294967296 by decide) qD qD qO qO
 have q1 := Q.len
 have q2 := Q.n
 have q3 : rb2.sn = 0 := by rw [Q.b2e]
 have q4 : rb2.prev = 0 := by rw [Q.b2e]; rfl
 obtain ⟨s4, ra4, V⟩ := C0f (t := hoW) Q.l (B48 rfl _) (.inl rfl) (by rw [q4]; decide) qD qD qO qO
 have l1 := A1b (p0S 1) (p0A 1) F3 hiW
 have l2 := A1b s2 rb2 F3 hoW
 have g1 := Q.snt.gl
 have g2 := V.snt.gl
 have ak : 0 < (p0A 1).sk.length := List.length_pos_iff.2 L0.sk
 have bk : 0 < rb2.sk.length := List.length_pos_iff.2 Q.l.sk
 have h1l := A3E (p0S 1) (p0A 1).own
 have h2l := A3E s2 rb2.own
 refine as_ (A0 (D7 1) (A3 (A1 (mv_ ?_))))
 refine A2 (H7 (e := 45) rfl rfl kR) rfl ?_
 refine A0 (D2 1 12) ?_
 refine C6 rfl ?_
 refine A6 (nx (D7 1) (A1 (mv_ ?_)))
 refine A5 rfl (E0 (Mc := M10) (R := _) (aS rfl (aS rfl (aS rfl (a0)))) kR qP (B1C tb pb (p0S 1) (p0A 1) (p0B 1) hiW M10 _ (hp10.mono qS) qO ak ⟨by decide⟩ qD hG.up) rfl ?_)
 rintro v15 M15 J15 ⟨hp15, vk, vg, rfl, hvk, hvg⟩
 haveI := hvk.cel
 haveI := hvg.cel
 refine mv_ ?_
 refine A2 (A0T rfl) rfl ?_
 refine A2 (A0L rfl) rfl ?_
 refine A5 rfl (C4 (cs := [A6F, vS, G3, G3, vS, .string ByteArray.empty]) kR rfl fun b2 => ?_)
 refine A5 rfl (A9 (vs := [.int .i64 1, vk, .int .u32 (((p0A 1).prev : Nat) : Int), .int .u32 (((p0A 1).sn : Nat) : Int), vg, .string (txt hiW)]) rfl rfl rfl kR qR (A8 rfl (A8 hvk.one (A8 rfl (A8 rfl (A8 hvg.one (A8 rfl L6)))))) UpC.upd ?_)
 refine as_ (A0 (D6 1 2 3) (A1 (mv_ ?_)))
 refine A2 (qw_ 6) rfl ?_
 refine A5 rfl (E0 (Mc := M15) (R := _) (aS rfl (aS rfl (a0))) kR qP (B1F tb pb (U7 (p0S 1) (p0A 1) F3 hiW) (V1 (p0S 1) (p0A 1)) (p0B 1) vk vg (H5 (p0S 1) (p0A 1).own) (A1A (p0S 1) (p0A 1) F3 hiW) hiW (p0A 1).prev (p0A 1).sn (s2, rb2, 0, hiW) M15 _ (hp15.mono qS) qO qO (hvk.mono qS) qO Q.snt.hp Q.snt.hn (hvg.mono qS) qO Q.o Q.e hG.up) rfl ?_)
 rintro v21 M21 J21 ⟨hp21, rfl⟩
 dsimp only at hp21 ⊢
 refine mv_ ?_
 refine A2 (A0T rfl) rfl ?_
 refine A2 (A0L rfl) rfl ?_
 refine as_ (as_ (A0 (D8 1 3 4 5) (A1 (mv_ ?_))))
 refine A5 rfl (E0 (Mc := M21) (R := _) (aS rfl (aS rfl (aS rfl (a0)))) kR qP (B1D tb pb s2 (V1 (p0S 1) (p0A 1)) rb2 hoW M21 _ (hp21.mono qS) qO bk ⟨by decide⟩ qD hG.up) rfl ?_)
 rintro v26 M26 J26 ⟨hp26, wk, wg, rfl, hwk, hwg⟩
 haveI := hwk.cel
 haveI := hwg.cel
 refine mv_ ?_
 refine A2 (A0T rfl) rfl ?_
 refine A2 (A0L rfl) rfl ?_
 refine A5 rfl (C4 (cs := [A6F, vS, G3, G3, vS, .string ByteArray.empty]) kR rfl fun b6 => ?_)
 refine A5 rfl (A9 (vs := [.int .i64 0, wk, (vU rb2.prev), (vU rb2.sn), wg, .string (txt hoW)]) rfl rfl rfl kR qR (A8 rfl (A8 hwk.one (A8 rfl (A8 rfl (A8 hwg.one (A8 rfl L6)))))) UpC.upd ?_)
 refine as_ (A0 (H3 1 3 4 5 6 7) (A1 (mv_ ?_)))
 refine A2 (qw_ 6) rfl ?_
 refine A5 rfl (E0 (Mc := M26) (R := _) (aS rfl (aS rfl (a0))) kR qP (B1E tb pb (U7 s2 rb2 F3 hoW) (V1 (p0S 1) (p0A 1)) (V1 s2 rb2) wk wg (H5 s2 rb2.own) (A1A s2 rb2 F3 hoW) hoW rb2.prev rb2.sn (s4, ra4, 0, hoW) M26 _ (hp26.mono qS) qO qO (hwk.mono qS) qO V.snt.hp (by rw [q3]; decide) (hwg.mono qS) qO (by rw [q3]; exact V.o) (by rw [q3]; exact V.e) hG.up) rfl ?_)
 rintro v32 M32 J32 ⟨hp32, rfl⟩
 dsimp only
 refine mv_ ?_
 refine A2 (A0T rfl) rfl ?_
 refine A2 (A0L rfl) rfl ?_
 refine as_ (as_ (A0 (H3 3 4 5 7 8 9) (A1 (mv_ (mv_ ?_)))))
 refine G5 rfl rfl (OpQ.opL qm_ rfl ?_)
 refine G5 rfl rfl (OpQ.opL (E9 true rfl rfl (eqT rfl)) rfl ?_)
 refine A2 (I6 rfl rfl) rfl ?_
 refine mv_ ?_
 refine G5 rfl rfl (OpQ.opL qm_ rfl ?_)
 refine G5 rfl rfl (OpQ.opL (A7k rfl rfl rfl) rfl ?_)
 refine A2 (I6 rfl rfl) rfl ?_
 refine mv_ ?_
 refine G5 rfl rfl (OpQ.opL qm_ rfl ?_)
 refine A2 (I6 rfl rfl) rfl ?_
 refine mv_ ?_
 refine G5 rfl rfl (OpQ.opL qm_ rfl ?_)
 refine G5 rfl rfl (OpQ.opL (E9 true rfl rfl (eqT rfl)) rfl ?_)
 refine A2 (I6 rfl rfl) rfl ?_
 refine mv_ ?_
 refine G5 rfl rfl (OpQ.opL qm_ rfl ?_)
 refine G5 rfl rfl (OpQ.opL (A7k rfl rfl rfl) rfl ?_)
 refine A2 (I6 rfl rfl) rfl ?_
 refine as_ (A0 (D7 0) (B4 ?_))
 exact ⟨_, [], [], K9 rfl rfl, List.nil_sublist _, by simp, rfl, rfl, rfl⟩

def xW : LN := [120]
noncomputable def png (x : Ps × Rsd × Rsd) : Ps × Rsd × Rsd :=
  (A2O (E2 (U7 x.1 x.2.1 F3 xW)) x.2.1.root (G2 (U7 x.1 x.2.1 F3 xW)) (H5 x.1 x.2.1.own),
   ⟨G2 (U7 x.1 x.2.1 F3 xW), H5 x.1 x.2.1.own, A7X (E2 (U7 x.1 x.2.1 F3 xW)) x.2.1.root (G2 (U7 x.1 x.2.1 F3 xW)) (H5 x.1 x.2.1.own), A6y (E2 (U7 x.1 x.2.1 F3 xW)) x.2.1.root (G2 (U7 x.1 x.2.1 F3 xW)) (H5 x.1 x.2.1.own), 0, A1e (K1 x.1 x.2.1.own) x.2.1.sk, 1, x.2.2.sn, []⟩,
   V1 x.1 x.2.1)
noncomputable def pgs (m : Nat) : Nat → Ps × Rsd × Rsd
  | 0 => (p0S m, p0A m, p0B m)
  | j + 1 => png (pgs m j)
def scR (r : Rsd) : List (LN) := ([r.own, r.root, r.sk, r.tk].filter fun k => !k.isEmpty) ++ r.sks.map (·.key)
noncomputable def scT (x : Ps × Rsd × Rsd) : List (LN) := scR x.2.1 ++ scR x.2.2
def dsj (a b : List (LN)) : Bool := a.all fun x => b.all fun y => !decide (x = y)
noncomputable def frT (x : Ps × Rsd × Rsd) : Bool := decide (x.2.2.tk = []) || !decide (H5 x.1 x.2.1.own = x.2.2.their)
noncomputable def B8T (k : Nat) (x : Ps × Rsd × Rsd) : Bool := (frT x && (frT (png x) && (frT (png (png x)) && frT (png (png (png x)))))) && (dsj (scT x) (scT (png (png (png (png x))))) && match k with
  | 0 => true
  | k + 1 => B8T k (png (png (png (png x)))))
structure TrF (j : Nat) (x : Ps × Rsd × Rsd) : Prop where
  l : Lnk x.1 x.2.1 x.2.2
  len : x.1.ts.length ≤ 12 + 20 * j
  n : x.1.n = 3 + j
  pv : x.2.2.tk = [] ∨ x.2.2.tn = x.2.1.prev
  pp : x.2.1.prev < 4294967296
  nx : x.2.1.tk = [] ∨ x.2.1.tn = x.2.2.sn
theorem B8U {x : Ps × Rsd × Rsd} (h : frT x = true) : A1i x.2.2 (H5 x.1 x.2.1.own) = true := by
  unfold frT at h
  unfold A1i
  rw [Bool.or_comm]
  exact h
theorem B1L {j : Nat} {x : Ps × Rsd × Rsd} (h : TrF j x) (hj : j ≤ 100) (hf : frT x = true) : TrF (j + 1) (png x) ∧ Png x.1 x.2.1 x.2.2 xW (png x).1 (png x).2.1 := by
  have hl := h.len
  have hn := h.n
  obtain ⟨s2, b2, P⟩ := C0f (t := xW) h.l (B8U hf) h.pv h.pp qD qD qO qO
  have e1 : (png x).1 = s2 := P.s2e.symm
  have e2 : (png x).2.1 = b2 := P.b2e.symm
  have e3 : (png x).2.2 = V1 x.1 x.2.1 := rfl
  have pl := P.len
  have pn := P.n
  refine ⟨⟨?_, ?_, ?_, ?_, ?_, ?_⟩, ?_⟩
  · rw [e1, e2, e3]; exact P.l
  · rw [e1]; omega
  · rw [e1]; omega
  · rw [e2, e3, P.b2e]
    exact h.nx
  · rw [e2, P.b2e]
    exact h.l.bs
  · rw [e2, e3, P.b2e]
    refine .inr ?_
    show 1 = (x.2.1.sn + 1) % 4294967296
    rw [h.l.sn]
  · rw [e1, e2]; exact P
theorem tr0 (m : Nat) : TrF 0 (pgs m 0) := by
  obtain ⟨L, h1, h2⟩ := lnk0 m
  exact ⟨L, h1, h2, .inl rfl, (show 0 < 4294967296 by decide), .inl rfl⟩
theorem B8V {m : Nat} : rg0 m = rg0 (m % 2) := by unfold rg0; rw [Nat.mod_mod]
theorem B7b (m : Nat) : pgs m 0 = pgs (m % 2) 0 := by
  show (p0S m, p0A m, p0B m) = (p0S (m % 2), p0A (m % 2), p0B (m % 2))
  unfold p0S p0A p0B rS rP rO rK
  rw [B8V (m := m)]

def kpK (r : Rsd) (i : Nat) : List (LN) := (([r.own, r.root, r.sk, r.tk] : List (LN)).take i).filter fun k => !k.isEmpty
theorem B7c {r : Rsd} {i : Nat} {w : LN} (h : ([r.own, r.root, r.sk, r.tk] : List (LN))[i]? = some w) (hw : 0 < w.length) : kpK r (i + 1) = kpK r i ++ [w] := by
  unfold kpK
  rw [List.take_add_one, h, List.filter_append]
  cases w with
  | nil => cases hw
  | cons a l => rfl
theorem B8W {r : Rsd} {i : Nat} {w : LN} (h : ([r.own, r.root, r.sk, r.tk] : List (LN))[i]? = some w) (hw : ¬ 0 < w.length) : kpK r (i + 1) = kpK r i := by
  unfold kpK
  rw [List.take_add_one, h, List.filter_append]
  cases w with
  | nil => exact List.append_nil _
  | cons a l => exact absurd (Nat.succ_pos _) hw
theorem B1M (r : Rsd) (i : Nat) : (kpK r i).length ≤ 4 := Nat.le_trans (List.length_filter_le _ _) (Nat.le_trans (List.length_take_le' _ _) (Nat.le_refl _))
theorem B1N {r : Rsd} (h : r.sks = []) : scR r = kpK r 4 := by
  unfold scR kpK
  rw [h]
  exact List.append_nil _
theorem A5r (r : Rsd) (vo vt vr vk vl vs : Value) (A : Mem) (hr : RsR A r vo vt vr vk vl vs) (hsk : r.sks = []) : FnX Tryz.prog 12 [.agg (rsC vo vt vr vk vl vs r).toArray] [] A fun q M J => ∃ us, Sl 1 q (scR r).length us M ∧ Lst (J ++ A) us (scR r) := by
 haveI := hr.own.cel
 haveI := hr.their.cel
 haveI := hr.root.cel
 haveI := hr.sk.cel
 haveI := hr.tk.cel
 have hst := hr.st
 obtain ⟨sb, u, rows, rfl, hsb, hrd, hrw⟩ := hst
 unfold rsC
 refine FnX.enterZ (N := 48) Tryz.func12 rfl rfl rfl fun w_ => ?_
 refine B0 (D7 0) (A1 ?_)
 refine A5 rfl (bx_ fun b1 => ?_)
 refine as_ (A0 (D7 1) (A1 (as_ (A0 (D2 1 3) (A3 (A1 ?_))))))
 refine A2 (qf_ 0 0) rfl ?_
 refine A2 ql_ rfl ?_
 refine A2 (qf_ 2 2) rfl ?_
 refine A2 ql_ rfl ?_
 refine A2 (qf_ 3 3) rfl ?_
 refine A2 (qf_ 3 0) rfl ?_
 refine A2 ql_ rfl ?_
 refine A2 (qf_ 5 5) rfl ?_
 refine A2 (qf_ 5 0) rfl ?_
 refine A2 ql_ rfl ?_
 refine A5 rfl (C3 (e := 26) (sz := 1) (z := [vS, vS, vS, vS]) kR (eS rfl (eS rfl (eS rfl (eS rfl e0)))) (bdS 0 1 rfl qR (bdS 1 1 rfl qR (bdS 2 1 rfl qR (bdS 3 1 rfl qR bd0)))) rfl fun b18 => ?_)
 refine A2 (A0M (e := 26) rfl kR) rfl ?_
 refine mv_ (A0 (E4 1 3 18 19 20) (A4 ?_))
 refine A0m (B := [(b18, blk [vo, vr, vk, vl] 26)]) qP ?_
 have hr18 : Rd [(b18, blk [vo, vr, vk, vl] 26)] 1 (.slice (some ⟨b18, 0, none⟩) 4 4) 4 [vo, vr, vk, vl] := Rd.whole (n := 4) qK qR
 have hL : Lst A [vo, vr, vk, vl] [r.own, r.root, r.sk, r.tk] := Lst.cons hr.own (Lst.cons hr.root (Lst.cons hr.sk (Lst.cons hr.tk Lst.nil)))
 refine D3 (α := Nat × Value × List Value × Mem × Mem) (fun y => [(1, (vP b1)), (3, y.2.1), (18, .slice (some ⟨b18, 0, none⟩) 4 4), (19, .int .i64 4), (20, (vI y.1))]) (fun y => y.2.2.2.1 ++ [(b1, blk [vo, vt, vr, vk, (vU r.sn), vl, (vU r.tn), (vU r.prev), (vP sb)] 41)]) (fun y => y.2.2.2.2 ++ [(b18, blk [vo, vr, vk, vl] 26)]) (fun y => y.1 ≤ 4 ∧ Sl 1 y.2.1 (kpK r y.1).length y.2.2.1 y.2.2.2.1 ∧ Lst (y.2.2.2.2 ++ A) y.2.2.1 (kpK r y.1)) (fun y => 4 - y.1) (0, vS, [], [], []) ⟨Nat.zero_le _, Sl.nil, Lst.nil⟩ (E4 1 3 18 19 20) (Fit.last qP) (fun _ h => by simpa using h) ?_
 rintro ⟨i, v3, vs3, B3, J3⟩ ⟨hi, hs3, hl3⟩
 dsimp only at hi hs3 hl3 ⊢
 haveI := hs3.cel
 have hkl := B1M r i
 refine A1 ?_
 refine A2 (D4 rfl rfl rfl) rfl ?_
 refine A0 (H3 1 3 18 19 20 21) (A3 ?_)
 refine C1 rfl ?_ ?_ <;> intro hc
 ·
  have hlt : i < 4 := by simp at hc; omega
  obtain ⟨w, hw⟩ : ∃ z, ([r.own, r.root, r.sk, r.tk] : List (LN))[i]? = some z := ⟨_, List.getElem?_eq_getElem hlt⟩
  obtain ⟨vi, hvi, hbi⟩ := hL.get i w hw
  haveI := hbi.cel
  refine A6 (nx (E4 1 3 18 19 20) (A3 (A4 (A1 ?_))))
  refine A2 (I5 (sz := 1) (a := i) rfl rfl kR rfl hr18 hlt) rfl ?_
  refine A2 (A0i (u := vi) (hr18.mono qS) rfl kR hvi) rfl ?_
  refine as_ (A0 (H3 1 3 5 18 19 20) (A1 (mv_ ?_)))
  refine A2 (G1 (sz := 1) rfl kR hbi.rd) rfl ?_
  refine A2 (D4 rfl rfl rfl) rfl ?_
  refine A0 (N0 1 3 5 18 19 20 26) ?_
  refine C1 rfl ?_ ?_ <;> intro hc
  ·
   have hwp : 0 < w.length := by simp [I1] at hc; omega
   have hk1 := B7c hw hwp
   refine A7 (mv_ (mv_ ?_))
   refine C5 (aS rfl a0) kR (Y9 vi w _ (hbi.mono qS)) rfl ?_
   rintro v29 M29 J29 ⟨rfl, h29⟩
   haveI := h29.cel
   refine A5 rfl (C3 (e := 26) (sz := 1) (z := [vS]) kR (eS rfl e0) (bdS 0 1 rfl qR bd0) rfl fun b30 => ?_)
   refine A5 rfl (F9 (e := 26) (sz := 1) (by_ := 24) rfl rfl kR rfl hs3 (Rd.whole (n := 1) At.mem qR) (by intro c hc; rw [List.mem_singleton.1 hc]; exact h29.one) qP (by unfold maxLen; omega) qO rfl fun v31 B31 hs31 => ?_)
   haveI := hs31.cel
   refine as_ (C0 (nb (nx (E4 1 3 18 19 20) (A7 ?_))))
   refine A2 (C7 ((i + 1 : Nat) : Int) rfl rfl (E1 qO qO qO)) rfl ?_
   refine mv_ (C0 ?_)
   exact rn (i + 1, v31, vs3 ++ [v29], B31, J29 ++ J3) ⟨hlt, Sl.cast hs31 (by dsimp only; rw [hk1, List.length_append]; rfl) rfl, by dsimp only; rw [hk1]; exact (hl3.mono qS).snoc (h29.mono qS)⟩ (by dsimp only; omega) (E4 1 3 18 19 20) (Fit.pick qP (Fit.last qP)) (fun _ h => by simpa using h)
  ·
   have hwp : ¬ 0 < w.length := by simp [I1] at hc; rw [hc]; decide
   have hk1 := B8W hw hwp
   refine A6 (nb (nx (E4 1 3 18 19 20) (A7 ?_)))
   refine A2 (C7 ((i + 1 : Nat) : Int) rfl rfl (E1 qO qO qO)) rfl ?_
   refine mv_ (C0 ?_)
   exact rn (i + 1, v3, vs3, B3, J3) ⟨hlt, Sl.cast hs3 (by dsimp only; rw [hk1]) rfl, by dsimp only; rw [hk1]; exact hl3⟩ (by dsimp only; omega) (E4 1 3 18 19 20) (Fit.pick qP (Fit.last qP)) (fun _ h => by simpa using h)
 ·
  obtain rfl : i = 4 := by simp at hc; omega
  refine D0 (te (re (be rfl (nx (D2 1 3) (A3 (A1 ?_))))))
  refine A2 (qf_ 8 8) rfl ?_
  refine A2 ql_ rfl ?_
  refine C5 (aS rfl a0) kR (A7T sb r.sks.length u rows.flatten _ (mA hsb) (hrd.mono qS) (hrw.ones skT) (by rw [hsk]; decide)) rfl ?_
  rintro v35 M35 J35 hs35
  rw [show r.sks.length = 0 by rw [hsk]; rfl] at hs35
  haveI := hs35.cel
  refine A53 (B := M35) qP ?_
  have hr35 := hs35.rd (R := M35) fun _ h => h
  refine A2 (G1 (sz := 3) rfl kR hr35) rfl ?_
  refine mv_ (A0 (D8 3 35 36 37) (A4 ?_))
  refine T7 1 ?_
  refine F6 ?_
  refine A1 ?_
  refine A2 (E9 false rfl rfl (ltF qD)) rfl ?_
  refine A0 (E4 3 35 36 37 38) (A3 ?_)
  refine C6 rfl ?_
  refine D0 (te (ue (be rfl (nx (D7 3) (A1 (mv_ (as_ (A0 (D7 2) ?_))))))))
  refine B4 ?_
  exact ⟨_, B3, [], K9 rfl rfl, Fit.none (Fit.last qP), vs3, Sl.cast hs3 (by rw [B1N hsk]) rfl, by rw [B1N hsk]; exact hl3.mono qS⟩

set_option maxHeartbeats 400000 in
theorem B3Y : B8T 4 (pgs 1 0) = true := by decide +kernel

end Go.Proofs.YtlilcmjbaknafaaGreatDoor
