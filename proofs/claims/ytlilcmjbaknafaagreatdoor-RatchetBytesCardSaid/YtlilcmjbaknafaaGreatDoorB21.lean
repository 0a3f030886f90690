/- Part 21 of the texts of this claim, one behind the other. -/
import Derived.Test.YtlilcmjbaknafaaGreatDoorB20
import Derived.Lib.LaidTab
import Derived.Stop.LaidErr
import Derived.MakeChecks
set_option linter.unusedVariables false
set_option linter.unusedSimpArgs false
set_option maxRecDepth 100000
namespace Go.Proofs.YtlilcmjbaknafaaGreatDoor
open Go.Px
theorem A43 (pv : Value) (r : Rsd) (vo vt vr vk vl vs vw vx : Value) (A : Mem) (hr : RsR A r vo vt vr vk vl vs) (hsk : r.sk = []) (hw : Cel vw [vw]) (hx : Cel vx [vx]) (hp : Cel pv [pv]) : FnX Tryz.prog 16 [pv, .agg (rsC vo vt vr vk vl vs r).toArray, vw, vx] [] A fun q M J => M = [] ∧ q = .tuple #[.agg (rsC vo vt vr vk vl vs r).toArray, .agg #[vS, .int .u32 0, .int .u32 0], vS, .int .i64 2] := by
 haveI := hr.own.cel
 haveI := hr.their.cel
 haveI := hr.root.cel
 haveI := hr.sk.cel
 haveI := hr.tk.cel
 haveI := hr.st.cel
 unfold rsC
 refine FnX.enterZ (N := 52) Tryz.func16 rfl rfl rfl fun w_ => ?_
 refine B4 (D7 0 1 2 3) (A1 ?_)
 refine A4 rfl (bx_ fun b5 => ?_)
 refine A4 rfl (C3 (cs := [vS, vS, vS, vS, F5, vS, F5, F5, .pointer none]) kR rfl fun b8 => ?_)
 refine A4 rfl (C3 (cs := [vS, .int .u32 0, .int .u32 0]) kR rfl fun b9 => ?_)
 refine as_ (as_ (A0 (H5 0 2 3 5 8 9) (A3 (A1 ?_))))
 refine A2 (qf_ 3 3) rfl ?_
 refine A2 (qf_ 3 0) rfl ?_
 refine A2 ql_ rfl ?_
 refine A2 (F8 (sz := 1) rfl kR hr.sk.rd) rfl ?_
 refine A2 (F4 true rfl rfl (eqT (by rw [hsk]; rfl))) rfl ?_
 refine A0 (S9 0 2 3 5 8 9 19) ?_
 refine C8 rfl ?_
 refine A1 ?_
 refine A2 (qw_ 9) rfl ?_
 refine A2 (F6 (place := fun x => #[(0, 1), (1, 1), (2, 1)][x]?) (z := [vS, .int .u32 0, .int .u32 0]) (fun _ => by kernel_rfl) e0 bd0) rfl ?_
 refine A4 rfl (A8 (vs := [vo, vt, vr, vk, (vU r.sn), vl, (vU r.tn), (vU r.prev), vs]) rfl rfl rfl kR qR (A6 hr.own.one (A6 hr.their.one (A6 hr.root.one (A6 hr.sk.one (A6 rfl (A6 hr.tk.one (A6 rfl (A6 rfl (A6 hr.st.one I6))))))))) UpC.upd ?_)
 refine A4 rfl (A8 rfl rfl Cel.cel kR ln3 al3 UpC.upd ?_)
 refine as_ (as_ (A0 (D7 8 9 10 11) (B0 (tr ?_))))
 exact ⟨_, [], [], B2b (n1 := 9) (n2 := 3) rfl rfl rfl rfl rfl kR kR At.mem At.mem qR qR, qZ, rfl, rfl⟩
theorem B4D (tb pb : Nat) (s : Ps) (r0 r1 : Rsd) (tx : LN) (M0 A : Mem) (hPr : Par A tb pb s r0 r1 M0) (hsk : r0.sk = []) (htx : B256 tx) (ltx : tx.length ≤ 16777216) : FnX Tryz.prog 9 [(vP tb), .int .i64 0, .string (txt tx)] M0 A fun q M J => Par (J ++ A) tb pb s r0 r1 M ∧ q = .tuple #[.agg #[.int .i64 0, vS, .int .u32 0, .int .u32 0, vS, .string ByteArray.empty], .bool false] := by
 obtain ⟨ao, at_, ar, ak, al, aq, bo, bt, br, bk, bl, bq, MP, rfl, h0, h1, hP⟩ := hPr
 haveI := h0.own.cel
 haveI := h0.their.cel
 haveI := h0.root.cel
 haveI := h0.sk.cel
 haveI := h0.tk.cel
 haveI := h1.own.cel
 haveI := h1.their.cel
 haveI := h1.root.cel
 haveI := h1.sk.cel
 haveI := h1.tk.cel
 haveI := h0.st.cel
 haveI := h1.st.cel
 unfold rsC
 refine FnX.enterZ (N := 47) Tryz.func9 rfl rfl rfl fun w_ => ?_
 refine B4 (D8 0 1 2) (A1 ?_)
 refine A4 rfl (C3 (cs := [A4p, vS, F5, F5, vS, .string ByteArray.empty]) kR rfl fun b6 => ?_)
 refine as_ (A0 (D7 0 1 2 6) ?_)
 refine K8 ([]) (_) true [0, 1, 2, 3, 4, 5, 6, 7, 8, 9, 10, 11, 12, 13, 14, 15, 16, 17, 18, 19, 20, 21, 24, 25] [(0, 0), (1, 0), (2, 0), (3, 1), (4, 0), (5, 0), (6, 0), (7, 0), (8, 0), (9, 1), (12, 0), (10, 8), (11, 8), (13, 8), (14, 8), (15, 8), (16, 8), (20, 8), (21, 8), (17, 9), (18, 9), (19, 10), (22, 2), (23, 2), (24, 0), (25, 0)] kR kR qP fun hs K n0 hKm hKs hKn => ?_
 refine km_ hs ?_
 refine K1 hs rfl (E4 rfl) rfl ?_
 refine K1 hs rfl (qf_ 0 0) rfl ?_
 refine V2 hs rfl hKs ql_ ?_
 refine km_ hs ?_
 refine km_ hs ?_
 refine K1 hs rfl (E4 rfl) rfl ?_
 refine K1 hs rfl (qf_ 1 1) rfl ?_
 refine K1 hs rfl (D0 (e := 41) (n := 2) (sz := 9) (i := 0) 1 rfl rfl kR kR rfl qD rfl) rfl ?_
 refine V2 hs rfl hKs (T3 (n := 9) (vs := [ao, at_, ar, ak, (vU r0.sn), al, (vU r0.tn), (vU r0.prev), aq]) rfl kR At.mem rfl (N9 [(vP pb)] [ao, at_, ar, ak, (vU r0.sn), al, (vU r0.tn), (vU r0.prev), aq] [bo, bt, br, bk, (vU r1.sn), bl, (vU r1.tn), (vU r1.prev), bq])) ?_
 refine km_ hs ?_
 refine A0B [⟨10, 23, none, [], fun v B _ => ∃ b, v = .slice (some ⟨b, 0, none⟩) 4 4 ∧ B = [(b, blk (nums .u8 [119, 105, 116, 104]) 5)]⟩, ⟨11, 24, some 10, [], fun v B R => B = [] ∧ By R v [119, 105, 116, 104]⟩, ⟨13, 26, none, [], fun v B R => B = [] ∧ By R v tx⟩, ⟨14, 27, none, [], fun v B R => B = [] ∧ v = .tuple #[.agg (rsC ao at_ ar ak al aq r0).toArray, .agg #[vS, .int .u32 0, .int .u32 0], vS, .int .i64 2]⟩, ⟨15, 12, none, [], fun v B R => B = [] ∧ v = .tuple #[.agg (rsC ao at_ ar ak al aq r0).toArray, .agg #[vS, .int .u32 0, .int .u32 0], vS, .int .i64 2]⟩, ⟨16, 28, none, [], fun v B R => B = [] ∧ v = .agg (rsC ao at_ ar ak al aq r0).toArray⟩, ⟨20, 8, none, [], fun v B _ => ∃ b, v = (vP b) ∧ B = [(b, blk [vS, vS, vS, vS, .int .u32 0, vS, .int .u32 0, .int .u32 0, .pointer none] 41)]⟩, ⟨21, 9, none, [], fun v B _ => ∃ b, v = (vP b) ∧ B = [(b, blk [vS, .int .u32 0, .int .u32 0] 29)]⟩] [⟨17, 29, none, [], fun v B R => B = [] ∧ v = .agg #[vS, .int .u32 0, .int .u32 0]⟩, ⟨18, 30, none, [], fun v B R => B = [] ∧ v = vS⟩, ⟨19, 31, none, [], fun v B R => B = [] ∧ v = .int .i64 2⟩] ([(b6, blk [.int .i64 0, vS, .int .u32 0, .int .u32 0, vS, .string ByteArray.empty] 31), (tb, blk ((vP pb) :: ([ao, at_, ar, ak, (vU r0.sn), al, (vU r0.tn), (vU r0.prev), aq] ++ [bo, bt, br, bk, (vU r1.sn), bl, (vU r1.tn), (vU r1.prev), bq])) 45)] ++ MP) (fun bs => [bs 11, bs 13, bs 14, bs 15, bs 16, bs 20, bs 21, bs 17, bs 18, bs 19]) (hKn rfl) (by simp [A0r, A1m]) (show ∀ m ∈ ([[], [], [], [], [], [], [], [], [], []] : List Mem), ∀ x ∈ m, K x.1 from A6 (fun _ h => by cases h) (A6 (fun _ h => by cases h) (A6 (fun _ h => by cases h) (A6 (fun _ h => by cases h) (A6 (fun _ h => by cases h) (A6 (fun _ h => by cases h) (A6 (fun _ h => by cases h) (A6 (fun _ h => by cases h) (A6 (fun _ h => by cases h) (A6 (fun _ h => by cases h) (I6))))))))))) kR (fun _ => by first | rfl | kernel_rfl)
  (A6 (fun _ _ _ _ _ h => h) (A6 (fun _ _ _ _ hR h => ⟨h.1, h.2.mono hR⟩) (A6 (fun _ _ _ _ hR h => ⟨h.1, h.2.mono hR⟩) (A6 (fun _ _ _ _ _ h => h) (A6 (fun _ _ _ _ _ h => h) (A6 (fun _ _ _ _ _ h => h) (A6 (fun _ _ _ _ _ h => h) (A6 (fun _ _ _ _ _ h => h) (A6 (fun _ _ _ _ _ h => h) (A6 (fun _ _ _ _ _ h => h) (A6 (fun _ _ _ _ _ h => h) (I6)))))))))))) (show List.Nodup [23, 24, 26, 27, 12, 28, 8, 9, 29, 30, 31] by decide) (show List.Nodup [10, 11, 13, 14, 15, 16, 20, 21, 17, 18, 19] by decide) (A6 (C5 rfl) (A6 (C5 rfl) (A6 (C5 rfl) (A6 (C5 rfl) (A6 (C5 rfl) (A6 (C5 rfl) (A6 (C5 rfl) (A6 (C5 rfl) (A6 (C5 rfl) (A6 (C5 rfl) (A6 (C5 rfl) (I6))))))))))))
  hs (List.cons_ne_nil _ _) (A6 ⟨_, rfl, fun vs bs R Rj wG hb hj hjr ha => ⟨.inl rfl, ?_⟩⟩ (A6 ⟨_, rfl, fun vs bs R Rj wG hb hj hjr ha => ⟨.inl rfl, ?_⟩⟩ (A6 ⟨_, rfl, fun vs bs R Rj wG hb hj hjr ha => ⟨.inl rfl, ?_⟩⟩ (A6 ⟨_, rfl, fun vs bs R Rj wG hb hj hjr ha => ⟨.inl rfl, ?_⟩⟩ (A6 ⟨_, rfl, fun vs bs R Rj wG hb hj hjr ha => ⟨.inl rfl, ?_⟩⟩ (A6 ⟨_, rfl, fun vs bs R Rj wG hb hj hjr ha => ⟨.inl rfl, ?_⟩⟩ (A6 ⟨_, rfl, fun vs bs R Rj wG hb hj hjr ha => ⟨.inl rfl, ?_⟩⟩ (A6 ⟨_, rfl, fun vs bs R Rj wG hb hj hjr ha => ⟨.inl rfl, ?_⟩⟩ (I6))))))))) (A6 ⟨rfl, rfl, _, _, _, _, rfl, fun vs bs Rj hj ha => ?_⟩ (A6 ⟨rfl, rfl, _, _, _, _, rfl, fun vs bs Rj hj ha => ?_⟩ (A6 ⟨rfl, rfl, _, _, _, _, rfl, fun vs bs Rj hj ha => ?_⟩ (I6)))) ?_
 ·
  dsimp only [Gc.inp]
  exact C4 (e := 5) (sz := 1) (z := [zu8, zu8, zu8, zu8]) kR (eS rfl (eS rfl (eS rfl (eS rfl e0)))) (bdS 0 1 rfl qR (bdS 1 1 rfl qR (bdS 2 1 rfl qR (bdS 3 1 rfl qR bd0)))) rfl fun b => ⟨_, rfl, b, rfl, rfl⟩
 ·
  dsimp only [Gc.inp]
  have g10 := ha _ (List.mem_of_getElem? (i := 0) rfl) kR
  replace g10 : (fun v B _ => ∃ b, v = .slice (some ⟨b, 0, none⟩) 4 4 ∧ B = [(b, blk (nums .u8 [119, 105, 116, 104]) 5)]) (vs 10) (bs 10) Rj := g10
  dsimp only at g10
  obtain ⟨b, e, eB⟩ := g10
  dsimp only [P5, List.map, List.cons_append, List.nil_append]
  rw [e, eB]
  refine OpL.frzAll ?_
  exact A2I rfl kR UpC.upd rfl (fun J2 hJ => ⟨_, rfl, rfl, ⟨Rd.whole (n := 4) (List.mem_append_left _ (hJ _ (List.mem_append_left _ (List.mem_singleton.2 rfl)))) qR, by decide, by decide⟩⟩)
 ·
  dsimp only [Gc.inp]
  refine OpL.frzAll ?_
  refine Z9 (e := 5) rfl rfl htx.lt kR kR kR rfl fun v B hs J2 hJ => ⟨_, rfl, rfl, ⟨hs.mono fun x hx => List.mem_append_left _ (hJ _ (by simp [hx])), htx.lt, ltx⟩⟩
 ·
  dsimp only [Gc.inp]
  have g11 := ha _ (List.mem_of_getElem? (i := 1) rfl) kR
  replace g11 : (fun v B R => B = [] ∧ By R v [119, 105, 116, 104]) (vs 11) (bs 11) Rj := g11
  dsimp only at g11
  have g13 := ha _ (List.mem_of_getElem? (i := 2) rfl) kR
  replace g13 : (fun v B R => B = [] ∧ By R v tx) (vs 13) (bs 13) Rj := g13
  dsimp only at g13
  obtain ⟨-, h11⟩ := g11
  obtain ⟨-, h13⟩ := g13
  haveI := h11.cel
  haveI := h13.cel
  refine I1 (aS rfl (aS rfl (aS rfl (aS rfl a0)))) kR (A43 _ r0 ao at_ ar ak al aq _ _ _ (h0.mono (fun x hx => by have := hb x (by simp [hx]); simp [this])) hsk inferInstance inferInstance inferInstance) rfl ?_
  rintro r M1 J1 ⟨rfl, rfl⟩
  exact ⟨_, rfl, rfl, rfl⟩
 ·
  dsimp only [Gc.inp]
  have g14 := ha _ (List.mem_of_getElem? (i := 3) rfl) kR
  replace g14 : (fun v B R => B = [] ∧ v = .tuple #[.agg (rsC ao at_ ar ak al aq r0).toArray, .agg #[vS, .int .u32 0, .int .u32 0], vS, .int .i64 2]) (vs 14) (bs 14) Rj := g14
  dsimp only at g14
  obtain ⟨-, e⟩ := g14
  exact OpQ.opL qm_ rfl ⟨_, rfl, rfl, e⟩
 ·
  dsimp only [Gc.inp]
  have g15 := ha _ (List.mem_of_getElem? (i := 4) rfl) kR
  replace g15 : (fun v B R => B = [] ∧ v = .tuple #[.agg (rsC ao at_ ar ak al aq r0).toArray, .agg #[vS, .int .u32 0, .int .u32 0], vS, .int .i64 2]) (vs 15) (bs 15) Rj := g15
  dsimp only at g15
  obtain ⟨-, e⟩ := g15
  exact OpQ.opL (G4 (vs := #[.agg (rsC ao at_ ar ak al aq r0).toArray, .agg #[vS, .int .u32 0, .int .u32 0], vS, .int .i64 2]) (by rw [← e]; rfl) rfl) rfl ⟨_, rfl, rfl, rfl⟩
 ·
  dsimp only [Gc.inp]
  exact C3 (cs := [vS, vS, vS, vS, F5, vS, F5, F5, .pointer none]) kR rfl fun b => ⟨_, rfl, b, rfl, rfl⟩
 ·
  dsimp only [Gc.inp]
  exact C3 (cs := [vS, .int .u32 0, .int .u32 0]) kR rfl fun b => ⟨_, rfl, b, rfl, rfl⟩
 ·
  have g15 := ha _ (List.mem_of_getElem? (i := 4) rfl) kR
  replace g15 : (fun v B R => B = [] ∧ v = .tuple #[.agg (rsC ao at_ ar ak al aq r0).toArray, .agg #[vS, .int .u32 0, .int .u32 0], vS, .int .i64 2]) (vs 15) (bs 15) Rj := g15
  dsimp only at g15
  obtain ⟨-, e⟩ := g15
  exact ⟨_, G4 (vs := #[.agg (rsC ao at_ ar ak al aq r0).toArray, .agg #[vS, .int .u32 0, .int .u32 0], vS, .int .i64 2]) (by rw [← e]; rfl) rfl, rfl, rfl⟩
 ·
  have g15 := ha _ (List.mem_of_getElem? (i := 4) rfl) kR
  replace g15 : (fun v B R => B = [] ∧ v = .tuple #[.agg (rsC ao at_ ar ak al aq r0).toArray, .agg #[vS, .int .u32 0, .int .u32 0], vS, .int .i64 2]) (vs 15) (bs 15) Rj := g15
  dsimp only at g15
  obtain ⟨-, e⟩ := g15
  exact ⟨_, G4 (vs := #[.agg (rsC ao at_ ar ak al aq r0).toArray, .agg #[vS, .int .u32 0, .int .u32 0], vS, .int .i64 2]) (by rw [← e]; rfl) rfl, rfl, rfl⟩
 ·
  have g15 := ha _ (List.mem_of_getElem? (i := 4) rfl) kR
  replace g15 : (fun v B R => B = [] ∧ v = .tuple #[.agg (rsC ao at_ ar ak al aq r0).toArray, .agg #[vS, .int .u32 0, .int .u32 0], vS, .int .i64 2]) (vs 15) (bs 15) Rj := g15
  dsimp only at g15
  obtain ⟨-, e⟩ := g15
  exact ⟨_, G4 (vs := #[.agg (rsC ao at_ ar ak al aq r0).toArray, .agg #[vS, .int .u32 0, .int .u32 0], vS, .int .i64 2]) (by rw [← e]; rfl) rfl, rfl, rfl⟩
 intro vs bs Jn0 hφ hKK
 have kk10 := hKK _ (List.mem_of_getElem? (i := 0) rfl)
 dsimp only at kk10
 have kk11 := hKK _ (List.mem_of_getElem? (i := 1) rfl)
 dsimp only at kk11
 have kk13 := hKK _ (List.mem_of_getElem? (i := 2) rfl)
 dsimp only at kk13
 have kk14 := hKK _ (List.mem_of_getElem? (i := 3) rfl)
 dsimp only at kk14
 have kk15 := hKK _ (List.mem_of_getElem? (i := 4) rfl)
 dsimp only at kk15
 have kk16 := hKK _ (List.mem_of_getElem? (i := 5) rfl)
 dsimp only at kk16
 have kk20 := hKK _ (List.mem_of_getElem? (i := 6) rfl)
 dsimp only at kk20
 have kk21 := hKK _ (List.mem_of_getElem? (i := 7) rfl)
 dsimp only at kk21
 have kk17 := hKK _ (List.mem_of_getElem? (i := 8) rfl)
 dsimp only at kk17
 have kk18 := hKK _ (List.mem_of_getElem? (i := 9) rfl)
 dsimp only at kk18
 have kk19 := hKK _ (List.mem_of_getElem? (i := 10) rfl)
 dsimp only at kk19
 clear hKK
 have g10 := ofH hφ
 dsimp only at g10
 replace hφ := ofT hφ
 have g11 := ofH hφ
 dsimp only at g11
 replace hφ := ofT hφ
 have g13 := ofH hφ
 dsimp only at g13
 replace hφ := ofT hφ
 have g14 := ofH hφ
 dsimp only at g14
 replace hφ := ofT hφ
 have g15 := ofH hφ
 dsimp only at g15
 replace hφ := ofT hφ
 have g16 := ofH hφ
 dsimp only at g16
 replace hφ := ofT hφ
 have g20 := ofH hφ
 dsimp only at g20
 replace hφ := ofT hφ
 have g21 := ofH hφ
 dsimp only at g21
 replace hφ := ofT hφ
 have g17 := ofH hφ
 dsimp only at g17
 replace hφ := ofT hφ
 have g18 := ofH hφ
 dsimp only at g18
 replace hφ := ofT hφ
 have g19 := ofH hφ
 dsimp only at g19
 clear hφ
 dsimp only [P5, A0r, List.foldr, List.map, List.cons_append, List.nil_append]
 generalize bs 10 = B23 at *
 generalize bs 11 = B24 at *
 generalize bs 13 = B26 at *
 generalize bs 14 = B27 at *
 generalize bs 15 = B12 at *
 generalize bs 16 = B28 at *
 generalize bs 20 = B8 at *
 generalize bs 21 = B9 at *
 generalize bs 17 = B29 at *
 generalize bs 18 = B30 at *
 generalize bs 19 = B31 at *
 generalize vs 10 = u23 at *
 generalize vs 11 = u24 at *
 generalize vs 13 = u26 at *
 generalize vs 14 = u27 at *
 generalize vs 15 = u12 at *
 generalize vs 16 = u28 at *
 generalize vs 20 = u8 at *
 generalize vs 21 = u9 at *
 generalize vs 17 = u29 at *
 generalize vs 18 = u30 at *
 generalize vs 19 = u31 at *
 obtain ⟨rfl, -⟩ := g14
 obtain ⟨rfl, -⟩ := g15
 obtain ⟨b, rfl, rfl⟩ := g10
 obtain ⟨rfl, h24⟩ := g11
 obtain ⟨rfl, h26⟩ := g13
 obtain ⟨rfl, rfl⟩ := g16
 obtain ⟨rfl, rfl⟩ := g17
 obtain ⟨rfl, rfl⟩ := g18
 obtain ⟨rfl, rfl⟩ := g19
 obtain ⟨b8, rfl, rfl⟩ := g20
 obtain ⟨b9, rfl, rfl⟩ := g21
 unfold rsC
 refine T6 rfl rfl rfl (A8 (vs := [ao, at_, ar, ak, (vU r0.sn), al, (vU r0.tn), (vU r0.prev), aq]) rfl rfl rfl kR qR (A6 h0.own.one (A6 h0.their.one (A6 h0.root.one (A6 h0.sk.one (A6 rfl (A6 h0.tk.one (A6 rfl (A6 rfl (A6 h0.st.one I6))))))))) UpC.upd ?_)
 refine T6 rfl rfl rfl (A8 (vs := [vS, .int .u32 0, .int .u32 0]) rfl rfl rfl kR qR al3 UpC.upd ?_)
 refine K1 hs rfl (G6 rfl) rfl ?_
 refine K1 hs rfl (G6 rfl) rfl ?_
 refine P8 (V3 0 1 2 6 8 9 10 11) (A3 (A1 (mv_ ?_)))
 refine A2 (F4 true rfl rfl (neT qD)) rfl ?_
 refine A0 (V3 0 1 2 6 8 9 10 33) ?_
 refine C8 rfl ?_
 refine A1 ?_
 refine A2 (F6 (place := fun x => #[(0, 1), (1, 3), (4, 1), (5, 1)][x]?) (z := [A4p, vS, F5, F5, vS, .string ByteArray.empty]) (fun _ => by kernel_rfl) e0 bd0) rfl ?_
 refine A4 rfl (A8 (vs := [.int .i64 0, vS, .int .u32 0, .int .u32 0, vS, .string ByteArray.empty]) rfl rfl rfl kR qR al6 UpC.upd ?_)
 refine as_ (A0 (D3 6 7) (B0 (tr ?_)))
 exact ⟨_, (tb, blk [(vP pb), ao, at_, ar, ak, (vU r0.sn), al, (vU r0.tn), (vU r0.prev), aq, bo, bt, br, bk, (vU r1.sn), bl, (vU r1.tn), (vU r1.prev), bq] 45) :: MP, [], A2R (n := 6) rfl rfl rfl kR At.mem qR, Fit.none (Fit.pick (B := [_]) qP (Fit.last qP)), ⟨ao, at_, ar, ak, al, aq, bo, bt, br, bk, bl, bq, MP, rfl, h0.mono qS, h1.mono qS, hP⟩, rfl⟩
theorem B4E (tb pb : Nat) (s : Ps) (r0 r1 : Rsd) (tx : LN) (M0 A : Mem) (hPr : Par A tb pb s r0 r1 M0) (hsk : r1.sk = []) (htx : B256 tx) (ltx : tx.length ≤ 16777216) : FnX Tryz.prog 9 [(vP tb), .int .i64 1, .string (txt tx)] M0 A fun q M J => Par (J ++ A) tb pb s r0 r1 M ∧ q = .tuple #[.agg #[.int .i64 0, vS, .int .u32 0, .int .u32 0, vS, .string ByteArray.empty], .bool false] := by
 obtain ⟨ao, at_, ar, ak, al, aq, bo, bt, br, bk, bl, bq, MP, rfl, h0, h1, hP⟩ := hPr
 haveI := h0.own.cel
 haveI := h0.their.cel
 haveI := h0.root.cel
 haveI := h0.sk.cel
 haveI := h0.tk.cel
 haveI := h1.own.cel
 haveI := h1.their.cel
 haveI := h1.root.cel
 haveI := h1.sk.cel
 haveI := h1.tk.cel
 haveI := h0.st.cel
 haveI := h1.st.cel
 unfold rsC
 refine FnX.enterZ (N := 47) Tryz.func9 rfl rfl rfl fun w_ => ?_
 refine B4 (D8 0 1 2) (A1 ?_)
 refine A4 rfl (C3 (cs := [A4p, vS, F5, F5, vS, .string ByteArray.empty]) kR rfl fun b6 => ?_)
 refine as_ (A0 (D7 0 1 2 6) ?_)
 refine K8 ([]) (_) true [0, 1, 2, 3, 4, 5, 6, 7, 8, 9, 10, 11, 12, 13, 14, 15, 16, 17, 18, 19, 20, 21, 24, 25] [(0, 0), (1, 0), (2, 0), (3, 1), (4, 0), (5, 0), (6, 0), (7, 0), (8, 0), (9, 1), (12, 0), (10, 8), (11, 8), (13, 8), (14, 8), (15, 8), (16, 8), (20, 8), (21, 8), (17, 9), (18, 9), (19, 10), (22, 2), (23, 2), (24, 0), (25, 0)] kR kR qP fun hs K n0 hKm hKs hKn => ?_
 refine km_ hs ?_
 refine K1 hs rfl (E4 rfl) rfl ?_
 refine K1 hs rfl (qf_ 0 0) rfl ?_
 refine V2 hs rfl hKs ql_ ?_
 refine km_ hs ?_
 refine km_ hs ?_
 refine K1 hs rfl (E4 rfl) rfl ?_
 refine K1 hs rfl (qf_ 1 1) rfl ?_
 refine K1 hs rfl (D0 (e := 41) (n := 2) (sz := 9) (i := 1) 10 rfl rfl kR kR rfl qD rfl) rfl ?_
 refine V2 hs rfl hKs (T3 (n := 9) (vs := [bo, bt, br, bk, (vU r1.sn), bl, (vU r1.tn), (vU r1.prev), bq]) rfl kR At.mem rfl (N9 [(vP pb), ao, at_, ar, ak, (vU r0.sn), al, (vU r0.tn), (vU r0.prev), aq] [bo, bt, br, bk, (vU r1.sn), bl, (vU r1.tn), (vU r1.prev), bq] [])) ?_
 refine km_ hs ?_
 refine A0B [⟨10, 23, none, [], fun v B _ => ∃ b, v = .slice (some ⟨b, 0, none⟩) 4 4 ∧ B = [(b, blk (nums .u8 [119, 105, 116, 104]) 5)]⟩, ⟨11, 24, some 10, [], fun v B R => B = [] ∧ By R v [119, 105, 116, 104]⟩, ⟨13, 26, none, [], fun v B R => B = [] ∧ By R v tx⟩, ⟨14, 27, none, [], fun v B R => B = [] ∧ v = .tuple #[.agg (rsC bo bt br bk bl bq r1).toArray, .agg #[vS, .int .u32 0, .int .u32 0], vS, .int .i64 2]⟩, ⟨15, 12, none, [], fun v B R => B = [] ∧ v = .tuple #[.agg (rsC bo bt br bk bl bq r1).toArray, .agg #[vS, .int .u32 0, .int .u32 0], vS, .int .i64 2]⟩, ⟨16, 28, none, [], fun v B R => B = [] ∧ v = .agg (rsC bo bt br bk bl bq r1).toArray⟩, ⟨20, 8, none, [], fun v B _ => ∃ b, v = (vP b) ∧ B = [(b, blk [vS, vS, vS, vS, .int .u32 0, vS, .int .u32 0, .int .u32 0, .pointer none] 41)]⟩, ⟨21, 9, none, [], fun v B _ => ∃ b, v = (vP b) ∧ B = [(b, blk [vS, .int .u32 0, .int .u32 0] 29)]⟩] [⟨17, 29, none, [], fun v B R => B = [] ∧ v = .agg #[vS, .int .u32 0, .int .u32 0]⟩, ⟨18, 30, none, [], fun v B R => B = [] ∧ v = vS⟩, ⟨19, 31, none, [], fun v B R => B = [] ∧ v = .int .i64 2⟩] ([(b6, blk [.int .i64 0, vS, .int .u32 0, .int .u32 0, vS, .string ByteArray.empty] 31), (tb, blk ((vP pb) :: ([ao, at_, ar, ak, (vU r0.sn), al, (vU r0.tn), (vU r0.prev), aq] ++ [bo, bt, br, bk, (vU r1.sn), bl, (vU r1.tn), (vU r1.prev), bq])) 45)] ++ MP) (fun bs => [bs 11, bs 13, bs 14, bs 15, bs 16, bs 20, bs 21, bs 17, bs 18, bs 19]) (hKn rfl) (by simp [A0r, A1m]) (show ∀ m ∈ ([[], [], [], [], [], [], [], [], [], []] : List Mem), ∀ x ∈ m, K x.1 from A6 (fun _ h => by cases h) (A6 (fun _ h => by cases h) (A6 (fun _ h => by cases h) (A6 (fun _ h => by cases h) (A6 (fun _ h => by cases h) (A6 (fun _ h => by cases h) (A6 (fun _ h => by cases h) (A6 (fun _ h => by cases h) (A6 (fun _ h => by cases h) (A6 (fun _ h => by cases h) (I6))))))))))) kR (fun _ => by first | rfl | kernel_rfl)
  (A6 (fun _ _ _ _ _ h => h) (A6 (fun _ _ _ _ hR h => ⟨h.1, h.2.mono hR⟩) (A6 (fun _ _ _ _ hR h => ⟨h.1, h.2.mono hR⟩) (A6 (fun _ _ _ _ _ h => h) (A6 (fun _ _ _ _ _ h => h) (A6 (fun _ _ _ _ _ h => h) (A6 (fun _ _ _ _ _ h => h) (A6 (fun _ _ _ _ _ h => h) (A6 (fun _ _ _ _ _ h => h) (A6 (fun _ _ _ _ _ h => h) (A6 (fun _ _ _ _ _ h => h) (I6)))))))))))) (show List.Nodup [23, 24, 26, 27, 12, 28, 8, 9, 29, 30, 31] by decide) (show List.Nodup [10, 11, 13, 14, 15, 16, 20, 21, 17, 18, 19] by decide) (A6 (C5 rfl) (A6 (C5 rfl) (A6 (C5 rfl) (A6 (C5 rfl) (A6 (C5 rfl) (A6 (C5 rfl) (A6 (C5 rfl) (A6 (C5 rfl) (A6 (C5 rfl) (A6 (C5 rfl) (A6 (C5 rfl) (I6))))))))))))
  hs (List.cons_ne_nil _ _) (A6 ⟨_, rfl, fun vs bs R Rj wG hb hj hjr ha => ⟨.inl rfl, ?_⟩⟩ (A6 ⟨_, rfl, fun vs bs R Rj wG hb hj hjr ha => ⟨.inl rfl, ?_⟩⟩ (A6 ⟨_, rfl, fun vs bs R Rj wG hb hj hjr ha => ⟨.inl rfl, ?_⟩⟩ (A6 ⟨_, rfl, fun vs bs R Rj wG hb hj hjr ha => ⟨.inl rfl, ?_⟩⟩ (A6 ⟨_, rfl, fun vs bs R Rj wG hb hj hjr ha => ⟨.inl rfl, ?_⟩⟩ (A6 ⟨_, rfl, fun vs bs R Rj wG hb hj hjr ha => ⟨.inl rfl, ?_⟩⟩ (A6 ⟨_, rfl, fun vs bs R Rj wG hb hj hjr ha => ⟨.inl rfl, ?_⟩⟩ (A6 ⟨_, rfl, fun vs bs R Rj wG hb hj hjr ha => ⟨.inl rfl, ?_⟩⟩ (I6))))))))) (A6 ⟨rfl, rfl, _, _, _, _, rfl, fun vs bs Rj hj ha => ?_⟩ (A6 ⟨rfl, rfl, _, _, _, _, rfl, fun vs bs Rj hj ha => ?_⟩ (A6 ⟨rfl, rfl, _, _, _, _, rfl, fun vs bs Rj hj ha => ?_⟩ (I6)))) ?_
 ·
  dsimp only [Gc.inp]
  exact C4 (e := 5) (sz := 1) (z := [zu8, zu8, zu8, zu8]) kR (eS rfl (eS rfl (eS rfl (eS rfl e0)))) (bdS 0 1 rfl qR (bdS 1 1 rfl qR (bdS 2 1 rfl qR (bdS 3 1 rfl qR bd0)))) rfl fun b => ⟨_, rfl, b, rfl, rfl⟩
 ·
  dsimp only [Gc.inp]
  have g10 := ha _ (List.mem_of_getElem? (i := 0) rfl) kR
  replace g10 : (fun v B _ => ∃ b, v = .slice (some ⟨b, 0, none⟩) 4 4 ∧ B = [(b, blk (nums .u8 [119, 105, 116, 104]) 5)]) (vs 10) (bs 10) Rj := g10
  dsimp only at g10
  obtain ⟨b, e, eB⟩ := g10
  dsimp only [P5, List.map, List.cons_append, List.nil_append]
  rw [e, eB]
  refine OpL.frzAll ?_
  exact A2I rfl kR UpC.upd rfl (fun J2 hJ => ⟨_, rfl, rfl, ⟨Rd.whole (n := 4) (List.mem_append_left _ (hJ _ (List.mem_append_left _ (List.mem_singleton.2 rfl)))) qR, by decide, by decide⟩⟩)
 ·
  dsimp only [Gc.inp]
  refine OpL.frzAll ?_
  refine Z9 (e := 5) rfl rfl htx.lt kR kR kR rfl fun v B hs J2 hJ => ⟨_, rfl, rfl, ⟨hs.mono fun x hx => List.mem_append_left _ (hJ _ (by simp [hx])), htx.lt, ltx⟩⟩
 ·
  dsimp only [Gc.inp]
  have g11 := ha _ (List.mem_of_getElem? (i := 1) rfl) kR
  replace g11 : (fun v B R => B = [] ∧ By R v [119, 105, 116, 104]) (vs 11) (bs 11) Rj := g11
  dsimp only at g11
  have g13 := ha _ (List.mem_of_getElem? (i := 2) rfl) kR
  replace g13 : (fun v B R => B = [] ∧ By R v tx) (vs 13) (bs 13) Rj := g13
  dsimp only at g13
  obtain ⟨-, h11⟩ := g11
  obtain ⟨-, h13⟩ := g13
  haveI := h11.cel
  haveI := h13.cel
  refine I1 (aS rfl (aS rfl (aS rfl (aS rfl a0)))) kR (A43 _ r1 bo bt br bk bl bq _ _ _ (h1.mono (fun x hx => by have := hb x (by simp [hx]); simp [this])) hsk inferInstance inferInstance inferInstance) rfl ?_
  rintro r M1 J1 ⟨rfl, rfl⟩
  exact ⟨_, rfl, rfl, rfl⟩
 ·
  dsimp only [Gc.inp]
  have g14 := ha _ (List.mem_of_getElem? (i := 3) rfl) kR
  replace g14 : (fun v B R => B = [] ∧ v = .tuple #[.agg (rsC bo bt br bk bl bq r1).toArray, .agg #[vS, .int .u32 0, .int .u32 0], vS, .int .i64 2]) (vs 14) (bs 14) Rj := g14
  dsimp only at g14
  obtain ⟨-, e⟩ := g14
  exact OpQ.opL qm_ rfl ⟨_, rfl, rfl, e⟩
 ·
  dsimp only [Gc.inp]
  have g15 := ha _ (List.mem_of_getElem? (i := 4) rfl) kR
  replace g15 : (fun v B R => B = [] ∧ v = .tuple #[.agg (rsC bo bt br bk bl bq r1).toArray, .agg #[vS, .int .u32 0, .int .u32 0], vS, .int .i64 2]) (vs 15) (bs 15) Rj := g15
  dsimp only at g15
  obtain ⟨-, e⟩ := g15
  exact OpQ.opL (G4 (vs := #[.agg (rsC bo bt br bk bl bq r1).toArray, .agg #[vS, .int .u32 0, .int .u32 0], vS, .int .i64 2]) (by rw [← e]; rfl) rfl) rfl ⟨_, rfl, rfl, rfl⟩
 ·
  dsimp only [Gc.inp]
  exact C3 (cs := [vS, vS, vS, vS, F5, vS, F5, F5, .pointer none]) kR rfl fun b => ⟨_, rfl, b, rfl, rfl⟩
 ·
  dsimp only [Gc.inp]
  exact C3 (cs := [vS, .int .u32 0, .int .u32 0]) kR rfl fun b => ⟨_, rfl, b, rfl, rfl⟩
 ·
  have g15 := ha _ (List.mem_of_getElem? (i := 4) rfl) kR
  replace g15 : (fun v B R => B = [] ∧ v = .tuple #[.agg (rsC bo bt br bk bl bq r1).toArray, .agg #[vS, .int .u32 0, .int .u32 0], vS, .int .i64 2]) (vs 15) (bs 15) Rj := g15
  dsimp only at g15
  obtain ⟨-, e⟩ := g15
  exact ⟨_, G4 (vs := #[.agg (rsC bo bt br bk bl bq r1).toArray, .agg #[vS, .int .u32 0, .int .u32 0], vS, .int .i64 2]) (by rw [← e]; rfl) rfl, rfl, rfl⟩
 ·
  have g15 := ha _ (List.mem_of_getElem? (i := 4) rfl) kR
  replace g15 : (fun v B R => B = [] ∧ v = .tuple #[.agg (rsC bo bt br bk bl bq r1).toArray, .agg #[vS, .int .u32 0, .int .u32 0], vS, .int .i64 2]) (vs 15) (bs 15) Rj := g15
  dsimp only at g15
  obtain ⟨-, e⟩ := g15
  exact ⟨_, G4 (vs := #[.agg (rsC bo bt br bk bl bq r1).toArray, .agg #[vS, .int .u32 0, .int .u32 0], vS, .int .i64 2]) (by rw [← e]; rfl) rfl, rfl, rfl⟩
 ·
  have g15 := ha _ (List.mem_of_getElem? (i := 4) rfl) kR
  replace g15 : (fun v B R => B = [] ∧ v = .tuple #[.agg (rsC bo bt br bk bl bq r1).toArray, .agg #[vS, .int .u32 0, .int .u32 0], vS, .int .i64 2]) (vs 15) (bs 15) Rj := g15
  dsimp only at g15
  obtain ⟨-, e⟩ := g15
  exact ⟨_, G4 (vs := #[.agg (rsC bo bt br bk bl bq r1).toArray, .agg #[vS, .int .u32 0, .int .u32 0], vS, .int .i64 2]) (by rw [← e]; rfl) rfl, rfl, rfl⟩
 intro vs bs Jn0 hφ hKK
 have kk10 := hKK _ (List.mem_of_getElem? (i := 0) rfl)
 dsimp only at kk10
 have kk11 := hKK _ (List.mem_of_getElem? (i := 1) rfl)
 dsimp only at kk11
 have kk13 := hKK _ (List.mem_of_getElem? (i := 2) rfl)
 dsimp only at kk13
 have kk14 := hKK _ (List.mem_of_getElem? (i := 3) rfl)
 dsimp only at kk14
 have kk15 := hKK _ (List.mem_of_getElem? (i := 4) rfl)
 dsimp only at kk15
 have kk16 := hKK _ (List.mem_of_getElem? (i := 5) rfl)
 dsimp only at kk16
 have kk20 := hKK _ (List.mem_of_getElem? (i := 6) rfl)
 dsimp only at kk20
 have kk21 := hKK _ (List.mem_of_getElem? (i := 7) rfl)
 dsimp only at kk21
 have kk17 := hKK _ (List.mem_of_getElem? (i := 8) rfl)
 dsimp only at kk17
 have kk18 := hKK _ (List.mem_of_getElem? (i := 9) rfl)
 dsimp only at kk18
 have kk19 := hKK _ (List.mem_of_getElem? (i := 10) rfl)
 dsimp only at kk19
 clear hKK
 have g10 := ofH hφ
 dsimp only at g10
 replace hφ := ofT hφ
 have g11 := ofH hφ
 dsimp only at g11
 replace hφ := ofT hφ
 have g13 := ofH hφ
 dsimp only at g13
 replace hφ := ofT hφ
 have g14 := ofH hφ
 dsimp only at g14
 replace hφ := ofT hφ
 have g15 := ofH hφ
 dsimp only at g15
 replace hφ := ofT hφ
 have g16 := ofH hφ
 dsimp only at g16
 replace hφ := ofT hφ
 have g20 := ofH hφ
 dsimp only at g20
 replace hφ := ofT hφ
 have g21 := ofH hφ
 dsimp only at g21
 replace hφ := ofT hφ
 have g17 := ofH hφ
 dsimp only at g17
 replace hφ := ofT hφ
 have g18 := ofH hφ
 dsimp only at g18
 replace hφ := ofT hφ
 have g19 := ofH hφ
 dsimp only at g19
 clear hφ
 dsimp only [P5, A0r, List.foldr, List.map, List.cons_append, List.nil_append]
 generalize bs 10 = B23 at *
 generalize bs 11 = B24 at *
 generalize bs 13 = B26 at *
 generalize bs 14 = B27 at *
 generalize bs 15 = B12 at *
 generalize bs 16 = B28 at *
 generalize bs 20 = B8 at *
 generalize bs 21 = B9 at *
 generalize bs 17 = B29 at *
 generalize bs 18 = B30 at *
 generalize bs 19 = B31 at *
 generalize vs 10 = u23 at *
 generalize vs 11 = u24 at *
 generalize vs 13 = u26 at *
 generalize vs 14 = u27 at *
 generalize vs 15 = u12 at *
 generalize vs 16 = u28 at *
 generalize vs 20 = u8 at *
 generalize vs 21 = u9 at *
 generalize vs 17 = u29 at *
 generalize vs 18 = u30 at *
 generalize vs 19 = u31 at *
 obtain ⟨rfl, -⟩ := g14
 obtain ⟨rfl, -⟩ := g15
 obtain ⟨b, rfl, rfl⟩ := g10
 obtain ⟨rfl, h24⟩ := g11
 obtain ⟨rfl, h26⟩ := g13
 obtain ⟨rfl, rfl⟩ := g16
 obtain ⟨rfl, rfl⟩ := g17
 obtain ⟨rfl, rfl⟩ := g18
 obtain ⟨rfl, rfl⟩ := g19
 obtain ⟨b8, rfl, rfl⟩ := g20
 obtain ⟨b9, rfl, rfl⟩ := g21
 unfold rsC
 refine T6 rfl rfl rfl (A8 (vs := [bo, bt, br, bk, (vU r1.sn), bl, (vU r1.tn), (vU r1.prev), bq]) rfl rfl rfl kR qR (A6 h1.own.one (A6 h1.their.one (A6 h1.root.one (A6 h1.sk.one (A6 rfl (A6 h1.tk.one (A6 rfl (A6 rfl (A6 h1.st.one I6))))))))) UpC.upd ?_)
 refine T6 rfl rfl rfl (A8 (vs := [vS, .int .u32 0, .int .u32 0]) rfl rfl rfl kR qR al3 UpC.upd ?_)
 refine K1 hs rfl (G6 rfl) rfl ?_
 refine K1 hs rfl (G6 rfl) rfl ?_
 refine P8 (V3 0 1 2 6 8 9 10 11) (A3 (A1 (mv_ ?_)))
 refine A2 (F4 true rfl rfl (neT qD)) rfl ?_
 refine A0 (V3 0 1 2 6 8 9 10 33) ?_
 refine C8 rfl ?_
 refine A1 ?_
 refine A2 (F6 (place := fun x => #[(0, 1), (1, 3), (4, 1), (5, 1)][x]?) (z := [A4p, vS, F5, F5, vS, .string ByteArray.empty]) (fun _ => by kernel_rfl) e0 bd0) rfl ?_
 refine A4 rfl (A8 (vs := [.int .i64 0, vS, .int .u32 0, .int .u32 0, vS, .string ByteArray.empty]) rfl rfl rfl kR qR al6 UpC.upd ?_)
 refine as_ (A0 (D3 6 7) (B0 (tr ?_)))
 exact ⟨_, (tb, blk [(vP pb), ao, at_, ar, ak, (vU r0.sn), al, (vU r0.tn), (vU r0.prev), aq, bo, bt, br, bk, (vU r1.sn), bl, (vU r1.tn), (vU r1.prev), bq] 45) :: MP, [], A2R (n := 6) rfl rfl rfl kR At.mem qR, Fit.none (Fit.pick (B := [_]) qP (Fit.last qP)), ⟨ao, at_, ar, ak, al, aq, bo, bt, br, bk, bl, bq, MP, rfl, h0.mono qS, h1.mono qS, hP⟩, rfl⟩

theorem _root_.Go.Px.XC.to {C : Cx} {Q : XQ} {c : Code} {l l' : Env} {M M' J J' : Mem} (h : XC C c Q l' M' J') (hk : Keep l l') (hM : Fit M M') (hJ : ∀ q, q ∈ J' → q ∈ J) : XC C c Q l M J := fun a w ha hw => h a w (ha.sub hk.lk) (hw.fit hM hJ)
theorem _root_.Go.Px.XC.late2 {C : Cx} {Q : XQ} {c1 c2 d : Code} {l : Env} {M J : Mem} {α : Type} (L : α → Env) (MM JJ : α → Mem) (p : α → Prop) (h2 : ∀ x, p x → XC C d Q (L x) (MM x) (JJ x)) (h1 : (∀ x, p x → XC C d Q (L x) (MM x) (JJ x)) → XC C (.seq c1 (.seq c2 d)) Q l M J) : XC C (.seq c1 (.seq c2 d)) Q l M J := h1 h2
theorem A8D : ∀ (l : List Skp) (ws : LN), (∀ y ∈ l, y.of.length ≤ 65536 ∧ y.n < 4294967296 ∧ y.key.length ≤ 65536) → (l.foldl wX ws).length ≤ ws.length + 131084 * l.length
  | [], ws, _ => by simp
  | y :: l, ws, h => by
    have h1 := h y qM
    have h2 := B5S ws y
    have h3 := A8D l (wX ws y) fun z hz => h z (by simp [hz])
    rw [List.foldl_cons, List.length_cons]; omega
theorem B2C {r : Rsd} (h : LayOk r) : (A4k [] r).length ≤ 5000000 := by
  unfold A4k B9Z
  have h1 := A8D r.sks (wN (wN (A7z (A7z (wB (wB (wB [] r.own) r.their) r.root) r.sk r.sn) r.tk r.tn) r.prev 4) r.sks.length 2) h.sks
  have h2 := h.own
  have h3 := h.their
  have h4 := h.root
  have h5 := h.sk
  have h6 := h.tk
  have h7 := h.len
  refine Nat.le_trans h1 ?_
  simp [A7z, wN, wB, L9]
  omega
theorem B4F {w a b : LN} (h : w = a ++ b) : a = w.take (w.length - b.length) := by
  subst h
  rw [List.length_append, Nat.add_sub_cancel, List.take_left]
set_option maxHeartbeats 4000000 in
theorem A4y (m n : Nat) (v1 v2 : Value) (zs w2 : LN) (A : Mem) (hm : m < 256) (hv1 : Rd A 2 v1 n (nums .u8 zs)) (hz : zs.length = n * 2) (hz2 : ∀ x ∈ zs, x < 256) (hn : n ≤ maxLen) (i2 : Byi A v2 w2) (hG : Glb A) : FnV Tryz.prog 6 [.int .u8 ((m : Nat) : Int), v1, v2] A (.bool true) := by
  haveI := hv1.cel
  haveI := i2.cel
  have i2l := i2.len
  unfold maxLen at hn i2l
  refine FnX.enter (N := 136) Tryz.func6 rfl rfl rfl fun w_ => ?_
  refine B4 (D8 0 1 2) (A1 (as_ (A0 (D8 0 1 2) (A3 (A1 ?_)))))
  refine F0 a0 kR (A4h _ hG.up) rfl ?_
  refine A2 (Y0 rfl) rfl ?_
  refine mv_ ?_
  refine D6 rfl rfl (OpQ.opL qm_ rfl ?_)
  refine D6 rfl rfl (OpQ.opL (F8 (sz := 2) rfl kR hv1) rfl ?_)
  refine D6 rfl rfl (OpQ.opL (D9 rfl rfl rfl) rfl ?_)
  refine A2 (E3 rfl rfl) rfl ?_
  refine mv_ ?_
  refine P6 (t := 26) rfl (fun hb => ?_) (fun hb => ?_)
  ·
    refine E7 rfl rfl rfl rfl ?_
    refine E7 rfl rfl rfl rfl ?_
    refine E7 rfl rfl rfl rfl ?_
    refine A2 (E2 rfl rfl) rfl ?_
    refine A0 (D7 0 1 2 30) ?_
    refine C8 rfl ?_
    refine A1 ?_
    refine F0 a0 kR (A4h _ hG.up) rfl ?_
    refine as_ (A0 (D5 6) (B0 (tr ?_)))
    exact ⟨_, [], [], I4 rfl rfl, List.nil_sublist _, by simp, rfl, rfl, rfl⟩
  ·
    have hn25 : n ≤ 25 := by simp [I0] at hb; omega
    refine D6 rfl rfl (OpQ.opL qm_ rfl ?_)
    refine D6 rfl rfl (OpQ.opL (F8 (sz := 1) rfl kR i2.rd) rfl ?_)
    refine D6 rfl rfl (OpQ.opL (D9 rfl rfl rfl) rfl ?_)
    refine A2 (E3 rfl rfl) rfl ?_
    refine A0 (D7 0 1 2 30) ?_
    refine C0 rfl ?_ ?_ <;> intro hc
    ·
      refine A1 ?_
      refine F0 a0 kR (A4h _ hG.up) rfl ?_
      refine as_ (A0 (D5 6) (B0 (tr ?_)))
      exact ⟨_, [], [], I4 rfl rfl, List.nil_sublist _, by simp, rfl, rfl, rfl⟩
    ·
      have hj500 : w2.length ≤ 500 := by simp [I0] at hc; omega
      have hv2 := i2.by qO
      refine A7 (nx (D8 0 1 2) (A1 (mv_ ?_)))
      refine C7 (aS rfl a0) kR (A8x m _ hm hG.up) rfl ?_
      rintro v33 M33 J33 ⟨tb, pb, rfl, hp33⟩
      have hB0 := by0 m
      refine as_ (A0 (D8 1 2 7) (A3 (A1 (as_ (A0 (D7 1 2 7 8) (A5 ?_))))))
      refine E1 (α := Nat × Ps × Rsd × Rsd × Mem × Mem) (fun y => [(1, v1), (2, v2), (7, (vP tb)), (8, (vI y.1))]) (fun y => y.2.2.2.2.1) (fun y => y.2.2.2.2.2) (fun y => y.1 ≤ n ∧ ByI y.1 y.2.1 y.2.2.1 y.2.2.2.1 ∧ Par (y.2.2.2.2.2 ++ A) tb pb y.2.1 y.2.2.1 y.2.2.2.1 y.2.2.2.2.1) (fun y => n - y.1) (0, A9w (rS m) (rK m) (rP m), A9v (rS m) (rK m) (rP m), B7i (rK m) (rO m), M33, J33) ⟨Nat.zero_le _, hB0, hp33.mono qS⟩ (D7 1 2 7 8) (Fit.eq qM) (fun _ h => by simpa using h) ?_
      rintro ⟨i, s, r0, r1, Mi, Ji⟩ ⟨hi, hB, hpi⟩
      dsimp only at hi hB hpi ⊢
      refine A3 (A1 (mv_ (mv_ ?_)))
      refine A2 (F8 (sz := 2) rfl kR hv1) rfl ?_
      refine A2 (D9 rfl rfl rfl) rfl ?_
      refine A0 (E6 1 2 7 8 37) ?_
      refine C0 rfl ?_ ?_ <;> intro hc
      ·
        have hlt : i < n := by simp [I0] at hc; omega
        have hbb : (r0.prev < 4294967296 ∧ r0.sn < 4294967296 ∧ r0.tn < 4294967296) ∧ (r1.prev < 4294967296 ∧ r1.sn < 4294967296 ∧ r1.tn < 4294967296) := by obtain ⟨_, _, _, _, _, _, _, _, _, _, _, _, _, _, g0, g1, _⟩ := hpi; exact ⟨⟨g0.prev, g0.sn, g0.tn⟩, ⟨g1.prev, g1.sn, g1.tn⟩⟩
        obtain ⟨hb0, hb1⟩ := hbb
        replace hb0 : r0.prev < 4294967296 ∧ r0.sn < 4294967296 ∧ r0.tn < 4294967296 := hb0
        have hlen := hB.len
        have hnn := hB.n
        have h4 : (zs.getD (i * 2 + 1) 0 % 2 = 0 ∧ r0.sk = []) ∨ (zs.getD (i * 2 + 1) 0 % 2 = 0 ∧ r0.sk ≠ []) ∨ (zs.getD (i * 2 + 1) 0 % 2 = 1 ∧ r1.sk = []) ∨ (zs.getD (i * 2 + 1) 0 % 2 = 1 ∧ r1.sk ≠ []) := by
          rcases Nat.mod_two_eq_zero_or_one (zs.getD (i * 2 + 1) 0) with h | h
          · by_cases hk : r0.sk = []
            · exact .inl ⟨h, hk⟩
            · exact .inr (.inl ⟨h, hk⟩)
          · by_cases hk : r1.sk = []
            · exact .inr (.inr (.inl ⟨h, hk⟩))
            · exact .inr (.inr (.inr ⟨h, hk⟩))
        refine A7 (nx (D7 1 2 7 8) (A3 (A5 ?_)))
        refine XC.late2 (α := Ps × Rsd × Rsd × Mem × Mem) (fun _ => [(1, v1), (2, v2), (7, (vP tb)), (8, (vI i))]) (fun y => y.2.2.2.1) (fun y => y.2.2.2.2) (fun y => ByI (i + 1) y.1 y.2.1 y.2.2.1 ∧ Par (y.2.2.2.2 ++ A) tb pb y.1 y.2.1 y.2.2.1 y.2.2.2.1) ?_ ?_
        ·
          clear hB hpi hb0 hb1 h4
          rintro ⟨s, r0, r1, Mj, Jj⟩ ⟨hB2, hpj⟩
          dsimp only at hB2 hpj ⊢
          obtain ⟨ao, at_, ar, ak, al, aq, bo, bt, bw, bk, bl, bq, MP, rfl, h0, h1, hP⟩ := hpj
          haveI := h0.own.cel
          haveI := h0.their.cel
          haveI := h0.root.cel
          haveI := h0.sk.cel
          haveI := h0.tk.cel
          haveI := h0.st.cel
          haveI := h1.own.cel
          haveI := h1.their.cel
          haveI := h1.root.cel
          haveI := h1.sk.cel
          haveI := h1.tk.cel
          haveI := h1.st.cel
          unfold rsC
          refine A1 ?_
          refine A2 (F6 (place := fun x => #[(0, 1)][x]?) (z := [vS]) (fun _ => by kernel_rfl) e0 bd0) rfl ?_
          refine A4 rfl (bx_ fun b66 => ?_)
          refine as_ (A0 (E6 1 2 7 8 11) ?_)
          rcases Nat.mod_two_eq_zero_or_one i with hj | hj
          ·
            refine A1 (mv_ (mv_ (mv_ ?_)))
            refine A2 (L7 (a := i) (b := 2) rfl rfl rfl rfl qD) rfl ?_
            rw [hj]
            refine A2 (E4 rfl) rfl ?_
            refine A2 (qf_ 1 1) rfl ?_
            refine A2 (D0 (e := 41) (n := 2) (sz := 9) (i := 0) 1 rfl rfl kR kR rfl qD rfl) rfl ?_
            refine A2 (T3 (n := 9) (vs := [ao, at_, ar, ak, (vU r0.sn), al, (vU r0.tn), (vU r0.prev), aq]) rfl kR At.mem rfl (N9 [(vP pb)] [ao, at_, ar, ak, (vU r0.sn), al, (vU r0.tn), (vU r0.prev), aq] [bo, bt, bw, bk, (vU r1.sn), bl, (vU r1.tn), (vU r1.prev), bq])) rfl ?_
            refine A4 rfl (C6 (Mc := [(b66, blk [vS] 64)]) (R := _) (aS rfl (aS rfl (a0))) kR qP (B2z b66 r0 ao at_ ar ak al aq [] _ _ Wtr.new (h0.mono qS) qD) rfl ?_)
            rintro v75 M75 J75 ⟨rfl, hW75⟩
            have hLO : LayOk r0 := B5T hB2.wa hB2.sa h0.sn h0.tn h0.prev
            have hLl := B2C hLO
            obtain ⟨hrd1, hrd2, hrd3⟩ := B5R hLO
            refine A0 (E6 1 2 7 8 11) (A1 (mv_ ?_))
            refine A4 rfl (C6 (Mc := M75) (R := _) (aS rfl (a0)) kR qP (A0D b66 _ M75 _ hW75 qO) rfl ?_)
            rintro v77 M77 J77 ⟨hW77, h77⟩
            haveI := h77.cel
            refine C7 (aS rfl a0) kR (A2x v77 (A4k [] r0) J77 _ h77) rfl ?_
            rintro v78 M78 J78 ⟨rb, rfl, hR78⟩
            refine as_ (A0 (E6 1 2 7 8 12) (A1 (mv_ ?_)))
            refine A4 rfl (C6 (Mc := M78) (R := _) (aS rfl (a0)) kR qP (B4B rb (A4k [] r0, false) J77 M78 _ hR78 qS) rfl ?_)
            rintro v81 M81 J81 ⟨q1, rfl, hR81, hq, -⟩
            rw [hrd2]
            obtain ⟨wo, wt, wr, wk, wl, wq, rfl, hn⟩ := hq hrd2
            rw [hrd1] at hn ⊢
            haveI := hn.own.cel
            haveI := hn.their.cel
            haveI := hn.root.cel
            haveI := hn.sk.cel
            haveI := hn.tk.cel
            haveI := hn.st.cel
            unfold rsC
            refine mv_ ?_
            refine A2 (A0G rfl) rfl ?_
            refine A2 (A0x rfl) rfl ?_
            refine A4 rfl (C3 (cs := [vS, vS, vS, vS, F5, vS, F5, F5, .pointer none]) kR rfl fun b13 => ?_)
            refine A4 rfl (A8 (vs := [wo, wt, wr, wk, (vU r0.sn), wl, (vU r0.tn), (vU r0.prev), wq]) rfl rfl rfl kR qR (A6 hn.own.one (A6 hn.their.one (A6 hn.root.one (A6 hn.sk.one (A6 rfl (A6 hn.tk.one (A6 rfl (A6 rfl (A6 hn.st.one I6))))))))) UpC.upd ?_)
            refine as_ (A0 (S9 1 2 7 8 12 13 14) (A3 ?_))
            refine D2 (.range 19) (zp 0 [0, 0, 0, 0, 2, 0, 0, 0, 1, 0, 0, 0, 0, 0, 0, 1, 2, 0, 0]) kR kR fun hs => ?_
            refine fm_ hs ?_
            refine C2 hs rfl (Y0 rfl) rfl ?_
            refine fm_ hs ?_
            refine F7 hs rfl rfl rfl rfl qm_ rfl ?_
            refine U8 rfl rfl rfl rfl (aS rfl a0) kR (A6N rb _ J77 _ (hR81.rd qS)) rfl ?_
            rw [show B9g (rdE (A4k [] r0, false)) = true by rw [hrd3]; rfl]
            refine F7 hs rfl rfl rfl rfl (Y0 rfl) rfl ?_
            refine C2 hs rfl (E3 rfl rfl) rfl ?_
            refine fm_ hs ?_
            refine W7 hs rfl rfl rfl rfl (qw_ 9) rfl ?_
            refine F7 hs rfl rfl rfl rfl qm_ rfl ?_
            refine F7 hs rfl rfl rfl rfl qm_ rfl ?_
            refine F7 hs rfl rfl rfl rfl (L7 (a := i) (b := 2) rfl rfl rfl rfl qD) rfl ?_
            rw [hj]
            refine F7 hs rfl rfl rfl rfl (E4 rfl) rfl ?_
            refine F7 hs rfl rfl rfl rfl (qf_ 1 1) rfl ?_
            refine F7 hs rfl rfl rfl rfl (D0 (e := 41) (n := 2) (sz := 9) (i := 0) 1 rfl rfl kR kR rfl qD rfl) rfl ?_
            refine W7 hs rfl rfl rfl rfl (T3 (n := 9) (vs := [ao, at_, ar, ak, (vU r0.sn), al, (vU r0.tn), (vU r0.prev), aq]) rfl kR At.mem rfl (N9 [(vP pb)] [ao, at_, ar, ak, (vU r0.sn), al, (vU r0.tn), (vU r0.prev), aq] [bo, bt, bw, bk, (vU r1.sn), bl, (vU r1.tn), (vU r1.prev), bq])) rfl ?_
            refine A2Y rfl rfl rfl rfl (aS rfl (aS rfl a0)) kR (B5P r0 r0 wo wt wr wk wl wq ao at_ ar ak al aq _ (hn.mono qS) (h0.mono qS)) rfl ?_
            rintro v100 M100 J100 ⟨rfl, c, rfl, hc1⟩
            obtain rfl : c = true := hc1.2 rfl
            refine F7 hs rfl rfl rfl rfl (Y0 rfl) rfl ?_
            refine C2 hs rfl (E3 rfl rfl) rfl ?_
            refine E9 (H5 1 2 7 8 13 102) ?_
            refine C9 rfl ?_
            refine A7 (nx (E6 1 2 7 8 13) ?_)
            refine G3 (.range 7) (zp 0 [0, 0, 0, 1, 0, 0, 0, 2]) kR kR fun hs => ?_
            refine fm_ hs ?_
            refine fm_ hs ?_
            refine C2 hs rfl (L7 (a := i) (b := 2) rfl rfl rfl rfl qD) rfl ?_
            rw [hj]
            refine H2 hs rfl (qw_ 9) rfl ?_
            refine C2 hs rfl (E4 rfl) rfl ?_
            refine C2 hs rfl (qf_ 1 1) rfl ?_
            refine C2 hs rfl (D0 (e := 41) (n := 2) (sz := 9) (i := 0) 1 rfl rfl kR kR rfl qD rfl) rfl ?_
            refine G2 rfl rfl rfl (L3 (vs := [wo, wt, wr, wk, (vU r0.sn), wl, (vU r0.tn), (vU r0.prev), wq]) (cs' := [(vP pb), wo, wt, wr, wk, (vU r0.sn), wl, (vU r0.tn), (vU r0.prev), wq, bo, bt, bw, bk, (vU r1.sn), bl, (vU r1.tn), (vU r1.prev), bq]) rfl rfl rfl kR (by exact (show 1 + 9 ≤ 19 by decide)) (A6 hn.own.one (A6 hn.their.one (A6 hn.root.one (A6 hn.sk.one (A6 rfl (A6 hn.tk.one (A6 rfl (A6 rfl (A6 hn.st.one I6))))))))) rfl UpC.upd ?_)
            refine P9 (nb (nx (D7 1 2 7 8) (A9 (mv_ ?_))))
            refine A2 (D1 ((i + 1 : Nat) : Int) rfl rfl (E5 qO qO qO)) rfl ?_
            refine as_ (C1 ?_)
            exact rn (i + 1, s, r0, r1, (tb, blk [(vP pb), wo, wt, wr, wk, (vU r0.sn), wl, (vU r0.tn), (vU r0.prev), wq, bo, bt, bw, bk, (vU r1.sn), bl, (vU r1.tn), (vU r1.prev), bq] 45) :: MP, _) ⟨hlt, hB2, ⟨wo, wt, wr, wk, wl, wq, bo, bt, bw, bk, bl, bq, MP, rfl, hn.mono qS, h1.mono qS, hP⟩⟩ (by dsimp only; omega) (D7 1 2 7 8) (Fit.pick (B := [_]) qP (Fit.last qP)) qI
          ·
            refine A1 (mv_ (mv_ (mv_ ?_)))
            refine A2 (L7 (a := i) (b := 2) rfl rfl rfl rfl qD) rfl ?_
            rw [hj]
            refine A2 (E4 rfl) rfl ?_
            refine A2 (qf_ 1 1) rfl ?_
            refine A2 (D0 (e := 41) (n := 2) (sz := 9) (i := 1) 10 rfl rfl kR kR rfl qD rfl) rfl ?_
            refine A2 (T3 (n := 9) (vs := [bo, bt, bw, bk, (vU r1.sn), bl, (vU r1.tn), (vU r1.prev), bq]) rfl kR At.mem rfl (N9 [(vP pb), ao, at_, ar, ak, (vU r0.sn), al, (vU r0.tn), (vU r0.prev), aq] [bo, bt, bw, bk, (vU r1.sn), bl, (vU r1.tn), (vU r1.prev), bq] [])) rfl ?_
            refine A4 rfl (C6 (Mc := [(b66, blk [vS] 64)]) (R := _) (aS rfl (aS rfl (a0))) kR qP (B2z b66 r1 bo bt bw bk bl bq [] _ _ Wtr.new (h1.mono qS) qD) rfl ?_)
            rintro v75 M75 J75 ⟨rfl, hW75⟩
            have hLO : LayOk r1 := B5T hB2.wb hB2.sb h1.sn h1.tn h1.prev
            have hLl := B2C hLO
            obtain ⟨hrd1, hrd2, hrd3⟩ := B5R hLO
            refine A0 (E6 1 2 7 8 11) (A1 (mv_ ?_))
            refine A4 rfl (C6 (Mc := M75) (R := _) (aS rfl (a0)) kR qP (A0D b66 _ M75 _ hW75 qO) rfl ?_)
            rintro v77 M77 J77 ⟨hW77, h77⟩
            haveI := h77.cel
            refine C7 (aS rfl a0) kR (A2x v77 (A4k [] r1) J77 _ h77) rfl ?_
            rintro v78 M78 J78 ⟨rb, rfl, hR78⟩
            refine as_ (A0 (E6 1 2 7 8 12) (A1 (mv_ ?_)))
            refine A4 rfl (C6 (Mc := M78) (R := _) (aS rfl (a0)) kR qP (B4B rb (A4k [] r1, false) J77 M78 _ hR78 qS) rfl ?_)
            rintro v81 M81 J81 ⟨q1, rfl, hR81, hq, -⟩
            rw [hrd2]
            obtain ⟨wo, wt, wr, wk, wl, wq, rfl, hn⟩ := hq hrd2
            rw [hrd1] at hn ⊢
            haveI := hn.own.cel
            haveI := hn.their.cel
            haveI := hn.root.cel
            haveI := hn.sk.cel
            haveI := hn.tk.cel
            haveI := hn.st.cel
            unfold rsC
            refine mv_ ?_
            refine A2 (A0G rfl) rfl ?_
            refine A2 (A0x rfl) rfl ?_
            refine A4 rfl (C3 (cs := [vS, vS, vS, vS, F5, vS, F5, F5, .pointer none]) kR rfl fun b13 => ?_)
            refine A4 rfl (A8 (vs := [wo, wt, wr, wk, (vU r1.sn), wl, (vU r1.tn), (vU r1.prev), wq]) rfl rfl rfl kR qR (A6 hn.own.one (A6 hn.their.one (A6 hn.root.one (A6 hn.sk.one (A6 rfl (A6 hn.tk.one (A6 rfl (A6 rfl (A6 hn.st.one I6))))))))) UpC.upd ?_)
            refine as_ (A0 (S9 1 2 7 8 12 13 14) (A3 ?_))
            refine D2 (.range 19) (zp 0 [0, 0, 0, 0, 2, 0, 0, 0, 1, 0, 0, 0, 0, 0, 0, 1, 2, 0, 0]) kR kR fun hs => ?_
            refine fm_ hs ?_
            refine C2 hs rfl (Y0 rfl) rfl ?_
            refine fm_ hs ?_
            refine F7 hs rfl rfl rfl rfl qm_ rfl ?_
            refine U8 rfl rfl rfl rfl (aS rfl a0) kR (A6N rb _ J77 _ (hR81.rd qS)) rfl ?_
            rw [show B9g (rdE (A4k [] r1, false)) = true by rw [hrd3]; rfl]
            refine F7 hs rfl rfl rfl rfl (Y0 rfl) rfl ?_
            refine C2 hs rfl (E3 rfl rfl) rfl ?_
            refine fm_ hs ?_
            refine W7 hs rfl rfl rfl rfl (qw_ 9) rfl ?_
            refine F7 hs rfl rfl rfl rfl qm_ rfl ?_
            refine F7 hs rfl rfl rfl rfl qm_ rfl ?_
            refine F7 hs rfl rfl rfl rfl (L7 (a := i) (b := 2) rfl rfl rfl rfl qD) rfl ?_
            rw [hj]
            refine F7 hs rfl rfl rfl rfl (E4 rfl) rfl ?_
            refine F7 hs rfl rfl rfl rfl (qf_ 1 1) rfl ?_
            refine F7 hs rfl rfl rfl rfl (D0 (e := 41) (n := 2) (sz := 9) (i := 1) 10 rfl rfl kR kR rfl qD rfl) rfl ?_
            refine W7 hs rfl rfl rfl rfl (T3 (n := 9) (vs := [bo, bt, bw, bk, (vU r1.sn), bl, (vU r1.tn), (vU r1.prev), bq]) rfl kR At.mem rfl (N9 [(vP pb), ao, at_, ar, ak, (vU r0.sn), al, (vU r0.tn), (vU r0.prev), aq] [bo, bt, bw, bk, (vU r1.sn), bl, (vU r1.tn), (vU r1.prev), bq] [])) rfl ?_
            refine A2Y rfl rfl rfl rfl (aS rfl (aS rfl a0)) kR (B5P r1 r1 wo wt wr wk wl wq bo bt bw bk bl bq _ (hn.mono qS) (h1.mono qS)) rfl ?_
            rintro v100 M100 J100 ⟨rfl, c, rfl, hc1⟩
            obtain rfl : c = true := hc1.2 rfl
            refine F7 hs rfl rfl rfl rfl (Y0 rfl) rfl ?_
            refine C2 hs rfl (E3 rfl rfl) rfl ?_
            refine E9 (H5 1 2 7 8 13 102) ?_
            refine C9 rfl ?_
            refine A7 (nx (E6 1 2 7 8 13) ?_)
            refine G3 (.range 7) (zp 0 [0, 0, 0, 1, 0, 0, 0, 2]) kR kR fun hs => ?_
            refine fm_ hs ?_
            refine fm_ hs ?_
            refine C2 hs rfl (L7 (a := i) (b := 2) rfl rfl rfl rfl qD) rfl ?_
            rw [hj]
            refine H2 hs rfl (qw_ 9) rfl ?_
            refine C2 hs rfl (E4 rfl) rfl ?_
            refine C2 hs rfl (qf_ 1 1) rfl ?_
            refine C2 hs rfl (D0 (e := 41) (n := 2) (sz := 9) (i := 1) 10 rfl rfl kR kR rfl qD rfl) rfl ?_
            refine G2 rfl rfl rfl (L3 (vs := [wo, wt, wr, wk, (vU r1.sn), wl, (vU r1.tn), (vU r1.prev), wq]) (cs' := [(vP pb), ao, at_, ar, ak, (vU r0.sn), al, (vU r0.tn), (vU r0.prev), aq, wo, wt, wr, wk, (vU r1.sn), wl, (vU r1.tn), (vU r1.prev), wq]) rfl rfl rfl kR (by exact (show 10 + 9 ≤ 19 by decide)) (A6 hn.own.one (A6 hn.their.one (A6 hn.root.one (A6 hn.sk.one (A6 rfl (A6 hn.tk.one (A6 rfl (A6 rfl (A6 hn.st.one I6))))))))) rfl UpC.upd ?_)
            refine P9 (nb (nx (D7 1 2 7 8) (A9 (mv_ ?_))))
            refine A2 (D1 ((i + 1 : Nat) : Int) rfl rfl (E5 qO qO qO)) rfl ?_
            refine as_ (C1 ?_)
            exact rn (i + 1, s, r0, r1, (tb, blk [(vP pb), ao, at_, ar, ak, (vU r0.sn), al, (vU r0.tn), (vU r0.prev), aq, wo, wt, wr, wk, (vU r1.sn), wl, (vU r1.tn), (vU r1.prev), wq] 45) :: MP, _) ⟨hlt, hB2, ⟨ao, at_, ar, ak, al, aq, wo, wt, wr, wk, wl, wq, MP, rfl, h0.mono qS, hn.mono qS, hP⟩⟩ (by dsimp only; omega) (D7 1 2 7 8) (Fit.pick (B := [_]) qP (Fit.last qP)) qI
        ·
          intro hLT
          rcases h4 with ⟨hs, hk⟩ | ⟨hs, hk⟩ | ⟨hs, hk⟩ | ⟨hs, hk⟩
          ·
            refine A1 (mv_ (mv_ (mv_ ?_)))
            refine A2 (G8 (sz := 2) (a := i) rfl rfl kR rfl hv1 hlt) rfl ?_
            refine A2 (A1x (off := 1) rfl hv1 hlt kR) rfl ?_
            refine A2 (A1y (u := .int .u8 ((zs.getD (i * 2 + 1) 0 : Nat) : Int)) rfl (hv1.mono qS) qO kR (P7 qO)) rfl ?_
            refine A2 (L7 (a := zs.getD (i * 2 + 1) 0) (b := 2) rfl rfl rfl rfl qD) rfl ?_
            rw [hs]
            refine A2 (Z5 (k' := .i64) rfl kR (by show _ < 9223372036854775808; decide)) rfl ?_
            refine A4 rfl (C6 (Mc := Mi) (R := _) (aS rfl (aS rfl (aS rfl (a0)))) kR qP (FnX.amb qS (B4D tb pb s r0 r1 [120] Mi (Ji ++ A) hpi hk ⟨by decide⟩ qD)) rfl ?_)
            rintro v49 M49 J49 ⟨hp49, rfl⟩
            refine mv_ ?_
            refine A2 (A0G rfl) rfl ?_
            refine A2 (A0x rfl) rfl ?_
            refine A4 rfl (C3 (cs := [A4p, vS, F5, F5, vS, .string ByteArray.empty]) kR rfl fun b9 => ?_)
            refine A4 rfl (A8 (vs := [.int .i64 0, vS, .int .u32 0, .int .u32 0, vS, .string ByteArray.empty]) rfl rfl rfl kR qR al6 UpC.upd ?_)
            refine as_ (A0 (H5 1 2 7 8 9 10) (A3 (A1 (mv_ (mv_ ?_)))))
            refine E7 rfl rfl rfl rfl ?_
            refine E7 rfl rfl rfl rfl ?_
            refine E7 rfl rfl rfl rfl ?_
            refine E7 rfl rfl rfl rfl ?_
            refine E7 rfl rfl rfl rfl ?_
            refine E7 rfl rfl rfl rfl ?_
            refine E7 rfl rfl rfl rfl ?_
            refine A2 (E3 rfl rfl) rfl ?_
            refine A0 (H5 1 2 7 8 9 61) ?_
            refine C9 rfl ?_
            refine A7 (nx (D7 1 2 7 8) ?_)
            exact XC.to (hLT (s, r0, r1, M49, J49 ++ Ji) ⟨hB.up, hp49.mono (fun x hx => by simpa using hx)⟩) (D7 1 2 7 8) (Fit.last qP) qI
          ·
            refine A1 (mv_ (mv_ (mv_ ?_)))
            refine A2 (G8 (sz := 2) (a := i) rfl rfl kR rfl hv1 hlt) rfl ?_
            refine A2 (A1x (off := 1) rfl hv1 hlt kR) rfl ?_
            refine A2 (A1y (u := .int .u8 ((zs.getD (i * 2 + 1) 0 : Nat) : Int)) rfl (hv1.mono qS) qO kR (P7 qO)) rfl ?_
            refine A2 (L7 (a := zs.getD (i * 2 + 1) 0) (b := 2) rfl rfl rfl rfl qD) rfl ?_
            rw [hs]
            refine A2 (Z5 (k' := .i64) rfl kR (by show _ < 9223372036854775808; decide)) rfl ?_
            refine A4 rfl (C6 (Mc := Mi) (R := _) (aS rfl (aS rfl (aS rfl (a0)))) kR qP (FnX.amb qS (B2m tb pb s r0 r1 [120] Mi (Ji ++ A) hpi qO (List.length_pos_iff.2 hk) ⟨by decide⟩ qD (hG.sub qS))) rfl ?_)
            rintro v49 M49 J49 ⟨hp49, vk, vg, rfl, hvk, hvg⟩
            haveI := hvk.cel
            haveI := hvg.cel
            have hS := B2B (t := [120]) hB qO hk hb0.1 hb0.2.1 hb1.2.2 qD qD
            have hgl := hS.snt.gl
            have hkl := A36 s r0.own
            have hl1 := hS.l1
            have hn1 := hS.n1
            refine mv_ ?_
            refine A2 (A0G rfl) rfl ?_
            refine A2 (A0x rfl) rfl ?_
            refine A4 rfl (C3 (cs := [A4p, vS, F5, F5, vS, .string ByteArray.empty]) kR rfl fun b9 => ?_)
            refine A4 rfl (A8 (vs := [.int .i64 1, vk, (vU r0.prev), (vU r0.sn), vg, .string (txt [120])]) rfl rfl rfl kR qR (A6 rfl (A6 hvk.one (A6 rfl (A6 rfl (A6 hvg.one (A6 rfl I6)))))) UpC.upd ?_)
            refine as_ (A0 (H5 1 2 7 8 9 10) (A3 (A1 (mv_ (mv_ ?_)))))
            refine D6 rfl rfl (OpQ.opL qm_ rfl ?_)
            refine D6 rfl rfl (OpQ.opL qm_ rfl ?_)
            refine D6 rfl rfl (OpQ.opL (G8 (sz := 2) (a := i) rfl rfl kR rfl hv1 hlt) rfl ?_)
            refine D6 rfl rfl (OpQ.opL (A1x (off := 0) rfl hv1 hlt kR) rfl ?_)
            refine D6 rfl rfl (OpQ.opL (A1y (u := .int .u8 ((zs.getD (i * 2 + 0) 0 : Nat) : Int)) rfl (hv1.mono qS) qO kR (P7 qO)) rfl ?_)
            refine D6 rfl rfl (OpQ.opL (L7 (a := zs.getD (i * 2 + 0) 0) (b := 3) rfl rfl rfl rfl qD) rfl ?_)
            refine D6 rfl rfl (OpQ.opL (D9 rfl rfl rfl) rfl ?_)
            refine A2 (E2 rfl rfl) rfl ?_
            refine A0 (H5 1 2 7 8 9 61) ?_
            refine C0 rfl ?_ ?_ <;> intro hc
            ·
              refine A9 (mv_ ?_)
              refine A2 (qw_ 6) rfl ?_
              refine A4 rfl (C6 (Mc := M49) (R := _) (aS rfl (aS rfl (a0))) kR qP (FnX.amb qS (B2p tb pb (U5 s r0 F1 [120]) (V7 s r0) r1 vk vg (I2 s r0.own) (A0V s r0 F1 [120]) [120] r0.prev r0.sn (N5 (U5 s r0 F1 [120]) r1 F1 (I2 s r0.own) r0.prev r0.sn (A0V s r0 F1 [120])) M49 (J49 ++ (Ji ++ A)) hp49 qO qO hvk qO hS.snt.hp hS.snt.hn hvg qO hS.o rfl (hG.sub qS))) rfl ?_)
              rintro v64 M64 J64 ⟨hp64, rfl⟩
              refine A0 (D7 1 2 7 8) ?_
              exact XC.to (hLT (_, _, _, M64, J64 ++ (J49 ++ Ji)) ⟨(hS.yes _ rfl), hp64.mono (fun x hx => by simpa using hx)⟩) (D7 1 2 7 8) (Fit.last qP) (fun _ h => by simpa using h)
            ·
              refine A7 (nx (D7 1 2 7 8) ?_)
              exact XC.to (hLT (_, _, _, M49, J49 ++ Ji) ⟨hS.no, hp49.mono (fun x hx => by simpa using hx)⟩) (D7 1 2 7 8) (Fit.last qP) (fun _ h => by simpa using h)
          ·
            refine A1 (mv_ (mv_ (mv_ ?_)))
            refine A2 (G8 (sz := 2) (a := i) rfl rfl kR rfl hv1 hlt) rfl ?_
            refine A2 (A1x (off := 1) rfl hv1 hlt kR) rfl ?_
            refine A2 (A1y (u := .int .u8 ((zs.getD (i * 2 + 1) 0 : Nat) : Int)) rfl (hv1.mono qS) qO kR (P7 qO)) rfl ?_
            refine A2 (L7 (a := zs.getD (i * 2 + 1) 0) (b := 2) rfl rfl rfl rfl qD) rfl ?_
            rw [hs]
            refine A2 (Z5 (k' := .i64) rfl kR (by show _ < 9223372036854775808; decide)) rfl ?_
            refine A4 rfl (C6 (Mc := Mi) (R := _) (aS rfl (aS rfl (aS rfl (a0)))) kR qP (FnX.amb qS (B4E tb pb s r0 r1 [120] Mi (Ji ++ A) hpi hk ⟨by decide⟩ qD)) rfl ?_)
            rintro v49 M49 J49 ⟨hp49, rfl⟩
            refine mv_ ?_
            refine A2 (A0G rfl) rfl ?_
            refine A2 (A0x rfl) rfl ?_
            refine A4 rfl (C3 (cs := [A4p, vS, F5, F5, vS, .string ByteArray.empty]) kR rfl fun b9 => ?_)
            refine A4 rfl (A8 (vs := [.int .i64 0, vS, .int .u32 0, .int .u32 0, vS, .string ByteArray.empty]) rfl rfl rfl kR qR al6 UpC.upd ?_)
            refine as_ (A0 (H5 1 2 7 8 9 10) (A3 (A1 (mv_ (mv_ ?_)))))
            refine E7 rfl rfl rfl rfl ?_
            refine E7 rfl rfl rfl rfl ?_
            refine E7 rfl rfl rfl rfl ?_
            refine E7 rfl rfl rfl rfl ?_
            refine E7 rfl rfl rfl rfl ?_
            refine E7 rfl rfl rfl rfl ?_
            refine E7 rfl rfl rfl rfl ?_
            refine A2 (E3 rfl rfl) rfl ?_
            refine A0 (H5 1 2 7 8 9 61) ?_
            refine C9 rfl ?_
            refine A7 (nx (D7 1 2 7 8) ?_)
            exact XC.to (hLT (s, r0, r1, M49, J49 ++ Ji) ⟨hB.up, hp49.mono (fun x hx => by simpa using hx)⟩) (D7 1 2 7 8) (Fit.last qP) qI
          ·
            refine A1 (mv_ (mv_ (mv_ ?_)))
            refine A2 (G8 (sz := 2) (a := i) rfl rfl kR rfl hv1 hlt) rfl ?_
            refine A2 (A1x (off := 1) rfl hv1 hlt kR) rfl ?_
            refine A2 (A1y (u := .int .u8 ((zs.getD (i * 2 + 1) 0 : Nat) : Int)) rfl (hv1.mono qS) qO kR (P7 qO)) rfl ?_
            refine A2 (L7 (a := zs.getD (i * 2 + 1) 0) (b := 2) rfl rfl rfl rfl qD) rfl ?_
            rw [hs]
            refine A2 (Z5 (k' := .i64) rfl kR (by show _ < 9223372036854775808; decide)) rfl ?_
            refine A4 rfl (C6 (Mc := Mi) (R := _) (aS rfl (aS rfl (aS rfl (a0)))) kR qP (FnX.amb qS (B2n tb pb s r0 r1 [120] Mi (Ji ++ A) hpi qO (List.length_pos_iff.2 hk) ⟨by decide⟩ qD (hG.sub qS))) rfl ?_)
            rintro v49 M49 J49 ⟨hp49, vk, vg, rfl, hvk, hvg⟩
            haveI := hvk.cel
            haveI := hvg.cel
            have hS := B2B (t := [120]) hB.swap qO hk hb1.1 hb1.2.1 hb0.2.2 qD qD
            have hgl := hS.snt.gl
            have hkl := A36 s r1.own
            have hl1 := hS.l1
            have hn1 := hS.n1
            refine mv_ ?_
            refine A2 (A0G rfl) rfl ?_
            refine A2 (A0x rfl) rfl ?_
            refine A4 rfl (C3 (cs := [A4p, vS, F5, F5, vS, .string ByteArray.empty]) kR rfl fun b9 => ?_)
            refine A4 rfl (A8 (vs := [.int .i64 0, vk, (vU r1.prev), (vU r1.sn), vg, .string (txt [120])]) rfl rfl rfl kR qR (A6 rfl (A6 hvk.one (A6 rfl (A6 rfl (A6 hvg.one (A6 rfl I6)))))) UpC.upd ?_)
            refine as_ (A0 (H5 1 2 7 8 9 10) (A3 (A1 (mv_ (mv_ ?_)))))
            refine D6 rfl rfl (OpQ.opL qm_ rfl ?_)
            refine D6 rfl rfl (OpQ.opL qm_ rfl ?_)
            refine D6 rfl rfl (OpQ.opL (G8 (sz := 2) (a := i) rfl rfl kR rfl hv1 hlt) rfl ?_)
            refine D6 rfl rfl (OpQ.opL (A1x (off := 0) rfl hv1 hlt kR) rfl ?_)
            refine D6 rfl rfl (OpQ.opL (A1y (u := .int .u8 ((zs.getD (i * 2 + 0) 0 : Nat) : Int)) rfl (hv1.mono qS) qO kR (P7 qO)) rfl ?_)
            refine D6 rfl rfl (OpQ.opL (L7 (a := zs.getD (i * 2 + 0) 0) (b := 3) rfl rfl rfl rfl qD) rfl ?_)
            refine D6 rfl rfl (OpQ.opL (D9 rfl rfl rfl) rfl ?_)
            refine A2 (E2 rfl rfl) rfl ?_
            refine A0 (H5 1 2 7 8 9 61) ?_
            refine C0 rfl ?_ ?_ <;> intro hc
            ·
              refine A9 (mv_ ?_)
              refine A2 (qw_ 6) rfl ?_
              refine A4 rfl (C6 (Mc := M49) (R := _) (aS rfl (aS rfl (a0))) kR qP (FnX.amb qS (B2o tb pb (U5 s r1 F1 [120]) r0 (V7 s r1) vk vg (I2 s r1.own) (A0V s r1 F1 [120]) [120] r1.prev r1.sn (N5 (U5 s r1 F1 [120]) r0 F1 (I2 s r1.own) r1.prev r1.sn (A0V s r1 F1 [120])) M49 (J49 ++ (Ji ++ A)) hp49 qO qO hvk qO hS.snt.hp hS.snt.hn hvg qO hS.o rfl (hG.sub qS))) rfl ?_)
              rintro v64 M64 J64 ⟨hp64, rfl⟩
              refine A0 (D7 1 2 7 8) ?_
              exact XC.to (hLT (_, _, _, M64, J64 ++ (J49 ++ Ji)) ⟨(hS.yes _ rfl).swap, hp64.mono (fun x hx => by simpa using hx)⟩) (D7 1 2 7 8) (Fit.last qP) (fun _ h => by simpa using h)
            ·
              refine A7 (nx (D7 1 2 7 8) ?_)
              exact XC.to (hLT (_, _, _, M49, J49 ++ Ji) ⟨hS.no.swap, hp49.mono (fun x hx => by simpa using hx)⟩) (D7 1 2 7 8) (Fit.last qP) (fun _ h => by simpa using h)
      ·
        obtain rfl : i = n := by simp [I0] at hc; omega
        refine D4 (te (re (be rfl (nx (D5 2) (A1 (mv_ ?_))))))
        refine C7 (aS rfl a0) kR (A2x v2 w2 A _ hv2) rfl ?_
        rintro v111 M111 J111 ⟨rb, rfl, hR111⟩
        have hsb : SB (w2, false) := hv2.lt
        refine as_ (A0 (D3 2 15) ?_)
        rcases Bool.eq_false_or_eq_true (A9z (w2, false)) with hok | hok
        ·
          refine A1 (mv_ ?_)
          refine A4 rfl (C6 (Mc := M111) (R := _) (aS rfl (a0)) kR qP (B4B rb (w2, false) A M111 _ hR111 qS) rfl ?_)
          rintro v114 M114 J114 ⟨q1, rfl, hR114, hq, -⟩
          rw [hok]
          obtain ⟨wo, wt, wr, wk, wl, wq, rfl, hn⟩ := hq hok
          haveI := hn.own.cel
          haveI := hn.their.cel
          haveI := hn.root.cel
          haveI := hn.sk.cel
          haveI := hn.tk.cel
          haveI := hn.st.cel
          unfold rsC
          obtain ⟨-, hw2, hbd⟩ := B9I hsb hok
          replace hw2 : w2 = A4k [] (rdR (w2, false)) ++ (rdE (w2, false)).1 := hw2
          have hwl := congrArg List.length hw2
          rw [List.length_append] at hwl
          refine mv_ ?_
          refine A2 (A0G rfl) rfl ?_
          refine A2 (A0x rfl) rfl ?_
          refine A4 rfl (C3 (cs := [vS, vS, vS, vS, F5, vS, F5, F5, .pointer none]) kR rfl fun b16 => ?_)
          refine A4 rfl (A8 (vs := [wo, wt, wr, wk, .int .u32 (((rdR (w2, false)).sn : Nat) : Int), wl, .int .u32 (((rdR (w2, false)).tn : Nat) : Int), .int .u32 (((rdR (w2, false)).prev : Nat) : Int), wq]) rfl rfl rfl kR qR (A6 hn.own.one (A6 hn.their.one (A6 hn.root.one (A6 hn.sk.one (A6 rfl (A6 hn.tk.one (A6 rfl (A6 rfl (A6 hn.st.one I6))))))))) UpC.upd ?_)
          refine as_ (A0 (D7 2 15 16 17) (A3 (A1 (mv_ ?_))))
          refine A2 (Y0 rfl) rfl ?_
          refine A0 (D7 2 15 16 118) ?_
          refine C9 rfl ?_
          refine A7 (nx (D8 2 15 16) (A1 ?_))
          refine A2 (F6 (place := fun x => #[(0, 1)][x]?) (z := [vS]) (fun _ => by kernel_rfl) e0 bd0) rfl ?_
          refine A4 rfl (bx_ fun b120 => ?_)
          refine as_ (A0 (D7 2 15 16 18) (A1 (mv_ ?_)))
          refine A2 (qw_ 9) rfl ?_
          refine A4 rfl (C6 (Mc := [(b120, blk [vS] 64)]) (R := _) (aS rfl (aS rfl (a0))) kR qP (B2z b120 (rdR (w2, false)) wo wt wr wk wl wq [] _ _ Wtr.new (hn.mono qS) qD) rfl ?_)
          rintro v123 M123 J123 ⟨rfl, hW123⟩
          refine A0 (D8 2 15 18) ?_
          have hhi := hv2.hi (w2.length - (rdE (w2, false)).1.length) qO
          haveI := hhi.cel
          refine K8 (M123) (_) true (.range 13) [(0, 0), (3, 0), (4, 0), (5, 0), (6, 0), (1, 3), (2, 3), (7, 3), (8, 3), (9, 3), (10, 4), (11, 0), (12, 0)] kR kR qP fun hs K n0 hKm hKs hKn => ?_
          refine km_ hs ?_
          refine km_ hs ?_
          refine km_ hs ?_
          refine K1 hs rfl (F8 (sz := 1) rfl kR hv2.rd) rfl ?_
          refine km_ hs ?_
          refine A6G [⟨1, 125, none, M123, fun v B R => By R v (A4k [] (rdR (w2, false)))⟩, ⟨2, 126, none, [], fun v B _ => B = [] ∧ v = (.string (txt (A4k [] (rdR (w2, false)))))⟩, ⟨7, 131, none, [], fun v B R => B = [] ∧ v = .int .i64 (((rdE (w2, false)).1.length : Nat) : Int)⟩, ⟨8, 132, none, [], fun v B _ => B = [] ∧ v = (.int .i64 ((w2.length - (rdE (w2, false)).1.length : Nat) : Int))⟩, ⟨9, 133, none, [], fun v B _ => B = [] ∧ v = (vHi (w2.length - (rdE (w2, false)).1.length) v2)⟩, ⟨10, 134, none, [], fun v B _ => B = [] ∧ v = (.string (txt (w2.take (w2.length - (rdE (w2, false)).1.length))))⟩] (_) (fun bs => [bs 1, bs 2, bs 7, bs 8, bs 9, bs 10]) (hKn rfl) (List.Perm.refl _) (show ∀ m ∈ ([M123, [], [], [], [], []] : List Mem), ∀ x ∈ m, K x.1 from A6 (hKm) (A6 (fun _ h => by cases h) (A6 (fun _ h => by cases h) (A6 (fun _ h => by cases h) (A6 (fun _ h => by cases h) (A6 (fun _ h => by cases h) (I6))))))) kR (fun _ => by first | rfl | kernel_rfl)
            (A6 (fun _ _ _ _ h hp => hp.mono h) (A6 (fun _ _ _ _ _ h => h) (A6 (fun _ _ _ _ _ h => h) (A6 (fun _ _ _ _ _ h => h) (A6 (fun _ _ _ _ _ h => h) (A6 (fun _ _ _ _ _ h => h) (I6))))))) (show List.Nodup [125, 126, 131, 132, 133, 134] by decide) (show List.Nodup [1, 2, 7, 8, 9, 10] by decide) (A6 (C5 rfl) (A6 (C5 rfl) (A6 (C5 rfl) (A6 (C5 rfl) (A6 (C5 rfl) (A6 (C5 rfl) (I6)))))))
            (A6 ⟨_, rfl, fun vs bs R Rj wG hb hj hjr ha => ⟨.inl rfl, ?_⟩⟩ (A6 ⟨_, rfl, fun vs bs R Rj wG hb hj hjr ha => ⟨.inl rfl, ?_⟩⟩ (A6 ⟨_, rfl, fun vs bs R Rj wG hb hj hjr ha => ⟨.inl rfl, ?_⟩⟩ (A6 ⟨_, rfl, fun vs bs R Rj wG hb hj hjr ha => ⟨.inl rfl, ?_⟩⟩ (A6 ⟨_, rfl, fun vs bs R Rj wG hb hj hjr ha => ⟨.inl rfl, ?_⟩⟩ (A6 ⟨_, rfl, fun vs bs R Rj wG hb hj hjr ha => ⟨.inl rfl, ?_⟩⟩ (I6))))))) ?_
          ·
            dsimp only [Gc.inp]
            refine C6 (Mc := M123) (R := []) (aS rfl (a0)) kR qM (A0D b120 _ M123 _ hW123 qO) rfl ?_
            rintro v125 M125 J125 ⟨-, h125⟩
            exact ⟨_, rfl, h125.mono fun x hx => by simp [hx]⟩
          ·
            dsimp only [Gc.inp]
            have g1 := ha _ (List.mem_of_getElem? (i := 0) rfl) kR
            replace g1 : (fun v B R => By R v (A4k [] (rdR (w2, false)))) (vs 1) (bs 1) Rj := g1
            dsimp only at g1
            have h1 := g1
            exact OpQ.opL (R8 rfl kR (h1.rd.mono (fun x hx => by have := hjr x hx; simp [this]))) rfl ⟨_, rfl, rfl, rfl⟩
          ·
            dsimp only [Gc.inp]
            exact U7 (aS rfl a0) kR (A9p rb _ A _ (hR114.rd (fun x hx => by have := hb x (by simp [hx]); simp [this])) hbd) rfl ⟨_, rfl, rfl, rfl⟩
          ·
            dsimp only [Gc.inp]
            have g7 := ha _ (List.mem_of_getElem? (i := 2) rfl) kR
            replace g7 : (fun v B R => B = [] ∧ v = .int .i64 (((rdE (w2, false)).1.length : Nat) : Int)) (vs 7) (bs 7) Rj := g7
            dsimp only at g7
            obtain ⟨-, e7⟩ := g7
            dsimp only [P5, List.map, List.cons_append, List.nil_append]
            rw [e7]
            exact OpQ.opL (D1 ((w2.length - (rdE (w2, false)).1.length : Nat) : Int) rfl rfl (A0q qO qO qO)) rfl ⟨_, rfl, rfl, rfl⟩
          ·
            dsimp only [Gc.inp]
            have g8 := ha _ (List.mem_of_getElem? (i := 3) rfl) kR
            replace g8 : (fun v B _ => B = [] ∧ v = (.int .i64 ((w2.length - (rdE (w2, false)).1.length : Nat) : Int))) (vs 8) (bs 8) Rj := g8
            dsimp only at g8
            obtain ⟨-, e8⟩ := g8
            dsimp only [P5, List.map, List.cons_append, List.nil_append]
            rw [e8]
            exact OpQ.opL (A4J (sz := 1) (a := w2.length - (rdE (w2, false)).1.length) rfl rfl kR rfl hv2.rd qO) rfl ⟨_, rfl, rfl, rfl⟩
          ·
            dsimp only [Gc.inp]
            have g9 := ha _ (List.mem_of_getElem? (i := 4) rfl) kR
            replace g9 : (fun v B _ => B = [] ∧ v = (vHi (w2.length - (rdE (w2, false)).1.length) v2)) (vs 9) (bs 9) Rj := g9
            dsimp only at g9
            obtain ⟨-, e9⟩ := g9
            dsimp only [P5, List.map, List.cons_append, List.nil_append]
            rw [e9]
            exact OpQ.opL (R8 rfl kR (hhi.rd.mono (fun x hx => by have := hb x (by simp [hx]); simp [this]))) rfl ⟨_, rfl, rfl, rfl⟩
          intro vs bs Jn0 hφ hKK
          have kk1 := hKK _ (List.mem_of_getElem? (i := 0) rfl)
          dsimp only at kk1
          have kk2 := hKK _ (List.mem_of_getElem? (i := 1) rfl)
          dsimp only at kk2
          have kk7 := hKK _ (List.mem_of_getElem? (i := 2) rfl)
          dsimp only at kk7
          have kk8 := hKK _ (List.mem_of_getElem? (i := 3) rfl)
          dsimp only at kk8
          have kk9 := hKK _ (List.mem_of_getElem? (i := 4) rfl)
          dsimp only at kk9
          have kk10 := hKK _ (List.mem_of_getElem? (i := 5) rfl)
          dsimp only at kk10
          clear hKK
          have g1 := ofH hφ
          dsimp only at g1
          replace hφ := ofT hφ
          have g2 := ofH hφ
          dsimp only at g2
          replace hφ := ofT hφ
          have g7 := ofH hφ
          dsimp only at g7
          replace hφ := ofT hφ
          have g8 := ofH hφ
          dsimp only at g8
          replace hφ := ofT hφ
          have g9 := ofH hφ
          dsimp only at g9
          replace hφ := ofT hφ
          have g10 := ofH hφ
          dsimp only at g10
          clear hφ
          dsimp only [P5, A0r, List.foldr, List.map, List.cons_append, List.nil_append]
          generalize bs 1 = B125 at *
          generalize bs 2 = B126 at *
          generalize bs 7 = B131 at *
          generalize bs 8 = B132 at *
          generalize bs 9 = B133 at *
          generalize bs 10 = B134 at *
          generalize vs 1 = u125 at *
          generalize vs 2 = u126 at *
          generalize vs 7 = u131 at *
          generalize vs 8 = u132 at *
          generalize vs 9 = u133 at *
          generalize vs 10 = u134 at *
          have h125 := g1
          haveI := h125.cel
          obtain ⟨rfl, rfl⟩ := g2
          obtain ⟨rfl, rfl⟩ := g7
          obtain ⟨rfl, rfl⟩ := g8
          obtain ⟨rfl, rfl⟩ := g9
          obtain ⟨rfl, rfl⟩ := g10
          refine K1 hs rfl ((show decide (A4k [] (rdR (w2, false)) = w2.take (w2.length - (rdE (w2, false)).1.length)) = true from decide_eq_true (B4F hw2)) ▸ B8q rfl rfl rfl rfl h125.lt hhi.lt) rfl ?_
          refine K1 hs rfl (G6 rfl) rfl ?_
          refine P8 (D5 6) (B0 ?_)
          exact ⟨_, [], [], I4 rfl rfl, List.nil_sublist _, by simp, rfl, rfl, rfl⟩
        ·
          refine A1 (mv_ ?_)
          refine A4 rfl (C6 (Mc := M111) (R := _) (aS rfl (a0)) kR qP (B4B rb (w2, false) A M111 _ hR111 qS) rfl ?_)
          rintro v114 M114 J114 ⟨q1, rfl, hR114, -, hq⟩
          rw [hok]
          obtain rfl := hq hok
          refine mv_ ?_
          refine A2 (A0G rfl) rfl ?_
          refine A2 (A0x rfl) rfl ?_
          refine A4 rfl (C3 (cs := [vS, vS, vS, vS, F5, vS, F5, F5, .pointer none]) kR rfl fun b16 => ?_)
          refine A4 rfl (A8 (vs := [vS, vS, vS, vS, .int .u32 0, vS, .int .u32 0, .int .u32 0, .pointer none]) rfl rfl rfl kR qR (A6 rfl al8) UpC.upd ?_)
          refine as_ (A0 (D7 2 15 16 17) (A3 (A1 (mv_ ?_))))
          refine A2 (Y0 rfl) rfl ?_
          refine A0 (D7 2 15 16 118) ?_
          refine C8 rfl ?_
          refine A1 (as_ (A0 (D5 6) (B0 (tr ?_))))
          exact ⟨_, [], [], I4 rfl rfl, List.nil_sublist _, by simp, rfl, rfl, rfl⟩

section
variable {H : Type} {enc : TypeId × Value → H} {P : Program} {w : World} {spare : Nat → Bool} {held : Bool} {fuel : Nat} {t e : TypeId} {cs : List Value} {x : DataW H × List MemPlace} {v : Value} {d : DataW H} {p : List MemPlace} {r : Reach} {base : Nat} {k : IntKind}
end
theorem A5V {P : Program} {W : World} {name : String} {g : Nat} {cs : Array Value} (hg : P.globalNamed name = some g) (h : W.var? P name = some cs) : ∃ e fr, W.heap[g]? = some (.cells cs e fr) := by
  unfold World.var? at h
  rw [hg] at h
  simp only [Option.bind_some] at h
  split at h
  · rename_i c e fr hh
    cases h
    exact ⟨e, fr, hh⟩
  · cases h
def B2D (ws : LN) : List Int := ws.map fun n : Nat => (n : Int)
theorem A44 (k : IntKind) (ws : LN) : ((B2D ws).map fun z => Value.int k z).toArray = (nums k ws).toArray := by simp [B2D, nums]
theorem B72 {W : World} {a b : String × DataW Unit} {rest : List (String × DataW Unit)} (h : laidMet Tryz.prog (a :: b :: ("internal/strconv.uint64pow10", Rows.laid_internal_strconv_uint64pow10) :: rest) W) : ∃ e fr, W.heap[4]? = some (Obj.cells (nums .u64 A0m).toArray e fr) := by
  have h' : laidMet Tryz.prog (("internal/strconv.uint64pow10", Lib.tabData .u64 (B2D A0m)) :: rest) W := h.tail.tail
  have h1 := Lib.tabIs_of_head (g := 4) (t := 222) (e := 94) (n := 20) (by kernel_rfl) (by kernel_rfl) (by kernel_rfl) (by kernel_rfl) (by kernel_rfl) (by kernel_rfl) h'
  obtain ⟨ek, fk, h3⟩ := A5V (g := 4) (by kernel_rfl) h1
  rw [A44] at h3
  exact ⟨ek, fk, h3⟩
end Go.Proofs.YtlilcmjbaknafaaGreatDoor

namespace Go.Proofs.YtlilcmjbaknafaaGreatDoor
open Go.Px Go.ChangeShapes Go.WideShapes Go.ChangeAt Go.RowKit
theorem B4G {xss : List (List Value)} (h : ∀ c ∈ xss, ∃ ws : LN, c = nums .u8 ws ∧ ws.length = 2 ∧ ∀ x ∈ ws, x < 256) : ∃ zs : LN, xss.flatten = nums .u8 zs ∧ zs.length = xss.length * 2 ∧ ∀ x ∈ zs, x < 256 := by
  induction xss with
  | nil => exact ⟨[], rfl, rfl, fun x hx => by cases hx⟩
  | cons c xss ih =>
    obtain ⟨zs, h1, h2, h3⟩ := ih fun c hc => h c (by simp [hc])
    obtain ⟨ws, rfl, g2, g3⟩ := h c qM
    refine ⟨ws ++ zs, by rw [List.flatten_cons, h1, H6], by simp [g2, h2]; omega, fun x hx => ?_⟩
    rcases List.mem_append.1 hx with hx | hx
    · exact g3 x hx
    · exact h3 x hx
theorem B73 {H : Type} {enc : TypeId × Value → H} {w : World} {spare : Nat → Bool} {held : Bool} {r : Reach} {base : Nat} {v : Value} {d : DataW H} {p : List MemPlace} (hv : Value.okWide Tryz.prog w r base 59 v) (h : DataW.Trod enc Tryz.prog w 0 spare held 59 v d p) :
    ∃ (n : Nat) (zs : LN), Rd (A7e w) 2 v n (nums .u8 zs) ∧ zs.length = n * 2 ∧ (∀ x ∈ zs, x < 256) ∧ n ≤ maxLen := by
  obtain ⟨a, len, cap, rfl⟩ := okWide_slice Tryz.underlying59 hv
  obtain ⟨f, hf⟩ := h
  obtain ⟨v, xss, h1, h2, h3, h4⟩ := A7Y Tryz.underlying59 (show Tryz.prog.cellsOf 61 = 2 by kernel_rfl) qD hf
  obtain ⟨zs, g1, g2, g3⟩ := B4G (xss := xss) (fun c hc => by
    obtain ⟨hl, m, y, hy⟩ := h4 c hc
    match c, hl with
    | [c0, c1], _ =>
      obtain ⟨m0, y0, e0⟩ := A8e Tryz.underlying61 hy 0 _ rfl (tf := 5) (o := 0) (c := 1) rfl rfl (by kernel_rfl)
      obtain ⟨m1, y1, e1⟩ := A8e Tryz.underlying61 hy 1 _ rfl (tf := 5) (o := 1) (c := 1) rfl rfl (by kernel_rfl)
      change DataW.trod enc Tryz.prog w 0 spare held _ 5 [c0] = _ at e0
      change DataW.trod enc Tryz.prog w 0 spare held _ 5 [c1] = _ at e1
      obtain ⟨z0, q0, _, w0⟩ := DataW.trod_int Tryz.underlying5 e0
      obtain ⟨z1, q1, _, w1⟩ := DataW.trod_int Tryz.underlying5 e1
      obtain ⟨n0, rfl, l0⟩ := A19 rfl w0
      obtain ⟨n1, rfl, l1⟩ := A19 rfl w1
      obtain rfl : c0 = _ := (List.cons.inj q0).1
      obtain rfl : c1 = _ := (List.cons.inj q1).1
      refine ⟨[n0, n1], rfl, rfl, fun x hx => ?_⟩
      simp only [List.mem_cons, List.not_mem_nil, or_false] at hx
      rcases hx with rfl | rfl
      · exact l0
      · exact l1)
  obtain rfl : Value.slice a len cap = v := by simpa [Value.cells] using h1
  exact ⟨xss.length, zs, by rw [← g1]; exact h3, g2, g3, by omega⟩

theorem B9N {W : World} {a b : String × DataW Unit} {rest : List (String × DataW Unit)} (h : laidMet Tryz.prog (a :: b :: ("internal/strconv.uint64pow10", Rows.laid_internal_strconv_uint64pow10) :: ("pawl/sha.round", Rows.laid_pawl_sha_round) :: ("pawl/sha.first", Rows.laid_pawl_sha_first) :: rest) W) : Glb (A7e W) := by
  obtain ⟨e4, f4, h4⟩ := B72 h
  have h' : laidMet Tryz.prog (("pawl/sha.round", Lib.tabData .u32 (B2D A1X)) :: ("pawl/sha.first", Lib.tabData .u32 (B2D A2G.list)) :: rest) W := h.tail.tail.tail
  have h1 := Lib.tabIs_of_head (g := 1) (t := 187) (e := 27) (n := 64) (by kernel_rfl) (by kernel_rfl) (by kernel_rfl) (by kernel_rfl) (by kernel_rfl) (by kernel_rfl) h'
  have h2 := Lib.tabIs_of_head (g := 0) (t := 166) (e := 27) (n := 8) (by kernel_rfl) (by kernel_rfl) (by kernel_rfl) (by kernel_rfl) (by kernel_rfl) (by kernel_rfl) h'.tail
  obtain ⟨ek, fk, h3⟩ := A5V (g := 1) (by kernel_rfl) h1
  obtain ⟨ef, ff, h5⟩ := A5V (g := 0) (by kernel_rfl) h2
  rw [A44] at h3 h5
  exact ⟨⟨ef, ff, A1i.2 h5⟩, ⟨ek, fk, A1i.2 h3⟩, ⟨e4, f4, A1i.2 h4⟩⟩
end Go.Proofs.YtlilcmjbaknafaaGreatDoor

