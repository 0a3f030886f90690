/- Part 18 of the texts of this claim, one behind the other. -/
import Derived.Test.YtlilcmjbaknafaaGreatDoorB17
set_option linter.unusedVariables false
set_option linter.unusedSimpArgs false
set_option maxRecDepth 100000
namespace Go.Proofs.YtlilcmjbaknafaaGreatDoor
open Go.Px
theorem StF.cel {R : Mem} {v : Value} {sks : List Skp} (h : StF R v sks) : Cel v [v] := by obtain ⟨sb, u, rows, rfl, _⟩ := h; infer_instance
theorem P7 (pre vs post : List Value) : ∀ (j : Nat) v, vs[j]? = some v → (pre ++ (vs ++ post))[pre.length + j]? = some v := fun j v h => by
  rw [List.getElem?_append_right (by omega), Nat.add_sub_cancel_left, List.getElem?_append_left (List.getElem?_eq_some_iff.1 h).1]
  exact h
theorem B1G (tb pb : Nat) (s : Ps) (r0 r1 : Rsd) (tx : List Nat) (M0 A : Mem) (hPr : Par A tb pb s r0 r1 M0) (hn : s.ts.length + 200 ≤ 1040000) (hsk : 0 < r0.sk.length) (htx : B256 tx) (ltx : tx.length ≤ 1000000) (hG : Glb A) : FnX Tryz.prog 9 [.pointer (some ⟨tb, 0, none⟩), .int .i64 0, .string (txt tx)] M0 A fun q M J => Par (J ++ A) tb pb (W3 s r0 F2 tx) (U8 s r0) r1 M ∧ ∃ vk vg, q = .tuple #[.agg #[.int .i64 1, vk, .int .u32 ((r0.prev : Nat) : Int), .int .u32 ((r0.sn : Nat) : Int), vg, .string (txt tx)], .bool true] ∧ By (J ++ A) vk (I0 s r0.own) ∧ By (J ++ A) vg (A1d s r0 F2 tx) := by
 obtain ⟨ao, at_, ar, ak, al, aq, bo, bt, br, bk, bl, bq, MP, rfl, h0, h1, hP⟩ := hPr
 haveI := h0.own.cel
 haveI := h0.their.cel
 haveI := h0.root.cel
 haveI := h0.sk.cel
 haveI := h0.tk.cel
 haveI := h1.own.cel
 haveI := h1.their.cel
 haveI := h1.root.cel
 haveI := h1.sk.cel
 haveI := h1.tk.cel
 haveI := h0.st.cel
 haveI := h1.st.cel
 unfold rsC
 refine FnX.enterZ (N := 47) Tryz.func9 rfl rfl rfl fun w_ => ?_
 refine B0 (D4 0 1 2) (A1 ?_)
 refine A4 rfl (C4 (cs := [A7a, .slice none 0 0, F7, F7, .slice none 0 0, .string ByteArray.empty]) kR rfl fun b6 => ?_)
 refine as_ (A0 (D6 0 1 2 6) ?_)
 refine L7 (MP) (_) true [0, 1, 2, 3, 4, 5, 6, 7, 8, 9, 10, 11, 12, 13, 14, 15, 16, 17, 18, 19, 20, 21, 24, 25] [(0, 0), (1, 0), (2, 0), (3, 1), (4, 0), (5, 0), (6, 0), (7, 0), (8, 0), (9, 1), (12, 0), (10, 8), (11, 8), (13, 8), (14, 8), (15, 8), (16, 8), (20, 8), (21, 8), (17, 9), (18, 9), (19, 10), (22, 2), (23, 2), (24, 0), (25, 0)] kR kR PickC.perm fun hs K n0 hKm hKs hKn => ?_
 refine km_ hs ?_
 refine L6 hs rfl (E8 rfl) rfl ?_
 refine L6 hs rfl (qf_ 0 0) rfl ?_
 refine Y8 hs rfl hKs ql_ ?_
 refine km_ hs ?_
 refine km_ hs ?_
 refine L6 hs rfl (E8 rfl) rfl ?_
 refine L6 hs rfl (qf_ 1 1) rfl ?_
 refine L6 hs rfl (C9 (e := 41) (n := 2) (sz := 9) (i := 0) 1 rfl rfl kR kR rfl (by decide) rfl) rfl ?_
 refine Y8 hs rfl hKs (S9 (n := 9) (vs := [ao, at_, ar, ak, .int .u32 ((r0.sn : Nat) : Int), al, .int .u32 ((r0.tn : Nat) : Int), .int .u32 ((r0.prev : Nat) : Int), aq]) rfl kR At.mem rfl (P7 [.pointer (some ⟨pb, 0, none⟩)] [ao, at_, ar, ak, .int .u32 ((r0.sn : Nat) : Int), al, .int .u32 ((r0.tn : Nat) : Int), .int .u32 ((r0.prev : Nat) : Int), aq] [bo, bt, br, bk, .int .u32 ((r1.sn : Nat) : Int), bl, .int .u32 ((r1.tn : Nat) : Int), .int .u32 ((r1.prev : Nat) : Int), bq])) ?_
 refine km_ hs ?_
 refine A02 [⟨10, 23, none, [], fun v B _ => ∃ b, v = .slice (some ⟨b, 0, none⟩) 4 4 ∧ B = [(b, blk (nums .u8 [119, 105, 116, 104]) 5)]⟩, ⟨11, 24, some 10, [], fun v B R => B = [] ∧ By R v [119, 105, 116, 104]⟩, ⟨13, 26, none, [], fun v B R => B = [] ∧ By R v tx⟩, ⟨14, 27, none, MP, fun v B R => ∃ q1 q2 q3, v = .tuple #[q1, .agg #[q2, .int .u32 ((r0.prev : Nat) : Int), .int .u32 ((r0.sn : Nat) : Int)], q3, .int .i64 0] ∧ Prm pb (W3 s r0 F2 tx) B ∧ RsV R q1 (U8 s r0) ∧ By R q2 (I0 s r0.own) ∧ By R q3 (A1d s r0 F2 tx)⟩, ⟨15, 12, none, [], fun v B R => B = [] ∧ ∃ q1 q2 q3, v = .tuple #[q1, .agg #[q2, .int .u32 ((r0.prev : Nat) : Int), .int .u32 ((r0.sn : Nat) : Int)], q3, .int .i64 0] ∧ RsV R q1 (U8 s r0) ∧ By R q2 (I0 s r0.own) ∧ By R q3 (A1d s r0 F2 tx)⟩, ⟨16, 28, none, [], fun v B R => B = [] ∧ RsV R v (U8 s r0)⟩, ⟨20, 8, none, [], fun v B _ => ∃ b, v = .pointer (some ⟨b, 0, none⟩) ∧ B = [(b, blk [.slice none 0 0, .slice none 0 0, .slice none 0 0, .slice none 0 0, .int .u32 0, .slice none 0 0, .int .u32 0, .int .u32 0, .pointer none] 41)]⟩, ⟨21, 9, none, [], fun v B _ => ∃ b, v = .pointer (some ⟨b, 0, none⟩) ∧ B = [(b, blk [.slice none 0 0, .int .u32 0, .int .u32 0] 29)]⟩] [⟨17, 29, none, [], fun v B R => B = [] ∧ ∃ q2, v = .agg #[q2, .int .u32 ((r0.prev : Nat) : Int), .int .u32 ((r0.sn : Nat) : Int)] ∧ By R q2 (I0 s r0.own)⟩, ⟨18, 30, none, [], fun v B R => B = [] ∧ By R v (A1d s r0 F2 tx)⟩, ⟨19, 31, none, [], fun v B R => B = [] ∧ v = .int .i64 0⟩] ([(b6, blk [.int .i64 0, .slice none 0 0, .int .u32 0, .int .u32 0, .slice none 0 0, .string ByteArray.empty] 31), (tb, blk [.pointer (some ⟨pb, 0, none⟩), ao, at_, ar, ak, .int .u32 ((r0.sn : Nat) : Int), al, .int .u32 ((r0.tn : Nat) : Int), .int .u32 ((r0.prev : Nat) : Int), aq, bo, bt, br, bk, .int .u32 ((r1.sn : Nat) : Int), bl, .int .u32 ((r1.tn : Nat) : Int), .int .u32 ((r1.prev : Nat) : Int), bq] 45)]) (fun bs => [bs 11, bs 13, bs 14, bs 15, bs 16, bs 20, bs 21, bs 17, bs 18, bs 19]) (hKn rfl) (by simp [A0J, A1h]) (show ∀ m ∈ ([[], [], MP, [], [], [], [], [], [], []] : List Mem), ∀ x ∈ m, K x.1 from A7 (fun _ h => by cases h) (A7 (fun _ h => by cases h) (A7 (hKm) (A7 (fun _ h => by cases h) (A7 (fun _ h => by cases h) (A7 (fun _ h => by cases h) (A7 (fun _ h => by cases h) (A7 (fun _ h => by cases h) (A7 (fun _ h => by cases h) (A7 (fun _ h => by cases h) (K9))))))))))) kR (fun _ => by first | rfl | kernel_rfl)
  (A7 (fun _ _ _ _ _ h => h) (A7 (fun _ _ _ _ hR h => ⟨h.1, h.2.mono hR⟩) (A7 (fun _ _ _ _ hR h => ⟨h.1, h.2.mono hR⟩) (A7 (fun _ _ _ _ h ⟨q1, q2, q3, e, p1, p2, p3, p4⟩ => ⟨q1, q2, q3, e, p1, p2.mono h, p3.mono h, p4.mono h⟩) (A7 (fun _ _ _ _ h ⟨e0, q1, q2, q3, e, p2, p3, p4⟩ => ⟨e0, q1, q2, q3, e, p2.mono h, p3.mono h, p4.mono h⟩) (A7 (fun _ _ _ _ h hp => ⟨hp.1, hp.2.mono h⟩) (A7 (fun _ _ _ _ _ h => h) (A7 (fun _ _ _ _ _ h => h) (A7 (fun _ _ _ _ h ⟨e0, q, e, p⟩ => ⟨e0, q, e, p.mono h⟩) (A7 (fun _ _ _ _ hR h => ⟨h.1, h.2.mono hR⟩) (A7 (fun _ _ _ _ _ h => h) (K9)))))))))))) (show List.Nodup [23, 24, 26, 27, 12, 28, 8, 9, 29, 30, 31] by decide) (show List.Nodup [10, 11, 13, 14, 15, 16, 20, 21, 17, 18, 19] by decide) (A7 (C5 rfl) (A7 (C5 rfl) (A7 (C5 rfl) (A7 (C5 rfl) (A7 (C5 rfl) (A7 (C5 rfl) (A7 (C5 rfl) (A7 (C5 rfl) (A7 (C5 rfl) (A7 (C5 rfl) (A7 (C5 rfl) (K9))))))))))))
  hs (List.cons_ne_nil _ _) (A7 ⟨_, rfl, fun vs bs R Rj wG hb hj hjr ha => ⟨.inl rfl, ?_⟩⟩ (A7 ⟨_, rfl, fun vs bs R Rj wG hb hj hjr ha => ⟨.inl rfl, ?_⟩⟩ (A7 ⟨_, rfl, fun vs bs R Rj wG hb hj hjr ha => ⟨.inl rfl, ?_⟩⟩ (A7 ⟨_, rfl, fun vs bs R Rj wG hb hj hjr ha => ⟨.inl rfl, ?_⟩⟩ (A7 ⟨_, rfl, fun vs bs R Rj wG hb hj hjr ha => ⟨.inl rfl, ?_⟩⟩ (A7 ⟨_, rfl, fun vs bs R Rj wG hb hj hjr ha => ⟨.inl rfl, ?_⟩⟩ (A7 ⟨_, rfl, fun vs bs R Rj wG hb hj hjr ha => ⟨.inl rfl, ?_⟩⟩ (A7 ⟨_, rfl, fun vs bs R Rj wG hb hj hjr ha => ⟨.inl rfl, ?_⟩⟩ (K9))))))))) (A7 ⟨rfl, rfl, _, _, _, _, rfl, fun vs bs Rj hj ha => ?_⟩ (A7 ⟨rfl, rfl, _, _, _, _, rfl, fun vs bs Rj hj ha => ?_⟩ (A7 ⟨rfl, rfl, _, _, _, _, rfl, fun vs bs Rj hj ha => ?_⟩ (K9)))) ?_
 ·
  dsimp only [Gc.inp]
  exact C3 (e := 5) (sz := 1) (z := [zu8, zu8, zu8, zu8]) kR (eS rfl (eS rfl (eS rfl (eS rfl e0)))) (bdS 0 1 rfl (by rfl) (bdS 1 1 rfl (by rfl) (bdS 2 1 rfl (by rfl) (bdS 3 1 rfl (by rfl) bd0)))) rfl fun b => ⟨_, rfl, b, rfl, rfl⟩
 ·
  dsimp only [Gc.inp]
  have g10 := ha _ (List.mem_of_getElem? (i := 0) rfl) kR
  replace g10 : (fun v B _ => ∃ b, v = .slice (some ⟨b, 0, none⟩) 4 4 ∧ B = [(b, blk (nums .u8 [119, 105, 116, 104]) 5)]) (vs 10) (bs 10) Rj := g10
  dsimp only at g10
  obtain ⟨b, e, eB⟩ := g10
  dsimp only [Q7, List.map, List.cons_append, List.nil_append]
  rw [e, eB]
  refine OpL.frzAll ?_
  exact A0D rfl kR UpC.upd rfl (fun J2 hJ => ⟨_, rfl, rfl, ⟨Rd.whole (n := 4) (List.mem_append_left _ (hJ _ (List.mem_append_left _ (List.mem_singleton.2 rfl)))) (by rfl), by decide, by decide⟩⟩)
 ·
  dsimp only [Gc.inp]
  refine OpL.frzAll ?_
  refine A0T (e := 5) rfl rfl htx.lt kR kR kR rfl fun v B hs J2 hJ => ⟨_, rfl, rfl, ⟨hs.mono fun x hx => List.mem_append_left _ (hJ _ (by simp [hx])), htx.lt, Nat.le_trans ltx (by decide)⟩⟩
 ·
  dsimp only [Gc.inp]
  have g11 := ha _ (List.mem_of_getElem? (i := 1) rfl) kR
  replace g11 : (fun v B R => B = [] ∧ By R v [119, 105, 116, 104]) (vs 11) (bs 11) Rj := g11
  dsimp only at g11
  have g13 := ha _ (List.mem_of_getElem? (i := 2) rfl) kR
  replace g13 : (fun v B R => B = [] ∧ By R v tx) (vs 13) (bs 13) Rj := g13
  dsimp only at g13
  obtain ⟨-, h11⟩ := g11
  obtain ⟨-, h13⟩ := g13
  haveI := h11.cel
  haveI := h13.cel
  refine E0 (Mc := MP) (R := []) (aS rfl (aS rfl (aS rfl (aS rfl (a0))))) kR (by simp) (FnX.amb (A := Rj) (fun x hx => by have := hjr x hx; simp [this]) (B1w pb s r0 ao at_ ar ak al aq _ _ F2 tx MP Rj hP (by omega) (h0.mono (fun x hx => hj x (SubC.sub x hx))) hsk h11 (by decide) h13 ltx (hG.sub (fun x hx => hj x (SubC.sub x hx))))) rfl ?_
  rintro v25 M25 J25 ⟨q1, q2, q3, rfl, hP25, p2, p3, p4⟩
  exact ⟨_, rfl, q1, q2, q3, rfl, by simpa using hP25, p2.mono (fun x hx => by simpa using hx), p3.mono (fun x hx => by simpa using hx), p4.mono (fun x hx => by simpa using hx)⟩
 ·
  dsimp only [Gc.inp]
  have g14 := ha _ (List.mem_of_getElem? (i := 3) rfl) kR
  replace g14 : (fun v B R => ∃ q1 q2 q3, v = .tuple #[q1, .agg #[q2, .int .u32 ((r0.prev : Nat) : Int), .int .u32 ((r0.sn : Nat) : Int)], q3, .int .i64 0] ∧ Prm pb (W3 s r0 F2 tx) B ∧ RsV R q1 (U8 s r0) ∧ By R q2 (I0 s r0.own) ∧ By R q3 (A1d s r0 F2 tx)) (vs 14) (bs 14) Rj := g14
  dsimp only at g14
  obtain ⟨q1, q2, q3, e, -, k⟩ := g14
  exact OpQ.opL qm_ rfl ⟨_, rfl, rfl, q1, q2, q3, e, k⟩
 ·
  dsimp only [Gc.inp]
  have g15 := ha _ (List.mem_of_getElem? (i := 4) rfl) kR
  replace g15 : (fun v B R => B = [] ∧ ∃ q1 q2 q3, v = .tuple #[q1, .agg #[q2, .int .u32 ((r0.prev : Nat) : Int), .int .u32 ((r0.sn : Nat) : Int)], q3, .int .i64 0] ∧ RsV R q1 (U8 s r0) ∧ By R q2 (I0 s r0.own) ∧ By R q3 (A1d s r0 F2 tx)) (vs 15) (bs 15) Rj := g15
  dsimp only at g15
  obtain ⟨-, q1, q2, q3, e, k, -⟩ := g15
  exact OpQ.opL (G7 (vs := #[q1, .agg #[q2, .int .u32 ((r0.prev : Nat) : Int), .int .u32 ((r0.sn : Nat) : Int)], q3, .int .i64 0]) (by rw [← e]; rfl) rfl) rfl ⟨_, rfl, rfl, k⟩
 ·
  dsimp only [Gc.inp]
  exact C4 (cs := [.slice none 0 0, .slice none 0 0, .slice none 0 0, .slice none 0 0, F7, .slice none 0 0, F7, F7, .pointer none]) kR rfl fun b => ⟨_, rfl, b, rfl, rfl⟩
 ·
  dsimp only [Gc.inp]
  exact C4 (cs := [.slice none 0 0, .int .u32 0, .int .u32 0]) kR rfl fun b => ⟨_, rfl, b, rfl, rfl⟩
 ·
  have g15 := ha _ (List.mem_of_getElem? (i := 4) rfl) kR
  replace g15 : (fun v B R => B = [] ∧ ∃ q1 q2 q3, v = .tuple #[q1, .agg #[q2, .int .u32 ((r0.prev : Nat) : Int), .int .u32 ((r0.sn : Nat) : Int)], q3, .int .i64 0] ∧ RsV R q1 (U8 s r0) ∧ By R q2 (I0 s r0.own) ∧ By R q3 (A1d s r0 F2 tx)) (vs 15) (bs 15) Rj := g15
  dsimp only at g15
  obtain ⟨-, q1, q2, q3, e, -, k, -⟩ := g15
  exact ⟨_, G7 (vs := #[q1, .agg #[q2, .int .u32 ((r0.prev : Nat) : Int), .int .u32 ((r0.sn : Nat) : Int)], q3, .int .i64 0]) (by rw [← e]; rfl) rfl, rfl, q2, rfl, k⟩
 ·
  have g15 := ha _ (List.mem_of_getElem? (i := 4) rfl) kR
  replace g15 : (fun v B R => B = [] ∧ ∃ q1 q2 q3, v = .tuple #[q1, .agg #[q2, .int .u32 ((r0.prev : Nat) : Int), .int .u32 ((r0.sn : Nat) : Int)], q3, .int .i64 0] ∧ RsV R q1 (U8 s r0) ∧ By R q2 (I0 s r0.own) ∧ By R q3 (A1d s r0 F2 tx)) (vs 15) (bs 15) Rj := g15
  dsimp only at g15
  obtain ⟨-, q1, q2, q3, e, -, -, k⟩ := g15
  exact ⟨_, G7 (vs := #[q1, .agg #[q2, .int .u32 ((r0.prev : Nat) : Int), .int .u32 ((r0.sn : Nat) : Int)], q3, .int .i64 0]) (by rw [← e]; rfl) rfl, rfl, k⟩
 ·
  have g15 := ha _ (List.mem_of_getElem? (i := 4) rfl) kR
  replace g15 : (fun v B R => B = [] ∧ ∃ q1 q2 q3, v = .tuple #[q1, .agg #[q2, .int .u32 ((r0.prev : Nat) : Int), .int .u32 ((r0.sn : Nat) : Int)], q3, .int .i64 0] ∧ RsV R q1 (U8 s r0) ∧ By R q2 (I0 s r0.own) ∧ By R q3 (A1d s r0 F2 tx)) (vs 15) (bs 15) Rj := g15
  dsimp only at g15
  obtain ⟨-, q1, q2, q3, e, -⟩ := g15
  exact ⟨_, G7 (vs := #[q1, .agg #[q2, .int .u32 ((r0.prev : Nat) : Int), .int .u32 ((r0.sn : Nat) : Int)], q3, .int .i64 0]) (by rw [← e]; rfl) rfl, rfl, rfl⟩
 intro vs bs Jn0 hφ hKK
 have kk10 := hKK _ (List.mem_of_getElem? (i := 0) rfl)
 dsimp only at kk10
 have kk11 := hKK _ (List.mem_of_getElem? (i := 1) rfl)
 dsimp only at kk11
 have kk13 := hKK _ (List.mem_of_getElem? (i := 2) rfl)
 dsimp only at kk13
 have kk14 := hKK _ (List.mem_of_getElem? (i := 3) rfl)
 dsimp only at kk14
 have kk15 := hKK _ (List.mem_of_getElem? (i := 4) rfl)
 dsimp only at kk15
 have kk16 := hKK _ (List.mem_of_getElem? (i := 5) rfl)
 dsimp only at kk16
 have kk20 := hKK _ (List.mem_of_getElem? (i := 6) rfl)
 dsimp only at kk20
 have kk21 := hKK _ (List.mem_of_getElem? (i := 7) rfl)
 dsimp only at kk21
 have kk17 := hKK _ (List.mem_of_getElem? (i := 8) rfl)
 dsimp only at kk17
 have kk18 := hKK _ (List.mem_of_getElem? (i := 9) rfl)
 dsimp only at kk18
 have kk19 := hKK _ (List.mem_of_getElem? (i := 10) rfl)
 dsimp only at kk19
 clear hKK
 have g10 := ofH hφ
 dsimp only at g10
 replace hφ := ofT hφ
 have g11 := ofH hφ
 dsimp only at g11
 replace hφ := ofT hφ
 have g13 := ofH hφ
 dsimp only at g13
 replace hφ := ofT hφ
 have g14 := ofH hφ
 dsimp only at g14
 replace hφ := ofT hφ
 have g15 := ofH hφ
 dsimp only at g15
 replace hφ := ofT hφ
 have g16 := ofH hφ
 dsimp only at g16
 replace hφ := ofT hφ
 have g20 := ofH hφ
 dsimp only at g20
 replace hφ := ofT hφ
 have g21 := ofH hφ
 dsimp only at g21
 replace hφ := ofT hφ
 have g17 := ofH hφ
 dsimp only at g17
 replace hφ := ofT hφ
 have g18 := ofH hφ
 dsimp only at g18
 replace hφ := ofT hφ
 have g19 := ofH hφ
 dsimp only at g19
 clear hφ
 dsimp only [Q7, A0J, List.foldr, List.map, List.cons_append, List.nil_append]
 generalize bs 10 = B23 at *
 generalize bs 11 = B24 at *
 generalize bs 13 = B26 at *
 generalize bs 14 = B27 at *
 generalize bs 15 = B12 at *
 generalize bs 16 = B28 at *
 generalize bs 20 = B8 at *
 generalize bs 21 = B9 at *
 generalize bs 17 = B29 at *
 generalize bs 18 = B30 at *
 generalize bs 19 = B31 at *
 generalize vs 10 = u23 at *
 generalize vs 11 = u24 at *
 generalize vs 13 = u26 at *
 generalize vs 14 = u27 at *
 generalize vs 15 = u12 at *
 generalize vs 16 = u28 at *
 generalize vs 20 = u8 at *
 generalize vs 21 = u9 at *
 generalize vs 17 = u29 at *
 generalize vs 18 = u30 at *
 generalize vs 19 = u31 at *
 obtain ⟨-, -, -, -, hP27, -⟩ := g14
 clear g15
 obtain ⟨b, rfl, rfl⟩ := g10
 obtain ⟨rfl, h24⟩ := g11
 obtain ⟨rfl, h26⟩ := g13
 obtain ⟨rfl, wo, wt, wr, wk, wl, wq, rfl, hn1⟩ := g16
 obtain ⟨rfl, hk_, rfl, h29⟩ := g17
 obtain ⟨rfl, h30⟩ := g18
 obtain ⟨rfl, rfl⟩ := g19
 obtain ⟨b8, rfl, rfl⟩ := g20
 obtain ⟨b9, rfl, rfl⟩ := g21
 haveI := hn1.own.cel
 haveI := hn1.their.cel
 haveI := hn1.root.cel
 haveI := hn1.sk.cel
 haveI := hn1.tk.cel
 haveI := hn1.st.cel
 haveI := h29.cel
 haveI := h30.cel
 unfold rsC
 refine T7 rfl rfl rfl (A9 (vs := [wo, wt, wr, wk, .int .u32 (((U8 s r0).sn : Nat) : Int), wl, .int .u32 (((U8 s r0).tn : Nat) : Int), .int .u32 (((U8 s r0).prev : Nat) : Int), wq]) rfl rfl rfl kR (by rfl) (A7 hn1.own.one (A7 hn1.their.one (A7 hn1.root.one (A7 hn1.sk.one (A7 rfl (A7 hn1.tk.one (A7 rfl (A7 rfl (A7 hn1.st.one K9))))))))) UpC.upd ?_)
 refine T7 rfl rfl rfl (A9 (vs := [hk_, .int .u32 ((r0.prev : Nat) : Int), .int .u32 ((r0.sn : Nat) : Int)]) rfl rfl rfl kR (by rfl) (A7 h29.one al2) UpC.upd ?_)
 refine L6 hs rfl (G9 rfl) rfl ?_
 refine L6 hs rfl (G9 rfl) rfl ?_
 refine Q8 (V7 0 1 2 6 8 9 10 11) (A3 (A1 (mv_ ?_)))
 refine A2 (F0 false rfl rfl (neF rfl)) rfl ?_
 refine A0 (V7 0 1 2 6 8 9 10 33) ?_
 refine D0 rfl ?_
 refine A6 (nx (R9 0 1 2 6 8 9 10) ?_)
 refine C7 [0, 1, 2, 3, 4, 5] (zp 0 [0, 0, 1, 0, 0, 0, 2]) kR kR fun hs => ?_
 refine fm_ hs ?_
 refine fm_ hs ?_
 refine G4 hs rfl (qw_ 9) rfl ?_
 refine C2 hs rfl (E8 rfl) rfl ?_
 refine C2 hs rfl (qf_ 1 1) rfl ?_
 refine C2 hs rfl (C9 (e := 41) (n := 2) (sz := 9) (i := 0) 1 rfl rfl kR kR rfl (by decide) rfl) rfl ?_
 refine F5 rfl rfl rfl (N7 (vs := [wo, wt, wr, wk, .int .u32 (((U8 s r0).sn : Nat) : Int), wl, .int .u32 (((U8 s r0).tn : Nat) : Int), .int .u32 (((U8 s r0).prev : Nat) : Int), wq]) (cs' := [.pointer (some ⟨pb, 0, none⟩), wo, wt, wr, wk, .int .u32 (((U8 s r0).sn : Nat) : Int), wl, .int .u32 (((U8 s r0).tn : Nat) : Int), .int .u32 (((U8 s r0).prev : Nat) : Int), wq, bo, bt, br, bk, .int .u32 ((r1.sn : Nat) : Int), bl, .int .u32 ((r1.tn : Nat) : Int), .int .u32 ((r1.prev : Nat) : Int), bq]) rfl rfl rfl kR (by exact (show 1 + 9 ≤ 19 by decide)) (A7 hn1.own.one (A7 hn1.their.one (A7 hn1.root.one (A7 hn1.sk.one (A7 rfl (A7 hn1.tk.one (A7 rfl (A7 rfl (A7 hn1.st.one K9))))))))) rfl UpC.upd ?_)
 refine E4 (E5 1 2 6 9 10) (A1 (mv_ ?_))
 refine A2 (D8 rfl rfl rfl) rfl ?_
 refine A2 (qw_ 3) rfl ?_
 refine mv_ (mv_ ?_)
 refine A2 (G1 (place := fun x => #[(0, 1), (1, 3), (4, 1), (5, 1)][x]?) (z := [A7a, .slice none 0 0, F7, F7, .slice none 0 0, .string ByteArray.empty]) (fun _ => by kernel_rfl) (eS rfl (eS rfl (eS rfl (eS rfl e0)))) (bdS 0 1 rfl (by rfl) (bdS 1 3 rfl (by rfl) (bdS 4 1 rfl (by rfl) (bdS 5 1 rfl (by rfl) bd0))))) rfl ?_
 refine A4 rfl (A9 (vs := [.int .i64 1, hk_, .int .u32 ((r0.prev : Nat) : Int), .int .u32 ((r0.sn : Nat) : Int), u30, .string (txt tx)]) rfl rfl rfl kR (by rfl) (A7 rfl (A7 h29.one (A7 rfl (A7 rfl (A7 h30.one (A7 rfl K9)))))) UpC.upd ?_)
 refine as_ (A0 (D3 6 7) (B4 ?_))
 exact ⟨_, (tb, blk [.pointer (some ⟨pb, 0, none⟩), wo, wt, wr, wk, .int .u32 (((U8 s r0).sn : Nat) : Int), wl, .int .u32 (((U8 s r0).tn : Nat) : Int), .int .u32 (((U8 s r0).prev : Nat) : Int), wq, bo, bt, br, bk, .int .u32 ((r1.sn : Nat) : Int), bl, .int .u32 ((r1.tn : Nat) : Int), .int .u32 ((r1.prev : Nat) : Int), bq] 45) :: B27, [], A5w (n := 6) rfl rfl rfl kR At.mem (by rfl), Fit.none (Fit.pick (B := [_]) PickC.perm (Fit.last PickC.perm)), ⟨wo, wt, wr, wk, wl, wq, bo, bt, br, bk, bl, bq, B27, rfl, hn1.mono SubC.sub, h1.mono SubC.sub, hP27⟩, hk_, u30, rfl, h29.mono SubC.sub, h30.mono SubC.sub⟩
theorem B6P (tb pb : Nat) (s : Ps) (r0 r1 : Rsd) (tx : List Nat) (M0 A : Mem) (hPr : Par A tb pb s r0 r1 M0) (hn : s.ts.length + 200 ≤ 1040000) (hsk : 0 < r1.sk.length) (htx : B256 tx) (ltx : tx.length ≤ 1000000) (hG : Glb A) : FnX Tryz.prog 9 [.pointer (some ⟨tb, 0, none⟩), .int .i64 1, .string (txt tx)] M0 A fun q M J => Par (J ++ A) tb pb (W3 s r1 F2 tx) r0 (U8 s r1) M ∧ ∃ vk vg, q = .tuple #[.agg #[.int .i64 0, vk, .int .u32 ((r1.prev : Nat) : Int), .int .u32 ((r1.sn : Nat) : Int), vg, .string (txt tx)], .bool true] ∧ By (J ++ A) vk (I0 s r1.own) ∧ By (J ++ A) vg (A1d s r1 F2 tx) := by
 obtain ⟨ao, at_, ar, ak, al, aq, bo, bt, br, bk, bl, bq, MP, rfl, h0, h1, hP⟩ := hPr
 haveI := h0.own.cel
 haveI := h0.their.cel
 haveI := h0.root.cel
 haveI := h0.sk.cel
 haveI := h0.tk.cel
 haveI := h1.own.cel
 haveI := h1.their.cel
 haveI := h1.root.cel
 haveI := h1.sk.cel
 haveI := h1.tk.cel
 haveI := h0.st.cel
 haveI := h1.st.cel
 unfold rsC
 refine FnX.enterZ (N := 47) Tryz.func9 rfl rfl rfl fun w_ => ?_
 refine B0 (D4 0 1 2) (A1 ?_)
 refine A4 rfl (C4 (cs := [A7a, .slice none 0 0, F7, F7, .slice none 0 0, .string ByteArray.empty]) kR rfl fun b6 => ?_)
 refine as_ (A0 (D6 0 1 2 6) ?_)
 refine L7 (MP) (_) true [0, 1, 2, 3, 4, 5, 6, 7, 8, 9, 10, 11, 12, 13, 14, 15, 16, 17, 18, 19, 20, 21, 24, 25] [(0, 0), (1, 0), (2, 0), (3, 1), (4, 0), (5, 0), (6, 0), (7, 0), (8, 0), (9, 1), (12, 0), (10, 8), (11, 8), (13, 8), (14, 8), (15, 8), (16, 8), (20, 8), (21, 8), (17, 9), (18, 9), (19, 10), (22, 2), (23, 2), (24, 0), (25, 0)] kR kR PickC.perm fun hs K n0 hKm hKs hKn => ?_
 refine km_ hs ?_
 refine L6 hs rfl (E8 rfl) rfl ?_
 refine L6 hs rfl (qf_ 0 0) rfl ?_
 refine Y8 hs rfl hKs ql_ ?_
 refine km_ hs ?_
 refine km_ hs ?_
 refine L6 hs rfl (E8 rfl) rfl ?_
 refine L6 hs rfl (qf_ 1 1) rfl ?_
 refine L6 hs rfl (C9 (e := 41) (n := 2) (sz := 9) (i := 1) 10 rfl rfl kR kR rfl (by decide) rfl) rfl ?_
 refine Y8 hs rfl hKs (S9 (n := 9) (vs := [bo, bt, br, bk, .int .u32 ((r1.sn : Nat) : Int), bl, .int .u32 ((r1.tn : Nat) : Int), .int .u32 ((r1.prev : Nat) : Int), bq]) rfl kR At.mem rfl (P7 [.pointer (some ⟨pb, 0, none⟩), ao, at_, ar, ak, .int .u32 ((r0.sn : Nat) : Int), al, .int .u32 ((r0.tn : Nat) : Int), .int .u32 ((r0.prev : Nat) : Int), aq] [bo, bt, br, bk, .int .u32 ((r1.sn : Nat) : Int), bl, .int .u32 ((r1.tn : Nat) : Int), .int .u32 ((r1.prev : Nat) : Int), bq] [])) ?_
 refine km_ hs ?_
 refine A02 [⟨10, 23, none, [], fun v B _ => ∃ b, v = .slice (some ⟨b, 0, none⟩) 4 4 ∧ B = [(b, blk (nums .u8 [119, 105, 116, 104]) 5)]⟩, ⟨11, 24, some 10, [], fun v B R => B = [] ∧ By R v [119, 105, 116, 104]⟩, ⟨13, 26, none, [], fun v B R => B = [] ∧ By R v tx⟩, ⟨14, 27, none, MP, fun v B R => ∃ q1 q2 q3, v = .tuple #[q1, .agg #[q2, .int .u32 ((r1.prev : Nat) : Int), .int .u32 ((r1.sn : Nat) : Int)], q3, .int .i64 0] ∧ Prm pb (W3 s r1 F2 tx) B ∧ RsV R q1 (U8 s r1) ∧ By R q2 (I0 s r1.own) ∧ By R q3 (A1d s r1 F2 tx)⟩, ⟨15, 12, none, [], fun v B R => B = [] ∧ ∃ q1 q2 q3, v = .tuple #[q1, .agg #[q2, .int .u32 ((r1.prev : Nat) : Int), .int .u32 ((r1.sn : Nat) : Int)], q3, .int .i64 0] ∧ RsV R q1 (U8 s r1) ∧ By R q2 (I0 s r1.own) ∧ By R q3 (A1d s r1 F2 tx)⟩, ⟨16, 28, none, [], fun v B R => B = [] ∧ RsV R v (U8 s r1)⟩, ⟨20, 8, none, [], fun v B _ => ∃ b, v = .pointer (some ⟨b, 0, none⟩) ∧ B = [(b, blk [.slice none 0 0, .slice none 0 0, .slice none 0 0, .slice none 0 0, .int .u32 0, .slice none 0 0, .int .u32 0, .int .u32 0, .pointer none] 41)]⟩, ⟨21, 9, none, [], fun v B _ => ∃ b, v = .pointer (some ⟨b, 0, none⟩) ∧ B = [(b, blk [.slice none 0 0, .int .u32 0, .int .u32 0] 29)]⟩] [⟨17, 29, none, [], fun v B R => B = [] ∧ ∃ q2, v = .agg #[q2, .int .u32 ((r1.prev : Nat) : Int), .int .u32 ((r1.sn : Nat) : Int)] ∧ By R q2 (I0 s r1.own)⟩, ⟨18, 30, none, [], fun v B R => B = [] ∧ By R v (A1d s r1 F2 tx)⟩, ⟨19, 31, none, [], fun v B R => B = [] ∧ v = .int .i64 0⟩] ([(b6, blk [.int .i64 0, .slice none 0 0, .int .u32 0, .int .u32 0, .slice none 0 0, .string ByteArray.empty] 31), (tb, blk [.pointer (some ⟨pb, 0, none⟩), ao, at_, ar, ak, .int .u32 ((r0.sn : Nat) : Int), al, .int .u32 ((r0.tn : Nat) : Int), .int .u32 ((r0.prev : Nat) : Int), aq, bo, bt, br, bk, .int .u32 ((r1.sn : Nat) : Int), bl, .int .u32 ((r1.tn : Nat) : Int), .int .u32 ((r1.prev : Nat) : Int), bq] 45)]) (fun bs => [bs 11, bs 13, bs 14, bs 15, bs 16, bs 20, bs 21, bs 17, bs 18, bs 19]) (hKn rfl) (by simp [A0J, A1h]) (show ∀ m ∈ ([[], [], MP, [], [], [], [], [], [], []] : List Mem), ∀ x ∈ m, K x.1 from A7 (fun _ h => by cases h) (A7 (fun _ h => by cases h) (A7 (hKm) (A7 (fun _ h => by cases h) (A7 (fun _ h => by cases h) (A7 (fun _ h => by cases h) (A7 (fun _ h => by cases h) (A7 (fun _ h => by cases h) (A7 (fun _ h => by cases h) (A7 (fun _ h => by cases h) (K9))))))))))) kR (fun _ => by first | rfl | kernel_rfl)
  (A7 (fun _ _ _ _ _ h => h) (A7 (fun _ _ _ _ hR h => ⟨h.1, h.2.mono hR⟩) (A7 (fun _ _ _ _ hR h => ⟨h.1, h.2.mono hR⟩) (A7 (fun _ _ _ _ h ⟨q1, q2, q3, e, p1, p2, p3, p4⟩ => ⟨q1, q2, q3, e, p1, p2.mono h, p3.mono h, p4.mono h⟩) (A7 (fun _ _ _ _ h ⟨e0, q1, q2, q3, e, p2, p3, p4⟩ => ⟨e0, q1, q2, q3, e, p2.mono h, p3.mono h, p4.mono h⟩) (A7 (fun _ _ _ _ h hp => ⟨hp.1, hp.2.mono h⟩) (A7 (fun _ _ _ _ _ h => h) (A7 (fun _ _ _ _ _ h => h) (A7 (fun _ _ _ _ h ⟨e0, q, e, p⟩ => ⟨e0, q, e, p.mono h⟩) (A7 (fun _ _ _ _ hR h => ⟨h.1, h.2.mono hR⟩) (A7 (fun _ _ _ _ _ h => h) (K9)))))))))))) (show List.Nodup [23, 24, 26, 27, 12, 28, 8, 9, 29, 30, 31] by decide) (show List.Nodup [10, 11, 13, 14, 15, 16, 20, 21, 17, 18, 19] by decide) (A7 (C5 rfl) (A7 (C5 rfl) (A7 (C5 rfl) (A7 (C5 rfl) (A7 (C5 rfl) (A7 (C5 rfl) (A7 (C5 rfl) (A7 (C5 rfl) (A7 (C5 rfl) (A7 (C5 rfl) (A7 (C5 rfl) (K9))))))))))))
  hs (List.cons_ne_nil _ _) (A7 ⟨_, rfl, fun vs bs R Rj wG hb hj hjr ha => ⟨.inl rfl, ?_⟩⟩ (A7 ⟨_, rfl, fun vs bs R Rj wG hb hj hjr ha => ⟨.inl rfl, ?_⟩⟩ (A7 ⟨_, rfl, fun vs bs R Rj wG hb hj hjr ha => ⟨.inl rfl, ?_⟩⟩ (A7 ⟨_, rfl, fun vs bs R Rj wG hb hj hjr ha => ⟨.inl rfl, ?_⟩⟩ (A7 ⟨_, rfl, fun vs bs R Rj wG hb hj hjr ha => ⟨.inl rfl, ?_⟩⟩ (A7 ⟨_, rfl, fun vs bs R Rj wG hb hj hjr ha => ⟨.inl rfl, ?_⟩⟩ (A7 ⟨_, rfl, fun vs bs R Rj wG hb hj hjr ha => ⟨.inl rfl, ?_⟩⟩ (A7 ⟨_, rfl, fun vs bs R Rj wG hb hj hjr ha => ⟨.inl rfl, ?_⟩⟩ (K9))))))))) (A7 ⟨rfl, rfl, _, _, _, _, rfl, fun vs bs Rj hj ha => ?_⟩ (A7 ⟨rfl, rfl, _, _, _, _, rfl, fun vs bs Rj hj ha => ?_⟩ (A7 ⟨rfl, rfl, _, _, _, _, rfl, fun vs bs Rj hj ha => ?_⟩ (K9)))) ?_
 ·
  dsimp only [Gc.inp]
  exact C3 (e := 5) (sz := 1) (z := [zu8, zu8, zu8, zu8]) kR (eS rfl (eS rfl (eS rfl (eS rfl e0)))) (bdS 0 1 rfl (by rfl) (bdS 1 1 rfl (by rfl) (bdS 2 1 rfl (by rfl) (bdS 3 1 rfl (by rfl) bd0)))) rfl fun b => ⟨_, rfl, b, rfl, rfl⟩
 ·
  dsimp only [Gc.inp]
  have g10 := ha _ (List.mem_of_getElem? (i := 0) rfl) kR
  replace g10 : (fun v B _ => ∃ b, v = .slice (some ⟨b, 0, none⟩) 4 4 ∧ B = [(b, blk (nums .u8 [119, 105, 116, 104]) 5)]) (vs 10) (bs 10) Rj := g10
  dsimp only at g10
  obtain ⟨b, e, eB⟩ := g10
  dsimp only [Q7, List.map, List.cons_append, List.nil_append]
  rw [e, eB]
  refine OpL.frzAll ?_
  exact A0D rfl kR UpC.upd rfl (fun J2 hJ => ⟨_, rfl, rfl, ⟨Rd.whole (n := 4) (List.mem_append_left _ (hJ _ (List.mem_append_left _ (List.mem_singleton.2 rfl)))) (by rfl), by decide, by decide⟩⟩)
 ·
  dsimp only [Gc.inp]
  refine OpL.frzAll ?_
  refine A0T (e := 5) rfl rfl htx.lt kR kR kR rfl fun v B hs J2 hJ => ⟨_, rfl, rfl, ⟨hs.mono fun x hx => List.mem_append_left _ (hJ _ (by simp [hx])), htx.lt, Nat.le_trans ltx (by decide)⟩⟩
 ·
  dsimp only [Gc.inp]
  have g11 := ha _ (List.mem_of_getElem? (i := 1) rfl) kR
  replace g11 : (fun v B R => B = [] ∧ By R v [119, 105, 116, 104]) (vs 11) (bs 11) Rj := g11
  dsimp only at g11
  have g13 := ha _ (List.mem_of_getElem? (i := 2) rfl) kR
  replace g13 : (fun v B R => B = [] ∧ By R v tx) (vs 13) (bs 13) Rj := g13
  dsimp only at g13
  obtain ⟨-, h11⟩ := g11
  obtain ⟨-, h13⟩ := g13
  haveI := h11.cel
  haveI := h13.cel
  refine E0 (Mc := MP) (R := []) (aS rfl (aS rfl (aS rfl (aS rfl (a0))))) kR (by simp) (FnX.amb (A := Rj) (fun x hx => by have := hjr x hx; simp [this]) (B1w pb s r1 bo bt br bk bl bq _ _ F2 tx MP Rj hP (by omega) (h1.mono (fun x hx => hj x (SubC.sub x hx))) hsk h11 (by decide) h13 ltx (hG.sub (fun x hx => hj x (SubC.sub x hx))))) rfl ?_
  rintro v25 M25 J25 ⟨q1, q2, q3, rfl, hP25, p2, p3, p4⟩
  exact ⟨_, rfl, q1, q2, q3, rfl, by simpa using hP25, p2.mono (fun x hx => by simpa using hx), p3.mono (fun x hx => by simpa using hx), p4.mono (fun x hx => by simpa using hx)⟩
 ·
  dsimp only [Gc.inp]
  have g14 := ha _ (List.mem_of_getElem? (i := 3) rfl) kR
  replace g14 : (fun v B R => ∃ q1 q2 q3, v = .tuple #[q1, .agg #[q2, .int .u32 ((r1.prev : Nat) : Int), .int .u32 ((r1.sn : Nat) : Int)], q3, .int .i64 0] ∧ Prm pb (W3 s r1 F2 tx) B ∧ RsV R q1 (U8 s r1) ∧ By R q2 (I0 s r1.own) ∧ By R q3 (A1d s r1 F2 tx)) (vs 14) (bs 14) Rj := g14
  dsimp only at g14
  obtain ⟨q1, q2, q3, e, -, k⟩ := g14
  exact OpQ.opL qm_ rfl ⟨_, rfl, rfl, q1, q2, q3, e, k⟩
 ·
  dsimp only [Gc.inp]
  have g15 := ha _ (List.mem_of_getElem? (i := 4) rfl) kR
  replace g15 : (fun v B R => B = [] ∧ ∃ q1 q2 q3, v = .tuple #[q1, .agg #[q2, .int .u32 ((r1.prev : Nat) : Int), .int .u32 ((r1.sn : Nat) : Int)], q3, .int .i64 0] ∧ RsV R q1 (U8 s r1) ∧ By R q2 (I0 s r1.own) ∧ By R q3 (A1d s r1 F2 tx)) (vs 15) (bs 15) Rj := g15
  dsimp only at g15
  obtain ⟨-, q1, q2, q3, e, k, -⟩ := g15
  exact OpQ.opL (G7 (vs := #[q1, .agg #[q2, .int .u32 ((r1.prev : Nat) : Int), .int .u32 ((r1.sn : Nat) : Int)], q3, .int .i64 0]) (by rw [← e]; rfl) rfl) rfl ⟨_, rfl, rfl, k⟩
 ·
  dsimp only [Gc.inp]
  exact C4 (cs := [.slice none 0 0, .slice none 0 0, .slice none 0 0, .slice none 0 0, F7, .slice none 0 0, F7, F7, .pointer none]) kR rfl fun b => ⟨_, rfl, b, rfl, rfl⟩
 ·
  dsimp only [Gc.inp]
  exact C4 (cs := [.slice none 0 0, .int .u32 0, .int .u32 0]) kR rfl fun b => ⟨_, rfl, b, rfl, rfl⟩
 ·
  have g15 := ha _ (List.mem_of_getElem? (i := 4) rfl) kR
  replace g15 : (fun v B R => B = [] ∧ ∃ q1 q2 q3, v = .tuple #[q1, .agg #[q2, .int .u32 ((r1.prev : Nat) : Int), .int .u32 ((r1.sn : Nat) : Int)], q3, .int .i64 0] ∧ RsV R q1 (U8 s r1) ∧ By R q2 (I0 s r1.own) ∧ By R q3 (A1d s r1 F2 tx)) (vs 15) (bs 15) Rj := g15
  dsimp only at g15
  obtain ⟨-, q1, q2, q3, e, -, k, -⟩ := g15
  exact ⟨_, G7 (vs := #[q1, .agg #[q2, .int .u32 ((r1.prev : Nat) : Int), .int .u32 ((r1.sn : Nat) : Int)], q3, .int .i64 0]) (by rw [← e]; rfl) rfl, rfl, q2, rfl, k⟩
 ·
  have g15 := ha _ (List.mem_of_getElem? (i := 4) rfl) kR
  replace g15 : (fun v B R => B = [] ∧ ∃ q1 q2 q3, v = .tuple #[q1, .agg #[q2, .int .u32 ((r1.prev : Nat) : Int), .int .u32 ((r1.sn : Nat) : Int)], q3, .int .i64 0] ∧ RsV R q1 (U8 s r1) ∧ By R q2 (I0 s r1.own) ∧ By R q3 (A1d s r1 F2 tx)) (vs 15) (bs 15) Rj := g15
  dsimp only at g15
  obtain ⟨-, q1, q2, q3, e, -, -, k⟩ := g15
  exact ⟨_, G7 (vs := #[q1, .agg #[q2, .int .u32 ((r1.prev : Nat) : Int), .int .u32 ((r1.sn : Nat) : Int)], q3, .int .i64 0]) (by rw [← e]; rfl) rfl, rfl, k⟩
 ·
  have g15 := ha _ (List.mem_of_getElem? (i := 4) rfl) kR
  replace g15 : (fun v B R => B = [] ∧ ∃ q1 q2 q3, v = .tuple #[q1, .agg #[q2, .int .u32 ((r1.prev : Nat) : Int), .int .u32 ((r1.sn : Nat) : Int)], q3, .int .i64 0] ∧ RsV R q1 (U8 s r1) ∧ By R q2 (I0 s r1.own) ∧ By R q3 (A1d s r1 F2 tx)) (vs 15) (bs 15) Rj := g15
  dsimp only at g15
  obtain ⟨-, q1, q2, q3, e, -⟩ := g15
  exact ⟨_, G7 (vs := #[q1, .agg #[q2, .int .u32 ((r1.prev : Nat) : Int), .int .u32 ((r1.sn : Nat) : Int)], q3, .int .i64 0]) (by rw [← e]; rfl) rfl, rfl, rfl⟩
 intro vs bs Jn0 hφ hKK
 have kk10 := hKK _ (List.mem_of_getElem? (i := 0) rfl)
 dsimp only at kk10
 have kk11 := hKK _ (List.mem_of_getElem? (i := 1) rfl)
 dsimp only at kk11
 have kk13 := hKK _ (List.mem_of_getElem? (i := 2) rfl)
 dsimp only at kk13
 have kk14 := hKK _ (List.mem_of_getElem? (i := 3) rfl)
 dsimp only at kk14
 have kk15 := hKK _ (List.mem_of_getElem? (i := 4) rfl)
 dsimp only at kk15
 have kk16 := hKK _ (List.mem_of_getElem? (i := 5) rfl)
 dsimp only at kk16
 have kk20 := hKK _ (List.mem_of_getElem? (i := 6) rfl)
 dsimp only at kk20
 have kk21 := hKK _ (List.mem_of_getElem? (i := 7) rfl)
 dsimp only at kk21
 have kk17 := hKK _ (List.mem_of_getElem? (i := 8) rfl)
 dsimp only at kk17
 have kk18 := hKK _ (List.mem_of_getElem? (i := 9) rfl)
 dsimp only at kk18
 have kk19 := hKK _ (List.mem_of_getElem? (i := 10) rfl)
 dsimp only at kk19
 clear hKK
 have g10 := ofH hφ
 dsimp only at g10
 replace hφ := ofT hφ
 have g11 := ofH hφ
 dsimp only at g11
 replace hφ := ofT hφ
 have g13 := ofH hφ
 dsimp only at g13
 replace hφ := ofT hφ
 have g14 := ofH hφ
 dsimp only at g14
 replace hφ := ofT hφ
 have g15 := ofH hφ
 dsimp only at g15
 replace hφ := ofT hφ
 have g16 := ofH hφ
 dsimp only at g16
 replace hφ := ofT hφ
 have g20 := ofH hφ
 dsimp only at g20
 replace hφ := ofT hφ
 have g21 := ofH hφ
 dsimp only at g21
 replace hφ := ofT hφ
 have g17 := ofH hφ
 dsimp only at g17
 replace hφ := ofT hφ
 have g18 := ofH hφ
 dsimp only at g18
 replace hφ := ofT hφ
 have g19 := ofH hφ
 dsimp only at g19
 clear hφ
 dsimp only [Q7, A0J, List.foldr, List.map, List.cons_append, List.nil_append]
 generalize bs 10 = B23 at *
 generalize bs 11 = B24 at *
 generalize bs 13 = B26 at *
 generalize bs 14 = B27 at *
 generalize bs 15 = B12 at *
 generalize bs 16 = B28 at *
 generalize bs 20 = B8 at *
 generalize bs 21 = B9 at *
 generalize bs 17 = B29 at *
 generalize bs 18 = B30 at *
 generalize bs 19 = B31 at *
 generalize vs 10 = u23 at *
 generalize vs 11 = u24 at *
 generalize vs 13 = u26 at *
 generalize vs 14 = u27 at *
 generalize vs 15 = u12 at *
 generalize vs 16 = u28 at *
 generalize vs 20 = u8 at *
 generalize vs 21 = u9 at *
 generalize vs 17 = u29 at *
 generalize vs 18 = u30 at *
 generalize vs 19 = u31 at *
 obtain ⟨-, -, -, -, hP27, -⟩ := g14
 clear g15
 obtain ⟨b, rfl, rfl⟩ := g10
 obtain ⟨rfl, h24⟩ := g11
 obtain ⟨rfl, h26⟩ := g13
 obtain ⟨rfl, wo, wt, wr, wk, wl, wq, rfl, hn1⟩ := g16
 obtain ⟨rfl, hk_, rfl, h29⟩ := g17
 obtain ⟨rfl, h30⟩ := g18
 obtain ⟨rfl, rfl⟩ := g19
 obtain ⟨b8, rfl, rfl⟩ := g20
 obtain ⟨b9, rfl, rfl⟩ := g21
 haveI := hn1.own.cel
 haveI := hn1.their.cel
 haveI := hn1.root.cel
 haveI := hn1.sk.cel
 haveI := hn1.tk.cel
 haveI := hn1.st.cel
 haveI := h29.cel
 haveI := h30.cel
 unfold rsC
 refine T7 rfl rfl rfl (A9 (vs := [wo, wt, wr, wk, .int .u32 (((U8 s r1).sn : Nat) : Int), wl, .int .u32 (((U8 s r1).tn : Nat) : Int), .int .u32 (((U8 s r1).prev : Nat) : Int), wq]) rfl rfl rfl kR (by rfl) (A7 hn1.own.one (A7 hn1.their.one (A7 hn1.root.one (A7 hn1.sk.one (A7 rfl (A7 hn1.tk.one (A7 rfl (A7 rfl (A7 hn1.st.one K9))))))))) UpC.upd ?_)
 refine T7 rfl rfl rfl (A9 (vs := [hk_, .int .u32 ((r1.prev : Nat) : Int), .int .u32 ((r1.sn : Nat) : Int)]) rfl rfl rfl kR (by rfl) (A7 h29.one al2) UpC.upd ?_)
 refine L6 hs rfl (G9 rfl) rfl ?_
 refine L6 hs rfl (G9 rfl) rfl ?_
 refine Q8 (V7 0 1 2 6 8 9 10 11) (A3 (A1 (mv_ ?_)))
 refine A2 (F0 false rfl rfl (neF rfl)) rfl ?_
 refine A0 (V7 0 1 2 6 8 9 10 33) ?_
 refine D0 rfl ?_
 refine A6 (nx (R9 0 1 2 6 8 9 10) ?_)
 refine C7 [0, 1, 2, 3, 4, 5] (zp 0 [0, 0, 1, 0, 0, 0, 2]) kR kR fun hs => ?_
 refine fm_ hs ?_
 refine fm_ hs ?_
 refine G4 hs rfl (qw_ 9) rfl ?_
 refine C2 hs rfl (E8 rfl) rfl ?_
 refine C2 hs rfl (qf_ 1 1) rfl ?_
 refine C2 hs rfl (C9 (e := 41) (n := 2) (sz := 9) (i := 1) 10 rfl rfl kR kR rfl (by decide) rfl) rfl ?_
 refine F5 rfl rfl rfl (N7 (vs := [wo, wt, wr, wk, .int .u32 (((U8 s r1).sn : Nat) : Int), wl, .int .u32 (((U8 s r1).tn : Nat) : Int), .int .u32 (((U8 s r1).prev : Nat) : Int), wq]) (cs' := [.pointer (some ⟨pb, 0, none⟩), ao, at_, ar, ak, .int .u32 ((r0.sn : Nat) : Int), al, .int .u32 ((r0.tn : Nat) : Int), .int .u32 ((r0.prev : Nat) : Int), aq, wo, wt, wr, wk, .int .u32 (((U8 s r1).sn : Nat) : Int), wl, .int .u32 (((U8 s r1).tn : Nat) : Int), .int .u32 (((U8 s r1).prev : Nat) : Int), wq]) rfl rfl rfl kR (by exact (show 10 + 9 ≤ 19 by decide)) (A7 hn1.own.one (A7 hn1.their.one (A7 hn1.root.one (A7 hn1.sk.one (A7 rfl (A7 hn1.tk.one (A7 rfl (A7 rfl (A7 hn1.st.one K9))))))))) rfl UpC.upd ?_)
 refine E4 (E5 1 2 6 9 10) (A1 (mv_ ?_))
 refine A2 (D8 rfl rfl rfl) rfl ?_
 refine A2 (qw_ 3) rfl ?_
 refine mv_ (mv_ ?_)
 refine A2 (G1 (place := fun x => #[(0, 1), (1, 3), (4, 1), (5, 1)][x]?) (z := [A7a, .slice none 0 0, F7, F7, .slice none 0 0, .string ByteArray.empty]) (fun _ => by kernel_rfl) (eS rfl (eS rfl (eS rfl (eS rfl e0)))) (bdS 0 1 rfl (by rfl) (bdS 1 3 rfl (by rfl) (bdS 4 1 rfl (by rfl) (bdS 5 1 rfl (by rfl) bd0))))) rfl ?_
 refine A4 rfl (A9 (vs := [.int .i64 0, hk_, .int .u32 ((r1.prev : Nat) : Int), .int .u32 ((r1.sn : Nat) : Int), u30, .string (txt tx)]) rfl rfl rfl kR (by rfl) (A7 rfl (A7 h29.one (A7 rfl (A7 rfl (A7 h30.one (A7 rfl K9)))))) UpC.upd ?_)
 refine as_ (A0 (D3 6 7) (B4 ?_))
 exact ⟨_, (tb, blk [.pointer (some ⟨pb, 0, none⟩), ao, at_, ar, ak, .int .u32 ((r0.sn : Nat) : Int), al, .int .u32 ((r0.tn : Nat) : Int), .int .u32 ((r0.prev : Nat) : Int), aq, wo, wt, wr, wk, .int .u32 (((U8 s r1).sn : Nat) : Int), wl, .int .u32 (((U8 s r1).tn : Nat) : Int), .int .u32 (((U8 s r1).prev : Nat) : Int), wq] 45) :: B27, [], A5w (n := 6) rfl rfl rfl kR At.mem (by rfl), Fit.none (Fit.pick (B := [_]) PickC.perm (Fit.last PickC.perm)), ⟨ao, at_, ar, ak, al, aq, wo, wt, wr, wk, wl, wq, B27, rfl, h0.mono SubC.sub, hn1.mono SubC.sub, hP27⟩, hk_, u30, rfl, h29.mono SubC.sub, h30.mono SubC.sub⟩

structure OpnH (s : Ps) (r : Rsd) (hk : List Nat) (hp hn : Nat) : Prop where
  sel : W2 s.ts
  k1 : ∀ k, A5l r.sks hk hn = some k → Kok s k
  s2 : W2 (opD (opB s r hk hp) hn).ts
  k2 : Kok (opD (opB s r hk hp) hn) (A8Z (opB s r hk hp) hn)
theorem B4L {s : Ps} {r : Rsd} {w hk : List Nat} {hp hn : Nat} {g : List Nat} (h : (P6 s r w hk hp hn g).2.2.1 ≠ 0) : (P6 s r w hk hp hn g).2.1 = r ∧ (P6 s r w hk hp hn g).2.2.2 = [] := by
  revert h
  unfold P6
  split
  · split
    · exact fun _ => ⟨rfl, rfl⟩
    · exact fun h => absurd rfl h
  · split
    · exact fun _ => ⟨rfl, rfl⟩
    · split
      · exact fun _ => ⟨rfl, rfl⟩
      · split
        · exact fun _ => ⟨rfl, rfl⟩
        · exact fun h => absurd rfl h
theorem B6Q (tb pb : Nat) (s : Ps) (r0 r1 : Rsd) (vk vg : Value) (hk g lt : List Nat) (hp hn : Nat) (oz : Ps × Rsd × Int × List Nat) (M0 A : Mem) (hPr : Par A tb pb s r0 r1 M0) (hn_ : s.ts.length + 500 ≤ 1000000) (hsn : s.n < 1000000000) (hhk : By A vk hk) (hkl : hk.length ≤ 100000) (hhp : hp < 4294967296) (hhn : hn < 4294967296) (hgg : By A vg g) (hgl : g.length ≤ 10000000) (hO : OpnH s r0 hk hp hn) (hoz : (P6 s r0 F2 hk hp hn g) = oz) (hG : Glb A) : FnX Tryz.prog 10 [.pointer (some ⟨tb, 0, none⟩), .agg #[.int .i64 0, vk, .int .u32 ((hp : Nat) : Int), .int .u32 ((hn : Nat) : Int), vg, .string (txt lt)]] M0 A fun q M J => Par (J ++ A) tb pb oz.1 oz.2.1 r1 M ∧ q = .tuple #[.string (txt oz.2.2.2), .int .i64 oz.2.2.1] := by
 obtain ⟨ao, at_, ar, ak, al, aq, bo, bt, br, bk, bl, bq, MP, rfl, h0, h1, hP⟩ := hPr
 haveI := h0.own.cel
 haveI := h0.their.cel
 haveI := h0.root.cel
 haveI := h0.sk.cel
 haveI := h0.tk.cel
 haveI := h0.st.cel
 haveI := h1.own.cel
 haveI := h1.their.cel
 haveI := h1.root.cel
 haveI := h1.sk.cel
 haveI := h1.tk.cel
 haveI := h1.st.cel
 haveI := hhk.cel
 haveI := hgg.cel
 unfold rsC
 refine FnX.enterZ (N := 43) Tryz.func10 rfl rfl rfl fun w_ => ?_
 refine B0 (D3 0 1) (A1 ?_)
 refine A4 rfl (bx_ fun b3 => ?_)
 refine as_ (as_ (A0 (D3 0 3) ?_))
 refine L7 (MP) (_) true [0, 1, 2, 3, 4, 5, 6, 7, 8, 9, 10, 11, 12, 13, 14, 15, 16, 17, 18, 19, 20, 21, 22, 24, 25] [(0, 0), (1, 0), (2, 0), (3, 1), (4, 0), (5, 0), (6, 1), (7, 0), (8, 0), (9, 0), (10, 1), (13, 0), (14, 1), (15, 0), (16, 1), (11, 8), (12, 8), (17, 8), (18, 8), (19, 8), (22, 8), (20, 9), (21, 10), (23, 2), (24, 0), (25, 0)] kR kR PickC.perm fun hs K n0 hKm hKs hKn => ?_
 refine km_ hs ?_
 refine L6 hs rfl (E8 rfl) rfl ?_
 refine L6 hs rfl (qf_ 0 0) rfl ?_
 refine Y8 hs rfl hKs ql_ ?_
 refine km_ hs ?_
 refine L6 hs rfl (qf_ 0 0) rfl ?_
 refine Y8 hs rfl hKs ql_ ?_
 refine L6 hs rfl (E8 rfl) rfl ?_
 refine L6 hs rfl (qf_ 1 1) rfl ?_
 refine L6 hs rfl (C9 (e := 41) (n := 2) (sz := 9) (i := 0) 1 rfl rfl kR kR rfl (by decide) rfl) rfl ?_
 refine Y8 hs rfl hKs (S9 (n := 9) (vs := [ao, at_, ar, ak, .int .u32 ((r0.sn : Nat) : Int), al, .int .u32 ((r0.tn : Nat) : Int), .int .u32 ((r0.prev : Nat) : Int), aq]) rfl kR At.mem rfl (P7 [.pointer (some ⟨pb, 0, none⟩)] [ao, at_, ar, ak, .int .u32 ((r0.sn : Nat) : Int), al, .int .u32 ((r0.tn : Nat) : Int), .int .u32 ((r0.prev : Nat) : Int), aq] [bo, bt, br, bk, .int .u32 ((r1.sn : Nat) : Int), bl, .int .u32 ((r1.tn : Nat) : Int), .int .u32 ((r1.prev : Nat) : Int), bq])) ?_
 refine L6 hs rfl (qf_ 1 1) rfl ?_
 refine Y8 hs rfl hKs (S9 (n := 3) (vs := [vk, .int .u32 ((hp : Nat) : Int), .int .u32 ((hn : Nat) : Int)]) rfl kR At.mem rfl (P7 [.int .i64 0] [vk, .int .u32 ((hp : Nat) : Int), .int .u32 ((hn : Nat) : Int)] [vg, .string (txt lt)])) ?_
 refine L6 hs rfl (qf_ 4 4) rfl ?_
 refine Y8 hs rfl hKs ql_ ?_
 refine A02 [⟨11, 21, none, [], fun v B _ => ∃ b, v = .slice (some ⟨b, 0, none⟩) 4 4 ∧ B = [(b, blk (nums .u8 [119, 105, 116, 104]) 5)]⟩, ⟨12, 22, some 11, [], fun v B R => B = [] ∧ By R v [119, 105, 116, 104]⟩, ⟨17, 27, none, MP, fun v B R => ∃ q1 q2, v = .tuple #[q1, q2, .int .i64 oz.2.2.1] ∧ Prm pb oz.1 B ∧ RsV R q1 oz.2.1 ∧ By R q2 oz.2.2.2⟩, ⟨18, 9, none, [], fun v B R => B = [] ∧ ∃ q1 q2, v = .tuple #[q1, q2, .int .i64 oz.2.2.1] ∧ RsV R q1 oz.2.1 ∧ By R q2 oz.2.2.2⟩, ⟨19, 28, none, [], fun v B R => B = [] ∧ RsV R v oz.2.1⟩, ⟨22, 6, none, [], fun v B _ => ∃ b, v = .pointer (some ⟨b, 0, none⟩) ∧ B = [(b, blk [.slice none 0 0, .slice none 0 0, .slice none 0 0, .slice none 0 0, .int .u32 0, .slice none 0 0, .int .u32 0, .int .u32 0, .pointer none] 41)]⟩] [⟨20, 29, none, [], fun v B R => B = [] ∧ By R v oz.2.2.2⟩, ⟨21, 30, none, [], fun v B R => B = [] ∧ v = .int .i64 oz.2.2.1⟩] ([(b3, blk [.int .i64 0, vk, .int .u32 ((hp : Nat) : Int), .int .u32 ((hn : Nat) : Int), vg, .string (txt lt)] 31), (tb, blk [.pointer (some ⟨pb, 0, none⟩), ao, at_, ar, ak, .int .u32 ((r0.sn : Nat) : Int), al, .int .u32 ((r0.tn : Nat) : Int), .int .u32 ((r0.prev : Nat) : Int), aq, bo, bt, br, bk, .int .u32 ((r1.sn : Nat) : Int), bl, .int .u32 ((r1.tn : Nat) : Int), .int .u32 ((r1.prev : Nat) : Int), bq] 45)]) (fun bs => [bs 12, bs 17, bs 18, bs 19, bs 22, bs 20, bs 21]) (hKn rfl) (by simp [A0J, A1h]) (show ∀ m ∈ ([[], MP, [], [], [], [], []] : List Mem), ∀ x ∈ m, K x.1 from A7 (fun _ h => by cases h) (A7 (hKm) (A7 (fun _ h => by cases h) (A7 (fun _ h => by cases h) (A7 (fun _ h => by cases h) (A7 (fun _ h => by cases h) (A7 (fun _ h => by cases h) (K9)))))))) kR (fun _ => by first | rfl | kernel_rfl)
  (A7 (fun _ _ _ _ _ h => h) (A7 (fun _ _ _ _ hR h => ⟨h.1, h.2.mono hR⟩) (A7 (fun _ _ _ _ h ⟨q1, q2, e, p1, p2, p3⟩ => ⟨q1, q2, e, p1, p2.mono h, p3.mono h⟩) (A7 (fun _ _ _ _ h ⟨e0, q1, q2, e, p2, p3⟩ => ⟨e0, q1, q2, e, p2.mono h, p3.mono h⟩) (A7 (fun _ _ _ _ h hp => ⟨hp.1, hp.2.mono h⟩) (A7 (fun _ _ _ _ _ h => h) (A7 (fun _ _ _ _ hR h => ⟨h.1, h.2.mono hR⟩) (A7 (fun _ _ _ _ _ h => h) (K9))))))))) (show List.Nodup [21, 22, 27, 9, 28, 6, 29, 30] by decide) (show List.Nodup [11, 12, 17, 18, 19, 22, 20, 21] by decide) (A7 (C5 rfl) (A7 (C5 rfl) (A7 (C5 rfl) (A7 (C5 rfl) (A7 (C5 rfl) (A7 (C5 rfl) (A7 (C5 rfl) (A7 (C5 rfl) (K9)))))))))
  hs (List.cons_ne_nil _ _) (A7 ⟨_, rfl, fun vs bs R Rj wG hb hj hjr ha => ⟨.inl rfl, ?_⟩⟩ (A7 ⟨_, rfl, fun vs bs R Rj wG hb hj hjr ha => ⟨.inl rfl, ?_⟩⟩ (A7 ⟨_, rfl, fun vs bs R Rj wG hb hj hjr ha => ⟨.inl rfl, ?_⟩⟩ (A7 ⟨_, rfl, fun vs bs R Rj wG hb hj hjr ha => ⟨.inl rfl, ?_⟩⟩ (A7 ⟨_, rfl, fun vs bs R Rj wG hb hj hjr ha => ⟨.inl rfl, ?_⟩⟩ (A7 ⟨_, rfl, fun vs bs R Rj wG hb hj hjr ha => ⟨.inl rfl, ?_⟩⟩ (K9))))))) (A7 ⟨rfl, rfl, _, _, _, _, rfl, fun vs bs Rj hj ha => ?_⟩ (A7 ⟨rfl, rfl, _, _, _, _, rfl, fun vs bs Rj hj ha => ?_⟩ (K9))) ?_
 ·
  dsimp only [Gc.inp]
  exact C3 (e := 5) (sz := 1) (z := [zu8, zu8, zu8, zu8]) kR (eS rfl (eS rfl (eS rfl (eS rfl e0)))) (bdS 0 1 rfl (by rfl) (bdS 1 1 rfl (by rfl) (bdS 2 1 rfl (by rfl) (bdS 3 1 rfl (by rfl) bd0)))) rfl fun b => ⟨_, rfl, b, rfl, rfl⟩
 ·
  dsimp only [Gc.inp]
  have g11 := ha _ (List.mem_of_getElem? (i := 0) rfl) kR
  replace g11 : (fun v B _ => ∃ b, v = .slice (some ⟨b, 0, none⟩) 4 4 ∧ B = [(b, blk (nums .u8 [119, 105, 116, 104]) 5)]) (vs 11) (bs 11) Rj := g11
  dsimp only at g11
  obtain ⟨b, e, eB⟩ := g11
  dsimp only [Q7, List.map, List.cons_append, List.nil_append]
  rw [e, eB]
  refine OpL.frzAll ?_
  exact A0D rfl kR UpC.upd rfl (fun J2 hJ => ⟨_, rfl, rfl, ⟨Rd.whole (n := 4) (List.mem_append_left _ (hJ _ (List.mem_append_left _ (List.mem_singleton.2 rfl)))) (by rfl), by decide, by decide⟩⟩)
 ·
  dsimp only [Gc.inp]
  have g12 := ha _ (List.mem_of_getElem? (i := 1) rfl) kR
  replace g12 : (fun v B R => B = [] ∧ By R v [119, 105, 116, 104]) (vs 12) (bs 12) Rj := g12
  dsimp only at g12
  obtain ⟨-, h12⟩ := g12
  haveI := h12.cel
  refine E0 (Mc := MP) (R := []) (aS rfl (aS rfl (aS rfl (aS rfl (aS rfl (a0)))))) kR (by simp) (FnX.amb (A := Rj) (fun x hx => by have := hjr x hx; simp [this]) (B1F pb s r0 ao at_ ar ak al aq _ vk vg F2 hk g hp hn MP Rj hP hn_ hsn (h0.mono (fun x hx => hj x (SubC.sub x hx))) h12 (hhk.mono (fun x hx => hj x (SubC.sub x hx))) (by show 4 + hk.length ≤ 1000000; omega) hhp hhn (hgg.mono (fun x hx => hj x (SubC.sub x hx))) hgl hO.sel hO.k1 hO.s2 hO.k2 (hG.sub (fun x hx => hj x (SubC.sub x hx))))) rfl ?_
  rintro v27 M27 J27 ⟨q1, q2, rfl, hP27, p2, p3⟩
  rw [hoz] at hP27 p2 p3 ⊢
  exact ⟨_, rfl, q1, q2, rfl, by simpa using hP27, p2.mono (fun x hx => by simpa using hx), p3.mono (fun x hx => by simpa using hx)⟩
 ·
  dsimp only [Gc.inp]
  have g17 := ha _ (List.mem_of_getElem? (i := 2) rfl) kR
  replace g17 : (fun v B R => ∃ q1 q2, v = .tuple #[q1, q2, .int .i64 oz.2.2.1] ∧ Prm pb oz.1 B ∧ RsV R q1 oz.2.1 ∧ By R q2 oz.2.2.2) (vs 17) (bs 17) Rj := g17
  dsimp only at g17
  obtain ⟨q1, q2, e, -, k⟩ := g17
  exact OpQ.opL qm_ rfl ⟨_, rfl, rfl, q1, q2, e, k⟩
 ·
  dsimp only [Gc.inp]
  have g18 := ha _ (List.mem_of_getElem? (i := 3) rfl) kR
  replace g18 : (fun v B R => B = [] ∧ ∃ q1 q2, v = .tuple #[q1, q2, .int .i64 oz.2.2.1] ∧ RsV R q1 oz.2.1 ∧ By R q2 oz.2.2.2) (vs 18) (bs 18) Rj := g18
  dsimp only at g18
  obtain ⟨-, q1, q2, e, k, -⟩ := g18
  exact OpQ.opL (G7 (vs := #[q1, q2, .int .i64 oz.2.2.1]) (by rw [← e]; rfl) rfl) rfl ⟨_, rfl, rfl, k⟩
 ·
  dsimp only [Gc.inp]
  exact C4 (cs := [.slice none 0 0, .slice none 0 0, .slice none 0 0, .slice none 0 0, F7, .slice none 0 0, F7, F7, .pointer none]) kR rfl fun b => ⟨_, rfl, b, rfl, rfl⟩
 ·
  have g18 := ha _ (List.mem_of_getElem? (i := 3) rfl) kR
  replace g18 : (fun v B R => B = [] ∧ ∃ q1 q2, v = .tuple #[q1, q2, .int .i64 oz.2.2.1] ∧ RsV R q1 oz.2.1 ∧ By R q2 oz.2.2.2) (vs 18) (bs 18) Rj := g18
  dsimp only at g18
  obtain ⟨-, q1, q2, e, -, k⟩ := g18
  exact ⟨_, G7 (vs := #[q1, q2, .int .i64 oz.2.2.1]) (by rw [← e]; rfl) rfl, rfl, k⟩
 ·
  have g18 := ha _ (List.mem_of_getElem? (i := 3) rfl) kR
  replace g18 : (fun v B R => B = [] ∧ ∃ q1 q2, v = .tuple #[q1, q2, .int .i64 oz.2.2.1] ∧ RsV R q1 oz.2.1 ∧ By R q2 oz.2.2.2) (vs 18) (bs 18) Rj := g18
  dsimp only at g18
  obtain ⟨-, q1, q2, e, -⟩ := g18
  exact ⟨_, G7 (vs := #[q1, q2, .int .i64 oz.2.2.1]) (by rw [← e]; rfl) rfl, rfl, rfl⟩
 intro vs bs Jn0 hφ hKK
 have kk11 := hKK _ (List.mem_of_getElem? (i := 0) rfl)
 dsimp only at kk11
 have kk12 := hKK _ (List.mem_of_getElem? (i := 1) rfl)
 dsimp only at kk12
 have kk17 := hKK _ (List.mem_of_getElem? (i := 2) rfl)
 dsimp only at kk17
 have kk18 := hKK _ (List.mem_of_getElem? (i := 3) rfl)
 dsimp only at kk18
 have kk19 := hKK _ (List.mem_of_getElem? (i := 4) rfl)
 dsimp only at kk19
 have kk22 := hKK _ (List.mem_of_getElem? (i := 5) rfl)
 dsimp only at kk22
 have kk20 := hKK _ (List.mem_of_getElem? (i := 6) rfl)
 dsimp only at kk20
 have kk21 := hKK _ (List.mem_of_getElem? (i := 7) rfl)
 dsimp only at kk21
 clear hKK
 have g11 := ofH hφ
 dsimp only at g11
 replace hφ := ofT hφ
 have g12 := ofH hφ
 dsimp only at g12
 replace hφ := ofT hφ
 have g17 := ofH hφ
 dsimp only at g17
 replace hφ := ofT hφ
 have g18 := ofH hφ
 dsimp only at g18
 replace hφ := ofT hφ
 have g19 := ofH hφ
 dsimp only at g19
 replace hφ := ofT hφ
 have g22 := ofH hφ
 dsimp only at g22
 replace hφ := ofT hφ
 have g20 := ofH hφ
 dsimp only at g20
 replace hφ := ofT hφ
 have g21 := ofH hφ
 dsimp only at g21
 clear hφ
 dsimp only [Q7, A0J, List.foldr, List.map, List.cons_append, List.nil_append]
 generalize bs 11 = B21 at *
 generalize bs 12 = B22 at *
 generalize bs 17 = B27 at *
 generalize bs 18 = B9 at *
 generalize bs 19 = B28 at *
 generalize bs 22 = B6 at *
 generalize bs 20 = B29 at *
 generalize bs 21 = B30 at *
 generalize vs 11 = u21 at *
 generalize vs 12 = u22 at *
 generalize vs 17 = u27 at *
 generalize vs 18 = u9 at *
 generalize vs 19 = u28 at *
 generalize vs 22 = u6 at *
 generalize vs 20 = u29 at *
 generalize vs 21 = u30 at *
 obtain ⟨-, -, -, hP27, -⟩ := g17
 clear g18
 obtain ⟨b, rfl, rfl⟩ := g11
 obtain ⟨rfl, h22⟩ := g12
 obtain ⟨rfl, wo, wt, wr, wk, wl, wq, rfl, hn1⟩ := g19
 obtain ⟨rfl, h29⟩ := g20
 obtain ⟨rfl, rfl⟩ := g21
 obtain ⟨b6, rfl, rfl⟩ := g22
 haveI := hn1.own.cel
 haveI := hn1.their.cel
 haveI := hn1.root.cel
 haveI := hn1.sk.cel
 haveI := hn1.tk.cel
 haveI := hn1.st.cel
 haveI := h29.cel
 unfold rsC
 refine T7 rfl rfl rfl (A9 (vs := [wo, wt, wr, wk, .int .u32 ((oz.2.1.sn : Nat) : Int), wl, .int .u32 ((oz.2.1.tn : Nat) : Int), .int .u32 ((oz.2.1.prev : Nat) : Int), wq]) rfl rfl rfl kR (by rfl) (A7 hn1.own.one (A7 hn1.their.one (A7 hn1.root.one (A7 hn1.sk.one (A7 rfl (A7 hn1.tk.one (A7 rfl (A7 rfl (A7 hn1.st.one K9))))))))) UpC.upd ?_)
 refine L6 hs rfl (G9 rfl) rfl ?_
 refine L6 hs rfl (G9 rfl) rfl ?_
 refine Q8 (E5 0 3 6 7 8) (A3 (A1 (mv_ ?_)))
 refine A2 (D8 rfl rfl rfl) rfl ?_
 refine A0 (H9 0 3 6 7 8 32) ?_
 refine C0 rfl (fun hc => ?_) (fun hc => ?_)
 ·
  refine F9 (.range 7) (zp 0 [0, 0, 1, 1, 0, 0, 0, 2]) kR kR fun hs => ?_
  refine fm_ hs ?_
  refine C2 hs rfl (qf_ 0 0) rfl ?_
  refine G4 hs rfl ql_ rfl ?_
  refine G4 hs rfl (qw_ 9) rfl ?_
  refine C2 hs rfl (E8 rfl) rfl ?_
  refine C2 hs rfl (qf_ 1 1) rfl ?_
  refine C2 hs rfl (C9 (e := 41) (n := 2) (sz := 9) (i := 0) 1 rfl rfl kR kR rfl (by decide) rfl) rfl ?_
  refine F5 rfl rfl rfl (N7 (vs := [wo, wt, wr, wk, .int .u32 ((oz.2.1.sn : Nat) : Int), wl, .int .u32 ((oz.2.1.tn : Nat) : Int), .int .u32 ((oz.2.1.prev : Nat) : Int), wq]) (cs' := [.pointer (some ⟨pb, 0, none⟩), wo, wt, wr, wk, .int .u32 ((oz.2.1.sn : Nat) : Int), wl, .int .u32 ((oz.2.1.tn : Nat) : Int), .int .u32 ((oz.2.1.prev : Nat) : Int), wq, bo, bt, br, bk, .int .u32 ((r1.sn : Nat) : Int), bl, .int .u32 ((r1.tn : Nat) : Int), .int .u32 ((r1.prev : Nat) : Int), bq]) rfl rfl rfl kR (by exact (show 1 + 9 ≤ 19 by decide)) (A7 hn1.own.one (A7 hn1.their.one (A7 hn1.root.one (A7 hn1.sk.one (A7 rfl (A7 hn1.tk.one (A7 rfl (A7 rfl (A7 hn1.st.one K9))))))))) rfl UpC.upd ?_)
  refine E4 (D3 7 8) (A1 (mv_ ?_))
  refine A2 (T9 rfl kR (h29.rd.mono SubC.sub)) rfl ?_
  refine mv_ (as_ (as_ (A0 (D3 4 5) (B4 ?_))))
  exact ⟨_, (tb, blk [.pointer (some ⟨pb, 0, none⟩), wo, wt, wr, wk, .int .u32 ((oz.2.1.sn : Nat) : Int), wl, .int .u32 ((oz.2.1.tn : Nat) : Int), .int .u32 ((oz.2.1.prev : Nat) : Int), wq, bo, bt, br, bk, .int .u32 ((r1.sn : Nat) : Int), bl, .int .u32 ((r1.tn : Nat) : Int), .int .u32 ((r1.prev : Nat) : Int), bq] 45) :: B27, [], A19 rfl rfl rfl, Fit.none (Fit.pick (B := [_]) PickC.perm (Fit.last PickC.perm)), ⟨wo, wt, wr, wk, wl, wq, bo, bt, br, bk, bl, bq, B27, rfl, hn1.mono SubC.sub, h1.mono SubC.sub, hP27⟩, rfl⟩
 ·
  have he0 : oz.2.2.1 ≠ 0 := by intro e; rw [e] at hc; simp [I2] at hc
  have hre : oz.2.1 = r0 := by have h := B4L (hoz ▸ he0); rw [hoz] at h; exact h.1
  rw [hre]
  refine A6 (nx (D3 7 8) (A1 (mv_ ?_)))
  refine A2 (T9 rfl kR (h29.rd.mono SubC.sub)) rfl ?_
  refine mv_ (as_ (as_ (A0 (D3 4 5) (B4 ?_))))
  exact ⟨_, (tb, blk [.pointer (some ⟨pb, 0, none⟩), ao, at_, ar, ak, .int .u32 ((r0.sn : Nat) : Int), al, .int .u32 ((r0.tn : Nat) : Int), .int .u32 ((r0.prev : Nat) : Int), aq, bo, bt, br, bk, .int .u32 ((r1.sn : Nat) : Int), bl, .int .u32 ((r1.tn : Nat) : Int), .int .u32 ((r1.prev : Nat) : Int), bq] 45) :: B27, [], A19 rfl rfl rfl, Fit.none (Fit.pick (B := [_]) PickC.perm (Fit.last PickC.perm)), ⟨ao, at_, ar, ak, al, aq, bo, bt, br, bk, bl, bq, B27, rfl, h0.mono SubC.sub, h1.mono SubC.sub, hP27⟩, rfl⟩
theorem B1H (tb pb : Nat) (s : Ps) (r0 r1 : Rsd) (vk vg : Value) (hk g lt : List Nat) (hp hn : Nat) (oz : Ps × Rsd × Int × List Nat) (M0 A : Mem) (hPr : Par A tb pb s r0 r1 M0) (hn_ : s.ts.length + 500 ≤ 1000000) (hsn : s.n < 1000000000) (hhk : By A vk hk) (hkl : hk.length ≤ 100000) (hhp : hp < 4294967296) (hhn : hn < 4294967296) (hgg : By A vg g) (hgl : g.length ≤ 10000000) (hO : OpnH s r1 hk hp hn) (hoz : (P6 s r1 F2 hk hp hn g) = oz) (hG : Glb A) : FnX Tryz.prog 10 [.pointer (some ⟨tb, 0, none⟩), .agg #[.int .i64 1, vk, .int .u32 ((hp : Nat) : Int), .int .u32 ((hn : Nat) : Int), vg, .string (txt lt)]] M0 A fun q M J => Par (J ++ A) tb pb oz.1 r0 oz.2.1 M ∧ q = .tuple #[.string (txt oz.2.2.2), .int .i64 oz.2.2.1] := by
 obtain ⟨ao, at_, ar, ak, al, aq, bo, bt, br, bk, bl, bq, MP, rfl, h0, h1, hP⟩ := hPr
 haveI := h0.own.cel
 haveI := h0.their.cel
 haveI := h0.root.cel
 haveI := h0.sk.cel
 haveI := h0.tk.cel
 haveI := h0.st.cel
 haveI := h1.own.cel
 haveI := h1.their.cel
 haveI := h1.root.cel
 haveI := h1.sk.cel
 haveI := h1.tk.cel
 haveI := h1.st.cel
 haveI := hhk.cel
 haveI := hgg.cel
 unfold rsC
 refine FnX.enterZ (N := 43) Tryz.func10 rfl rfl rfl fun w_ => ?_
 refine B0 (D3 0 1) (A1 ?_)
 refine A4 rfl (bx_ fun b3 => ?_)
 refine as_ (as_ (A0 (D3 0 3) ?_))
 refine L7 (MP) (_) true [0, 1, 2, 3, 4, 5, 6, 7, 8, 9, 10, 11, 12, 13, 14, 15, 16, 17, 18, 19, 20, 21, 22, 24, 25] [(0, 0), (1, 0), (2, 0), (3, 1), (4, 0), (5, 0), (6, 1), (7, 0), (8, 0), (9, 0), (10, 1), (13, 0), (14, 1), (15, 0), (16, 1), (11, 8), (12, 8), (17, 8), (18, 8), (19, 8), (22, 8), (20, 9), (21, 10), (23, 2), (24, 0), (25, 0)] kR kR PickC.perm fun hs K n0 hKm hKs hKn => ?_
 refine km_ hs ?_
 refine L6 hs rfl (E8 rfl) rfl ?_
 refine L6 hs rfl (qf_ 0 0) rfl ?_
 refine Y8 hs rfl hKs ql_ ?_
 refine km_ hs ?_
 refine L6 hs rfl (qf_ 0 0) rfl ?_
 refine Y8 hs rfl hKs ql_ ?_
 refine L6 hs rfl (E8 rfl) rfl ?_
 refine L6 hs rfl (qf_ 1 1) rfl ?_
 refine L6 hs rfl (C9 (e := 41) (n := 2) (sz := 9) (i := 1) 10 rfl rfl kR kR rfl (by decide) rfl) rfl ?_
 refine Y8 hs rfl hKs (S9 (n := 9) (vs := [bo, bt, br, bk, .int .u32 ((r1.sn : Nat) : Int), bl, .int .u32 ((r1.tn : Nat) : Int), .int .u32 ((r1.prev : Nat) : Int), bq]) rfl kR At.mem rfl (P7 [.pointer (some ⟨pb, 0, none⟩), ao, at_, ar, ak, .int .u32 ((r0.sn : Nat) : Int), al, .int .u32 ((r0.tn : Nat) : Int), .int .u32 ((r0.prev : Nat) : Int), aq] [bo, bt, br, bk, .int .u32 ((r1.sn : Nat) : Int), bl, .int .u32 ((r1.tn : Nat) : Int), .int .u32 ((r1.prev : Nat) : Int), bq] [])) ?_
 refine L6 hs rfl (qf_ 1 1) rfl ?_
 refine Y8 hs rfl hKs (S9 (n := 3) (vs := [vk, .int .u32 ((hp : Nat) : Int), .int .u32 ((hn : Nat) : Int)]) rfl kR At.mem rfl (P7 [.int .i64 1] [vk, .int .u32 ((hp : Nat) : Int), .int .u32 ((hn : Nat) : Int)] [vg, .string (txt lt)])) ?_
 refine L6 hs rfl (qf_ 4 4) rfl ?_
 refine Y8 hs rfl hKs ql_ ?_
 refine A02 [⟨11, 21, none, [], fun v B _ => ∃ b, v = .slice (some ⟨b, 0, none⟩) 4 4 ∧ B = [(b, blk (nums .u8 [119, 105, 116, 104]) 5)]⟩, ⟨12, 22, some 11, [], fun v B R => B = [] ∧ By R v [119, 105, 116, 104]⟩, ⟨17, 27, none, MP, fun v B R => ∃ q1 q2, v = .tuple #[q1, q2, .int .i64 oz.2.2.1] ∧ Prm pb oz.1 B ∧ RsV R q1 oz.2.1 ∧ By R q2 oz.2.2.2⟩, ⟨18, 9, none, [], fun v B R => B = [] ∧ ∃ q1 q2, v = .tuple #[q1, q2, .int .i64 oz.2.2.1] ∧ RsV R q1 oz.2.1 ∧ By R q2 oz.2.2.2⟩, ⟨19, 28, none, [], fun v B R => B = [] ∧ RsV R v oz.2.1⟩, ⟨22, 6, none, [], fun v B _ => ∃ b, v = .pointer (some ⟨b, 0, none⟩) ∧ B = [(b, blk [.slice none 0 0, .slice none 0 0, .slice none 0 0, .slice none 0 0, .int .u32 0, .slice none 0 0, .int .u32 0, .int .u32 0, .pointer none] 41)]⟩] [⟨20, 29, none, [], fun v B R => B = [] ∧ By R v oz.2.2.2⟩, ⟨21, 30, none, [], fun v B R => B = [] ∧ v = .int .i64 oz.2.2.1⟩] ([(b3, blk [.int .i64 1, vk, .int .u32 ((hp : Nat) : Int), .int .u32 ((hn : Nat) : Int), vg, .string (txt lt)] 31), (tb, blk [.pointer (some ⟨pb, 0, none⟩), ao, at_, ar, ak, .int .u32 ((r0.sn : Nat) : Int), al, .int .u32 ((r0.tn : Nat) : Int), .int .u32 ((r0.prev : Nat) : Int), aq, bo, bt, br, bk, .int .u32 ((r1.sn : Nat) : Int), bl, .int .u32 ((r1.tn : Nat) : Int), .int .u32 ((r1.prev : Nat) : Int), bq] 45)]) (fun bs => [bs 12, bs 17, bs 18, bs 19, bs 22, bs 20, bs 21]) (hKn rfl) (by simp [A0J, A1h]) (show ∀ m ∈ ([[], MP, [], [], [], [], []] : List Mem), ∀ x ∈ m, K x.1 from A7 (fun _ h => by cases h) (A7 (hKm) (A7 (fun _ h => by cases h) (A7 (fun _ h => by cases h) (A7 (fun _ h => by cases h) (A7 (fun _ h => by cases h) (A7 (fun _ h => by cases h) (K9)))))))) kR (fun _ => by first | rfl | kernel_rfl)
  (A7 (fun _ _ _ _ _ h => h) (A7 (fun _ _ _ _ hR h => ⟨h.1, h.2.mono hR⟩) (A7 (fun _ _ _ _ h ⟨q1, q2, e, p1, p2, p3⟩ => ⟨q1, q2, e, p1, p2.mono h, p3.mono h⟩) (A7 (fun _ _ _ _ h ⟨e0, q1, q2, e, p2, p3⟩ => ⟨e0, q1, q2, e, p2.mono h, p3.mono h⟩) (A7 (fun _ _ _ _ h hp => ⟨hp.1, hp.2.mono h⟩) (A7 (fun _ _ _ _ _ h => h) (A7 (fun _ _ _ _ hR h => ⟨h.1, h.2.mono hR⟩) (A7 (fun _ _ _ _ _ h => h) (K9))))))))) (show List.Nodup [21, 22, 27, 9, 28, 6, 29, 30] by decide) (show List.Nodup [11, 12, 17, 18, 19, 22, 20, 21] by decide) (A7 (C5 rfl) (A7 (C5 rfl) (A7 (C5 rfl) (A7 (C5 rfl) (A7 (C5 rfl) (A7 (C5 rfl) (A7 (C5 rfl) (A7 (C5 rfl) (K9)))))))))
  hs (List.cons_ne_nil _ _) (A7 ⟨_, rfl, fun vs bs R Rj wG hb hj hjr ha => ⟨.inl rfl, ?_⟩⟩ (A7 ⟨_, rfl, fun vs bs R Rj wG hb hj hjr ha => ⟨.inl rfl, ?_⟩⟩ (A7 ⟨_, rfl, fun vs bs R Rj wG hb hj hjr ha => ⟨.inl rfl, ?_⟩⟩ (A7 ⟨_, rfl, fun vs bs R Rj wG hb hj hjr ha => ⟨.inl rfl, ?_⟩⟩ (A7 ⟨_, rfl, fun vs bs R Rj wG hb hj hjr ha => ⟨.inl rfl, ?_⟩⟩ (A7 ⟨_, rfl, fun vs bs R Rj wG hb hj hjr ha => ⟨.inl rfl, ?_⟩⟩ (K9))))))) (A7 ⟨rfl, rfl, _, _, _, _, rfl, fun vs bs Rj hj ha => ?_⟩ (A7 ⟨rfl, rfl, _, _, _, _, rfl, fun vs bs Rj hj ha => ?_⟩ (K9))) ?_
 ·
  dsimp only [Gc.inp]
  exact C3 (e := 5) (sz := 1) (z := [zu8, zu8, zu8, zu8]) kR (eS rfl (eS rfl (eS rfl (eS rfl e0)))) (bdS 0 1 rfl (by rfl) (bdS 1 1 rfl (by rfl) (bdS 2 1 rfl (by rfl) (bdS 3 1 rfl (by rfl) bd0)))) rfl fun b => ⟨_, rfl, b, rfl, rfl⟩
 ·
  dsimp only [Gc.inp]
  have g11 := ha _ (List.mem_of_getElem? (i := 0) rfl) kR
  replace g11 : (fun v B _ => ∃ b, v = .slice (some ⟨b, 0, none⟩) 4 4 ∧ B = [(b, blk (nums .u8 [119, 105, 116, 104]) 5)]) (vs 11) (bs 11) Rj := g11
  dsimp only at g11
  obtain ⟨b, e, eB⟩ := g11
  dsimp only [Q7, List.map, List.cons_append, List.nil_append]
  rw [e, eB]
  refine OpL.frzAll ?_
  exact A0D rfl kR UpC.upd rfl (fun J2 hJ => ⟨_, rfl, rfl, ⟨Rd.whole (n := 4) (List.mem_append_left _ (hJ _ (List.mem_append_left _ (List.mem_singleton.2 rfl)))) (by rfl), by decide, by decide⟩⟩)
 ·
  dsimp only [Gc.inp]
  have g12 := ha _ (List.mem_of_getElem? (i := 1) rfl) kR
  replace g12 : (fun v B R => B = [] ∧ By R v [119, 105, 116, 104]) (vs 12) (bs 12) Rj := g12
  dsimp only at g12
  obtain ⟨-, h12⟩ := g12
  haveI := h12.cel
  refine E0 (Mc := MP) (R := []) (aS rfl (aS rfl (aS rfl (aS rfl (aS rfl (a0)))))) kR (by simp) (FnX.amb (A := Rj) (fun x hx => by have := hjr x hx; simp [this]) (B1F pb s r1 bo bt br bk bl bq _ vk vg F2 hk g hp hn MP Rj hP hn_ hsn (h1.mono (fun x hx => hj x (SubC.sub x hx))) h12 (hhk.mono (fun x hx => hj x (SubC.sub x hx))) (by show 4 + hk.length ≤ 1000000; omega) hhp hhn (hgg.mono (fun x hx => hj x (SubC.sub x hx))) hgl hO.sel hO.k1 hO.s2 hO.k2 (hG.sub (fun x hx => hj x (SubC.sub x hx))))) rfl ?_
  rintro v27 M27 J27 ⟨q1, q2, rfl, hP27, p2, p3⟩
  rw [hoz] at hP27 p2 p3 ⊢
  exact ⟨_, rfl, q1, q2, rfl, by simpa using hP27, p2.mono (fun x hx => by simpa using hx), p3.mono (fun x hx => by simpa using hx)⟩
 ·
  dsimp only [Gc.inp]
  have g17 := ha _ (List.mem_of_getElem? (i := 2) rfl) kR
  replace g17 : (fun v B R => ∃ q1 q2, v = .tuple #[q1, q2, .int .i64 oz.2.2.1] ∧ Prm pb oz.1 B ∧ RsV R q1 oz.2.1 ∧ By R q2 oz.2.2.2) (vs 17) (bs 17) Rj := g17
  dsimp only at g17
  obtain ⟨q1, q2, e, -, k⟩ := g17
  exact OpQ.opL qm_ rfl ⟨_, rfl, rfl, q1, q2, e, k⟩
 ·
  dsimp only [Gc.inp]
  have g18 := ha _ (List.mem_of_getElem? (i := 3) rfl) kR
  replace g18 : (fun v B R => B = [] ∧ ∃ q1 q2, v = .tuple #[q1, q2, .int .i64 oz.2.2.1] ∧ RsV R q1 oz.2.1 ∧ By R q2 oz.2.2.2) (vs 18) (bs 18) Rj := g18
  dsimp only at g18
  obtain ⟨-, q1, q2, e, k, -⟩ := g18
  exact OpQ.opL (G7 (vs := #[q1, q2, .int .i64 oz.2.2.1]) (by rw [← e]; rfl) rfl) rfl ⟨_, rfl, rfl, k⟩
 ·
  dsimp only [Gc.inp]
  exact C4 (cs := [.slice none 0 0, .slice none 0 0, .slice none 0 0, .slice none 0 0, F7, .slice none 0 0, F7, F7, .pointer none]) kR rfl fun b => ⟨_, rfl, b, rfl, rfl⟩
 ·
  have g18 := ha _ (List.mem_of_getElem? (i := 3) rfl) kR
  replace g18 : (fun v B R => B = [] ∧ ∃ q1 q2, v = .tuple #[q1, q2, .int .i64 oz.2.2.1] ∧ RsV R q1 oz.2.1 ∧ By R q2 oz.2.2.2) (vs 18) (bs 18) Rj := g18
  dsimp only at g18
  obtain ⟨-, q1, q2, e, -, k⟩ := g18
  exact ⟨_, G7 (vs := #[q1, q2, .int .i64 oz.2.2.1]) (by rw [← e]; rfl) rfl, rfl, k⟩
 ·
  have g18 := ha _ (List.mem_of_getElem? (i := 3) rfl) kR
  replace g18 : (fun v B R => B = [] ∧ ∃ q1 q2, v = .tuple #[q1, q2, .int .i64 oz.2.2.1] ∧ RsV R q1 oz.2.1 ∧ By R q2 oz.2.2.2) (vs 18) (bs 18) Rj := g18
  dsimp only at g18
  obtain ⟨-, q1, q2, e, -⟩ := g18
  exact ⟨_, G7 (vs := #[q1, q2, .int .i64 oz.2.2.1]) (by rw [← e]; rfl) rfl, rfl, rfl⟩
 intro vs bs Jn0 hφ hKK
 have kk11 := hKK _ (List.mem_of_getElem? (i := 0) rfl)
 dsimp only at kk11
 have kk12 := hKK _ (List.mem_of_getElem? (i := 1) rfl)
 dsimp only at kk12
 have kk17 := hKK _ (List.mem_of_getElem? (i := 2) rfl)
 dsimp only at kk17
 have kk18 := hKK _ (List.mem_of_getElem? (i := 3) rfl)
 dsimp only at kk18
 have kk19 := hKK _ (List.mem_of_getElem? (i := 4) rfl)
 dsimp only at kk19
 have kk22 := hKK _ (List.mem_of_getElem? (i := 5) rfl)
 dsimp only at kk22
 have kk20 := hKK _ (List.mem_of_getElem? (i := 6) rfl)
 dsimp only at kk20
 have kk21 := hKK _ (List.mem_of_getElem? (i := 7) rfl)
 dsimp only at kk21
 clear hKK
 have g11 := ofH hφ
 dsimp only at g11
 replace hφ := ofT hφ
 have g12 := ofH hφ
 dsimp only at g12
 replace hφ := ofT hφ
 have g17 := ofH hφ
 dsimp only at g17
 replace hφ := ofT hφ
 have g18 := ofH hφ
 dsimp only at g18
 replace hφ := ofT hφ
 have g19 := ofH hφ
 dsimp only at g19
 replace hφ := ofT hφ
 have g22 := ofH hφ
 dsimp only at g22
 replace hφ := ofT hφ
 have g20 := ofH hφ
 dsimp only at g20
 replace hφ := ofT hφ
 have g21 := ofH hφ
 dsimp only at g21
 clear hφ
 dsimp only [Q7, A0J, List.foldr, List.map, List.cons_append, List.nil_append]
 generalize bs 11 = B21 at *
 generalize bs 12 = B22 at *
 generalize bs 17 = B27 at *
 generalize bs 18 = B9 at *
 generalize bs 19 = B28 at *
 generalize bs 22 = B6 at *
 generalize bs 20 = B29 at *
 generalize bs 21 = B30 at *
 generalize vs 11 = u21 at *
 generalize vs 12 = u22 at *
 generalize vs 17 = u27 at *
 generalize vs 18 = u9 at *
 generalize vs 19 = u28 at *
 generalize vs 22 = u6 at *
 generalize vs 20 = u29 at *
 generalize vs 21 = u30 at *
 obtain ⟨-, -, -, hP27, -⟩ := g17
 clear g18
 obtain ⟨b, rfl, rfl⟩ := g11
 obtain ⟨rfl, h22⟩ := g12
 obtain ⟨rfl, wo, wt, wr, wk, wl, wq, rfl, hn1⟩ := g19
 obtain ⟨rfl, h29⟩ := g20
 obtain ⟨rfl, rfl⟩ := g21
 obtain ⟨b6, rfl, rfl⟩ := g22
 haveI := hn1.own.cel
 haveI := hn1.their.cel
 haveI := hn1.root.cel
 haveI := hn1.sk.cel
 haveI := hn1.tk.cel
 haveI := hn1.st.cel
 haveI := h29.cel
 unfold rsC
 refine T7 rfl rfl rfl (A9 (vs := [wo, wt, wr, wk, .int .u32 ((oz.2.1.sn : Nat) : Int), wl, .int .u32 ((oz.2.1.tn : Nat) : Int), .int .u32 ((oz.2.1.prev : Nat) : Int), wq]) rfl rfl rfl kR (by rfl) (A7 hn1.own.one (A7 hn1.their.one (A7 hn1.root.one (A7 hn1.sk.one (A7 rfl (A7 hn1.tk.one (A7 rfl (A7 rfl (A7 hn1.st.one K9))))))))) UpC.upd ?_)
 refine L6 hs rfl (G9 rfl) rfl ?_
 refine L6 hs rfl (G9 rfl) rfl ?_
 refine Q8 (E5 0 3 6 7 8) (A3 (A1 (mv_ ?_)))
 refine A2 (D8 rfl rfl rfl) rfl ?_
 refine A0 (H9 0 3 6 7 8 32) ?_
 refine C0 rfl (fun hc => ?_) (fun hc => ?_)
 ·
  refine F9 (.range 7) (zp 0 [0, 0, 1, 1, 0, 0, 0, 2]) kR kR fun hs => ?_
  refine fm_ hs ?_
  refine C2 hs rfl (qf_ 0 0) rfl ?_
  refine G4 hs rfl ql_ rfl ?_
  refine G4 hs rfl (qw_ 9) rfl ?_
  refine C2 hs rfl (E8 rfl) rfl ?_
  refine C2 hs rfl (qf_ 1 1) rfl ?_
  refine C2 hs rfl (C9 (e := 41) (n := 2) (sz := 9) (i := 1) 10 rfl rfl kR kR rfl (by decide) rfl) rfl ?_
  refine F5 rfl rfl rfl (N7 (vs := [wo, wt, wr, wk, .int .u32 ((oz.2.1.sn : Nat) : Int), wl, .int .u32 ((oz.2.1.tn : Nat) : Int), .int .u32 ((oz.2.1.prev : Nat) : Int), wq]) (cs' := [.pointer (some ⟨pb, 0, none⟩), ao, at_, ar, ak, .int .u32 ((r0.sn : Nat) : Int), al, .int .u32 ((r0.tn : Nat) : Int), .int .u32 ((r0.prev : Nat) : Int), aq, wo, wt, wr, wk, .int .u32 ((oz.2.1.sn : Nat) : Int), wl, .int .u32 ((oz.2.1.tn : Nat) : Int), .int .u32 ((oz.2.1.prev : Nat) : Int), wq]) rfl rfl rfl kR (by exact (show 10 + 9 ≤ 19 by decide)) (A7 hn1.own.one (A7 hn1.their.one (A7 hn1.root.one (A7 hn1.sk.one (A7 rfl (A7 hn1.tk.one (A7 rfl (A7 rfl (A7 hn1.st.one K9))))))))) rfl UpC.upd ?_)
  refine E4 (D3 7 8) (A1 (mv_ ?_))
  refine A2 (T9 rfl kR (h29.rd.mono SubC.sub)) rfl ?_
  refine mv_ (as_ (as_ (A0 (D3 4 5) (B4 ?_))))
  exact ⟨_, (tb, blk [.pointer (some ⟨pb, 0, none⟩), ao, at_, ar, ak, .int .u32 ((r0.sn : Nat) : Int), al, .int .u32 ((r0.tn : Nat) : Int), .int .u32 ((r0.prev : Nat) : Int), aq, wo, wt, wr, wk, .int .u32 ((oz.2.1.sn : Nat) : Int), wl, .int .u32 ((oz.2.1.tn : Nat) : Int), .int .u32 ((oz.2.1.prev : Nat) : Int), wq] 45) :: B27, [], A19 rfl rfl rfl, Fit.none (Fit.pick (B := [_]) PickC.perm (Fit.last PickC.perm)), ⟨ao, at_, ar, ak, al, aq, wo, wt, wr, wk, wl, wq, B27, rfl, h0.mono SubC.sub, hn1.mono SubC.sub, hP27⟩, rfl⟩
 ·
  have he0 : oz.2.2.1 ≠ 0 := by intro e; rw [e] at hc; simp [I2] at hc
  have hre : oz.2.1 = r1 := by have h := B4L (hoz ▸ he0); rw [hoz] at h; exact h.1
  rw [hre]
  refine A6 (nx (D3 7 8) (A1 (mv_ ?_)))
  refine A2 (T9 rfl kR (h29.rd.mono SubC.sub)) rfl ?_
  refine mv_ (as_ (as_ (A0 (D3 4 5) (B4 ?_))))
  exact ⟨_, (tb, blk [.pointer (some ⟨pb, 0, none⟩), ao, at_, ar, ak, .int .u32 ((r0.sn : Nat) : Int), al, .int .u32 ((r0.tn : Nat) : Int), .int .u32 ((r0.prev : Nat) : Int), aq, bo, bt, br, bk, .int .u32 ((r1.sn : Nat) : Int), bl, .int .u32 ((r1.tn : Nat) : Int), .int .u32 ((r1.prev : Nat) : Int), bq] 45) :: B27, [], A19 rfl rfl rfl, Fit.none (Fit.pick (B := [_]) PickC.perm (Fit.last PickC.perm)), ⟨ao, at_, ar, ak, al, aq, bo, bt, br, bk, bl, bq, B27, rfl, h0.mono SubC.sub, h1.mono SubC.sub, hP27⟩, rfl⟩

def K32 (w : List Nat) : Prop := (∀ x ∈ w, x < 256) ∧ w.length = 32
def KK (s : Ps) (w : List Nat) : Prop := Kok s w ∧ K32 w
structure GS (s : Ps) : Prop where
  tok : Tok s.ts
  sel : W2 s.ts
theorem KK.ext {s s' : Ps} {w : List Nat} (h : KK s w) (he : Pext s s') : KK s' w := ⟨h.1.ext he, h.2⟩
theorem KK.rok {s : Ps} {w : List Nat} (h : KK s w) : s.real = false → Rok s.ts w := h.1.rok
theorem A63 (i : Int) : K32 (bts i) := ⟨B2B _, A0t _ (by decide)⟩
theorem B3I (s : Ps) : K32 (I5 s) := by
  cases hr : s.real with
  | true =>
    rw [A7v hr, B6g, A5f]
    exact ⟨A25 _ _, A0p _ _⟩
  | false => rw [A45 hr]; exact A63 _
theorem W2.fresh {s : Ps} (h : W2 s.ts) : W2 (E6 s).ts := by
  cases hr : s.real with
  | true => rw [A44 hr]; exact h
  | false => rw [A2N hr]; exact h.not (show (1 : Nat) ≠ 6 by decide)
theorem W2.pub {s : Ps} (h : W2 s.ts) (w : List Nat) : W2 (K5 s w).ts := by
  unfold K5
  split
  · exact h
  · exact (h.rd w).not (show (3 : Nat) ≠ 6 by decide)
theorem B9F (ts : List Tm) (s o : Int) : (agT ts s o).kind = 4 := by
  unfold agT
  split <;> (try split) <;> (try split) <;> rfl
theorem W2.agr {s : Ps} (h : W2 s.ts) (a B : List Nat) : W2 (W7 s a B).ts := by
  unfold W7
  split
  · exact h
  · exact ((h.rd a).rd B).not (by rw [B9F]; decide)
theorem W2.der {s : Ps} (h : W2 s.ts) (key : List Nat) (ws : List (List Nat)) (lb : List Nat) (n : Nat) : W2 (A31 s key ws lb n).ts := by
  cases hr : s.real with
  | true => rw [A52 hr]; exact h
  | false =>
    rw [A3l hr]
    have h1 : ∀ (ws : List (List Nat)) (st : List Tm × List Int), W2 st.1 → W2 (ws.foldl Z6 st).1 := by
      intro ws
      induction ws with
      | nil => intro st h; exact h
      | cons w ws ih => intro st h; exact ih _ (h.rd w)
    have h2 : ∀ (ts : List Tm) (ofs : List Int) (n : Nat), W2 ts → W2 (L3 ts ofs lb n).1 := by
      intro ts ofs n
      induction n with
      | zero => exact id
      | succ n ih =>
        intro h
        rw [show L3 ts ofs lb (n + 1) = A8V ofs lb (L3 ts ofs lb n) n from N2 n]
        exact (ih h).not (show (5 : Nat) ≠ 6 by decide)
    exact h2 _ _ n (h1 (key :: ws) (s.ts, []) h)
theorem A3S {s : Ps} (h : GS s) (hn : s.n < 1000000000) : GS (E6 s) ∧ KK (E6 s) (I5 s) := by
  obtain ⟨h1, h2⟩ := A99 h.tok (by omega)
  refine ⟨⟨?_, h.sel.fresh⟩, h1, B3I s⟩
  cases hr : s.real with
  | true => rw [A44 hr]; exact h.tok
  | false => exact h2 hr
theorem B6R {s : Ps} {w : List Nat} (h : GS s) (hw : KK s w) (hl : s.ts.length ≤ 1040000) : GS (K5 s w) ∧ U5 (K5 s w) w (I0 s w) := by
  obtain ⟨h1, -, h3⟩ := B77 hw.1 h.tok (by omega)
  exact ⟨⟨h3, h.sel.pub w⟩, h1⟩
theorem U5.k32 {s : Ps} {b B : List Nat} (h : U5 s b B) : K32 B := by
  unfold U5 at h
  split at h
  · rw [h]; exact ⟨B0O _ _, A2g _ _⟩
  · obtain ⟨i, j, -, -, -, rfl⟩ := h; exact A63 _
theorem U5.kk {s : Ps} {b B : List Nat} (h : U5 s b B) : KK s B := ⟨h.kok.2, h.k32⟩
theorem A2h.kk {s : Ps} {a b k : List Nat} (h : A2h s a b k) : KK s k := by
  cases hr : s.real with
  | true =>
    rw [A2h.t hr] at h
    exact ⟨fun h2 => (by rw [hr] at h2; cases h2), by rw [h.1]; exact ⟨B0O _ _, A2g _ _⟩⟩
  | false =>
    rw [A2h.f hr] at h
    obtain ⟨i, j, m, -, -, -, -, h5, rfl⟩ := h
    exact ⟨fun _ => ⟨m, (List.getElem?_eq_some_iff.1 h5).1, rfl⟩, A63 _⟩
theorem B9G {s : Ps} {a b B : List Nat} (h : GS s) (ha : KK s a) (hB : U5 s b B) (hb : K32 b) (hl : s.ts.length ≤ 1040000) : GS (W7 s a B) ∧ A2h (W7 s a B) a b (A0K s a B) := by
  obtain ⟨h1, h2⟩ := B8a ha.1 hB h.tok (by omega) ha.2.1 hb.1
  exact ⟨⟨h2, h.sel.agr a B⟩, h1⟩
def B1I (s : Ps) (key : List Nat) (ws : List (List Nat)) (lb : List Nat) (n : Nat) (L : List (List Nat)) : Prop := A31 s key ws lb n = s ∧ A51 s key ws lb n = L ∧ ∀ w ∈ key :: ws, KK s w
theorem B8o {s : Ps} {key lb : List Nat} {ws : List (List Nat)} {n : Nat} (h : GS s) (hk : ∀ w ∈ key :: ws, KK s w) (hb : B256 lb) (hbl : lb.length ≤ 1000) (hn : n ≤ 8) (hl : s.ts.length + ws.length ≤ 1040000) :
    GS (A31 s key ws lb n) ∧ (∀ i, i < n → KK (A31 s key ws lb n) ((A51 s key ws lb n).getD i [])) ∧ B1I (A31 s key ws lb n) key ws lb n (A51 s key ws lb n) := by
  have hr : s.real = false → ∀ w ∈ key :: ws, Rok s.ts w := fun hr w hw => (hk w hw).rok hr
  have ht := B6D h.tok hr hb hbl (show n ≤ 100 by omega) (by omega)
  have he := A71 s key ws lb n
  have hlen := A2O s key ws lb n
  obtain ⟨a, b⟩ := A6p h.tok hr hb hbl (show n ≤ 100 by omega) (by omega) (Pext.refl _) ht (by omega)
  exact ⟨⟨ht, h.sel.der _ _ _ _⟩, fun i hi => ⟨B6F h.tok hr hb hbl (by omega) (by omega) hi, B6H hn hi⟩, a, b, fun w hw => (hk w hw).ext he.p⟩
theorem B1I.ext {s s' : Ps} {key lb : List Nat} {ws : List (List Nat)} {n : Nat} {L : List (List Nat)} (h : B1I s key ws lb n L) (he : Pext s s') (hg : GS s) (hg' : GS s') (hb : B256 lb) (hbl : lb.length ≤ 1000) (hn : n ≤ 8) (hl : s'.ts.length + ws.length ≤ 1040000) : B1I s' key ws lb n L := by
  obtain ⟨l, e⟩ := he.ts
  have hle : s.ts.length ≤ s'.ts.length := by rw [e, List.length_append]; omega
  have hr : s.real = false → ∀ w ∈ key :: ws, Rok s.ts w := fun hr w hw => (h.2.2 w hw).rok hr
  obtain ⟨a, b⟩ := A6p hg.tok hr hb hbl (show n ≤ 100 by omega) (by omega) (by rw [h.1]; exact he) hg'.tok (by omega)
  exact ⟨a, b.trans h.2.1, fun w hw => (h.2.2 w hw).ext he⟩
theorem B1J : B256 A5n := ⟨by decide⟩
theorem B1K : B256 A34 := ⟨by decide⟩
structure TrnAt (s : Ps) (root a b R C : List Nat) : Prop where
  ex : ∃ k L, A2h s a b k ∧ B1I s root [k] A5n 2 L ∧ L.getD 0 [] = R ∧ L.getD 1 [] = C
theorem A73 (s : Ps) (root sec pub : List Nat) : Ext s (A3T s root sec pub) := (B4v s sec pub).trans (A71 _ _ _ _ _)
theorem B8p (s : Ps) (a B : List Nat) : (W7 s a B).ts.length ≤ s.ts.length + 3 := A3G s a B
theorem B3J {s : Ps} {root a b B : List Nat} (h : GS s) (hr : KK s root) (ha : KK s a) (hB : U5 s b B) (hb : K32 b) (hl : s.ts.length ≤ 1030000) :
    GS (A3T s root a B) ∧ KK (A3T s root a B) (B1R s root a B) ∧ KK (A3T s root a B) (A8X s root a B) ∧ TrnAt (A3T s root a B) root a b (B1R s root a B) (A8X s root a B) := by
  obtain ⟨h1, h2⟩ := B9G h ha hB hb (by omega)
  have hle := B8p s a B
  obtain ⟨g1, g2, g3⟩ := B8o (key := root) (ws := [A0K s a B]) (lb := A5n) (n := 2) h1 (fun w hw => by
    rcases List.mem_cons.1 hw with rfl | hw
    · exact hr.ext (B4v s a B).p
    · rw [List.mem_singleton.1 hw]; exact h2.kk) B1J (by decide) (by decide) (by show _ + 1 ≤ _; omega)
  exact ⟨g1, g2 0 (by decide), g2 1 (by decide), ⟨_, _, h2.ext (A71 _ _ _ _ _).p, g3, rfl, rfl⟩⟩
theorem TrnAt.ext {s s' : Ps} {root a b R C : List Nat} (h : TrnAt s root a b R C) (he : Pext s s') (hg : GS s) (hg' : GS s') (hl : s'.ts.length ≤ 1030000) : TrnAt s' root a b R C := by
  obtain ⟨k, L, h1, h2, h3, h4⟩ := h.ex
  exact ⟨k, L, h1.ext he, h2.ext he hg hg' B1J (by decide) (by decide) (by show _ + 1 ≤ _; omega), h3, h4⟩
theorem TrnAt.comm {s : Ps} {root a b R C : List Nat} (h : TrnAt s root a b R C) : TrnAt s root b a R C := by
  obtain ⟨k, L, h1, h2, h3, h4⟩ := h.ex
  exact ⟨k, L, h1.comm, h2, h3, h4⟩
theorem TrnAt.eq {s : Ps} {root a b B R C : List Nat} (h : TrnAt s root a b R C) (hB : U5 s b B) (hg : GS s) (hl : s.ts.length ≤ 1030000) : A3T s root a B = s ∧ B1R s root a B = R ∧ A8X s root a B = C := by
  obtain ⟨k, L, h1, h2, h3, h4⟩ := h.ex
  obtain ⟨e1, e2⟩ := h1.eq hB hg.tok (by omega)
  unfold B1R A8X B9A A3T
  rw [e1, e2, h2.1, h2.2.1]
  exact ⟨rfl, h3, h4⟩
def A2z (s : Ps) (c k c' : List Nat) : Prop := ∃ L, B1I s c [] A34 2 L ∧ L.getD 0 [] = k ∧ L.getD 1 [] = c'
theorem A74 {s : Ps} {c : List Nat} (h : GS s) (hc : KK s c) (hl : s.ts.length ≤ 1030000) : GS (W1 s c) ∧ KK (W1 s c) (A0h s c) ∧ KK (W1 s c) (A2B s c) ∧ A2z (W1 s c) c (A0h s c) (A2B s c) := by
  obtain ⟨g1, g2, g3⟩ := B8o (key := c) (ws := []) (lb := A34) (n := 2) h (fun w hw => by rw [List.mem_singleton.1 hw]; exact hc) B1K (by decide) (by decide) (by show _ + 0 ≤ _; omega)
  exact ⟨g1, g2 0 (by decide), g2 1 (by decide), _, g3, rfl, rfl⟩
theorem A64 (s : Ps) (c : List Nat) : Ext s (W1 s c) := A71 _ _ _ _ _
theorem A2z.ext {s s' : Ps} {c k c' : List Nat} (h : A2z s c k c') (he : Pext s s') (hg : GS s) (hg' : GS s') (hl : s'.ts.length ≤ 1030000) : A2z s' c k c' := by
  obtain ⟨L, h1, h2, h3⟩ := h
  exact ⟨L, h1.ext he hg hg' B1K (by decide) (by decide) (by show _ + 0 ≤ _; omega), h2, h3⟩
theorem A2z.eq {s : Ps} {c k c' : List Nat} (h : A2z s c k c') : W1 s c = s ∧ A0h s c = k ∧ A2B s c = c' := by
  obtain ⟨L, h1, h2, h3⟩ := h
  unfold A0h A2B B9u W1
  rw [h1.1, h1.2.1]
  exact ⟨rfl, h2, h3⟩
theorem B8q (s : Ps) (w a b : List Nat) : Ext s (A8Y s w a b) := by
  unfold A8Y
  split
  · exact Ext.refl s
  · exact ⟨⟨rfl, A7L _ _ _⟩, rfl, Nat.le_refl _⟩
theorem B9H {s : Ps} {w a b : List Nat} (h : GS s) (hw : KK s w) (ha : ∀ x ∈ a, x < 256) (hb : ∀ x ∈ b, x < 256) (la : a.length ≤ 16777216) (lb : b.length ≤ 16777216) (hl : s.ts.length ≤ 1030000) : GS (A8Y s w a b) := by
  unfold A8Y
  split
  · exact h
  · rename_i hr
    obtain ⟨i, hi, rfl⟩ := hw.1 (by cases hq : s.real with | true => exact absurd hq hr | false => rfl)
    obtain ⟨e1, e2⟩ := B9t hi (by omega) fun x => A2v x a b
    rw [e1]
    obtain ⟨l, g1, g2, g3, g4⟩ := A32 (B0b (x := ((i : Nat) : Int)) (A5i (by omega)) ha hb la lb) h.tok
    exact ⟨g4, h.sel.add fun _ => ⟨_, a, b, rfl, hb, lb⟩⟩
theorem A75 (s : Ps) (w a b : List Nat) : (A8Y s w a b).ts.length ≤ s.ts.length + 2 ∧ (A8Y s w a b).n = s.n := by
  unfold A8Y
  split
  · exact ⟨by omega, rfl⟩
  · refine ⟨?_, rfl⟩
    have h1 := U1 (ts := s.ts) (ws := w)
    have h2 := A1A (ts := rdT s.ts w) (t := A2v ((rdI s.ts w : Nat) : Int) a b)
    show (add (rdT s.ts w) (A2v ((rdI s.ts w : Nat) : Int) a b)).length ≤ _
    omega

end Go.Proofs.YtlilcmjbaknafaaGreatDoor
