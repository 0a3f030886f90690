/- Part 16 of the texts of this claim, one behind the other. -/
import Derived.Test.YthbhpfefdnffaaaGreatDoorB15
import Derived.Laws.IdiomCopy
set_option linter.unusedVariables false
set_option linter.unusedSimpArgs false
set_option maxRecDepth 100000
namespace Go.Proofs.YthbhpfefdnffaaaGreatDoor
open Go.Px
theorem StF.cel {R : Mem} {v : Value} {sks : List Skp} (h : StF R v sks) : Cel v [v] := by obtain ⟨sb, u, rows, rfl, _⟩ := h; infer_instance
theorem W3 (pre vs post : List Value) : ∀ (j : Nat) v, vs[j]? = some v → (pre ++ (vs ++ post))[pre.length + j]? = some v := fun j v h => by
  rw [List.getElem?_append_right (by omega), Nat.add_sub_cancel_left, List.getElem?_append_left (List.getElem?_eq_some_iff.1 h).1]
  exact h
theorem B1Z (tb pb : Nat) (s : Ps) (hre : s.real = false) (r0 r1 : Rsd) (tx : List Nat) (M0 A : Mem) (hPr : Par A tb pb s r0 r1 M0) (hn : s.ts.length + 200 ≤ 1040000) (hsk : 0 < r0.sk.length) (htx : B256 tx) (ltx : tx.length ≤ 16777216) (hG : Glb A) : FnX Tryz.prog 36 [.pointer (some ⟨tb, 0, none⟩), .int .i64 0, .string (txt tx)] M0 A fun q M J => Par (J ++ A) tb pb (A9Y s r0 K4 tx) (U4 s r0) r1 M ∧ ∃ vk vg, q = .tuple #[.agg #[.int .i64 1, vk, .int .u32 ((r0.prev : Nat) : Int), .int .u32 ((r0.sn : Nat) : Int), vg, .string (txt tx)], .bool true] ∧ By (J ++ A) vk (L8 s r0.own) ∧ By (J ++ A) vg (A2q s r0 K4 tx) := by
 obtain ⟨ao, at_, ar, ak, al, aq, bo, bt, br, bk, bl, bq, MP, rfl, h0, h1, hP⟩ := hPr
 haveI := h0.own.cel
 haveI := h0.their.cel
 haveI := h0.root.cel
 haveI := h0.sk.cel
 haveI := h0.tk.cel
 haveI := h1.own.cel
 haveI := h1.their.cel
 haveI := h1.root.cel
 haveI := h1.sk.cel
 haveI := h1.tk.cel
 haveI := h0.st.cel
 haveI := h1.st.cel
 unfold rsC
 refine FnX.enterZ (N := 47) Tryz.func36 rfl rfl rfl fun w_ => ?_
 refine B0 (D3 0 1 2) (A1 ?_)
 refine A4 rfl (C4 (cs := [B2e, .slice none 0 0, I0, I0, .slice none 0 0, .string ByteArray.empty]) kR rfl fun b6 => ?_)
 refine as_ (A0 (D8 0 1 2 6) ?_)
 refine I2 (MP) (_) true [0, 1, 2, 3, 4, 5, 6, 7, 8, 9, 10, 11, 12, 13, 14, 15, 16, 17, 18, 19, 20, 21, 24, 25] [(0, 0), (1, 0), (2, 0), (3, 1), (4, 0), (5, 0), (6, 0), (7, 0), (8, 0), (9, 1), (12, 0), (10, 8), (11, 8), (13, 8), (14, 8), (15, 8), (16, 8), (20, 8), (21, 8), (17, 9), (18, 9), (19, 10), (22, 2), (23, 2), (24, 0), (25, 0)] kR kR PickC.perm fun hs K n0 hKm hKs hKn => ?_
 refine km_ hs ?_
 refine I6 hs rfl (G1 rfl) rfl ?_
 refine I6 hs rfl (qf_ 0 0) rfl ?_
 refine R5 hs rfl hKs ql_ ?_
 refine km_ hs ?_
 refine km_ hs ?_
 refine I6 hs rfl (G1 rfl) rfl ?_
 refine I6 hs rfl (qf_ 1 1) rfl ?_
 refine I6 hs rfl (W5 (e := 80) (n := 2) (sz := 9) (i := 0) 1 rfl rfl kR kR rfl (by decide) rfl) rfl ?_
 refine R5 hs rfl hKs (V3 (n := 9) (vs := [ao, at_, ar, ak, .int .u32 ((r0.sn : Nat) : Int), al, .int .u32 ((r0.tn : Nat) : Int), .int .u32 ((r0.prev : Nat) : Int), aq]) rfl kR At.mem rfl (W3 [.pointer (some ⟨pb, 0, none⟩)] [ao, at_, ar, ak, .int .u32 ((r0.sn : Nat) : Int), al, .int .u32 ((r0.tn : Nat) : Int), .int .u32 ((r0.prev : Nat) : Int), aq] [bo, bt, br, bk, .int .u32 ((r1.sn : Nat) : Int), bl, .int .u32 ((r1.tn : Nat) : Int), .int .u32 ((r1.prev : Nat) : Int), bq])) ?_
 refine km_ hs ?_
 refine A03 [⟨10, 23, none, [], fun v B _ => ∃ b, v = .slice (some ⟨b, 0, none⟩) 4 4 ∧ B = [(b, blk (nums .u8 [119, 105, 116, 104]) 5)]⟩, ⟨11, 24, some 10, [], fun v B R => B = [] ∧ By R v [119, 105, 116, 104]⟩, ⟨13, 26, none, [], fun v B R => B = [] ∧ By R v tx⟩, ⟨14, 27, none, MP, fun v B R => ∃ q1 q2 q3, v = .tuple #[q1, .agg #[q2, .int .u32 ((r0.prev : Nat) : Int), .int .u32 ((r0.sn : Nat) : Int)], q3, .int .i64 0] ∧ Prm pb (A9Y s r0 K4 tx) B ∧ RsV R q1 (U4 s r0) ∧ By R q2 (L8 s r0.own) ∧ By R q3 (A2q s r0 K4 tx)⟩, ⟨15, 12, none, [], fun v B R => B = [] ∧ ∃ q1 q2 q3, v = .tuple #[q1, .agg #[q2, .int .u32 ((r0.prev : Nat) : Int), .int .u32 ((r0.sn : Nat) : Int)], q3, .int .i64 0] ∧ RsV R q1 (U4 s r0) ∧ By R q2 (L8 s r0.own) ∧ By R q3 (A2q s r0 K4 tx)⟩, ⟨16, 28, none, [], fun v B R => B = [] ∧ RsV R v (U4 s r0)⟩, ⟨20, 8, none, [], fun v B _ => ∃ b, v = .pointer (some ⟨b, 0, none⟩) ∧ B = [(b, blk [.slice none 0 0, .slice none 0 0, .slice none 0 0, .slice none 0 0, .int .u32 0, .slice none 0 0, .int .u32 0, .int .u32 0, .pointer none] 80)]⟩, ⟨21, 9, none, [], fun v B _ => ∃ b, v = .pointer (some ⟨b, 0, none⟩) ∧ B = [(b, blk [.slice none 0 0, .int .u32 0, .int .u32 0] 62)]⟩] [⟨17, 29, none, [], fun v B R => B = [] ∧ ∃ q2, v = .agg #[q2, .int .u32 ((r0.prev : Nat) : Int), .int .u32 ((r0.sn : Nat) : Int)] ∧ By R q2 (L8 s r0.own)⟩, ⟨18, 30, none, [], fun v B R => B = [] ∧ By R v (A2q s r0 K4 tx)⟩, ⟨19, 31, none, [], fun v B R => B = [] ∧ v = .int .i64 0⟩] ([(b6, blk [.int .i64 0, .slice none 0 0, .int .u32 0, .int .u32 0, .slice none 0 0, .string ByteArray.empty] 71), (tb, blk [.pointer (some ⟨pb, 0, none⟩), ao, at_, ar, ak, .int .u32 ((r0.sn : Nat) : Int), al, .int .u32 ((r0.tn : Nat) : Int), .int .u32 ((r0.prev : Nat) : Int), aq, bo, bt, br, bk, .int .u32 ((r1.sn : Nat) : Int), bl, .int .u32 ((r1.tn : Nat) : Int), .int .u32 ((r1.prev : Nat) : Int), bq] 83)]) (fun bs => [bs 11, bs 13, bs 14, bs 15, bs 16, bs 20, bs 21, bs 17, bs 18, bs 19]) (hKn rfl) (by simp [A0j, A0A]) (show ∀ m ∈ ([[], [], MP, [], [], [], [], [], [], []] : List Mem), ∀ x ∈ m, K x.1 from A7 (fun _ h => by cases h) (A7 (fun _ h => by cases h) (A7 (hKm) (A7 (fun _ h => by cases h) (A7 (fun _ h => by cases h) (A7 (fun _ h => by cases h) (A7 (fun _ h => by cases h) (A7 (fun _ h => by cases h) (A7 (fun _ h => by cases h) (A7 (fun _ h => by cases h) (I5))))))))))) kR (fun _ => by first | rfl | kernel_rfl)
  (A7 (fun _ _ _ _ _ h => h) (A7 (fun _ _ _ _ hR h => ⟨h.1, h.2.mono hR⟩) (A7 (fun _ _ _ _ hR h => ⟨h.1, h.2.mono hR⟩) (A7 (fun _ _ _ _ h ⟨q1, q2, q3, e, p1, p2, p3, p4⟩ => ⟨q1, q2, q3, e, p1, p2.mono h, p3.mono h, p4.mono h⟩) (A7 (fun _ _ _ _ h ⟨e0, q1, q2, q3, e, p2, p3, p4⟩ => ⟨e0, q1, q2, q3, e, p2.mono h, p3.mono h, p4.mono h⟩) (A7 (fun _ _ _ _ h hp => ⟨hp.1, hp.2.mono h⟩) (A7 (fun _ _ _ _ _ h => h) (A7 (fun _ _ _ _ _ h => h) (A7 (fun _ _ _ _ h ⟨e0, q, e, p⟩ => ⟨e0, q, e, p.mono h⟩) (A7 (fun _ _ _ _ hR h => ⟨h.1, h.2.mono hR⟩) (A7 (fun _ _ _ _ _ h => h) (I5)))))))))))) (show List.Nodup [23, 24, 26, 27, 12, 28, 8, 9, 29, 30, 31] by decide) (show List.Nodup [10, 11, 13, 14, 15, 16, 20, 21, 17, 18, 19] by decide) (A7 (C1 rfl) (A7 (C1 rfl) (A7 (C1 rfl) (A7 (C1 rfl) (A7 (C1 rfl) (A7 (C1 rfl) (A7 (C1 rfl) (A7 (C1 rfl) (A7 (C1 rfl) (A7 (C1 rfl) (A7 (C1 rfl) (I5))))))))))))
  hs (List.cons_ne_nil _ _) (A7 ⟨_, rfl, fun vs bs R Rj wG hb hj hjr ha => ⟨.inl rfl, ?_⟩⟩ (A7 ⟨_, rfl, fun vs bs R Rj wG hb hj hjr ha => ⟨.inl rfl, ?_⟩⟩ (A7 ⟨_, rfl, fun vs bs R Rj wG hb hj hjr ha => ⟨.inl rfl, ?_⟩⟩ (A7 ⟨_, rfl, fun vs bs R Rj wG hb hj hjr ha => ⟨.inl rfl, ?_⟩⟩ (A7 ⟨_, rfl, fun vs bs R Rj wG hb hj hjr ha => ⟨.inl rfl, ?_⟩⟩ (A7 ⟨_, rfl, fun vs bs R Rj wG hb hj hjr ha => ⟨.inl rfl, ?_⟩⟩ (A7 ⟨_, rfl, fun vs bs R Rj wG hb hj hjr ha => ⟨.inl rfl, ?_⟩⟩ (A7 ⟨_, rfl, fun vs bs R Rj wG hb hj hjr ha => ⟨.inl rfl, ?_⟩⟩ (I5))))))))) (A7 ⟨rfl, rfl, _, _, _, _, rfl, fun vs bs Rj hj ha => ?_⟩ (A7 ⟨rfl, rfl, _, _, _, _, rfl, fun vs bs Rj hj ha => ?_⟩ (A7 ⟨rfl, rfl, _, _, _, _, rfl, fun vs bs Rj hj ha => ?_⟩ (I5)))) ?_
 ·
  dsimp only [Gc.inp]
  exact C0 (e := 5) (sz := 1) (z := [zu8, zu8, zu8, zu8]) kR (eS rfl (eS rfl (eS rfl (eS rfl e0)))) (bdS 0 1 rfl (by rfl) (bdS 1 1 rfl (by rfl) (bdS 2 1 rfl (by rfl) (bdS 3 1 rfl (by rfl) bd0)))) rfl fun b => ⟨_, rfl, b, rfl, rfl⟩
 ·
  dsimp only [Gc.inp]
  have g10 := ha _ (List.mem_of_getElem? (i := 0) rfl) kR
  replace g10 : (fun v B _ => ∃ b, v = .slice (some ⟨b, 0, none⟩) 4 4 ∧ B = [(b, blk (nums .u8 [119, 105, 116, 104]) 5)]) (vs 10) (bs 10) Rj := g10
  dsimp only at g10
  obtain ⟨b, e, eB⟩ := g10
  dsimp only [P5, List.map, List.cons_append, List.nil_append]
  rw [e, eB]
  refine OpL.frzAll ?_
  exact A2z rfl kR UpC.upd rfl (fun J2 hJ => ⟨_, rfl, rfl, ⟨Rd.whole (n := 4) (List.mem_append_left _ (hJ _ (List.mem_append_left _ (List.mem_singleton.2 rfl)))) (by rfl), by decide, by decide⟩⟩)
 ·
  dsimp only [Gc.inp]
  refine OpL.frzAll ?_
  refine Z5 (e := 5) rfl rfl htx.lt kR kR kR rfl fun v B hs J2 hJ => ⟨_, rfl, rfl, ⟨hs.mono fun x hx => List.mem_append_left _ (hJ _ (by simp [hx])), htx.lt, ltx⟩⟩
 ·
  dsimp only [Gc.inp]
  have g11 := ha _ (List.mem_of_getElem? (i := 1) rfl) kR
  replace g11 : (fun v B R => B = [] ∧ By R v [119, 105, 116, 104]) (vs 11) (bs 11) Rj := g11
  dsimp only at g11
  have g13 := ha _ (List.mem_of_getElem? (i := 2) rfl) kR
  replace g13 : (fun v B R => B = [] ∧ By R v tx) (vs 13) (bs 13) Rj := g13
  dsimp only at g13
  obtain ⟨-, h11⟩ := g11
  obtain ⟨-, h13⟩ := g13
  haveI := h11.cel
  haveI := h13.cel
  refine D4 (Mc := MP) (R := []) (aS rfl (aS rfl (aS rfl (aS rfl (a0))))) kR (by simp) (FnX.amb (A := Rj) (fun x hx => by have := hjr x hx; simp [this]) (A8n pb s hre r0 ao at_ ar ak al aq _ _ K4 tx MP Rj hP (by omega) (h0.mono (fun x hx => hj x (SubC.sub x hx))) hsk h11 (by decide) h13 (hG.sub (fun x hx => hj x (SubC.sub x hx))))) rfl ?_
  rintro v25 M25 J25 ⟨q1, q2, q3, rfl, hP25, p2, p3, p4⟩
  exact ⟨_, rfl, q1, q2, q3, rfl, by simpa using hP25, p2.mono (fun x hx => by simpa using hx), p3.mono (fun x hx => by simpa using hx), p4.mono (fun x hx => by simpa using hx)⟩
 ·
  dsimp only [Gc.inp]
  have g14 := ha _ (List.mem_of_getElem? (i := 3) rfl) kR
  replace g14 : (fun v B R => ∃ q1 q2 q3, v = .tuple #[q1, .agg #[q2, .int .u32 ((r0.prev : Nat) : Int), .int .u32 ((r0.sn : Nat) : Int)], q3, .int .i64 0] ∧ Prm pb (A9Y s r0 K4 tx) B ∧ RsV R q1 (U4 s r0) ∧ By R q2 (L8 s r0.own) ∧ By R q3 (A2q s r0 K4 tx)) (vs 14) (bs 14) Rj := g14
  dsimp only at g14
  obtain ⟨q1, q2, q3, e, -, k⟩ := g14
  exact OpQ.opL qm_ rfl ⟨_, rfl, rfl, q1, q2, q3, e, k⟩
 ·
  dsimp only [Gc.inp]
  have g15 := ha _ (List.mem_of_getElem? (i := 4) rfl) kR
  replace g15 : (fun v B R => B = [] ∧ ∃ q1 q2 q3, v = .tuple #[q1, .agg #[q2, .int .u32 ((r0.prev : Nat) : Int), .int .u32 ((r0.sn : Nat) : Int)], q3, .int .i64 0] ∧ RsV R q1 (U4 s r0) ∧ By R q2 (L8 s r0.own) ∧ By R q3 (A2q s r0 K4 tx)) (vs 15) (bs 15) Rj := g15
  dsimp only at g15
  obtain ⟨-, q1, q2, q3, e, k, -⟩ := g15
  exact OpQ.opL (G3 (vs := #[q1, .agg #[q2, .int .u32 ((r0.prev : Nat) : Int), .int .u32 ((r0.sn : Nat) : Int)], q3, .int .i64 0]) (by rw [← e]; rfl) rfl) rfl ⟨_, rfl, rfl, k⟩
 ·
  dsimp only [Gc.inp]
  exact C4 (cs := [.slice none 0 0, .slice none 0 0, .slice none 0 0, .slice none 0 0, I0, .slice none 0 0, I0, I0, .pointer none]) kR rfl fun b => ⟨_, rfl, b, rfl, rfl⟩
 ·
  dsimp only [Gc.inp]
  exact C4 (cs := [.slice none 0 0, .int .u32 0, .int .u32 0]) kR rfl fun b => ⟨_, rfl, b, rfl, rfl⟩
 ·
  have g15 := ha _ (List.mem_of_getElem? (i := 4) rfl) kR
  replace g15 : (fun v B R => B = [] ∧ ∃ q1 q2 q3, v = .tuple #[q1, .agg #[q2, .int .u32 ((r0.prev : Nat) : Int), .int .u32 ((r0.sn : Nat) : Int)], q3, .int .i64 0] ∧ RsV R q1 (U4 s r0) ∧ By R q2 (L8 s r0.own) ∧ By R q3 (A2q s r0 K4 tx)) (vs 15) (bs 15) Rj := g15
  dsimp only at g15
  obtain ⟨-, q1, q2, q3, e, -, k, -⟩ := g15
  exact ⟨_, G3 (vs := #[q1, .agg #[q2, .int .u32 ((r0.prev : Nat) : Int), .int .u32 ((r0.sn : Nat) : Int)], q3, .int .i64 0]) (by rw [← e]; rfl) rfl, rfl, q2, rfl, k⟩
 ·
  have g15 := ha _ (List.mem_of_getElem? (i := 4) rfl) kR
  replace g15 : (fun v B R => B = [] ∧ ∃ q1 q2 q3, v = .tuple #[q1, .agg #[q2, .int .u32 ((r0.prev : Nat) : Int), .int .u32 ((r0.sn : Nat) : Int)], q3, .int .i64 0] ∧ RsV R q1 (U4 s r0) ∧ By R q2 (L8 s r0.own) ∧ By R q3 (A2q s r0 K4 tx)) (vs 15) (bs 15) Rj := g15
  dsimp only at g15
  obtain ⟨-, q1, q2, q3, e, -, -, k⟩ := g15
  exact ⟨_, G3 (vs := #[q1, .agg #[q2, .int .u32 ((r0.prev : Nat) : Int), .int .u32 ((r0.sn : Nat) : Int)], q3, .int .i64 0]) (by rw [← e]; rfl) rfl, rfl, k⟩
 ·
  have g15 := ha _ (List.mem_of_getElem? (i := 4) rfl) kR
  replace g15 : (fun v B R => B = [] ∧ ∃ q1 q2 q3, v = .tuple #[q1, .agg #[q2, .int .u32 ((r0.prev : Nat) : Int), .int .u32 ((r0.sn : Nat) : Int)], q3, .int .i64 0] ∧ RsV R q1 (U4 s r0) ∧ By R q2 (L8 s r0.own) ∧ By R q3 (A2q s r0 K4 tx)) (vs 15) (bs 15) Rj := g15
  dsimp only at g15
  obtain ⟨-, q1, q2, q3, e, -⟩ := g15
  exact ⟨_, G3 (vs := #[q1, .agg #[q2, .int .u32 ((r0.prev : Nat) : Int), .int .u32 ((r0.sn : Nat) : Int)], q3, .int .i64 0]) (by rw [← e]; rfl) rfl, rfl, rfl⟩
 intro vs bs Jn0 hφ hKK
 have kk10 := hKK _ (List.mem_of_getElem? (i := 0) rfl)
 dsimp only at kk10
 have kk11 := hKK _ (List.mem_of_getElem? (i := 1) rfl)
 dsimp only at kk11
 have kk13 := hKK _ (List.mem_of_getElem? (i := 2) rfl)
 dsimp only at kk13
 have kk14 := hKK _ (List.mem_of_getElem? (i := 3) rfl)
 dsimp only at kk14
 have kk15 := hKK _ (List.mem_of_getElem? (i := 4) rfl)
 dsimp only at kk15
 have kk16 := hKK _ (List.mem_of_getElem? (i := 5) rfl)
 dsimp only at kk16
 have kk20 := hKK _ (List.mem_of_getElem? (i := 6) rfl)
 dsimp only at kk20
 have kk21 := hKK _ (List.mem_of_getElem? (i := 7) rfl)
 dsimp only at kk21
 have kk17 := hKK _ (List.mem_of_getElem? (i := 8) rfl)
 dsimp only at kk17
 have kk18 := hKK _ (List.mem_of_getElem? (i := 9) rfl)
 dsimp only at kk18
 have kk19 := hKK _ (List.mem_of_getElem? (i := 10) rfl)
 dsimp only at kk19
 clear hKK
 have g10 := ofH hφ
 dsimp only at g10
 replace hφ := ofT hφ
 have g11 := ofH hφ
 dsimp only at g11
 replace hφ := ofT hφ
 have g13 := ofH hφ
 dsimp only at g13
 replace hφ := ofT hφ
 have g14 := ofH hφ
 dsimp only at g14
 replace hφ := ofT hφ
 have g15 := ofH hφ
 dsimp only at g15
 replace hφ := ofT hφ
 have g16 := ofH hφ
 dsimp only at g16
 replace hφ := ofT hφ
 have g20 := ofH hφ
 dsimp only at g20
 replace hφ := ofT hφ
 have g21 := ofH hφ
 dsimp only at g21
 replace hφ := ofT hφ
 have g17 := ofH hφ
 dsimp only at g17
 replace hφ := ofT hφ
 have g18 := ofH hφ
 dsimp only at g18
 replace hφ := ofT hφ
 have g19 := ofH hφ
 dsimp only at g19
 clear hφ
 dsimp only [P5, A0j, List.foldr, List.map, List.cons_append, List.nil_append]
 generalize bs 10 = B23 at *
 generalize bs 11 = B24 at *
 generalize bs 13 = B26 at *
 generalize bs 14 = B27 at *
 generalize bs 15 = B12 at *
 generalize bs 16 = B28 at *
 generalize bs 20 = B8 at *
 generalize bs 21 = B9 at *
 generalize bs 17 = B29 at *
 generalize bs 18 = B30 at *
 generalize bs 19 = B31 at *
 generalize vs 10 = u23 at *
 generalize vs 11 = u24 at *
 generalize vs 13 = u26 at *
 generalize vs 14 = u27 at *
 generalize vs 15 = u12 at *
 generalize vs 16 = u28 at *
 generalize vs 20 = u8 at *
 generalize vs 21 = u9 at *
 generalize vs 17 = u29 at *
 generalize vs 18 = u30 at *
 generalize vs 19 = u31 at *
 obtain ⟨-, -, -, -, hP27, -⟩ := g14
 clear g15
 obtain ⟨b, rfl, rfl⟩ := g10
 obtain ⟨rfl, h24⟩ := g11
 obtain ⟨rfl, h26⟩ := g13
 obtain ⟨rfl, wo, wt, wr, wk, wl, wq, rfl, hn1⟩ := g16
 obtain ⟨rfl, hk_, rfl, h29⟩ := g17
 obtain ⟨rfl, h30⟩ := g18
 obtain ⟨rfl, rfl⟩ := g19
 obtain ⟨b8, rfl, rfl⟩ := g20
 obtain ⟨b9, rfl, rfl⟩ := g21
 haveI := hn1.own.cel
 haveI := hn1.their.cel
 haveI := hn1.root.cel
 haveI := hn1.sk.cel
 haveI := hn1.tk.cel
 haveI := hn1.st.cel
 haveI := h29.cel
 haveI := h30.cel
 unfold rsC
 refine P7 rfl rfl rfl (A8 (vs := [wo, wt, wr, wk, .int .u32 (((U4 s r0).sn : Nat) : Int), wl, .int .u32 (((U4 s r0).tn : Nat) : Int), .int .u32 (((U4 s r0).prev : Nat) : Int), wq]) rfl rfl rfl kR (by rfl) (A7 hn1.own.one (A7 hn1.their.one (A7 hn1.root.one (A7 hn1.sk.one (A7 rfl (A7 hn1.tk.one (A7 rfl (A7 rfl (A7 hn1.st.one I5))))))))) UpC.upd ?_)
 refine P7 rfl rfl rfl (A8 (vs := [hk_, .int .u32 ((r0.prev : Nat) : Int), .int .u32 ((r0.sn : Nat) : Int)]) rfl rfl rfl kR (by rfl) (A7 h29.one al2) UpC.upd ?_)
 refine I6 hs rfl (F3 rfl) rfl ?_
 refine I6 hs rfl (F3 rfl) rfl ?_
 refine N9 (W4 0 1 2 6 8 9 10 11) (A3 (A1 (mv_ ?_)))
 refine A2 (E1 false rfl rfl (neF rfl)) rfl ?_
 refine A0 (W4 0 1 2 6 8 9 10 33) ?_
 refine C6 rfl ?_
 refine A5 (nx (V6 0 1 2 6 8 9 10) ?_)
 refine D1 [0, 1, 2, 3, 4, 5] (zp 0 [0, 0, 1, 0, 0, 0, 2]) kR kR fun hs => ?_
 refine fm_ hs ?_
 refine fm_ hs ?_
 refine G6 hs rfl (qw_ 9) rfl ?_
 refine C3 hs rfl (G1 rfl) rfl ?_
 refine C3 hs rfl (qf_ 1 1) rfl ?_
 refine C3 hs rfl (W5 (e := 80) (n := 2) (sz := 9) (i := 0) 1 rfl rfl kR kR rfl (by decide) rfl) rfl ?_
 refine E6 rfl rfl rfl (L3 (vs := [wo, wt, wr, wk, .int .u32 (((U4 s r0).sn : Nat) : Int), wl, .int .u32 (((U4 s r0).tn : Nat) : Int), .int .u32 (((U4 s r0).prev : Nat) : Int), wq]) (cs' := [.pointer (some ⟨pb, 0, none⟩), wo, wt, wr, wk, .int .u32 (((U4 s r0).sn : Nat) : Int), wl, .int .u32 (((U4 s r0).tn : Nat) : Int), .int .u32 (((U4 s r0).prev : Nat) : Int), wq, bo, bt, br, bk, .int .u32 ((r1.sn : Nat) : Int), bl, .int .u32 ((r1.tn : Nat) : Int), .int .u32 ((r1.prev : Nat) : Int), bq]) rfl rfl rfl kR (by exact (show 1 + 9 ≤ 19 by decide)) (A7 hn1.own.one (A7 hn1.their.one (A7 hn1.root.one (A7 hn1.sk.one (A7 rfl (A7 hn1.tk.one (A7 rfl (A7 rfl (A7 hn1.st.one I5))))))))) rfl UpC.upd ?_)
 refine F5 (E4 1 2 6 9 10) (A1 (mv_ ?_))
 refine A2 (E0 rfl rfl rfl) rfl ?_
 refine A2 (qw_ 3) rfl ?_
 refine mv_ (mv_ ?_)
 refine A2 (E7 (place := fun x => #[(0, 1), (1, 3), (4, 1), (5, 1)][x]?) (z := [B2e, .slice none 0 0, I0, I0, .slice none 0 0, .string ByteArray.empty]) (fun _ => by kernel_rfl) (eS rfl (eS rfl (eS rfl (eS rfl e0)))) (bdS 0 1 rfl (by rfl) (bdS 1 3 rfl (by rfl) (bdS 4 1 rfl (by rfl) (bdS 5 1 rfl (by rfl) bd0))))) rfl ?_
 refine A4 rfl (A8 (vs := [.int .i64 1, hk_, .int .u32 ((r0.prev : Nat) : Int), .int .u32 ((r0.sn : Nat) : Int), u30, .string (txt tx)]) rfl rfl rfl kR (by rfl) (A7 rfl (A7 h29.one (A7 rfl (A7 rfl (A7 h30.one (A7 rfl I5)))))) UpC.upd ?_)
 refine as_ (A0 (C9 6 7) (B4 ?_))
 exact ⟨_, (tb, blk [.pointer (some ⟨pb, 0, none⟩), wo, wt, wr, wk, .int .u32 (((U4 s r0).sn : Nat) : Int), wl, .int .u32 (((U4 s r0).tn : Nat) : Int), .int .u32 (((U4 s r0).prev : Nat) : Int), wq, bo, bt, br, bk, .int .u32 ((r1.sn : Nat) : Int), bl, .int .u32 ((r1.tn : Nat) : Int), .int .u32 ((r1.prev : Nat) : Int), bq] 83) :: B27, [], A5U (n := 6) rfl rfl rfl kR At.mem (by rfl), Fit.none (Fit.pick (B := [_]) PickC.perm (Fit.last PickC.perm)), ⟨wo, wt, wr, wk, wl, wq, bo, bt, br, bk, bl, bq, B27, rfl, hn1.mono SubC.sub, h1.mono SubC.sub, hP27⟩, hk_, u30, rfl, h29.mono SubC.sub, h30.mono SubC.sub⟩
theorem B13 (tb pb : Nat) (s : Ps) (hre : s.real = false) (r0 r1 : Rsd) (tx : List Nat) (M0 A : Mem) (hPr : Par A tb pb s r0 r1 M0) (hn : s.ts.length + 200 ≤ 1040000) (hsk : 0 < r1.sk.length) (htx : B256 tx) (ltx : tx.length ≤ 16777216) (hG : Glb A) : FnX Tryz.prog 36 [.pointer (some ⟨tb, 0, none⟩), .int .i64 1, .string (txt tx)] M0 A fun q M J => Par (J ++ A) tb pb (A9Y s r1 K4 tx) r0 (U4 s r1) M ∧ ∃ vk vg, q = .tuple #[.agg #[.int .i64 0, vk, .int .u32 ((r1.prev : Nat) : Int), .int .u32 ((r1.sn : Nat) : Int), vg, .string (txt tx)], .bool true] ∧ By (J ++ A) vk (L8 s r1.own) ∧ By (J ++ A) vg (A2q s r1 K4 tx) := by
 obtain ⟨ao, at_, ar, ak, al, aq, bo, bt, br, bk, bl, bq, MP, rfl, h0, h1, hP⟩ := hPr
 haveI := h0.own.cel
 haveI := h0.their.cel
 haveI := h0.root.cel
 haveI := h0.sk.cel
 haveI := h0.tk.cel
 haveI := h1.own.cel
 haveI := h1.their.cel
 haveI := h1.root.cel
 haveI := h1.sk.cel
 haveI := h1.tk.cel
 haveI := h0.st.cel
 haveI := h1.st.cel
 unfold rsC
 refine FnX.enterZ (N := 47) Tryz.func36 rfl rfl rfl fun w_ => ?_
 refine B0 (D3 0 1 2) (A1 ?_)
 refine A4 rfl (C4 (cs := [B2e, .slice none 0 0, I0, I0, .slice none 0 0, .string ByteArray.empty]) kR rfl fun b6 => ?_)
 refine as_ (A0 (D8 0 1 2 6) ?_)
 refine I2 (MP) (_) true [0, 1, 2, 3, 4, 5, 6, 7, 8, 9, 10, 11, 12, 13, 14, 15, 16, 17, 18, 19, 20, 21, 24, 25] [(0, 0), (1, 0), (2, 0), (3, 1), (4, 0), (5, 0), (6, 0), (7, 0), (8, 0), (9, 1), (12, 0), (10, 8), (11, 8), (13, 8), (14, 8), (15, 8), (16, 8), (20, 8), (21, 8), (17, 9), (18, 9), (19, 10), (22, 2), (23, 2), (24, 0), (25, 0)] kR kR PickC.perm fun hs K n0 hKm hKs hKn => ?_
 refine km_ hs ?_
 refine I6 hs rfl (G1 rfl) rfl ?_
 refine I6 hs rfl (qf_ 0 0) rfl ?_
 refine R5 hs rfl hKs ql_ ?_
 refine km_ hs ?_
 refine km_ hs ?_
 refine I6 hs rfl (G1 rfl) rfl ?_
 refine I6 hs rfl (qf_ 1 1) rfl ?_
 refine I6 hs rfl (W5 (e := 80) (n := 2) (sz := 9) (i := 1) 10 rfl rfl kR kR rfl (by decide) rfl) rfl ?_
 refine R5 hs rfl hKs (V3 (n := 9) (vs := [bo, bt, br, bk, .int .u32 ((r1.sn : Nat) : Int), bl, .int .u32 ((r1.tn : Nat) : Int), .int .u32 ((r1.prev : Nat) : Int), bq]) rfl kR At.mem rfl (W3 [.pointer (some ⟨pb, 0, none⟩), ao, at_, ar, ak, .int .u32 ((r0.sn : Nat) : Int), al, .int .u32 ((r0.tn : Nat) : Int), .int .u32 ((r0.prev : Nat) : Int), aq] [bo, bt, br, bk, .int .u32 ((r1.sn : Nat) : Int), bl, .int .u32 ((r1.tn : Nat) : Int), .int .u32 ((r1.prev : Nat) : Int), bq] [])) ?_
 refine km_ hs ?_
 refine A03 [⟨10, 23, none, [], fun v B _ => ∃ b, v = .slice (some ⟨b, 0, none⟩) 4 4 ∧ B = [(b, blk (nums .u8 [119, 105, 116, 104]) 5)]⟩, ⟨11, 24, some 10, [], fun v B R => B = [] ∧ By R v [119, 105, 116, 104]⟩, ⟨13, 26, none, [], fun v B R => B = [] ∧ By R v tx⟩, ⟨14, 27, none, MP, fun v B R => ∃ q1 q2 q3, v = .tuple #[q1, .agg #[q2, .int .u32 ((r1.prev : Nat) : Int), .int .u32 ((r1.sn : Nat) : Int)], q3, .int .i64 0] ∧ Prm pb (A9Y s r1 K4 tx) B ∧ RsV R q1 (U4 s r1) ∧ By R q2 (L8 s r1.own) ∧ By R q3 (A2q s r1 K4 tx)⟩, ⟨15, 12, none, [], fun v B R => B = [] ∧ ∃ q1 q2 q3, v = .tuple #[q1, .agg #[q2, .int .u32 ((r1.prev : Nat) : Int), .int .u32 ((r1.sn : Nat) : Int)], q3, .int .i64 0] ∧ RsV R q1 (U4 s r1) ∧ By R q2 (L8 s r1.own) ∧ By R q3 (A2q s r1 K4 tx)⟩, ⟨16, 28, none, [], fun v B R => B = [] ∧ RsV R v (U4 s r1)⟩, ⟨20, 8, none, [], fun v B _ => ∃ b, v = .pointer (some ⟨b, 0, none⟩) ∧ B = [(b, blk [.slice none 0 0, .slice none 0 0, .slice none 0 0, .slice none 0 0, .int .u32 0, .slice none 0 0, .int .u32 0, .int .u32 0, .pointer none] 80)]⟩, ⟨21, 9, none, [], fun v B _ => ∃ b, v = .pointer (some ⟨b, 0, none⟩) ∧ B = [(b, blk [.slice none 0 0, .int .u32 0, .int .u32 0] 62)]⟩] [⟨17, 29, none, [], fun v B R => B = [] ∧ ∃ q2, v = .agg #[q2, .int .u32 ((r1.prev : Nat) : Int), .int .u32 ((r1.sn : Nat) : Int)] ∧ By R q2 (L8 s r1.own)⟩, ⟨18, 30, none, [], fun v B R => B = [] ∧ By R v (A2q s r1 K4 tx)⟩, ⟨19, 31, none, [], fun v B R => B = [] ∧ v = .int .i64 0⟩] ([(b6, blk [.int .i64 0, .slice none 0 0, .int .u32 0, .int .u32 0, .slice none 0 0, .string ByteArray.empty] 71), (tb, blk [.pointer (some ⟨pb, 0, none⟩), ao, at_, ar, ak, .int .u32 ((r0.sn : Nat) : Int), al, .int .u32 ((r0.tn : Nat) : Int), .int .u32 ((r0.prev : Nat) : Int), aq, bo, bt, br, bk, .int .u32 ((r1.sn : Nat) : Int), bl, .int .u32 ((r1.tn : Nat) : Int), .int .u32 ((r1.prev : Nat) : Int), bq] 83)]) (fun bs => [bs 11, bs 13, bs 14, bs 15, bs 16, bs 20, bs 21, bs 17, bs 18, bs 19]) (hKn rfl) (by simp [A0j, A0A]) (show ∀ m ∈ ([[], [], MP, [], [], [], [], [], [], []] : List Mem), ∀ x ∈ m, K x.1 from A7 (fun _ h => by cases h) (A7 (fun _ h => by cases h) (A7 (hKm) (A7 (fun _ h => by cases h) (A7 (fun _ h => by cases h) (A7 (fun _ h => by cases h) (A7 (fun _ h => by cases h) (A7 (fun _ h => by cases h) (A7 (fun _ h => by cases h) (A7 (fun _ h => by cases h) (I5))))))))))) kR (fun _ => by first | rfl | kernel_rfl)
  (A7 (fun _ _ _ _ _ h => h) (A7 (fun _ _ _ _ hR h => ⟨h.1, h.2.mono hR⟩) (A7 (fun _ _ _ _ hR h => ⟨h.1, h.2.mono hR⟩) (A7 (fun _ _ _ _ h ⟨q1, q2, q3, e, p1, p2, p3, p4⟩ => ⟨q1, q2, q3, e, p1, p2.mono h, p3.mono h, p4.mono h⟩) (A7 (fun _ _ _ _ h ⟨e0, q1, q2, q3, e, p2, p3, p4⟩ => ⟨e0, q1, q2, q3, e, p2.mono h, p3.mono h, p4.mono h⟩) (A7 (fun _ _ _ _ h hp => ⟨hp.1, hp.2.mono h⟩) (A7 (fun _ _ _ _ _ h => h) (A7 (fun _ _ _ _ _ h => h) (A7 (fun _ _ _ _ h ⟨e0, q, e, p⟩ => ⟨e0, q, e, p.mono h⟩) (A7 (fun _ _ _ _ hR h => ⟨h.1, h.2.mono hR⟩) (A7 (fun _ _ _ _ _ h => h) (I5)))))))))))) (show List.Nodup [23, 24, 26, 27, 12, 28, 8, 9, 29, 30, 31] by decide) (show List.Nodup [10, 11, 13, 14, 15, 16, 20, 21, 17, 18, 19] by decide) (A7 (C1 rfl) (A7 (C1 rfl) (A7 (C1 rfl) (A7 (C1 rfl) (A7 (C1 rfl) (A7 (C1 rfl) (A7 (C1 rfl) (A7 (C1 rfl) (A7 (C1 rfl) (A7 (C1 rfl) (A7 (C1 rfl) (I5))))))))))))
  hs (List.cons_ne_nil _ _) (A7 ⟨_, rfl, fun vs bs R Rj wG hb hj hjr ha => ⟨.inl rfl, ?_⟩⟩ (A7 ⟨_, rfl, fun vs bs R Rj wG hb hj hjr ha => ⟨.inl rfl, ?_⟩⟩ (A7 ⟨_, rfl, fun vs bs R Rj wG hb hj hjr ha => ⟨.inl rfl, ?_⟩⟩ (A7 ⟨_, rfl, fun vs bs R Rj wG hb hj hjr ha => ⟨.inl rfl, ?_⟩⟩ (A7 ⟨_, rfl, fun vs bs R Rj wG hb hj hjr ha => ⟨.inl rfl, ?_⟩⟩ (A7 ⟨_, rfl, fun vs bs R Rj wG hb hj hjr ha => ⟨.inl rfl, ?_⟩⟩ (A7 ⟨_, rfl, fun vs bs R Rj wG hb hj hjr ha => ⟨.inl rfl, ?_⟩⟩ (A7 ⟨_, rfl, fun vs bs R Rj wG hb hj hjr ha => ⟨.inl rfl, ?_⟩⟩ (I5))))))))) (A7 ⟨rfl, rfl, _, _, _, _, rfl, fun vs bs Rj hj ha => ?_⟩ (A7 ⟨rfl, rfl, _, _, _, _, rfl, fun vs bs Rj hj ha => ?_⟩ (A7 ⟨rfl, rfl, _, _, _, _, rfl, fun vs bs Rj hj ha => ?_⟩ (I5)))) ?_
 ·
  dsimp only [Gc.inp]
  exact C0 (e := 5) (sz := 1) (z := [zu8, zu8, zu8, zu8]) kR (eS rfl (eS rfl (eS rfl (eS rfl e0)))) (bdS 0 1 rfl (by rfl) (bdS 1 1 rfl (by rfl) (bdS 2 1 rfl (by rfl) (bdS 3 1 rfl (by rfl) bd0)))) rfl fun b => ⟨_, rfl, b, rfl, rfl⟩
 ·
  dsimp only [Gc.inp]
  have g10 := ha _ (List.mem_of_getElem? (i := 0) rfl) kR
  replace g10 : (fun v B _ => ∃ b, v = .slice (some ⟨b, 0, none⟩) 4 4 ∧ B = [(b, blk (nums .u8 [119, 105, 116, 104]) 5)]) (vs 10) (bs 10) Rj := g10
  dsimp only at g10
  obtain ⟨b, e, eB⟩ := g10
  dsimp only [P5, List.map, List.cons_append, List.nil_append]
  rw [e, eB]
  refine OpL.frzAll ?_
  exact A2z rfl kR UpC.upd rfl (fun J2 hJ => ⟨_, rfl, rfl, ⟨Rd.whole (n := 4) (List.mem_append_left _ (hJ _ (List.mem_append_left _ (List.mem_singleton.2 rfl)))) (by rfl), by decide, by decide⟩⟩)
 ·
  dsimp only [Gc.inp]
  refine OpL.frzAll ?_
  refine Z5 (e := 5) rfl rfl htx.lt kR kR kR rfl fun v B hs J2 hJ => ⟨_, rfl, rfl, ⟨hs.mono fun x hx => List.mem_append_left _ (hJ _ (by simp [hx])), htx.lt, ltx⟩⟩
 ·
  dsimp only [Gc.inp]
  have g11 := ha _ (List.mem_of_getElem? (i := 1) rfl) kR
  replace g11 : (fun v B R => B = [] ∧ By R v [119, 105, 116, 104]) (vs 11) (bs 11) Rj := g11
  dsimp only at g11
  have g13 := ha _ (List.mem_of_getElem? (i := 2) rfl) kR
  replace g13 : (fun v B R => B = [] ∧ By R v tx) (vs 13) (bs 13) Rj := g13
  dsimp only at g13
  obtain ⟨-, h11⟩ := g11
  obtain ⟨-, h13⟩ := g13
  haveI := h11.cel
  haveI := h13.cel
  refine D4 (Mc := MP) (R := []) (aS rfl (aS rfl (aS rfl (aS rfl (a0))))) kR (by simp) (FnX.amb (A := Rj) (fun x hx => by have := hjr x hx; simp [this]) (A8n pb s hre r1 bo bt br bk bl bq _ _ K4 tx MP Rj hP (by omega) (h1.mono (fun x hx => hj x (SubC.sub x hx))) hsk h11 (by decide) h13 (hG.sub (fun x hx => hj x (SubC.sub x hx))))) rfl ?_
  rintro v25 M25 J25 ⟨q1, q2, q3, rfl, hP25, p2, p3, p4⟩
  exact ⟨_, rfl, q1, q2, q3, rfl, by simpa using hP25, p2.mono (fun x hx => by simpa using hx), p3.mono (fun x hx => by simpa using hx), p4.mono (fun x hx => by simpa using hx)⟩
 ·
  dsimp only [Gc.inp]
  have g14 := ha _ (List.mem_of_getElem? (i := 3) rfl) kR
  replace g14 : (fun v B R => ∃ q1 q2 q3, v = .tuple #[q1, .agg #[q2, .int .u32 ((r1.prev : Nat) : Int), .int .u32 ((r1.sn : Nat) : Int)], q3, .int .i64 0] ∧ Prm pb (A9Y s r1 K4 tx) B ∧ RsV R q1 (U4 s r1) ∧ By R q2 (L8 s r1.own) ∧ By R q3 (A2q s r1 K4 tx)) (vs 14) (bs 14) Rj := g14
  dsimp only at g14
  obtain ⟨q1, q2, q3, e, -, k⟩ := g14
  exact OpQ.opL qm_ rfl ⟨_, rfl, rfl, q1, q2, q3, e, k⟩
 ·
  dsimp only [Gc.inp]
  have g15 := ha _ (List.mem_of_getElem? (i := 4) rfl) kR
  replace g15 : (fun v B R => B = [] ∧ ∃ q1 q2 q3, v = .tuple #[q1, .agg #[q2, .int .u32 ((r1.prev : Nat) : Int), .int .u32 ((r1.sn : Nat) : Int)], q3, .int .i64 0] ∧ RsV R q1 (U4 s r1) ∧ By R q2 (L8 s r1.own) ∧ By R q3 (A2q s r1 K4 tx)) (vs 15) (bs 15) Rj := g15
  dsimp only at g15
  obtain ⟨-, q1, q2, q3, e, k, -⟩ := g15
  exact OpQ.opL (G3 (vs := #[q1, .agg #[q2, .int .u32 ((r1.prev : Nat) : Int), .int .u32 ((r1.sn : Nat) : Int)], q3, .int .i64 0]) (by rw [← e]; rfl) rfl) rfl ⟨_, rfl, rfl, k⟩
 ·
  dsimp only [Gc.inp]
  exact C4 (cs := [.slice none 0 0, .slice none 0 0, .slice none 0 0, .slice none 0 0, I0, .slice none 0 0, I0, I0, .pointer none]) kR rfl fun b => ⟨_, rfl, b, rfl, rfl⟩
 ·
  dsimp only [Gc.inp]
  exact C4 (cs := [.slice none 0 0, .int .u32 0, .int .u32 0]) kR rfl fun b => ⟨_, rfl, b, rfl, rfl⟩
 ·
  have g15 := ha _ (List.mem_of_getElem? (i := 4) rfl) kR
  replace g15 : (fun v B R => B = [] ∧ ∃ q1 q2 q3, v = .tuple #[q1, .agg #[q2, .int .u32 ((r1.prev : Nat) : Int), .int .u32 ((r1.sn : Nat) : Int)], q3, .int .i64 0] ∧ RsV R q1 (U4 s r1) ∧ By R q2 (L8 s r1.own) ∧ By R q3 (A2q s r1 K4 tx)) (vs 15) (bs 15) Rj := g15
  dsimp only at g15
  obtain ⟨-, q1, q2, q3, e, -, k, -⟩ := g15
  exact ⟨_, G3 (vs := #[q1, .agg #[q2, .int .u32 ((r1.prev : Nat) : Int), .int .u32 ((r1.sn : Nat) : Int)], q3, .int .i64 0]) (by rw [← e]; rfl) rfl, rfl, q2, rfl, k⟩
 ·
  have g15 := ha _ (List.mem_of_getElem? (i := 4) rfl) kR
  replace g15 : (fun v B R => B = [] ∧ ∃ q1 q2 q3, v = .tuple #[q1, .agg #[q2, .int .u32 ((r1.prev : Nat) : Int), .int .u32 ((r1.sn : Nat) : Int)], q3, .int .i64 0] ∧ RsV R q1 (U4 s r1) ∧ By R q2 (L8 s r1.own) ∧ By R q3 (A2q s r1 K4 tx)) (vs 15) (bs 15) Rj := g15
  dsimp only at g15
  obtain ⟨-, q1, q2, q3, e, -, -, k⟩ := g15
  exact ⟨_, G3 (vs := #[q1, .agg #[q2, .int .u32 ((r1.prev : Nat) : Int), .int .u32 ((r1.sn : Nat) : Int)], q3, .int .i64 0]) (by rw [← e]; rfl) rfl, rfl, k⟩
 ·
  have g15 := ha _ (List.mem_of_getElem? (i := 4) rfl) kR
  replace g15 : (fun v B R => B = [] ∧ ∃ q1 q2 q3, v = .tuple #[q1, .agg #[q2, .int .u32 ((r1.prev : Nat) : Int), .int .u32 ((r1.sn : Nat) : Int)], q3, .int .i64 0] ∧ RsV R q1 (U4 s r1) ∧ By R q2 (L8 s r1.own) ∧ By R q3 (A2q s r1 K4 tx)) (vs 15) (bs 15) Rj := g15
  dsimp only at g15
  obtain ⟨-, q1, q2, q3, e, -⟩ := g15
  exact ⟨_, G3 (vs := #[q1, .agg #[q2, .int .u32 ((r1.prev : Nat) : Int), .int .u32 ((r1.sn : Nat) : Int)], q3, .int .i64 0]) (by rw [← e]; rfl) rfl, rfl, rfl⟩
 intro vs bs Jn0 hφ hKK
 have kk10 := hKK _ (List.mem_of_getElem? (i := 0) rfl)
 dsimp only at kk10
 have kk11 := hKK _ (List.mem_of_getElem? (i := 1) rfl)
 dsimp only at kk11
 have kk13 := hKK _ (List.mem_of_getElem? (i := 2) rfl)
 dsimp only at kk13
 have kk14 := hKK _ (List.mem_of_getElem? (i := 3) rfl)
 dsimp only at kk14
 have kk15 := hKK _ (List.mem_of_getElem? (i := 4) rfl)
 dsimp only at kk15
 have kk16 := hKK _ (List.mem_of_getElem? (i := 5) rfl)
 dsimp only at kk16
 have kk20 := hKK _ (List.mem_of_getElem? (i := 6) rfl)
 dsimp only at kk20
 have kk21 := hKK _ (List.mem_of_getElem? (i := 7) rfl)
 dsimp only at kk21
 have kk17 := hKK _ (List.mem_of_getElem? (i := 8) rfl)
 dsimp only at kk17
 have kk18 := hKK _ (List.mem_of_getElem? (i := 9) rfl)
 dsimp only at kk18
 have kk19 := hKK _ (List.mem_of_getElem? (i := 10) rfl)
 dsimp only at kk19
 clear hKK
 have g10 := ofH hφ
 dsimp only at g10
 replace hφ := ofT hφ
 have g11 := ofH hφ
 dsimp only at g11
 replace hφ := ofT hφ
 have g13 := ofH hφ
 dsimp only at g13
 replace hφ := ofT hφ
 have g14 := ofH hφ
 dsimp only at g14
 replace hφ := ofT hφ
 have g15 := ofH hφ
 dsimp only at g15
 replace hφ := ofT hφ
 have g16 := ofH hφ
 dsimp only at g16
 replace hφ := ofT hφ
 have g20 := ofH hφ
 dsimp only at g20
 replace hφ := ofT hφ
 have g21 := ofH hφ
 dsimp only at g21
 replace hφ := ofT hφ
 have g17 := ofH hφ
 dsimp only at g17
 replace hφ := ofT hφ
 have g18 := ofH hφ
 dsimp only at g18
 replace hφ := ofT hφ
 have g19 := ofH hφ
 dsimp only at g19
 clear hφ
 dsimp only [P5, A0j, List.foldr, List.map, List.cons_append, List.nil_append]
 generalize bs 10 = B23 at *
 generalize bs 11 = B24 at *
 generalize bs 13 = B26 at *
 generalize bs 14 = B27 at *
 generalize bs 15 = B12 at *
 generalize bs 16 = B28 at *
 generalize bs 20 = B8 at *
 generalize bs 21 = B9 at *
 generalize bs 17 = B29 at *
 generalize bs 18 = B30 at *
 generalize bs 19 = B31 at *
 generalize vs 10 = u23 at *
 generalize vs 11 = u24 at *
 generalize vs 13 = u26 at *
 generalize vs 14 = u27 at *
 generalize vs 15 = u12 at *
 generalize vs 16 = u28 at *
 generalize vs 20 = u8 at *
 generalize vs 21 = u9 at *
 generalize vs 17 = u29 at *
 generalize vs 18 = u30 at *
 generalize vs 19 = u31 at *
 obtain ⟨-, -, -, -, hP27, -⟩ := g14
 clear g15
 obtain ⟨b, rfl, rfl⟩ := g10
 obtain ⟨rfl, h24⟩ := g11
 obtain ⟨rfl, h26⟩ := g13
 obtain ⟨rfl, wo, wt, wr, wk, wl, wq, rfl, hn1⟩ := g16
 obtain ⟨rfl, hk_, rfl, h29⟩ := g17
 obtain ⟨rfl, h30⟩ := g18
 obtain ⟨rfl, rfl⟩ := g19
 obtain ⟨b8, rfl, rfl⟩ := g20
 obtain ⟨b9, rfl, rfl⟩ := g21
 haveI := hn1.own.cel
 haveI := hn1.their.cel
 haveI := hn1.root.cel
 haveI := hn1.sk.cel
 haveI := hn1.tk.cel
 haveI := hn1.st.cel
 haveI := h29.cel
 haveI := h30.cel
 unfold rsC
 refine P7 rfl rfl rfl (A8 (vs := [wo, wt, wr, wk, .int .u32 (((U4 s r1).sn : Nat) : Int), wl, .int .u32 (((U4 s r1).tn : Nat) : Int), .int .u32 (((U4 s r1).prev : Nat) : Int), wq]) rfl rfl rfl kR (by rfl) (A7 hn1.own.one (A7 hn1.their.one (A7 hn1.root.one (A7 hn1.sk.one (A7 rfl (A7 hn1.tk.one (A7 rfl (A7 rfl (A7 hn1.st.one I5))))))))) UpC.upd ?_)
 refine P7 rfl rfl rfl (A8 (vs := [hk_, .int .u32 ((r1.prev : Nat) : Int), .int .u32 ((r1.sn : Nat) : Int)]) rfl rfl rfl kR (by rfl) (A7 h29.one al2) UpC.upd ?_)
 refine I6 hs rfl (F3 rfl) rfl ?_
 refine I6 hs rfl (F3 rfl) rfl ?_
 refine N9 (W4 0 1 2 6 8 9 10 11) (A3 (A1 (mv_ ?_)))
 refine A2 (E1 false rfl rfl (neF rfl)) rfl ?_
 refine A0 (W4 0 1 2 6 8 9 10 33) ?_
 refine C6 rfl ?_
 refine A5 (nx (V6 0 1 2 6 8 9 10) ?_)
 refine D1 [0, 1, 2, 3, 4, 5] (zp 0 [0, 0, 1, 0, 0, 0, 2]) kR kR fun hs => ?_
 refine fm_ hs ?_
 refine fm_ hs ?_
 refine G6 hs rfl (qw_ 9) rfl ?_
 refine C3 hs rfl (G1 rfl) rfl ?_
 refine C3 hs rfl (qf_ 1 1) rfl ?_
 refine C3 hs rfl (W5 (e := 80) (n := 2) (sz := 9) (i := 1) 10 rfl rfl kR kR rfl (by decide) rfl) rfl ?_
 refine E6 rfl rfl rfl (L3 (vs := [wo, wt, wr, wk, .int .u32 (((U4 s r1).sn : Nat) : Int), wl, .int .u32 (((U4 s r1).tn : Nat) : Int), .int .u32 (((U4 s r1).prev : Nat) : Int), wq]) (cs' := [.pointer (some ⟨pb, 0, none⟩), ao, at_, ar, ak, .int .u32 ((r0.sn : Nat) : Int), al, .int .u32 ((r0.tn : Nat) : Int), .int .u32 ((r0.prev : Nat) : Int), aq, wo, wt, wr, wk, .int .u32 (((U4 s r1).sn : Nat) : Int), wl, .int .u32 (((U4 s r1).tn : Nat) : Int), .int .u32 (((U4 s r1).prev : Nat) : Int), wq]) rfl rfl rfl kR (by exact (show 10 + 9 ≤ 19 by decide)) (A7 hn1.own.one (A7 hn1.their.one (A7 hn1.root.one (A7 hn1.sk.one (A7 rfl (A7 hn1.tk.one (A7 rfl (A7 rfl (A7 hn1.st.one I5))))))))) rfl UpC.upd ?_)
 refine F5 (E4 1 2 6 9 10) (A1 (mv_ ?_))
 refine A2 (E0 rfl rfl rfl) rfl ?_
 refine A2 (qw_ 3) rfl ?_
 refine mv_ (mv_ ?_)
 refine A2 (E7 (place := fun x => #[(0, 1), (1, 3), (4, 1), (5, 1)][x]?) (z := [B2e, .slice none 0 0, I0, I0, .slice none 0 0, .string ByteArray.empty]) (fun _ => by kernel_rfl) (eS rfl (eS rfl (eS rfl (eS rfl e0)))) (bdS 0 1 rfl (by rfl) (bdS 1 3 rfl (by rfl) (bdS 4 1 rfl (by rfl) (bdS 5 1 rfl (by rfl) bd0))))) rfl ?_
 refine A4 rfl (A8 (vs := [.int .i64 0, hk_, .int .u32 ((r1.prev : Nat) : Int), .int .u32 ((r1.sn : Nat) : Int), u30, .string (txt tx)]) rfl rfl rfl kR (by rfl) (A7 rfl (A7 h29.one (A7 rfl (A7 rfl (A7 h30.one (A7 rfl I5)))))) UpC.upd ?_)
 refine as_ (A0 (C9 6 7) (B4 ?_))
 exact ⟨_, (tb, blk [.pointer (some ⟨pb, 0, none⟩), ao, at_, ar, ak, .int .u32 ((r0.sn : Nat) : Int), al, .int .u32 ((r0.tn : Nat) : Int), .int .u32 ((r0.prev : Nat) : Int), aq, wo, wt, wr, wk, .int .u32 (((U4 s r1).sn : Nat) : Int), wl, .int .u32 (((U4 s r1).tn : Nat) : Int), .int .u32 (((U4 s r1).prev : Nat) : Int), wq] 83) :: B27, [], A5U (n := 6) rfl rfl rfl kR At.mem (by rfl), Fit.none (Fit.pick (B := [_]) PickC.perm (Fit.last PickC.perm)), ⟨ao, at_, ar, ak, al, aq, wo, wt, wr, wk, wl, wq, B27, rfl, h0.mono SubC.sub, hn1.mono SubC.sub, hP27⟩, hk_, u30, rfl, h29.mono SubC.sub, h30.mono SubC.sub⟩

theorem B2a (tb pb : Nat) (s : Ps) (hre : s.real = false) (r0 r1 : Rsd) (vk vg : Value) (hk g t lt : List Nat) (hp : Nat) (M0 A : Mem) (hPr : Par A tb pb s r0 r1 M0) (hn : s.ts.length + 500 ≤ 1000000) (hsn : s.n < 1000000000) (hhk : By A vk hk) (hkl : hk.length ≤ 100000) (hhp : hp < 4294967296) (hgg : By A vg g) (htx : B256 t) (ltx : t.length ≤ 16777216) (hO : Opn s r0 hk K4 hp g t) (hG : Glb A) : FnX Tryz.prog 37 [.pointer (some ⟨tb, 0, none⟩), .agg #[.int .i64 0, vk, .int .u32 ((hp : Nat) : Int), .int .u32 ((0 : Nat) : Int), vg, .string (txt lt)]] M0 A fun q M J => Par (J ++ A) tb pb (B0z s r0 hk) (V7 s r0 hk) r1 M ∧ q = .tuple #[.string (txt t), .int .i64 0] := by
 obtain ⟨ao, at_, ar, ak, al, aq, bo, bt, br, bk, bl, bq, MP, rfl, h0, h1, hP⟩ := hPr
 haveI := h0.own.cel
 haveI := h0.their.cel
 haveI := h0.root.cel
 haveI := h0.sk.cel
 haveI := h0.tk.cel
 haveI := h0.st.cel
 haveI := h1.own.cel
 haveI := h1.their.cel
 haveI := h1.root.cel
 haveI := h1.sk.cel
 haveI := h1.tk.cel
 haveI := h1.st.cel
 haveI := hhk.cel
 haveI := hgg.cel
 unfold rsC
 refine FnX.enterZ (N := 43) Tryz.func37 rfl rfl rfl fun w_ => ?_
 refine B0 (C9 0 1) (A1 ?_)
 refine A4 rfl (bx_ fun b3 => ?_)
 refine as_ (as_ (A0 (C9 0 3) ?_))
 refine I2 (MP) (_) true [0, 1, 2, 3, 4, 5, 6, 7, 8, 9, 10, 11, 12, 13, 14, 15, 16, 17, 18, 19, 20, 21, 22, 24, 25] [(0, 0), (1, 0), (2, 0), (3, 1), (4, 0), (5, 0), (6, 1), (7, 0), (8, 0), (9, 0), (10, 1), (13, 0), (14, 1), (15, 0), (16, 1), (11, 8), (12, 8), (17, 8), (18, 8), (19, 8), (22, 8), (20, 9), (21, 10), (23, 2), (24, 0), (25, 0)] kR kR PickC.perm fun hs K n0 hKm hKs hKn => ?_
 refine km_ hs ?_
 refine I6 hs rfl (G1 rfl) rfl ?_
 refine I6 hs rfl (qf_ 0 0) rfl ?_
 refine R5 hs rfl hKs ql_ ?_
 refine km_ hs ?_
 refine I6 hs rfl (qf_ 0 0) rfl ?_
 refine R5 hs rfl hKs ql_ ?_
 refine I6 hs rfl (G1 rfl) rfl ?_
 refine I6 hs rfl (qf_ 1 1) rfl ?_
 refine I6 hs rfl (W5 (e := 80) (n := 2) (sz := 9) (i := 0) 1 rfl rfl kR kR rfl (by decide) rfl) rfl ?_
 refine R5 hs rfl hKs (V3 (n := 9) (vs := [ao, at_, ar, ak, .int .u32 ((r0.sn : Nat) : Int), al, .int .u32 ((r0.tn : Nat) : Int), .int .u32 ((r0.prev : Nat) : Int), aq]) rfl kR At.mem rfl (W3 [.pointer (some ⟨pb, 0, none⟩)] [ao, at_, ar, ak, .int .u32 ((r0.sn : Nat) : Int), al, .int .u32 ((r0.tn : Nat) : Int), .int .u32 ((r0.prev : Nat) : Int), aq] [bo, bt, br, bk, .int .u32 ((r1.sn : Nat) : Int), bl, .int .u32 ((r1.tn : Nat) : Int), .int .u32 ((r1.prev : Nat) : Int), bq])) ?_
 refine I6 hs rfl (qf_ 1 1) rfl ?_
 refine R5 hs rfl hKs (V3 (n := 3) (vs := [vk, .int .u32 ((hp : Nat) : Int), .int .u32 ((0 : Nat) : Int)]) rfl kR At.mem rfl (W3 [.int .i64 0] [vk, .int .u32 ((hp : Nat) : Int), .int .u32 ((0 : Nat) : Int)] [vg, .string (txt lt)])) ?_
 refine I6 hs rfl (qf_ 4 4) rfl ?_
 refine R5 hs rfl hKs ql_ ?_
 refine A03 [⟨11, 21, none, [], fun v B _ => ∃ b, v = .slice (some ⟨b, 0, none⟩) 4 4 ∧ B = [(b, blk (nums .u8 [119, 105, 116, 104]) 5)]⟩, ⟨12, 22, some 11, [], fun v B R => B = [] ∧ By R v [119, 105, 116, 104]⟩, ⟨17, 27, none, MP, fun v B R => ∃ q1 q2, v = .tuple #[q1, q2, .int .i64 0] ∧ Prm pb (B0z s r0 hk) B ∧ RsV R q1 (V7 s r0 hk) ∧ By R q2 t⟩, ⟨18, 9, none, [], fun v B R => B = [] ∧ ∃ q1 q2, v = .tuple #[q1, q2, .int .i64 0] ∧ RsV R q1 (V7 s r0 hk) ∧ By R q2 t⟩, ⟨19, 28, none, [], fun v B R => B = [] ∧ RsV R v (V7 s r0 hk)⟩, ⟨22, 6, none, [], fun v B _ => ∃ b, v = .pointer (some ⟨b, 0, none⟩) ∧ B = [(b, blk [.slice none 0 0, .slice none 0 0, .slice none 0 0, .slice none 0 0, .int .u32 0, .slice none 0 0, .int .u32 0, .int .u32 0, .pointer none] 80)]⟩] [⟨20, 29, none, [], fun v B R => B = [] ∧ By R v t⟩, ⟨21, 30, none, [], fun v B R => B = [] ∧ v = .int .i64 0⟩] ([(b3, blk [.int .i64 0, vk, .int .u32 ((hp : Nat) : Int), .int .u32 ((0 : Nat) : Int), vg, .string (txt lt)] 71), (tb, blk [.pointer (some ⟨pb, 0, none⟩), ao, at_, ar, ak, .int .u32 ((r0.sn : Nat) : Int), al, .int .u32 ((r0.tn : Nat) : Int), .int .u32 ((r0.prev : Nat) : Int), aq, bo, bt, br, bk, .int .u32 ((r1.sn : Nat) : Int), bl, .int .u32 ((r1.tn : Nat) : Int), .int .u32 ((r1.prev : Nat) : Int), bq] 83)]) (fun bs => [bs 12, bs 17, bs 18, bs 19, bs 22, bs 20, bs 21]) (hKn rfl) (by simp [A0j, A0A]) (show ∀ m ∈ ([[], MP, [], [], [], [], []] : List Mem), ∀ x ∈ m, K x.1 from A7 (fun _ h => by cases h) (A7 (hKm) (A7 (fun _ h => by cases h) (A7 (fun _ h => by cases h) (A7 (fun _ h => by cases h) (A7 (fun _ h => by cases h) (A7 (fun _ h => by cases h) (I5)))))))) kR (fun _ => by first | rfl | kernel_rfl)
  (A7 (fun _ _ _ _ _ h => h) (A7 (fun _ _ _ _ hR h => ⟨h.1, h.2.mono hR⟩) (A7 (fun _ _ _ _ h ⟨q1, q2, e, p1, p2, p3⟩ => ⟨q1, q2, e, p1, p2.mono h, p3.mono h⟩) (A7 (fun _ _ _ _ h ⟨e0, q1, q2, e, p2, p3⟩ => ⟨e0, q1, q2, e, p2.mono h, p3.mono h⟩) (A7 (fun _ _ _ _ h hp => ⟨hp.1, hp.2.mono h⟩) (A7 (fun _ _ _ _ _ h => h) (A7 (fun _ _ _ _ hR h => ⟨h.1, h.2.mono hR⟩) (A7 (fun _ _ _ _ _ h => h) (I5))))))))) (show List.Nodup [21, 22, 27, 9, 28, 6, 29, 30] by decide) (show List.Nodup [11, 12, 17, 18, 19, 22, 20, 21] by decide) (A7 (C1 rfl) (A7 (C1 rfl) (A7 (C1 rfl) (A7 (C1 rfl) (A7 (C1 rfl) (A7 (C1 rfl) (A7 (C1 rfl) (A7 (C1 rfl) (I5)))))))))
  hs (List.cons_ne_nil _ _) (A7 ⟨_, rfl, fun vs bs R Rj wG hb hj hjr ha => ⟨.inl rfl, ?_⟩⟩ (A7 ⟨_, rfl, fun vs bs R Rj wG hb hj hjr ha => ⟨.inl rfl, ?_⟩⟩ (A7 ⟨_, rfl, fun vs bs R Rj wG hb hj hjr ha => ⟨.inl rfl, ?_⟩⟩ (A7 ⟨_, rfl, fun vs bs R Rj wG hb hj hjr ha => ⟨.inl rfl, ?_⟩⟩ (A7 ⟨_, rfl, fun vs bs R Rj wG hb hj hjr ha => ⟨.inl rfl, ?_⟩⟩ (A7 ⟨_, rfl, fun vs bs R Rj wG hb hj hjr ha => ⟨.inl rfl, ?_⟩⟩ (I5))))))) (A7 ⟨rfl, rfl, _, _, _, _, rfl, fun vs bs Rj hj ha => ?_⟩ (A7 ⟨rfl, rfl, _, _, _, _, rfl, fun vs bs Rj hj ha => ?_⟩ (I5))) ?_
 ·
  dsimp only [Gc.inp]
  exact C0 (e := 5) (sz := 1) (z := [zu8, zu8, zu8, zu8]) kR (eS rfl (eS rfl (eS rfl (eS rfl e0)))) (bdS 0 1 rfl (by rfl) (bdS 1 1 rfl (by rfl) (bdS 2 1 rfl (by rfl) (bdS 3 1 rfl (by rfl) bd0)))) rfl fun b => ⟨_, rfl, b, rfl, rfl⟩
 ·
  dsimp only [Gc.inp]
  have g11 := ha _ (List.mem_of_getElem? (i := 0) rfl) kR
  replace g11 : (fun v B _ => ∃ b, v = .slice (some ⟨b, 0, none⟩) 4 4 ∧ B = [(b, blk (nums .u8 [119, 105, 116, 104]) 5)]) (vs 11) (bs 11) Rj := g11
  dsimp only at g11
  obtain ⟨b, e, eB⟩ := g11
  dsimp only [P5, List.map, List.cons_append, List.nil_append]
  rw [e, eB]
  refine OpL.frzAll ?_
  exact A2z rfl kR UpC.upd rfl (fun J2 hJ => ⟨_, rfl, rfl, ⟨Rd.whole (n := 4) (List.mem_append_left _ (hJ _ (List.mem_append_left _ (List.mem_singleton.2 rfl)))) (by rfl), by decide, by decide⟩⟩)
 ·
  dsimp only [Gc.inp]
  have g12 := ha _ (List.mem_of_getElem? (i := 1) rfl) kR
  replace g12 : (fun v B R => B = [] ∧ By R v [119, 105, 116, 104]) (vs 12) (bs 12) Rj := g12
  dsimp only at g12
  obtain ⟨-, h12⟩ := g12
  haveI := h12.cel
  refine D4 (Mc := MP) (R := []) (aS rfl (aS rfl (aS rfl (aS rfl (aS rfl (a0)))))) kR (by simp) (FnX.amb (A := Rj) (fun x hx => by have := hjr x hx; simp [this]) (A8o pb s hre r0 ao at_ ar ak al aq _ vk vg K4 hk g t hp MP Rj hP hn hsn (h0.mono (fun x hx => hj x (SubC.sub x hx))) h12 (hhk.mono (fun x hx => hj x (SubC.sub x hx))) (by show 4 + hk.length ≤ 1000000; omega) hhp (hgg.mono (fun x hx => hj x (SubC.sub x hx))) htx ltx hO (hG.sub (fun x hx => hj x (SubC.sub x hx))))) rfl ?_
  rintro v27 M27 J27 ⟨q1, q2, rfl, hP27, p2, p3⟩
  exact ⟨_, rfl, q1, q2, rfl, by simpa using hP27, p2.mono (fun x hx => by simpa using hx), p3.mono (fun x hx => by simpa using hx)⟩
 ·
  dsimp only [Gc.inp]
  have g17 := ha _ (List.mem_of_getElem? (i := 2) rfl) kR
  replace g17 : (fun v B R => ∃ q1 q2, v = .tuple #[q1, q2, .int .i64 0] ∧ Prm pb (B0z s r0 hk) B ∧ RsV R q1 (V7 s r0 hk) ∧ By R q2 t) (vs 17) (bs 17) Rj := g17
  dsimp only at g17
  obtain ⟨q1, q2, e, -, k⟩ := g17
  exact OpQ.opL qm_ rfl ⟨_, rfl, rfl, q1, q2, e, k⟩
 ·
  dsimp only [Gc.inp]
  have g18 := ha _ (List.mem_of_getElem? (i := 3) rfl) kR
  replace g18 : (fun v B R => B = [] ∧ ∃ q1 q2, v = .tuple #[q1, q2, .int .i64 0] ∧ RsV R q1 (V7 s r0 hk) ∧ By R q2 t) (vs 18) (bs 18) Rj := g18
  dsimp only at g18
  obtain ⟨-, q1, q2, e, k, -⟩ := g18
  exact OpQ.opL (G3 (vs := #[q1, q2, .int .i64 0]) (by rw [← e]; rfl) rfl) rfl ⟨_, rfl, rfl, k⟩
 ·
  dsimp only [Gc.inp]
  exact C4 (cs := [.slice none 0 0, .slice none 0 0, .slice none 0 0, .slice none 0 0, I0, .slice none 0 0, I0, I0, .pointer none]) kR rfl fun b => ⟨_, rfl, b, rfl, rfl⟩
 ·
  have g18 := ha _ (List.mem_of_getElem? (i := 3) rfl) kR
  replace g18 : (fun v B R => B = [] ∧ ∃ q1 q2, v = .tuple #[q1, q2, .int .i64 0] ∧ RsV R q1 (V7 s r0 hk) ∧ By R q2 t) (vs 18) (bs 18) Rj := g18
  dsimp only at g18
  obtain ⟨-, q1, q2, e, -, k⟩ := g18
  exact ⟨_, G3 (vs := #[q1, q2, .int .i64 0]) (by rw [← e]; rfl) rfl, rfl, k⟩
 ·
  have g18 := ha _ (List.mem_of_getElem? (i := 3) rfl) kR
  replace g18 : (fun v B R => B = [] ∧ ∃ q1 q2, v = .tuple #[q1, q2, .int .i64 0] ∧ RsV R q1 (V7 s r0 hk) ∧ By R q2 t) (vs 18) (bs 18) Rj := g18
  dsimp only at g18
  obtain ⟨-, q1, q2, e, -⟩ := g18
  exact ⟨_, G3 (vs := #[q1, q2, .int .i64 0]) (by rw [← e]; rfl) rfl, rfl, rfl⟩
 intro vs bs Jn0 hφ hKK
 have kk11 := hKK _ (List.mem_of_getElem? (i := 0) rfl)
 dsimp only at kk11
 have kk12 := hKK _ (List.mem_of_getElem? (i := 1) rfl)
 dsimp only at kk12
 have kk17 := hKK _ (List.mem_of_getElem? (i := 2) rfl)
 dsimp only at kk17
 have kk18 := hKK _ (List.mem_of_getElem? (i := 3) rfl)
 dsimp only at kk18
 have kk19 := hKK _ (List.mem_of_getElem? (i := 4) rfl)
 dsimp only at kk19
 have kk22 := hKK _ (List.mem_of_getElem? (i := 5) rfl)
 dsimp only at kk22
 have kk20 := hKK _ (List.mem_of_getElem? (i := 6) rfl)
 dsimp only at kk20
 have kk21 := hKK _ (List.mem_of_getElem? (i := 7) rfl)
 dsimp only at kk21
 clear hKK
 have g11 := ofH hφ
 dsimp only at g11
 replace hφ := ofT hφ
 have g12 := ofH hφ
 dsimp only at g12
 replace hφ := ofT hφ
 have g17 := ofH hφ
 dsimp only at g17
 replace hφ := ofT hφ
 have g18 := ofH hφ
 dsimp only at g18
 replace hφ := ofT hφ
 have g19 := ofH hφ
 dsimp only at g19
 replace hφ := ofT hφ
 have g22 := ofH hφ
 dsimp only at g22
 replace hφ := ofT hφ
 have g20 := ofH hφ
 dsimp only at g20
 replace hφ := ofT hφ
 have g21 := ofH hφ
 dsimp only at g21
 clear hφ
 dsimp only [P5, A0j, List.foldr, List.map, List.cons_append, List.nil_append]
 generalize bs 11 = B21 at *
 generalize bs 12 = B22 at *
 generalize bs 17 = B27 at *
 generalize bs 18 = B9 at *
 generalize bs 19 = B28 at *
 generalize bs 22 = B6 at *
 generalize bs 20 = B29 at *
 generalize bs 21 = B30 at *
 generalize vs 11 = u21 at *
 generalize vs 12 = u22 at *
 generalize vs 17 = u27 at *
 generalize vs 18 = u9 at *
 generalize vs 19 = u28 at *
 generalize vs 22 = u6 at *
 generalize vs 20 = u29 at *
 generalize vs 21 = u30 at *
 obtain ⟨-, -, -, hP27, -⟩ := g17
 clear g18
 obtain ⟨b, rfl, rfl⟩ := g11
 obtain ⟨rfl, h22⟩ := g12
 obtain ⟨rfl, wo, wt, wr, wk, wl, wq, rfl, hn1⟩ := g19
 obtain ⟨rfl, h29⟩ := g20
 obtain ⟨rfl, rfl⟩ := g21
 obtain ⟨b6, rfl, rfl⟩ := g22
 haveI := hn1.own.cel
 haveI := hn1.their.cel
 haveI := hn1.root.cel
 haveI := hn1.sk.cel
 haveI := hn1.tk.cel
 haveI := hn1.st.cel
 haveI := h29.cel
 unfold rsC
 refine P7 rfl rfl rfl (A8 (vs := [wo, wt, wr, wk, .int .u32 (((V7 s r0 hk).sn : Nat) : Int), wl, .int .u32 (((V7 s r0 hk).tn : Nat) : Int), .int .u32 (((V7 s r0 hk).prev : Nat) : Int), wq]) rfl rfl rfl kR (by rfl) (A7 hn1.own.one (A7 hn1.their.one (A7 hn1.root.one (A7 hn1.sk.one (A7 rfl (A7 hn1.tk.one (A7 rfl (A7 rfl (A7 hn1.st.one I5))))))))) UpC.upd ?_)
 refine I6 hs rfl (F3 rfl) rfl ?_
 refine I6 hs rfl (F3 rfl) rfl ?_
 refine N9 (E4 0 3 6 7 8) (A3 (A1 (mv_ ?_)))
 refine A2 (E1 true rfl rfl (eqT rfl)) rfl ?_
 refine A0 (H9 0 3 6 7 8 32) ?_
 refine D0 rfl ?_
 refine F1 (.range 7) (zp 0 [0, 0, 1, 1, 0, 0, 0, 2]) kR kR fun hs => ?_
 refine fm_ hs ?_
 refine C3 hs rfl (qf_ 0 0) rfl ?_
 refine G6 hs rfl ql_ rfl ?_
 refine G6 hs rfl (qw_ 9) rfl ?_
 refine C3 hs rfl (G1 rfl) rfl ?_
 refine C3 hs rfl (qf_ 1 1) rfl ?_
 refine C3 hs rfl (W5 (e := 80) (n := 2) (sz := 9) (i := 0) 1 rfl rfl kR kR rfl (by decide) rfl) rfl ?_
 refine E6 rfl rfl rfl (L3 (vs := [wo, wt, wr, wk, .int .u32 (((V7 s r0 hk).sn : Nat) : Int), wl, .int .u32 (((V7 s r0 hk).tn : Nat) : Int), .int .u32 (((V7 s r0 hk).prev : Nat) : Int), wq]) (cs' := [.pointer (some ⟨pb, 0, none⟩), wo, wt, wr, wk, .int .u32 (((V7 s r0 hk).sn : Nat) : Int), wl, .int .u32 (((V7 s r0 hk).tn : Nat) : Int), .int .u32 (((V7 s r0 hk).prev : Nat) : Int), wq, bo, bt, br, bk, .int .u32 ((r1.sn : Nat) : Int), bl, .int .u32 ((r1.tn : Nat) : Int), .int .u32 ((r1.prev : Nat) : Int), bq]) rfl rfl rfl kR (by exact (show 1 + 9 ≤ 19 by decide)) (A7 hn1.own.one (A7 hn1.their.one (A7 hn1.root.one (A7 hn1.sk.one (A7 rfl (A7 hn1.tk.one (A7 rfl (A7 rfl (A7 hn1.st.one I5))))))))) rfl UpC.upd ?_)
 refine F5 (C9 7 8) (A1 (mv_ ?_))
 refine A2 (P3 rfl kR (h29.rd.mono SubC.sub)) rfl ?_
 refine mv_ (as_ (as_ (A0 (C9 4 5) (B4 ?_))))
 exact ⟨_, (tb, blk [.pointer (some ⟨pb, 0, none⟩), wo, wt, wr, wk, .int .u32 (((V7 s r0 hk).sn : Nat) : Int), wl, .int .u32 (((V7 s r0 hk).tn : Nat) : Int), .int .u32 (((V7 s r0 hk).prev : Nat) : Int), wq, bo, bt, br, bk, .int .u32 ((r1.sn : Nat) : Int), bl, .int .u32 ((r1.tn : Nat) : Int), .int .u32 ((r1.prev : Nat) : Int), bq] 83) :: B27, [], A4s rfl rfl rfl, Fit.none (Fit.pick (B := [_]) PickC.perm (Fit.last PickC.perm)), ⟨wo, wt, wr, wk, wl, wq, bo, bt, br, bk, bl, bq, B27, rfl, hn1.mono SubC.sub, h1.mono SubC.sub, hP27⟩, rfl⟩
theorem B2b (tb pb : Nat) (s : Ps) (hre : s.real = false) (r0 r1 : Rsd) (vk vg : Value) (hk g t lt : List Nat) (hp : Nat) (M0 A : Mem) (hPr : Par A tb pb s r0 r1 M0) (hn : s.ts.length + 500 ≤ 1000000) (hsn : s.n < 1000000000) (hhk : By A vk hk) (hkl : hk.length ≤ 100000) (hhp : hp < 4294967296) (hgg : By A vg g) (htx : B256 t) (ltx : t.length ≤ 16777216) (hO : Opn s r1 hk K4 hp g t) (hG : Glb A) : FnX Tryz.prog 37 [.pointer (some ⟨tb, 0, none⟩), .agg #[.int .i64 1, vk, .int .u32 ((hp : Nat) : Int), .int .u32 ((0 : Nat) : Int), vg, .string (txt lt)]] M0 A fun q M J => Par (J ++ A) tb pb (B0z s r1 hk) r0 (V7 s r1 hk) M ∧ q = .tuple #[.string (txt t), .int .i64 0] := by
 obtain ⟨ao, at_, ar, ak, al, aq, bo, bt, br, bk, bl, bq, MP, rfl, h0, h1, hP⟩ := hPr
 haveI := h0.own.cel
 haveI := h0.their.cel
 haveI := h0.root.cel
 haveI := h0.sk.cel
 haveI := h0.tk.cel
 haveI := h0.st.cel
 haveI := h1.own.cel
 haveI := h1.their.cel
 haveI := h1.root.cel
 haveI := h1.sk.cel
 haveI := h1.tk.cel
 haveI := h1.st.cel
 haveI := hhk.cel
 haveI := hgg.cel
 unfold rsC
 refine FnX.enterZ (N := 43) Tryz.func37 rfl rfl rfl fun w_ => ?_
 refine B0 (C9 0 1) (A1 ?_)
 refine A4 rfl (bx_ fun b3 => ?_)
 refine as_ (as_ (A0 (C9 0 3) ?_))
 refine I2 (MP) (_) true [0, 1, 2, 3, 4, 5, 6, 7, 8, 9, 10, 11, 12, 13, 14, 15, 16, 17, 18, 19, 20, 21, 22, 24, 25] [(0, 0), (1, 0), (2, 0), (3, 1), (4, 0), (5, 0), (6, 1), (7, 0), (8, 0), (9, 0), (10, 1), (13, 0), (14, 1), (15, 0), (16, 1), (11, 8), (12, 8), (17, 8), (18, 8), (19, 8), (22, 8), (20, 9), (21, 10), (23, 2), (24, 0), (25, 0)] kR kR PickC.perm fun hs K n0 hKm hKs hKn => ?_
 refine km_ hs ?_
 refine I6 hs rfl (G1 rfl) rfl ?_
 refine I6 hs rfl (qf_ 0 0) rfl ?_
 refine R5 hs rfl hKs ql_ ?_
 refine km_ hs ?_
 refine I6 hs rfl (qf_ 0 0) rfl ?_
 refine R5 hs rfl hKs ql_ ?_
 refine I6 hs rfl (G1 rfl) rfl ?_
 refine I6 hs rfl (qf_ 1 1) rfl ?_
 refine I6 hs rfl (W5 (e := 80) (n := 2) (sz := 9) (i := 1) 10 rfl rfl kR kR rfl (by decide) rfl) rfl ?_
 refine R5 hs rfl hKs (V3 (n := 9) (vs := [bo, bt, br, bk, .int .u32 ((r1.sn : Nat) : Int), bl, .int .u32 ((r1.tn : Nat) : Int), .int .u32 ((r1.prev : Nat) : Int), bq]) rfl kR At.mem rfl (W3 [.pointer (some ⟨pb, 0, none⟩), ao, at_, ar, ak, .int .u32 ((r0.sn : Nat) : Int), al, .int .u32 ((r0.tn : Nat) : Int), .int .u32 ((r0.prev : Nat) : Int), aq] [bo, bt, br, bk, .int .u32 ((r1.sn : Nat) : Int), bl, .int .u32 ((r1.tn : Nat) : Int), .int .u32 ((r1.prev : Nat) : Int), bq] [])) ?_
 refine I6 hs rfl (qf_ 1 1) rfl ?_
 refine R5 hs rfl hKs (V3 (n := 3) (vs := [vk, .int .u32 ((hp : Nat) : Int), .int .u32 ((0 : Nat) : Int)]) rfl kR At.mem rfl (W3 [.int .i64 1] [vk, .int .u32 ((hp : Nat) : Int), .int .u32 ((0 : Nat) : Int)] [vg, .string (txt lt)])) ?_
 refine I6 hs rfl (qf_ 4 4) rfl ?_
 refine R5 hs rfl hKs ql_ ?_
 refine A03 [⟨11, 21, none, [], fun v B _ => ∃ b, v = .slice (some ⟨b, 0, none⟩) 4 4 ∧ B = [(b, blk (nums .u8 [119, 105, 116, 104]) 5)]⟩, ⟨12, 22, some 11, [], fun v B R => B = [] ∧ By R v [119, 105, 116, 104]⟩, ⟨17, 27, none, MP, fun v B R => ∃ q1 q2, v = .tuple #[q1, q2, .int .i64 0] ∧ Prm pb (B0z s r1 hk) B ∧ RsV R q1 (V7 s r1 hk) ∧ By R q2 t⟩, ⟨18, 9, none, [], fun v B R => B = [] ∧ ∃ q1 q2, v = .tuple #[q1, q2, .int .i64 0] ∧ RsV R q1 (V7 s r1 hk) ∧ By R q2 t⟩, ⟨19, 28, none, [], fun v B R => B = [] ∧ RsV R v (V7 s r1 hk)⟩, ⟨22, 6, none, [], fun v B _ => ∃ b, v = .pointer (some ⟨b, 0, none⟩) ∧ B = [(b, blk [.slice none 0 0, .slice none 0 0, .slice none 0 0, .slice none 0 0, .int .u32 0, .slice none 0 0, .int .u32 0, .int .u32 0, .pointer none] 80)]⟩] [⟨20, 29, none, [], fun v B R => B = [] ∧ By R v t⟩, ⟨21, 30, none, [], fun v B R => B = [] ∧ v = .int .i64 0⟩] ([(b3, blk [.int .i64 1, vk, .int .u32 ((hp : Nat) : Int), .int .u32 ((0 : Nat) : Int), vg, .string (txt lt)] 71), (tb, blk [.pointer (some ⟨pb, 0, none⟩), ao, at_, ar, ak, .int .u32 ((r0.sn : Nat) : Int), al, .int .u32 ((r0.tn : Nat) : Int), .int .u32 ((r0.prev : Nat) : Int), aq, bo, bt, br, bk, .int .u32 ((r1.sn : Nat) : Int), bl, .int .u32 ((r1.tn : Nat) : Int), .int .u32 ((r1.prev : Nat) : Int), bq] 83)]) (fun bs => [bs 12, bs 17, bs 18, bs 19, bs 22, bs 20, bs 21]) (hKn rfl) (by simp [A0j, A0A]) (show ∀ m ∈ ([[], MP, [], [], [], [], []] : List Mem), ∀ x ∈ m, K x.1 from A7 (fun _ h => by cases h) (A7 (hKm) (A7 (fun _ h => by cases h) (A7 (fun _ h => by cases h) (A7 (fun _ h => by cases h) (A7 (fun _ h => by cases h) (A7 (fun _ h => by cases h) (I5)))))))) kR (fun _ => by first | rfl | kernel_rfl)
  (A7 (fun _ _ _ _ _ h => h) (A7 (fun _ _ _ _ hR h => ⟨h.1, h.2.mono hR⟩) (A7 (fun _ _ _ _ h ⟨q1, q2, e, p1, p2, p3⟩ => ⟨q1, q2, e, p1, p2.mono h, p3.mono h⟩) (A7 (fun _ _ _ _ h ⟨e0, q1, q2, e, p2, p3⟩ => ⟨e0, q1, q2, e, p2.mono h, p3.mono h⟩) (A7 (fun _ _ _ _ h hp => ⟨hp.1, hp.2.mono h⟩) (A7 (fun _ _ _ _ _ h => h) (A7 (fun _ _ _ _ hR h => ⟨h.1, h.2.mono hR⟩) (A7 (fun _ _ _ _ _ h => h) (I5))))))))) (show List.Nodup [21, 22, 27, 9, 28, 6, 29, 30] by decide) (show List.Nodup [11, 12, 17, 18, 19, 22, 20, 21] by decide) (A7 (C1 rfl) (A7 (C1 rfl) (A7 (C1 rfl) (A7 (C1 rfl) (A7 (C1 rfl) (A7 (C1 rfl) (A7 (C1 rfl) (A7 (C1 rfl) (I5)))))))))
  hs (List.cons_ne_nil _ _) (A7 ⟨_, rfl, fun vs bs R Rj wG hb hj hjr ha => ⟨.inl rfl, ?_⟩⟩ (A7 ⟨_, rfl, fun vs bs R Rj wG hb hj hjr ha => ⟨.inl rfl, ?_⟩⟩ (A7 ⟨_, rfl, fun vs bs R Rj wG hb hj hjr ha => ⟨.inl rfl, ?_⟩⟩ (A7 ⟨_, rfl, fun vs bs R Rj wG hb hj hjr ha => ⟨.inl rfl, ?_⟩⟩ (A7 ⟨_, rfl, fun vs bs R Rj wG hb hj hjr ha => ⟨.inl rfl, ?_⟩⟩ (A7 ⟨_, rfl, fun vs bs R Rj wG hb hj hjr ha => ⟨.inl rfl, ?_⟩⟩ (I5))))))) (A7 ⟨rfl, rfl, _, _, _, _, rfl, fun vs bs Rj hj ha => ?_⟩ (A7 ⟨rfl, rfl, _, _, _, _, rfl, fun vs bs Rj hj ha => ?_⟩ (I5))) ?_
 ·
  dsimp only [Gc.inp]
  exact C0 (e := 5) (sz := 1) (z := [zu8, zu8, zu8, zu8]) kR (eS rfl (eS rfl (eS rfl (eS rfl e0)))) (bdS 0 1 rfl (by rfl) (bdS 1 1 rfl (by rfl) (bdS 2 1 rfl (by rfl) (bdS 3 1 rfl (by rfl) bd0)))) rfl fun b => ⟨_, rfl, b, rfl, rfl⟩
 ·
  dsimp only [Gc.inp]
  have g11 := ha _ (List.mem_of_getElem? (i := 0) rfl) kR
  replace g11 : (fun v B _ => ∃ b, v = .slice (some ⟨b, 0, none⟩) 4 4 ∧ B = [(b, blk (nums .u8 [119, 105, 116, 104]) 5)]) (vs 11) (bs 11) Rj := g11
  dsimp only at g11
  obtain ⟨b, e, eB⟩ := g11
  dsimp only [P5, List.map, List.cons_append, List.nil_append]
  rw [e, eB]
  refine OpL.frzAll ?_
  exact A2z rfl kR UpC.upd rfl (fun J2 hJ => ⟨_, rfl, rfl, ⟨Rd.whole (n := 4) (List.mem_append_left _ (hJ _ (List.mem_append_left _ (List.mem_singleton.2 rfl)))) (by rfl), by decide, by decide⟩⟩)
 ·
  dsimp only [Gc.inp]
  have g12 := ha _ (List.mem_of_getElem? (i := 1) rfl) kR
  replace g12 : (fun v B R => B = [] ∧ By R v [119, 105, 116, 104]) (vs 12) (bs 12) Rj := g12
  dsimp only at g12
  obtain ⟨-, h12⟩ := g12
  haveI := h12.cel
  refine D4 (Mc := MP) (R := []) (aS rfl (aS rfl (aS rfl (aS rfl (aS rfl (a0)))))) kR (by simp) (FnX.amb (A := Rj) (fun x hx => by have := hjr x hx; simp [this]) (A8o pb s hre r1 bo bt br bk bl bq _ vk vg K4 hk g t hp MP Rj hP hn hsn (h1.mono (fun x hx => hj x (SubC.sub x hx))) h12 (hhk.mono (fun x hx => hj x (SubC.sub x hx))) (by show 4 + hk.length ≤ 1000000; omega) hhp (hgg.mono (fun x hx => hj x (SubC.sub x hx))) htx ltx hO (hG.sub (fun x hx => hj x (SubC.sub x hx))))) rfl ?_
  rintro v27 M27 J27 ⟨q1, q2, rfl, hP27, p2, p3⟩
  exact ⟨_, rfl, q1, q2, rfl, by simpa using hP27, p2.mono (fun x hx => by simpa using hx), p3.mono (fun x hx => by simpa using hx)⟩
 ·
  dsimp only [Gc.inp]
  have g17 := ha _ (List.mem_of_getElem? (i := 2) rfl) kR
  replace g17 : (fun v B R => ∃ q1 q2, v = .tuple #[q1, q2, .int .i64 0] ∧ Prm pb (B0z s r1 hk) B ∧ RsV R q1 (V7 s r1 hk) ∧ By R q2 t) (vs 17) (bs 17) Rj := g17
  dsimp only at g17
  obtain ⟨q1, q2, e, -, k⟩ := g17
  exact OpQ.opL qm_ rfl ⟨_, rfl, rfl, q1, q2, e, k⟩
 ·
  dsimp only [Gc.inp]
  have g18 := ha _ (List.mem_of_getElem? (i := 3) rfl) kR
  replace g18 : (fun v B R => B = [] ∧ ∃ q1 q2, v = .tuple #[q1, q2, .int .i64 0] ∧ RsV R q1 (V7 s r1 hk) ∧ By R q2 t) (vs 18) (bs 18) Rj := g18
  dsimp only at g18
  obtain ⟨-, q1, q2, e, k, -⟩ := g18
  exact OpQ.opL (G3 (vs := #[q1, q2, .int .i64 0]) (by rw [← e]; rfl) rfl) rfl ⟨_, rfl, rfl, k⟩
 ·
  dsimp only [Gc.inp]
  exact C4 (cs := [.slice none 0 0, .slice none 0 0, .slice none 0 0, .slice none 0 0, I0, .slice none 0 0, I0, I0, .pointer none]) kR rfl fun b => ⟨_, rfl, b, rfl, rfl⟩
 ·
  have g18 := ha _ (List.mem_of_getElem? (i := 3) rfl) kR
  replace g18 : (fun v B R => B = [] ∧ ∃ q1 q2, v = .tuple #[q1, q2, .int .i64 0] ∧ RsV R q1 (V7 s r1 hk) ∧ By R q2 t) (vs 18) (bs 18) Rj := g18
  dsimp only at g18
  obtain ⟨-, q1, q2, e, -, k⟩ := g18
  exact ⟨_, G3 (vs := #[q1, q2, .int .i64 0]) (by rw [← e]; rfl) rfl, rfl, k⟩
 ·
  have g18 := ha _ (List.mem_of_getElem? (i := 3) rfl) kR
  replace g18 : (fun v B R => B = [] ∧ ∃ q1 q2, v = .tuple #[q1, q2, .int .i64 0] ∧ RsV R q1 (V7 s r1 hk) ∧ By R q2 t) (vs 18) (bs 18) Rj := g18
  dsimp only at g18
  obtain ⟨-, q1, q2, e, -⟩ := g18
  exact ⟨_, G3 (vs := #[q1, q2, .int .i64 0]) (by rw [← e]; rfl) rfl, rfl, rfl⟩
 intro vs bs Jn0 hφ hKK
 have kk11 := hKK _ (List.mem_of_getElem? (i := 0) rfl)
 dsimp only at kk11
 have kk12 := hKK _ (List.mem_of_getElem? (i := 1) rfl)
 dsimp only at kk12
 have kk17 := hKK _ (List.mem_of_getElem? (i := 2) rfl)
 dsimp only at kk17
 have kk18 := hKK _ (List.mem_of_getElem? (i := 3) rfl)
 dsimp only at kk18
 have kk19 := hKK _ (List.mem_of_getElem? (i := 4) rfl)
 dsimp only at kk19
 have kk22 := hKK _ (List.mem_of_getElem? (i := 5) rfl)
 dsimp only at kk22
 have kk20 := hKK _ (List.mem_of_getElem? (i := 6) rfl)
 dsimp only at kk20
 have kk21 := hKK _ (List.mem_of_getElem? (i := 7) rfl)
 dsimp only at kk21
 clear hKK
 have g11 := ofH hφ
 dsimp only at g11
 replace hφ := ofT hφ
 have g12 := ofH hφ
 dsimp only at g12
 replace hφ := ofT hφ
 have g17 := ofH hφ
 dsimp only at g17
 replace hφ := ofT hφ
 have g18 := ofH hφ
 dsimp only at g18
 replace hφ := ofT hφ
 have g19 := ofH hφ
 dsimp only at g19
 replace hφ := ofT hφ
 have g22 := ofH hφ
 dsimp only at g22
 replace hφ := ofT hφ
 have g20 := ofH hφ
 dsimp only at g20
 replace hφ := ofT hφ
 have g21 := ofH hφ
 dsimp only at g21
 clear hφ
 dsimp only [P5, A0j, List.foldr, List.map, List.cons_append, List.nil_append]
 generalize bs 11 = B21 at *
 generalize bs 12 = B22 at *
 generalize bs 17 = B27 at *
 generalize bs 18 = B9 at *
 generalize bs 19 = B28 at *
 generalize bs 22 = B6 at *
 generalize bs 20 = B29 at *
 generalize bs 21 = B30 at *
 generalize vs 11 = u21 at *
 generalize vs 12 = u22 at *
 generalize vs 17 = u27 at *
 generalize vs 18 = u9 at *
 generalize vs 19 = u28 at *
 generalize vs 22 = u6 at *
 generalize vs 20 = u29 at *
 generalize vs 21 = u30 at *
 obtain ⟨-, -, -, hP27, -⟩ := g17
 clear g18
 obtain ⟨b, rfl, rfl⟩ := g11
 obtain ⟨rfl, h22⟩ := g12
 obtain ⟨rfl, wo, wt, wr, wk, wl, wq, rfl, hn1⟩ := g19
 obtain ⟨rfl, h29⟩ := g20
 obtain ⟨rfl, rfl⟩ := g21
 obtain ⟨b6, rfl, rfl⟩ := g22
 haveI := hn1.own.cel
 haveI := hn1.their.cel
 haveI := hn1.root.cel
 haveI := hn1.sk.cel
 haveI := hn1.tk.cel
 haveI := hn1.st.cel
 haveI := h29.cel
 unfold rsC
 refine P7 rfl rfl rfl (A8 (vs := [wo, wt, wr, wk, .int .u32 (((V7 s r1 hk).sn : Nat) : Int), wl, .int .u32 (((V7 s r1 hk).tn : Nat) : Int), .int .u32 (((V7 s r1 hk).prev : Nat) : Int), wq]) rfl rfl rfl kR (by rfl) (A7 hn1.own.one (A7 hn1.their.one (A7 hn1.root.one (A7 hn1.sk.one (A7 rfl (A7 hn1.tk.one (A7 rfl (A7 rfl (A7 hn1.st.one I5))))))))) UpC.upd ?_)
 refine I6 hs rfl (F3 rfl) rfl ?_
 refine I6 hs rfl (F3 rfl) rfl ?_
 refine N9 (E4 0 3 6 7 8) (A3 (A1 (mv_ ?_)))
 refine A2 (E1 true rfl rfl (eqT rfl)) rfl ?_
 refine A0 (H9 0 3 6 7 8 32) ?_
 refine D0 rfl ?_
 refine F1 (.range 7) (zp 0 [0, 0, 1, 1, 0, 0, 0, 2]) kR kR fun hs => ?_
 refine fm_ hs ?_
 refine C3 hs rfl (qf_ 0 0) rfl ?_
 refine G6 hs rfl ql_ rfl ?_
 refine G6 hs rfl (qw_ 9) rfl ?_
 refine C3 hs rfl (G1 rfl) rfl ?_
 refine C3 hs rfl (qf_ 1 1) rfl ?_
 refine C3 hs rfl (W5 (e := 80) (n := 2) (sz := 9) (i := 1) 10 rfl rfl kR kR rfl (by decide) rfl) rfl ?_
 refine E6 rfl rfl rfl (L3 (vs := [wo, wt, wr, wk, .int .u32 (((V7 s r1 hk).sn : Nat) : Int), wl, .int .u32 (((V7 s r1 hk).tn : Nat) : Int), .int .u32 (((V7 s r1 hk).prev : Nat) : Int), wq]) (cs' := [.pointer (some ⟨pb, 0, none⟩), ao, at_, ar, ak, .int .u32 ((r0.sn : Nat) : Int), al, .int .u32 ((r0.tn : Nat) : Int), .int .u32 ((r0.prev : Nat) : Int), aq, wo, wt, wr, wk, .int .u32 (((V7 s r1 hk).sn : Nat) : Int), wl, .int .u32 (((V7 s r1 hk).tn : Nat) : Int), .int .u32 (((V7 s r1 hk).prev : Nat) : Int), wq]) rfl rfl rfl kR (by exact (show 10 + 9 ≤ 19 by decide)) (A7 hn1.own.one (A7 hn1.their.one (A7 hn1.root.one (A7 hn1.sk.one (A7 rfl (A7 hn1.tk.one (A7 rfl (A7 rfl (A7 hn1.st.one I5))))))))) rfl UpC.upd ?_)
 refine F5 (C9 7 8) (A1 (mv_ ?_))
 refine A2 (P3 rfl kR (h29.rd.mono SubC.sub)) rfl ?_
 refine mv_ (as_ (as_ (A0 (C9 4 5) (B4 ?_))))
 exact ⟨_, (tb, blk [.pointer (some ⟨pb, 0, none⟩), ao, at_, ar, ak, .int .u32 ((r0.sn : Nat) : Int), al, .int .u32 ((r0.tn : Nat) : Int), .int .u32 ((r0.prev : Nat) : Int), aq, wo, wt, wr, wk, .int .u32 (((V7 s r1 hk).sn : Nat) : Int), wl, .int .u32 (((V7 s r1 hk).tn : Nat) : Int), .int .u32 (((V7 s r1 hk).prev : Nat) : Int), wq] 83) :: B27, [], A4s rfl rfl rfl, Fit.none (Fit.pick (B := [_]) PickC.perm (Fit.last PickC.perm)), ⟨ao, at_, ar, ak, al, aq, wo, wt, wr, wk, wl, wq, B27, rfl, h0.mono SubC.sub, hn1.mono SubC.sub, hP27⟩, rfl⟩

def isT (o : Option Tm) (u : Tm) : Bool := match o with
  | none => false
  | some t => decide (t.kind = u.kind) && (decide (t.of = u.of) && (decide (t.text = u.text) && decide (t.n = u.n)))
theorem B3W {o : Option Tm} {u : Tm} (h : isT o u = true) : o = some u := by
  cases o with
  | none => cases h
  | some t =>
    unfold isT at h
    simp only [Bool.and_eq_true, decide_eq_true_eq] at h
    obtain ⟨a, b, c, d⟩ := t
    obtain ⟨e, f, g, i⟩ := u
    simp only at h
    obtain ⟨rfl, rfl, rfl, rfl⟩ := h
    rfl
noncomputable def B4i (s : Ps) (r : Rsd) (hk w : List Nat) (hp : Nat) (g t : List Nat) : Bool :=
  (B1M r.sks hk 0).isNone && (!decide (hk = r.their) && (decide (r.tk = []) && (decide (g.length = 32) && match plc g (op2 s r hk).ts.length, plc (opK s r hk) (op2 s r hk).ts.length with
    | some i, some j => isT ((op2 s r hk).ts[i]?) (A6z ((j : Nat) : Int) (U3 w (R7 hk hp 0)) t)
    | _, _ => false)))
theorem A8p {s : Ps} {r : Rsd} {hk w : List Nat} {hp : Nat} {g t : List Nat} (h : B4i s r hk w hp g t = true) : Opn s r hk w hp g t := by
  unfold B4i at h
  simp only [Bool.and_eq_true] at h
  obtain ⟨h1, h2, h3, h4, h5⟩ := h
  split at h5
  · rename_i i j hi hj
    exact ⟨by simpa using h1, by simpa using h2, by simpa using h3, ⟨i, j, hi, hj, B3W h5⟩, by simpa using h4⟩
  · cases h5
def hiW : List Nat := [104, 105]
def hoW : List Nat := [104, 111]
noncomputable def zS0 : Ps := B5k (rS 1) (rK 1) (rP 1)
noncomputable def zA0 : Rsd := B4g (rS 1) (rK 1) (rP 1)
noncomputable def zB0 : Rsd := B4h (rK 1) (rO 1)
noncomputable def zH1 : List Nat := L8 zS0 zA0.own
noncomputable def zG1 : List Nat := A2q zS0 zA0 K4 hiW
noncomputable def zS1 : Ps := A9Y zS0 zA0 K4 hiW
noncomputable def zA1 : Rsd := U4 zS0 zA0
noncomputable def zS2 : Ps := B0z zS1 zB0 zH1
noncomputable def zB1 : Rsd := V7 zS1 zB0 zH1
noncomputable def zH2 : List Nat := L8 zS2 zB1.own
noncomputable def zG2 : List Nat := A2q zS2 zB1 K4 hoW
noncomputable def zS3 : Ps := A9Y zS2 zB1 K4 hoW
theorem z_ok : (!zS0.real && (!zS1.real && (!zS2.real && (!zS3.real && (Nat.blt zS0.ts.length 1000 && (Nat.blt zS1.ts.length 1000 && (Nat.blt zS2.ts.length 1000 && (Nat.blt zS3.ts.length 1000 && (Nat.blt zS1.n 1000 && (Nat.blt zS3.n 1000 && (Nat.blt 0 zA0.sk.length && (Nat.blt 0 zB1.sk.length && (Nat.beq zA0.prev 0 && (Nat.beq zA0.sn 0 && (Nat.beq zB1.prev 0 && (Nat.beq zB1.sn 0 && (B4i zS1 zB0 zH1 K4 0 zG1 hiW && B4i zS3 zA1 zH2 K4 0 zG2 hoW))))))))))))))))) = true := by decide +kernel
structure ZF : Prop where
  r0 : zS0.real = false
  r1 : zS1.real = false
  r2 : zS2.real = false
  r3 : zS3.real = false
  l0 : zS0.ts.length < 1000
  l1 : zS1.ts.length < 1000
  l2 : zS2.ts.length < 1000
  l3 : zS3.ts.length < 1000
  n1 : zS1.n < 1000
  n3 : zS3.n < 1000
  k0 : 0 < zA0.sk.length
  k1 : 0 < zB1.sk.length
  p0 : zA0.prev = 0
  s0 : zA0.sn = 0
  p1 : zB1.prev = 0
  s1 : zB1.sn = 0
  o1 : Opn zS1 zB0 zH1 K4 0 zG1 hiW
  o2 : Opn zS3 zA1 zH2 K4 0 zG2 hoW
theorem zf : ZF := by
  have h := z_ok
  simp only [Bool.and_eq_true] at h
  obtain ⟨a1, a2, a3, a4, a5, a6, a7, a8, a9, b1, b2, b3, b4, b5, b6, b7, b8, b9⟩ := h
  exact ⟨by simpa using a1, by simpa using a2, by simpa using a3, by simpa using a4, C1 a5, C1 a6, C1 a7, C1 a8, C1 a9, C1 b1, C1 b2, C1 b3, Nat.eq_of_beq_eq_true b4, Nat.eq_of_beq_eq_true b5, Nat.eq_of_beq_eq_true b6, Nat.eq_of_beq_eq_true b7, A8p b8, A8p b9⟩
theorem Par.mono {R R' : Mem} {tb pb : Nat} {s : Ps} {r0 r1 : Rsd} {M : Mem} (h : Par R tb pb s r0 r1 M) (hR : ∀ x, x ∈ R → x ∈ R') : Par R' tb pb s r0 r1 M := by
  obtain ⟨ao, at_, ar, ak, al, aq, bo, bt, br, bk, bl, bq, MP, h1, h2, h3, h4⟩ := h
  exact ⟨ao, at_, ar, ak, al, aq, bo, bt, br, bk, bl, bq, MP, h1, h2.mono hR, h3.mono hR, h4⟩
theorem A2h (A : Mem) (hG : Glb A) : FnV Tryz.prog 30 [] A (.bool true) := by
 refine FnX.enter (N := 55) Tryz.func30 rfl rfl rfl fun w_ => ?_
 refine B0 kn (A1 (as_ (A0 kn (A1 ?_))))
 refine C7 (aS rfl a0) kR (A9Z 1 _ (by decide) hG.up) rfl ?_
 rintro v10 M10 J10 ⟨tb, pb, rfl, hp10⟩
 change Par _ tb pb zS0 zA0 zB0 M10 at hp10
 refine as_ (A0 (D2 1) (A3 (A1 (mv_ ?_))))
 refine A2 (G4 (e := 83) rfl rfl kR) rfl ?_
 refine A0 (C9 1 12) ?_
 refine C6 rfl ?_
 refine A5 (nx (D2 1) (A1 (mv_ ?_)))
 refine A4 rfl (D4 (Mc := M10) (R := _) (aS rfl (aS rfl (aS rfl (a0)))) kR PickC.perm (B1Z tb pb zS0 zf.r0 zA0 zB0 hiW M10 _ (hp10.mono SubC.sub) (by have := zf.l0; omega) zf.k0 ⟨by decide⟩ (by decide) hG.up) rfl ?_)
 rintro v15 M15 J15 ⟨hp15, vk, vg, rfl, hvk, hvg⟩
 change Par _ tb pb zS1 zA1 zB0 M15 at hp15
 change By _ vk zH1 at hvk
 change By _ vg zG1 at hvg
 haveI := hvk.cel
 haveI := hvg.cel
 rw [zf.p0, zf.s0]
 refine mv_ ?_
 refine A2 (A04 rfl) rfl ?_
 refine A2 (A0U rfl) rfl ?_
 refine A4 rfl (C4 (cs := [B2e, .slice none 0 0, I0, I0, .slice none 0 0, .string ByteArray.empty]) kR rfl fun b2 => ?_)
 refine A4 rfl (A8 (vs := [.int .i64 1, vk, .int .u32 ((0 : Nat) : Int), .int .u32 ((0 : Nat) : Int), vg, .string (txt hiW)]) rfl rfl rfl kR (by rfl) (A7 rfl (A7 hvk.one (A7 rfl (A7 rfl (A7 hvg.one (A7 rfl I5)))))) UpC.upd ?_)
 refine as_ (A0 (D3 1 2 3) (A1 (mv_ ?_)))
 refine A2 (qw_ 6) rfl ?_
 refine A4 rfl (D4 (Mc := M15) (R := _) (aS rfl (aS rfl (a0))) kR PickC.perm (B2b tb pb zS1 zf.r1 zA1 zB0 vk vg zH1 zG1 hiW hiW 0 M15 _ (hp15.mono SubC.sub) (by have := zf.l1; omega) (by have := zf.n1; omega) (hvk.mono SubC.sub) (by have := A47 zS0 zA0.own; change zH1.length = 32 at this; omega) (by decide) (hvg.mono SubC.sub) ⟨by decide⟩ (by decide) zf.o1 hG.up) rfl ?_)
 rintro v21 M21 J21 ⟨hp21, rfl⟩
 change Par _ tb pb zS2 zA1 zB1 M21 at hp21
 refine mv_ ?_
 refine A2 (A04 rfl) rfl ?_
 refine A2 (A0U rfl) rfl ?_
 refine as_ (as_ (A0 (D8 1 3 4 5) (A1 (mv_ ?_))))
 refine A4 rfl (D4 (Mc := M21) (R := _) (aS rfl (aS rfl (aS rfl (a0)))) kR PickC.perm (B13 tb pb zS2 zf.r2 zA1 zB1 hoW M21 _ (hp21.mono SubC.sub) (by have := zf.l2; omega) zf.k1 ⟨by decide⟩ (by decide) hG.up) rfl ?_)
 rintro v26 M26 J26 ⟨hp26, wk, wg, rfl, hwk, hwg⟩
 change Par _ tb pb zS3 zA1 (U4 zS2 zB1) M26 at hp26
 change By _ wk zH2 at hwk
 change By _ wg zG2 at hwg
 haveI := hwk.cel
 haveI := hwg.cel
 rw [zf.p1, zf.s1]
 refine mv_ ?_
 refine A2 (A04 rfl) rfl ?_
 refine A2 (A0U rfl) rfl ?_
 refine A4 rfl (C4 (cs := [B2e, .slice none 0 0, I0, I0, .slice none 0 0, .string ByteArray.empty]) kR rfl fun b6 => ?_)
 refine A4 rfl (A8 (vs := [.int .i64 0, wk, .int .u32 ((0 : Nat) : Int), .int .u32 ((0 : Nat) : Int), wg, .string (txt hoW)]) rfl rfl rfl kR (by rfl) (A7 rfl (A7 hwk.one (A7 rfl (A7 rfl (A7 hwg.one (A7 rfl I5)))))) UpC.upd ?_)
 refine as_ (A0 (H9 1 3 4 5 6 7) (A1 (mv_ ?_)))
 refine A2 (qw_ 6) rfl ?_
 refine A4 rfl (D4 (Mc := M26) (R := _) (aS rfl (aS rfl (a0))) kR PickC.perm (B2a tb pb zS3 zf.r3 zA1 (U4 zS2 zB1) wk wg zH2 zG2 hoW hoW 0 M26 _ (hp26.mono SubC.sub) (by have := zf.l3; omega) (by have := zf.n3; omega) (hwk.mono SubC.sub) (by have := A47 zS2 zB1.own; change zH2.length = 32 at this; omega) (by decide) (hwg.mono SubC.sub) ⟨by decide⟩ (by decide) zf.o2 hG.up) rfl ?_)
 rintro v32 M32 J32 ⟨hp32, rfl⟩
 refine mv_ ?_
 refine A2 (A04 rfl) rfl ?_
 refine A2 (A0U rfl) rfl ?_
 refine as_ (as_ (A0 (H9 3 4 5 7 8 9) (A1 (mv_ (mv_ ?_)))))
 refine E5 rfl rfl (OpQ.opL qm_ rfl ?_)
 refine E5 rfl rfl (OpQ.opL (E1 true rfl rfl (eqT rfl)) rfl ?_)
 refine A2 (H7 rfl rfl) rfl ?_
 refine mv_ ?_
 refine E5 rfl rfl (OpQ.opL qm_ rfl ?_)
 refine E5 rfl rfl (OpQ.opL (A20 rfl rfl rfl) rfl ?_)
 refine A2 (H7 rfl rfl) rfl ?_
 refine mv_ ?_
 refine E5 rfl rfl (OpQ.opL qm_ rfl ?_)
 refine A2 (H7 rfl rfl) rfl ?_
 refine mv_ ?_
 refine E5 rfl rfl (OpQ.opL qm_ rfl ?_)
 refine E5 rfl rfl (OpQ.opL (E1 true rfl rfl (eqT rfl)) rfl ?_)
 refine A2 (H7 rfl rfl) rfl ?_
 refine mv_ ?_
 refine E5 rfl rfl (OpQ.opL qm_ rfl ?_)
 refine E5 rfl rfl (OpQ.opL (A20 rfl rfl rfl) rfl ?_)
 refine A2 (H7 rfl rfl) rfl ?_
 refine as_ (A0 (D2 0) (B4 ?_))
 exact ⟨_, [], [], I9 rfl rfl, List.nil_sublist _, by simp, rfl, rfl, rfl⟩

end Go.Proofs.YthbhpfefdnffaaaGreatDoor
namespace Go.Px
open Go
def Sm (sz : Nat) (v : Value) (n : Nat) (xs : List Value) (B : Mem) : Prop :=
  ∃ (b o cap : Nat) (cs : List Value) (e : TypeId) (fr : Nat × Nat), v = .slice (some ⟨b, o, none⟩) n cap ∧ B = [(b, .cells cs.toArray e fr)] ∧ cs.length ≤ fr.1 ∧ n ≤ cap ∧ cap ≤ maxLen ∧ o + cap * sz ≤ cs.length ∧ xs.length = n * sz ∧ (∀ j u, xs[j]? = some u → cs[o + j]? = some u)
def Sx (sz : Nat) (v : Value) (n : Nat) (xs : List Value) (B : Mem) : Prop := Sl sz v n xs B ∨ Sm sz v n xs B
theorem Sm.rd {R B : Mem} {sz : Nat} {v : Value} {n : Nat} {xs : List Value} (h : Sm sz v n xs B) (hR : ∀ x, x ∈ B → x ∈ R) : Rd R sz v n xs := by
  obtain ⟨b, o, cap, cs, e, fr, rfl, rfl, h0, h1, h2, h3, h4, h5⟩ := h
  exact ⟨_, _, rfl, h4, h1, .inr ⟨b, o, cs, e, fr, rfl, hR _ (List.mem_singleton.2 rfl), h5⟩⟩
theorem Sx.rd {R B : Mem} {sz : Nat} {v : Value} {n : Nat} {xs : List Value} (h : Sx sz v n xs B) (hR : ∀ x, x ∈ B → x ∈ R) : Rd R sz v n xs := h.elim (fun h => h.rd hR) (fun h => h.rd hR)
theorem Sx.cel {B : Mem} {sz : Nat} {v : Value} {n : Nat} {xs : List Value} (h : Sx sz v n xs B) : Cel v [v] := (h.rd (R := B) fun _ h => h).cel
section
variable {C : Cx} {l : Env} {M J : Mem} {K : Env → Mem → Mem → Prop} {d : Nat} {s t e ty : TypeId} {pos : String} {af : Array Edge} {g : Option (Nat × Bool)} {x y : Operand} {ws : List Nat} {S : ByteArray}
end
end Go.Px

