/- Part 18 of the texts of this claim, one behind the other. -/
import Derived.Test.YtoigcbkclcbmpaaGreatDoorB17
set_option linter.unusedVariables false
set_option linter.unusedSimpArgs false
set_option maxRecDepth 100000
namespace Go.Proofs.YtoigcbkclcbmpaaGreatDoor
open Go.Px
theorem KyR.lt {R : Mem} {kb : Nat} {k : Ks} {va vg vs vo vm : Value} {rs ro rm : List (List Value)} (h : KyR R kb k va vg vs vo vm rs ro rm) : ∀ w ∈ B5e k, ∀ x ∈ w, x < 256 := by
  intro w hw
  rcases List.mem_cons.1 hw with rfl | hw
  · exact h.agree.lt
  rcases List.mem_cons.1 hw with rfl | hw
  · exact h.sign.lt
  obtain ⟨x, hx, rfl⟩ := List.mem_map.1 hw
  rcases List.mem_append.1 hx with hx | hx
  · obtain ⟨i, hi⟩ := List.getElem?_of_mem hx
    obtain ⟨r, hr, a, b, rfl, h1, -⟩ := h.signedR.get i x hi
    exact h1.lt
  · obtain ⟨i, hi⟩ := List.getElem?_of_mem hx
    obtain ⟨r, hr, a, b, rfl, h1, -⟩ := h.onceR.get i x hi
    exact h1.lt
theorem C2c {k : Ks} {x : Pr} (h : x ∈ k.signed) : x.sec ∈ B5e k := by simp only [B5e, List.mem_cons, List.mem_map, List.mem_append]; exact .inr (.inr ⟨x, .inl h, rfl⟩)
theorem C2d {k : Ks} {x : Pr} (h : x ∈ k.once) : x.sec ∈ B5e k := by simp only [B5e, List.mem_cons, List.mem_map, List.mem_append]; exact .inr (.inr ⟨x, .inr h, rfl⟩)
theorem B6s (u d : Int) (s : Ps) : Ext s (A4Q u d s).2 :=
  (((A0n s).trans (A0n (D4 s))).trans (B2z (k0N u d s) (D4 (D4 s)))).trans (A9h _ _ _)
def ag0 (m : Nat) : Ps := ⟨m % 2 == 0, [97, 103, 114, 101, 101], 0, []⟩
noncomputable def oA (m : Nat) : Ks × Ps := A4Q 0 1 (ag0 m)
noncomputable def oB (m : Nat) : Ks × Ps := A4Q 1 1 (oA m).2
structure OpF (m : Nat) (a b : Ks) (s : Ps) : Prop where
  ba : BuI a s
  bb : BuI b s
  sg : ∃ x, b.signed = [x] ∧ x.n = 1 ∧ x.sec.length = 32
  on : onN b = [2, 3, 4, 5]
  nx : b.next = 6
  ts : s.ts.length ≤ 22
  n : s.n ≤ 14
  real : s.real = (m % 2 == 0)
theorem A97 (s : Ps) : (D9 s).length = 32 := by
  cases hr : s.real with
  | true => rw [A3d hr]; unfold A2R; rw [A1e]; decide
  | false => rw [A3e hr]; exact A0C _ qD
theorem A98 (u d : Int) (s : Ps) : (A4Q u d s).1.signed = [turnP (k0N u d s) (D4 (D4 s))] := by
  unfold A4Q; rw [B2w]; rfl
theorem A51 (m : Nat) : OpF m (oA m).1 (oB m).1 (oB m).2 := by
  have e1 : (ag0 m).ts.length = 0 := rfl
  have e2 : (ag0 m).n = 0 := rfl
  have h1 := A78 0 1 (ag0 m)
  have h2 := A78 1 1 (oA m).2
  change (oA m).2.ts.length ≤ _ ∧ (oA m).2.n ≤ _ ∧ _ at h1
  change (oB m).2.ts.length ≤ _ ∧ (oB m).2.n ≤ _ ∧ _ at h2
  have b1 : BuI (oA m).1 (oA m).2 := BuI.new (s := ag0 m) Tok.nil Ar.nil qO qO
  have b2 : BuI (oB m).1 (oB m).2 := BuI.new b1.tok b1.ar qO qO
  have e := B6s 1 1 (oA m).2
  have e' := B6s 0 1 (ag0 m)
  exact ⟨b1.ext e.p b2.tok b2.ar, b2, ⟨_, A98 1 1 (oA m).2, rfl, A97 _⟩, C0y 1 1 (oA m).2, B5f 1 1 (oA m).2, by omega, by omega, e.p.real.trans e'.p.real⟩
theorem B2H {b : Bn} {l : List Pr} {s : Ps} : ∀ i, (A0J b l s i).2.n = s.n
  | 0 => rfl
  | i + 1 => by
    unfold A0J
    cases l[i]? with
    | none => exact B2H i
    | some o => show (I7 _ _).n = _; rw [Z5, B2H i]
theorem B6t {k : Ks} {s : Ps} : (L5 k s).2.n = s.n := by
  unfold L5
  cases k.signed with
  | nil => rfl
  | cons x l => show (A0J _ _ _ _).2.n = _; rw [B2H, Z5]; unfold idS; rw [Z5, Z5]
theorem B2I {k : Ks} {s : Ps} {x : Pr} {sl : List Pr} (hs : k.signed = x :: sl) {j : Nat} (hj : j < k.once.length + 1) : ∃ y xo, (L5 k s).1[j]? = some y ∧ y.user = k.user ∧ y.dev = k.dev ∧ y.ia = idA k s ∧ y.ig = idG k s ∧ y.signed = x.n ∧ y.key = K9 (idS k s) x.sec ∧ y.sig = x.sig ∧ y.has = xo.isSome ∧
    (∀ o, xo = some o → ∃ p, 0 < j ∧ k.once[j - 1]? = some p ∧ o = p.sec ∧ y.once = p.n ∧ y.oncek = K9 (A0J (A96 k x s) k.once (I7 (idS k s) x.sec) (j - 1)).2 p.sec) ∧ (xo = none ↔ j = 0) := by
  obtain ⟨g1, g2, g3, g4⟩ := A2D (s := s) hs
  cases j with
  | zero => exact ⟨_, none, g2, rfl, rfl, rfl, rfl, rfl, rfl, rfl, rfl, fun o h => (by cases h), by simp⟩
  | succ j =>
    obtain ⟨o, ho⟩ : ∃ o, k.once[j]? = some o := ⟨_, List.getElem?_eq_getElem qO⟩
    exact ⟨_, some o.sec, g3 j o ho, rfl, rfl, rfl, rfl, rfl, rfl, rfl, rfl, fun o' h => (by cases h; exact ⟨o, by omega, ho, rfl, rfl, rfl⟩), by simp⟩
theorem B5j {ka kb : Ks} {s S : Ps} {x : Pr} {sl : List Pr} {y : Bn} {xo : Option (LN)} (hb : BuI kb s) (hs : kb.signed = x :: sl) (hl : s.ts.length + 200 ≤ 1048576) (ho4 : kb.once.length ≤ 10) (he : Pext (L5 kb s).2 S) (ha : BuI ka S) (l1 : ∀ w ∈ B5e ka, ∀ x ∈ w, x < 256) (l2 : ∀ w ∈ B5e kb, ∀ x ∈ w, x < 256) (hL : S.ts.length + 200 ≤ 1048576) (hn : S.n < 1000000000)
    (y3 : y.ia = idA kb s) (y4 : y.ig = idG kb s) (y5 : y.signed = x.n) (y6 : y.key = K9 (idS kb s) x.sec) (y7 : y.sig = x.sig) (y8 : y.has = xo.isSome) {j : Nat} (y9 : ∀ o, xo = some o → ∃ p, 0 < j ∧ kb.once[j - 1]? = some p ∧ o = p.sec ∧ y.once = p.n ∧ y.oncek = K9 (A0J (A96 kb x s) kb.once (I7 (idS kb s) x.sec) (j - 1)).2 p.sec) :
    ckB S y = true ∧ Agd (stS ka y S) ka.agree (D9 S) kb.agree x.sec xo (stH ka y S) (stK ka y S) ∧ BuI ka (stS ka y S) ∧ Ext S (stS ka y S) ∧ B2e (stS ka y S) ka.sign (stH ka y S).ig ∧ V1 S x.sec y.key := by
  obtain ⟨h1, h2, h3, h4, h5, h6, h7⟩ := hb.bundles hs hl ho4
  have hck : ckB S y = true := by
    unfold ckB
    rw [y6, y5, y7, y4, C0m qO (h4.ext he) (h6.ext he), A2l]; rfl
  obtain ⟨g1, g2, g3, g4⟩ := B5h (b := y) (xo := xo) (kb := kb.agree) (xs := x.sec) ha (by rw [y6]; exact h5.ext he) (by rw [y3]; exact h3.ext he) y8 (fun o ho => by
    obtain ⟨p, q0, q1, q2, q3, q4⟩ := y9 o ho
    refine ⟨?_, q2 ▸ l2 _ (C2d (List.mem_of_getElem? q1))⟩
    rw [q4, q2]
    exact (h7 (j - 1) p q1).ext he) (l1 _ (by simp [B5e])) (l2 _ (C2c (by rw [hs]; simp))) (l2 _ (by simp [B5e])) hL hn
  exact ⟨hck, g1, g2, g3, g4, by rw [y6]; exact h5.ext he⟩
theorem A9j (m : Nat) (A : Mem) (hm : m < 256) (hG : Glb A) : FnX Tryz.prog 5 [.int .u8 ((m : Nat) : Int)] [] A fun q M J => ∃ tb pb ka kb MA MB MP, q = (vP tb) ∧ M = (tb, blk [(vP pb), (vP ka), (vP kb)] 37) :: (MA ++ (MB ++ MP)) ∧ Kys (J ++ A) ka (oA m).1 MA ∧ Kys (J ++ A) kb (oB m).1 MB ∧ Prm pb (oB m).2 MP := by
 refine FnX.enterZ (N := 24) Tryz.func5 rfl rfl rfl fun w_ => ?_
 refine C4 (D8 0) (A3 (as_ (A0 (D8 0) (A3 (mv_ ?_)))))
 refine A4 (A0P (a := m) (b := 2) rfl rfl rfl rfl qD) rfl ?_
 rw [C0z m]
 refine A6 rfl (C6 (e := 5) (sz := 1) (z := [zu8, zu8, zu8, zu8, zu8]) kR (eS rfl (eS rfl (eS rfl (eS rfl (eS rfl e0))))) (bdS 0 1 rfl qR (bdS 1 1 rfl qR (bdS 2 1 rfl qR (bdS 3 1 rfl qR (bdS 4 1 rfl qR bd0))))) rfl fun b8 => ?_)
 refine A6 rfl (A4s rfl kR UpC.upd rfl ?_)
 refine A8E (B := [_]) (PickC.sing).perm ?_
 refine C9 (aS rfl (aS rfl a0)) kR (B09 (m % 2 == 0) _ [97, 103, 114, 101, 101] _ ⟨Rd.whole (n := 5) (At.mem) qR, by decide, by decide⟩) rfl ?_
 rintro v10 MP J10 ⟨pb, rfl, hP⟩
 change Prm pb (ag0 m) MP at hP
 have q1 := A78 0 1 (ag0 m)
 change (oA m).2.ts.length ≤ 11 ∧ (oA m).2.n ≤ 7 ∧ _ at q1
 refine mv_ ?_
 refine A4 (A4e rfl) rfl ?_
 refine A4 (A38 rfl) rfl ?_
 refine as_ (as_ (A0 (D5 3 4) (A5 (A3 (mv_ ?_)))))
 refine A4 (F4 false rfl rfl (neF rfl)) rfl ?_
 refine A0 (D5 3 14) ?_
 refine D3 rfl ?_
 refine A9 (nx (D8 3) (A3 (mv_ (mv_ ?_))))
 refine A4 (F3 (place := fun x => #[(0, 1), (1, 1)][x]?) (z := [.int .i64 0, .int .i64 0]) (fun _ => by kernel_rfl) (eS rfl (eS rfl e0)) (bdS 0 1 rfl qR (bdS 1 1 rfl qR bd0))) rfl ?_
 refine A6 rfl (E1 (Mc := MP) (R := _) (aS rfl (aS rfl (a0))) kR qP (C0x 0 1 pb (ag0 m) MP _ hP (show 0 + 200 ≤ 1048576 by decide) (show 0 + 100 < 1000000000 by decide) hG.up) rfl ?_)
 rintro v18 M18 J18 ⟨ka, MA, MP2, rfl, rfl, hKa, hP2⟩
 refine mv_ ?_
 refine A4 (F3 (place := fun x => #[(0, 1), (1, 1)][x]?) (z := [.int .i64 0, .int .i64 0]) (fun _ => by kernel_rfl) (eS rfl (eS rfl e0)) (bdS 0 1 rfl qR (bdS 1 1 rfl qR bd0))) rfl ?_
 refine A6 rfl (E1 (Mc := MP2) (R := _) (aS rfl (aS rfl (a0))) kR qP (FnX.amb qS (C0x 1 1 pb (oA m).2 MP2 A hP2 qO qO hG)) rfl ?_)
 rintro v21 M21 J21 ⟨kb, MB, MP3, rfl, rfl, hKb, hP3⟩
 refine A4 (F3 (place := fun x => #[(0, 1), (1, 1), (2, 1)][x]?) (z := [.pointer none, .pointer none, .pointer none]) (fun _ => by kernel_rfl) (eS rfl (eS rfl (eS rfl e0))) (bdS 0 1 rfl qR (bdS 1 1 rfl qR (bdS 2 1 rfl qR bd0)))) rfl ?_
 refine A6 rfl (bx_ fun b23 => ?_)
 refine as_ (A0 (D8 2) (C3 ?_))
 exact ⟨_, (b23, blk [(vP pb), (vP ka), (vP kb)] 37) :: (MA ++ (MB ++ MP3)), [], K2 rfl rfl, Fit.none (Fit.pick (B := [_]) qP (Fit.pick qP (Fit.pick qP (Fit.last qP)))), b23, pb, ka, kb, MA, MB, MP3, rfl, rfl, hKa.mono qS, hKb.mono qS, hP3⟩
def StV (R : Mem) (v : Value) (K : LN) (H : He) : Prop := ∃ x p r u, v = .tuple #[x, .agg (heC p r u H).toArray, .int .i64 0] ∧ By R x K ∧ HeR R H p r u
theorem StV.mono {R R' : Mem} {v : Value} {K : LN} {H : He} (h : StV R v K H) (hR : ∀ x, x ∈ R → x ∈ R') : StV R' v K H := by
  obtain ⟨x, p, r, u, h1, h2, h3⟩ := h
  exact ⟨x, p, r, u, h1, h2.mono hR, h3.mono hR⟩
theorem A7c (A : Mem) (hG : Glb A) : FnV Tryz.prog 4 [] A (.bool true) := by
 refine FnX.enter (N := 84) Tryz.func4 rfl rfl rfl fun w_ => ?_
 refine C4 kn (A3 (as_ (A0 kn (A3 ?_))))
 refine C9 (aS rfl a0) kR (A9j 1 _ qD hG.up) rfl ?_
 rintro v9 M9 J9 ⟨tb, pb, ka, kb, MA, MB, MP, rfl, rfl, hKa, hKb, hP⟩
 have hF := A51 (1)
 generalize (oA (1)).1 = ak at *
 generalize (oB (1)).1 = bk at *
 generalize (oB (1)).2 = s at *
 obtain ⟨x, hsg, hxn, hxl⟩ := hF.sg
 have hol := B6r bk
 rw [hF.on] at hol
 change 4 = _ at hol
 have hts := hF.ts
 have hsn := hF.n
 have hrise : B6q bk.once := B2y (by rw [show bk.once.map (·.n) = onN bk from rfl, hF.on]; decide)
 refine as_ (A0 (D8 1) (A5 (A3 (mv_ ?_))))
 refine A4 (F0 (e := 37) rfl rfl kR) rfl ?_
 refine mv_ ?_
 refine G2 rfl rfl (OpQ.opL qm_ rfl ?_)
 refine G2 rfl rfl (OpQ.opL (F9 rfl) rfl ?_)
 refine G2 rfl rfl (OpQ.opL (qf_ 2 2) rfl ?_)
 refine G2 rfl rfl (OpQ.opL ql_ rfl ?_)
 refine G2 rfl rfl (OpQ.opL (F0 (e := 59) rfl rfl kR) rfl ?_)
 refine A4 (E9 rfl rfl) rfl ?_
 refine A0 (D5 1 18) ?_
 refine D3 rfl ?_
 refine A9 (nx (D8 1) ?_)
 refine S9 (B := [(tb, blk [(vP pb), (vP ka), (vP kb)] 37)]) qP ?_
 refine S9 (B := MA) qP ?_
 refine S9 (B := MB) qP ?_
 obtain ⟨va, vg, vq, vo, vm, rs, ro, rm, hra⟩ := hKa.r
 obtain ⟨ua, ug, uq, uo, um, ss, so, sm, hrb⟩ := hKb.r
 have hla := (hra _ (fun _ h => List.mem_append_left MA h) (fun _ h => List.mem_append_right _ h)).lt
 have hlb := (hrb _ (fun _ h => List.mem_append_left MB h) (fun _ h => List.mem_append_right _ h)).lt
 refine D2 [0, 1, 2, 3, 4, 5, 6, 7, 9] (zp 0 [0, 0, 0, 1, 0, 0, 0, 1, 2, 0]) kR kR fun hs => ?_
 refine fm_ hs ?_
 refine D1 hs rfl (F9 rfl) rfl ?_
 refine D1 hs rfl (qf_ 2 2) rfl ?_
 refine F7 hs rfl ql_ rfl ?_
 refine fm_ hs ?_
 refine D1 hs rfl (F9 rfl) rfl ?_
 refine D1 hs rfl (qf_ 0 0) rfl ?_
 refine F7 hs rfl ql_ rfl ?_
 refine G5 rfl rfl rfl (E1 (Mc := MP) (R := _) (aS rfl (aS rfl (a0))) kR qP (B2v pb s kb bk ua ug uq uo um ss so sm x [] MP _ (hrb _ qS qS) hsg hP qO qO hG.up) rfl ?_)
 rintro v27 M27 J27 ⟨hP27, rows, hrd, hrw⟩
 haveI := hrd.cel
 obtain ⟨hbl, -, -, hbt⟩ := A2D (s := s) hsg
 rw [← hol] at hbl
 obtain ⟨y, xo, hy, -, -, y3, y4, y5, y6, y7, y8, y9, y10⟩ := B2I (s := s) hsg (j := 1) qO
 obtain ⟨r0, hr0, w1, w2, w3, w4, w5, rfl, gw1, gw2, gw3, gw4, gw5, gws, gwo⟩ := hrw.get 1 y hy
 haveI := gw1.cel
 haveI := gw2.cel
 haveI := gw3.cel
 haveI := gw4.cel
 haveI := gw5.cel
 obtain ⟨hb1, hb2, -⟩ := hF.bb.bundles hsg qO qO
 have hbn : (L5 bk s).2.n = s.n := B6t
 have ha2 := hF.ba.ext hb2 hb1.tok hb1.ar
 obtain ⟨hck, hag, hbi, hex, -, hpx⟩ := B5j hF.bb hsg qO qO (Pext.refl _) ha2 hla hlb qO qO y3 y4 y5 y6 y7 y8 y9
 have hst := A8b ak y (L5 bk s).2
 have hans := hag.ans (kb := bk) hbi.tok qO (by rw [hsg]; show A2W [x] (stH ak y (L5 bk s).2).signed = _; rw [show (stH ak y (L5 bk s).2).signed = x.n from y5]; exact B2A) y8 (fun hh => by
  change y.has = true at hh
  rw [y8] at hh
  obtain ⟨o, rfl⟩ := Option.isSome_iff_exists.1 hh
  obtain ⟨q, q0, q1, q2, q3, -⟩ := y9 o rfl
  rw [show (stH ak y (L5 bk s).2).once = y.once from if_pos (y8.trans rfl), q3, q2]
  exact B8u hrise q1)
 have hKl := (B2C (stI ak y (L5 bk s).2) (stL ak.agree y (L5 bk s).2)).2
 change (stK ak y (L5 bk s).2).length = 32 at hKl
 have h2k := hex.n
 refine fa_ hs ?_
 refine E4 (D5 1 2) (A5 (A3 (mv_ ?_)))
 refine A4 (K1 (sz := 10) rfl kR hrd) rfl ?_
 rw [hbl]
 refine A4 (F4 false rfl rfl (neF qR)) rfl ?_
 refine A0 (E2 1 2 30) ?_
 refine D3 rfl ?_
 refine A9 (nx (D5 1 2) ?_)
 refine I0 (M27) (_) true [0, 1, 2, 3, 4, 5, 6, 7, 8, 9, 10, 11, 12, 13, 14, 15, 16, 17, 19] [(0, 0), (1, 0), (2, 0), (3, 1), (4, 0), (5, 0), (6, 0), (7, 1), (8, 0), (9, 0), (10, 1), (11, 8), (12, 8), (13, 8), (16, 8), (14, 9), (15, 10), (17, 0), (18, 2), (19, 0)] kR kR qP fun hs K n0 hKm hKs hKn => ?_
 refine km_ hs ?_
 refine I8 hs rfl (F9 rfl) rfl ?_
 refine I8 hs rfl (qf_ 0 0) rfl ?_
 refine Q0 hs rfl hKs ql_ ?_
 refine km_ hs ?_
 refine I8 hs rfl (F9 rfl) rfl ?_
 refine I8 hs rfl (qf_ 1 1) rfl ?_
 refine Q0 hs rfl hKs ql_ ?_
 refine km_ hs ?_
 refine I8 hs rfl (K0 (sz := 10) (a := 1) rfl rfl kR rfl hrd (by rw [hbl]; decide)) rfl ?_
 refine Q0 hs rfl hKs (A0Q rfl kR (hrd.mono qS) (hrw.lens bnT) qD hr0) ?_
 refine A2c [⟨11, 43, none, M27, fun v B R => Prm pb (stS ak y (L5 bk s).2) B ∧ StV R v (stK ak y (L5 bk s).2) (stH ak y (L5 bk s).2)⟩, ⟨12, 31, none, [], fun v B R => B = [] ∧ StV R v (stK ak y (L5 bk s).2) (stH ak y (L5 bk s).2)⟩, ⟨13, 44, none, [], fun v B R => B = [] ∧ By R v (stK ak y (L5 bk s).2)⟩, ⟨16, 4, none, [], fun v B _ => ∃ b, v = (vP b) ∧ B = [(b, blk [vS, vS, vS, .int .u32 0, .bool false, .int .u32 0] 43)]⟩] [⟨14, 45, none, [], fun v B R => B = [] ∧ ∃ p r u, v = .agg (heC p r u (stH ak y (L5 bk s).2)).toArray ∧ HeR R (stH ak y (L5 bk s).2) p r u⟩, ⟨15, 46, none, [], fun v B R => B = [] ∧ v = .int .i64 0⟩] ([]) (fun bs => [bs 11, bs 12, bs 13, bs 16, bs 14, bs 15]) (hKn rfl) (by simp [A0H, A2b]) (show ∀ m ∈ ([M27, [], [], [], [], []] : List Mem), ∀ x ∈ m, K x.1 from C1 (hKm) (C1 (fun _ h => by cases h) (C1 (fun _ h => by cases h) (C1 (fun _ h => by cases h) (C1 (fun _ h => by cases h) (C1 (fun _ h => by cases h) (K7))))))) kR (fun _ => by first | rfl | kernel_rfl)
  (C1 (fun _ _ _ _ h ⟨p1, p2⟩ => ⟨p1, p2.mono h⟩) (C1 (fun _ _ _ _ h ⟨p1, p2⟩ => ⟨p1, p2.mono h⟩) (C1 (fun _ _ _ _ h ⟨p1, p2⟩ => ⟨p1, p2.mono h⟩) (C1 (fun _ _ _ _ _ h => h) (C1 (fun _ _ _ _ h ⟨p1, p, r, u, e, p2⟩ => ⟨p1, p, r, u, e, p2.mono h⟩) (C1 (fun _ _ _ _ _ h => h) (K7))))))) (show List.Nodup [43, 31, 44, 4, 45, 46] by decide) (show List.Nodup [11, 12, 13, 16, 14, 15] by decide) (C1 (C8 rfl) (C1 (C8 rfl) (C1 (C8 rfl) (C1 (C8 rfl) (C1 (C8 rfl) (C1 (C8 rfl) (K7)))))))
  hs (List.cons_ne_nil _ _) (C1 ⟨_, rfl, fun vs bs R Rj wG hb hj hjr ha => ⟨.inl rfl, ?_⟩⟩ (C1 ⟨_, rfl, fun vs bs R Rj wG hb hj hjr ha => ⟨.inl rfl, ?_⟩⟩ (C1 ⟨_, rfl, fun vs bs R Rj wG hb hj hjr ha => ⟨.inl rfl, ?_⟩⟩ (C1 ⟨_, rfl, fun vs bs R Rj wG hb hj hjr ha => ⟨.inl rfl, ?_⟩⟩ (K7))))) (C1 ⟨rfl, rfl, _, _, _, _, rfl, fun vs bs Rj hj ha => ?_⟩ (C1 ⟨rfl, rfl, _, _, _, _, rfl, fun vs bs Rj hj ha => ?_⟩ (K7))) ?_
 ·
  dsimp only [Gc.inp]
  refine E1 (Mc := M27) (R := []) (aS rfl (aS rfl (aS rfl (a0)))) kR qM (FnX.amb (A := Rj) (fun x hx => by have := hjr x hx; simp [this]) (B2G pb (L5 bk s).2 ka ak va vg vq vo vm rs ro rm y w1 w2 w3 w4 w5 M27 Rj (hra _ (fun x hx => hj x (qS x hx)) (fun x hx => hj x (qS x hx))) hP27 hb1.ar qO qO (gw1.mono (fun x hx => hj x (qS x hx))) (gw2.mono (fun x hx => hj x (qS x hx))) (gw3.mono (fun x hx => hj x (qS x hx))) (gw4.mono (fun x hx => hj x (qS x hx))) (gw5.mono (fun x hx => hj x (qS x hx))) gws gwo (hG.sub (fun x hx => hj x (qS x hx))))) rfl ?_
  rintro v25 M25 J25 ⟨hh, -⟩
  obtain ⟨x, p, r, u, rfl, hP25, h25, hH25⟩ := hh hck
  exact ⟨_, rfl, by simpa using hP25, x, p, r, u, rfl, h25.mono fun x hx => by simp [hx], hH25.mono fun x hx => by simp [hx]⟩
 ·
  dsimp only [Gc.inp]
  have g11 := ha _ (List.mem_of_getElem? (i := 0) rfl) kR
  replace g11 : (fun v B R => Prm pb (stS ak y (L5 bk s).2) B ∧ StV R v (stK ak y (L5 bk s).2) (stH ak y (L5 bk s).2)) (vs 11) (bs 11) Rj := g11
  dsimp only at g11
  obtain ⟨-, k⟩ := g11
  exact OpQ.opL qm_ rfl ⟨_, rfl, rfl, k⟩
 ·
  dsimp only [Gc.inp]
  have g12 := ha _ (List.mem_of_getElem? (i := 1) rfl) kR
  replace g12 : (fun v B R => B = [] ∧ StV R v (stK ak y (L5 bk s).2) (stH ak y (L5 bk s).2)) (vs 12) (bs 12) Rj := g12
  dsimp only at g12
  obtain ⟨-, x, p, r, u, e, k1, k2⟩ := g12
  exact OpQ.opL (N2 (vs := #[x, .agg (heC p r u (stH ak y (L5 bk s).2)).toArray, .int .i64 0]) (by rw [← e]; rfl) rfl) rfl ⟨_, rfl, rfl, k1⟩
 ·
  dsimp only [Gc.inp]
  exact C5 (cs := [vS, vS, vS, .int .u32 0, .bool false, .int .u32 0]) kR rfl fun b => ⟨_, rfl, b, rfl, rfl⟩
 ·
  have g12 := ha _ (List.mem_of_getElem? (i := 1) rfl) kR
  replace g12 : (fun v B R => B = [] ∧ StV R v (stK ak y (L5 bk s).2) (stH ak y (L5 bk s).2)) (vs 12) (bs 12) Rj := g12
  dsimp only at g12
  obtain ⟨-, x, p, r, u, e, k1, k2⟩ := g12
  exact ⟨_, N2 (vs := #[x, .agg (heC p r u (stH ak y (L5 bk s).2)).toArray, .int .i64 0]) (by rw [← e]; rfl) rfl, rfl, p, r, u, rfl, k2⟩
 ·
  have g12 := ha _ (List.mem_of_getElem? (i := 1) rfl) kR
  replace g12 : (fun v B R => B = [] ∧ StV R v (stK ak y (L5 bk s).2) (stH ak y (L5 bk s).2)) (vs 12) (bs 12) Rj := g12
  dsimp only at g12
  obtain ⟨-, x, p, r, u, e, k1, k2⟩ := g12
  exact ⟨_, N2 (vs := #[x, .agg (heC p r u (stH ak y (L5 bk s).2)).toArray, .int .i64 0]) (by rw [← e]; rfl) rfl, rfl, rfl⟩
 intro vs bs Jn0 hφ hKK
 have kk11 := hKK _ (List.mem_of_getElem? (i := 0) rfl)
 dsimp only at kk11
 have kk12 := hKK _ (List.mem_of_getElem? (i := 1) rfl)
 dsimp only at kk12
 have kk13 := hKK _ (List.mem_of_getElem? (i := 2) rfl)
 dsimp only at kk13
 have kk16 := hKK _ (List.mem_of_getElem? (i := 3) rfl)
 dsimp only at kk16
 have kk14 := hKK _ (List.mem_of_getElem? (i := 4) rfl)
 dsimp only at kk14
 have kk15 := hKK _ (List.mem_of_getElem? (i := 5) rfl)
 dsimp only at kk15
 clear hKK
 have g11 := ofH hφ
 dsimp only at g11
 replace hφ := ofT hφ
 have g12 := ofH hφ
 dsimp only at g12
 replace hφ := ofT hφ
 have g13 := ofH hφ
 dsimp only at g13
 replace hφ := ofT hφ
 have g16 := ofH hφ
 dsimp only at g16
 replace hφ := ofT hφ
 have g14 := ofH hφ
 dsimp only at g14
 replace hφ := ofT hφ
 have g15 := ofH hφ
 dsimp only at g15
 clear hφ
 dsimp only [U0, A0H, List.foldr, List.map, List.cons_append, List.nil_append]
 generalize bs 11 = B43 at *
 generalize bs 12 = B31 at *
 generalize bs 13 = B44 at *
 generalize bs 16 = B4 at *
 generalize bs 14 = B45 at *
 generalize bs 15 = B46 at *
 generalize vs 11 = u43 at *
 generalize vs 12 = u31 at *
 generalize vs 13 = u44 at *
 generalize vs 16 = u4 at *
 generalize vs 14 = u45 at *
 generalize vs 15 = u46 at *
 obtain ⟨hP43, -⟩ := g11
 obtain ⟨rfl, -⟩ := g12
 obtain ⟨rfl, hK43⟩ := g13
 obtain ⟨rfl, p, r, u, rfl, hHe⟩ := g14
 obtain ⟨rfl, rfl⟩ := g15
 obtain ⟨b16, rfl, rfl⟩ := g16
 haveI := hK43.cel
 haveI := hHe.ia.cel
 haveI := hHe.ig.cel
 haveI := hHe.key.cel
 obtain ⟨H, hH⟩ : ∃ z, stH ak y (L5 bk s).2 = z := ⟨_, rfl⟩
 obtain ⟨K, hK⟩ : ∃ z, stK ak y (L5 bk s).2 = z := ⟨_, rfl⟩
 obtain ⟨s3, hs3⟩ : ∃ z, stS ak y (L5 bk s).2 = z := ⟨_, rfl⟩
 rw [hH] at hHe hag hans
 rw [hK] at hK43 hag hans hKl
 rw [hs3] at hP43 hag hbi hex hst hans
 rw [hH]
 dsimp only [heC]
 refine I8 hs rfl (I4 rfl) rfl ?_
 refine P0 rfl rfl rfl (A8 (vs := [p, r, u, (vU H.signed), .bool H.has, (vU H.once)]) rfl rfl rfl kR qR (C1 hHe.ia.one (C1 hHe.ig.one (C1 hHe.key.one al3))) UpC.upd ?_)
 refine I8 hs rfl (I4 rfl) rfl ?_
 refine P4 (E7 1 3 4 5) ?_
 refine D2 [0, 1, 2, 3, 4, 5, 6, 7, 8, 10, 11, 12, 13, 14, 15, 16] (zp 0 [0, 0, 0, 1, 0, 0, 0, 1, 1, 2, 0, 0, 0, 0, 0, 0, 0]) kR kR fun hs => ?_
 refine fm_ hs ?_
 refine D1 hs rfl (F9 rfl) rfl ?_
 refine D1 hs rfl (qf_ 0 0) rfl ?_
 refine F7 hs rfl ql_ rfl ?_
 refine fm_ hs ?_
 refine D1 hs rfl (F9 rfl) rfl ?_
 refine D1 hs rfl (qf_ 2 2) rfl ?_
 refine F7 hs rfl ql_ rfl ?_
 refine F7 hs rfl (qw_ 6) rfl ?_
 refine G5 rfl rfl rfl (E1 (Mc := B43) (R := _) (aS rfl (aS rfl (aS rfl (a0)))) kR qP (B5i pb s3 kb bk ua ug uq uo um ss so sm H p r u B43 _ (hrb _ qS qS) hrise hP43 qO (hHe.mono qS) hG.up) rfl ?_)
 rintro v57 M57 J57 ⟨o1, o2, rfl, hP57, ho1, ho2⟩
 haveI := ho1.cel
 haveI := ho2.cel
 rw [hans] at hP57 ho1 ho2 ⊢
 change By _ o1 K at ho1
 change By _ o2 x.sec at ho2
 refine fm_ hs ?_
 refine D1 hs rfl (A4e rfl) rfl ?_
 refine D1 hs rfl (A38 rfl) rfl ?_
 refine D1 hs rfl (C1B rfl) rfl ?_
 refine fa_ hs ?_
 refine fa_ hs ?_
 refine fa_ hs ?_
 refine E4 (F5 3 5 6 7 8) (A3 (mv_ ?_))
 refine A4 (F4 true rfl rfl (eqT rfl)) rfl ?_
 refine mv_ ?_
 refine G2 rfl rfl (OpQ.opL qm_ rfl ?_)
 refine G2 rfl rfl (OpQ.opL (F4 true rfl rfl (eqT rfl)) rfl ?_)
 refine A4 (I5 rfl rfl) rfl ?_
 refine mv_ ?_
 refine G2 rfl rfl (OpQ.opL qm_ rfl ?_)
 refine G2 rfl rfl (OpQ.opL (K1 (sz := 1) rfl kR hK43.rd) rfl ?_)
 rw [hKl]
 refine G2 rfl rfl (OpQ.opL (F4 true rfl rfl (eqT rfl)) rfl ?_)
 refine A4 (I5 rfl rfl) rfl ?_
 refine mv_ ?_
 refine G2 rfl rfl (OpQ.opL qm_ rfl ?_)
 refine G2 rfl rfl (OpQ.opL (A0z rfl kR (hK43.rd.mono qS)) rfl ?_)
 refine G2 rfl rfl (OpQ.opL qm_ rfl ?_)
 refine G2 rfl rfl (OpQ.opL (A0z rfl kR (ho1.rd.mono qS)) rfl ?_)
 refine G2 rfl rfl (OpQ.opL ((show (decide (K = K)) = true by simp) ▸ B9k rfl rfl rfl rfl hK43.lt ho1.lt) rfl ?_)
 refine A4 (I5 rfl rfl) rfl ?_
 refine mv_ ?_
 refine G2 rfl rfl (OpQ.opL qm_ rfl ?_)
 refine G2 rfl rfl (OpQ.opL (K1 (sz := 1) rfl kR ho2.rd) rfl ?_)
 rw [hxl]
 refine G2 rfl rfl (OpQ.opL (F4 true rfl rfl (eqT rfl)) rfl ?_)
 refine A4 (I5 rfl rfl) rfl ?_
 refine as_ (A0 (D8 0) (C3 ?_))
 exact ⟨_, [], [], K2 rfl rfl, List.nil_sublist _, by simp, rfl, rfl, rfl⟩

theorem Kys.r2 {R : Mem} {kb : Nat} {k : Ks} {M : Mem} (h : Kys R kb k M) : ∃ va vg vs vo vm rs ro rm, RwL prR R rs k.signed ∧ ∀ R', (∀ x, x ∈ R → x ∈ R') → (∀ x, x ∈ M → x ∈ R') → KyR R' kb k va vg vs vo vm rs ro rm := by
  obtain ⟨va, vg, vs, vo, vm, rs, ro, rm, Bs, Bo, Bm, rfl, h2, h3, h4, h5, h6, h7, h8, h9, h10, h11, h12, h13⟩ := h.ex
  refine ⟨va, vg, vs, vo, vm, rs, ro, rm, h5, fun R' hR hM => ⟨hM _ qK, h2.mono hR, h3.mono hR, h4.rd fun x hx => hM x (by simp [hx]), h5.mono prT hR, h6.rd fun x hx => hM x (by simp [hx]), h7.mono prT hR, h8.rd fun x hx => hM x (by simp [hx]), h9.mono nmT hR, by omega, by omega, by omega, by omega⟩⟩
theorem B2J (pb kb : Nat) (s : Ps) (k : Ks) (x : Pr) (sl : List Pr) (MK MP A : Mem) (hKs : Kys A kb k MK) (hsg : k.signed = x :: sl) (hP : Prm pb s MP) (hn : s.ts.length + 100 ≤ 1048576) (hol : k.once.length ≤ 10) (hG : Glb A) : FnX Tryz.prog 6 [(vP kb), (vP pb)] (MK ++ MP) A fun q M J => ∃ MP2, M = MK ++ MP2 ∧ Prm pb (L5 k s).2 MP2 ∧ ∃ rows, Rd J 10 q (L5 k s).1.length rows.flatten ∧ RwL bnR (J ++ A) rows (L5 k s).1 := by
 obtain ⟨va, vg, vq, vo, vm, rs, ro, rm, hsr, hkr⟩ := hKs.r2
 have hK := hkr (MK ++ A) (fun _ h => List.mem_append_right _ h) (fun _ h => List.mem_append_left _ h)
 have hkb := hK.blk_
 haveI := hK.agree.cel
 haveI := hK.sign.cel
 haveI := hK.signed.cel
 haveI := hK.once.cel
 haveI := hK.met.cel
 have il := A09 k s
 obtain ⟨r0, hr0, vs_, vg_, rfl, hs_, hg_, hxn⟩ := hsr.get 0 x (by rw [hsg]; rfl)
 haveI := hs_.cel
 haveI := hg_.cel
 refine FnX.enterZ (N := 62) Tryz.func6 rfl rfl rfl fun w_ => ?_
 refine C4 (D5 0 1) (A3 (as_ (A0 (D5 0 1) (A5 (A3 (mv_ ?_))))))
 refine A4 (F0 (e := 59) rfl rfl kR) rfl ?_
 refine A0 (E2 0 1 12) ?_
 refine D3 rfl ?_
 refine A9 (nx (D5 0 1) (A3 (mv_ ?_)))
 refine A4 (F9 rfl) rfl ?_
 refine A4 (qf_ 4 4) rfl ?_
 refine A4 (I2 rfl kR (qS _ hkb) qR) rfl ?_
 refine A4 (K0 (sz := 3) (a := 0) rfl rfl kR rfl hK.signed (by rw [hsg]; simp)) rfl ?_
 refine A4 (A0Q rfl kR (hK.signed.mono qS) (hK.signedR.lens prT) qD hr0) rfl ?_
 refine A6 rfl (C5 (cs := [.int .u32 0, vS, vS]) kR rfl fun b5 => ?_)
 refine A6 rfl (A8 (vs := [(vU x.n), vs_, vg_]) rfl rfl rfl kR qR (C1 rfl (C1 hs_.one (C1 hg_.one K7))) UpC.upd ?_)
 refine A0 (E2 0 1 5) ?_
 refine I0 (MP) (_) true (.range 17) [(0, 0), (1, 0), (2, 0), (3, 1), (4, 0), (5, 0), (7, 0), (8, 1), (9, 0), (10, 0), (11, 1), (13, 0), (14, 1), (6, 3), (12, 3), (15, 3), (16, 4), (17, 2)] kR kR qP fun hs K n0 hKm hKs hKn => ?_
 refine km_ hs ?_
 refine I8 hs rfl (F9 rfl) rfl ?_
 refine I8 hs rfl (qf_ 0 0) rfl ?_
 refine Q0 hs rfl hKs (H2 (n := 2) rfl kR (qS _ hkb) TakeC.take) ?_
 refine km_ hs ?_
 refine km_ hs ?_
 refine I8 hs rfl (qf_ 0 0) rfl ?_
 refine Q0 hs rfl hKs ql_ ?_
 refine km_ hs ?_
 refine I8 hs rfl (qf_ 1 1) rfl ?_
 refine Q0 hs rfl hKs ql_ ?_
 refine I8 hs rfl (qf_ 2 2) rfl ?_
 refine Q0 hs rfl hKs ql_ ?_
 refine A07 [⟨6, 25, none, MP, fun v B R => Prm pb (idS k s) B ∧ ∃ p q, v = .agg #[p, q] ∧ By R p (idA k s) ∧ By R q (idG k s)⟩, ⟨12, 31, some 6, [], fun v B R => Prm pb (I7 (idS k s) x.sec) B ∧ By R v (K9 (idS k s) x.sec)⟩, ⟨15, 34, none, [], fun v B R => B = [] ∧ ∃ p q u, v = .agg #[.int .i64 k.user, .int .i64 k.dev, p, q, (vU x.n), u, vg_, .bool false, (vU 0), vS] ∧ By R p (idA k s) ∧ By R q (idG k s) ∧ By R u (K9 (idS k s) x.sec)⟩, ⟨16, 6, none, [], fun v B _ => ∃ b, v = (vP b) ∧ B = [(b, blk [.int .i64 0, .int .i64 0, vS, vS, .int .u32 0, vS, vS, .bool false, .int .u32 0, vS] 32)]⟩] (_) (fun bs => [bs 12, bs 15, bs 16]) (hKn rfl) (List.Perm.refl _) (show ∀ m ∈ ([MP, [], []] : List Mem), ∀ x ∈ m, K x.1 from C1 (hKm) (C1 (fun _ h => by cases h) (C1 (fun _ h => by cases h) (K7)))) kR (fun _ => by first | rfl | kernel_rfl)
  (C1 (fun _ _ _ _ h ⟨p1, p, q, e, p2, p3⟩ => ⟨p1, p, q, e, p2.mono h, p3.mono h⟩) (C1 (fun _ _ _ _ h ⟨p1, p2⟩ => ⟨p1, p2.mono h⟩) (C1 (fun _ _ _ _ h ⟨p1, p, q, u, e, p2, p3, p4⟩ => ⟨p1, p, q, u, e, p2.mono h, p3.mono h, p4.mono h⟩) (C1 (fun _ _ _ _ h hp => hp) (K7))))) (show List.Nodup [25, 31, 34, 6] by decide) (show List.Nodup [6, 12, 15, 16] by decide) (C1 (C8 rfl) (C1 (C8 rfl) (C1 (C8 rfl) (C1 (C8 rfl) (K7)))))
  (C1 ⟨_, rfl, fun vs bs R Rj wG hb hj hjr ha => ⟨.inl rfl, ?_⟩⟩ (C1 ⟨_, rfl, fun vs bs R Rj wG hb hj hjr ha => ⟨.inl rfl, ?_⟩⟩ (C1 ⟨_, rfl, fun vs bs R Rj wG hb hj hjr ha => ⟨.inl rfl, ?_⟩⟩ (C1 ⟨_, rfl, fun vs bs R Rj wG hb hj hjr ha => ⟨.inl rfl, ?_⟩⟩ (K7))))) ?_
 ·
  dsimp only [Gc.inp]
  refine E1 (Mc := MP) (R := []) (aS rfl (aS rfl (a0))) kR qM (A5Y pb s kb k va vg vq vo vm rs ro rm MP _ (hK.mono (fun x hx => by have := hb x (qS x hx); simp [this])) hP qO (hG.sub (fun x hx => by have := hb x (qS x hx); simp [this]))) rfl ?_
  rintro v25 M25 J25 ⟨hP25, p, q, rfl, hp, hq⟩
  exact ⟨_, rfl, by simpa using hP25, p, q, rfl, hp.mono fun x hx => by simp [hx], hq.mono fun x hx => by simp [hx]⟩
 ·
  dsimp only [Gc.inp]
  have g6 := ha _ (List.mem_of_getElem? (i := 0) rfl) kR
  replace g6 : (fun v B R => Prm pb (idS k s) B ∧ ∃ p q, v = .agg #[p, q] ∧ By R p (idA k s) ∧ By R q (idG k s)) (vs 6) (bs 6) Rj := g6
  dsimp only at g6
  obtain ⟨hP25, -⟩ := g6
  refine E1 (Mc := bs 6) (R := []) (aS rfl (aS rfl (a0))) kR qM (A0m pb (idS k s) vs_ x.sec (bs 6) _ hP25 qO (hs_.mono (fun x hx => by have := hb x (qS x hx); simp [this])) (hG.sub (fun x hx => by have := hb x (qS x hx); simp [this]))) rfl ?_
  rintro v31 M31 J31 ⟨hP31, h31⟩
  exact ⟨_, rfl, by simpa using hP31, h31.mono fun x hx => by simp [hx]⟩
 ·
  dsimp only [Gc.inp]
  have g6 := ha _ (List.mem_of_getElem? (i := 0) rfl) kR
  replace g6 : (fun v B R => Prm pb (idS k s) B ∧ ∃ p q, v = .agg #[p, q] ∧ By R p (idA k s) ∧ By R q (idG k s)) (vs 6) (bs 6) Rj := g6
  dsimp only at g6
  have g12 := ha _ (List.mem_of_getElem? (i := 1) rfl) kR
  replace g12 : (fun v B R => Prm pb (I7 (idS k s) x.sec) B ∧ By R v (K9 (idS k s) x.sec)) (vs 12) (bs 12) Rj := g12
  dsimp only at g12
  obtain ⟨-, h31⟩ := g12
  obtain ⟨-, p, q, e25, hp, hq⟩ := g6
  haveI := h31.cel
  haveI := hp.cel
  haveI := hq.cel
  dsimp only [U0, List.map, List.cons_append, List.nil_append]
  rw [e25]
  exact OpQ.opL (F3 (place := fun x => #[(0, 2), (2, 2), (4, 1), (5, 1), (6, 1), (7, 1), (8, 1), (9, 1)][x]?) (z := [A2Z, A2Z, vS, vS, G4, vS, vS, .bool false, G4, vS]) (fun _ => by kernel_rfl) (eS rfl (eS rfl (eS rfl (eS rfl (eS rfl e0))))) (bdS 0 2 rfl qR (bdS 2 2 rfl qR (bdS 4 1 rfl qR (bdS 5 1 rfl qR (bdS 6 1 rfl qR bd0)))))) rfl ⟨_, rfl, rfl, p, q, _, rfl, hp, hq, h31⟩
 ·
  dsimp only [Gc.inp]
  exact C5 (cs := [A2Z, A2Z, vS, vS, G4, vS, vS, .bool false, G4, vS]) kR rfl fun b => ⟨_, rfl, b, rfl, rfl⟩
 intro vs bs Jn0 hφ hKK
 have kk6 := hKK _ (List.mem_of_getElem? (i := 0) rfl)
 dsimp only at kk6
 have kk12 := hKK _ (List.mem_of_getElem? (i := 1) rfl)
 dsimp only at kk12
 have kk15 := hKK _ (List.mem_of_getElem? (i := 2) rfl)
 dsimp only at kk15
 have kk16 := hKK _ (List.mem_of_getElem? (i := 3) rfl)
 dsimp only at kk16
 clear hKK
 have g6 := ofH hφ
 dsimp only at g6
 replace hφ := ofT hφ
 have g12 := ofH hφ
 dsimp only at g12
 replace hφ := ofT hφ
 have g15 := ofH hφ
 dsimp only at g15
 replace hφ := ofT hφ
 have g16 := ofH hφ
 dsimp only at g16
 clear hφ
 dsimp only [U0, A0H, List.foldr, List.map, List.cons_append, List.nil_append]
 generalize bs 6 = B25 at *
 generalize bs 12 = B31 at *
 generalize bs 15 = B34 at *
 generalize bs 16 = B6 at *
 generalize vs 6 = u25 at *
 generalize vs 12 = u31 at *
 generalize vs 15 = u34 at *
 generalize vs 16 = u6 at *
 obtain ⟨hP31, h31⟩ := g12
 clear g6
 obtain ⟨b6, rfl, rfl⟩ := g16
 obtain ⟨rfl, p, q, u, rfl, hp, hq, hu⟩ := g15
 haveI := hp.cel
 haveI := hq.cel
 haveI := hu.cel
 obtain ⟨bb, hbb⟩ : ∃ bb, A96 k x s = bb := ⟨_, rfl⟩
 obtain ⟨s2, hs2⟩ : ∃ s2, I7 (idS k s) x.sec = s2 := ⟨_, rfl⟩
 rw [hs2] at hP31
 have hs2l : s2.ts.length ≤ s.ts.length + 6 := by have := N7 (idS k s) x.sec; rw [hs2] at this; omega
 have hbun : L5 k s = A0J bb k.once s2 k.once.length := by unfold L5; rw [hsg, ← hbb, ← hs2]
 rw [hbun]
 have hbr : ∀ R, (∀ y, y ∈ Jn0 ++ [] ++ A → y ∈ R) → bnR R bb [.int .i64 k.user, .int .i64 k.dev, p, q, (vU x.n), u, vg_, .bool false, (vU 0), vS] := fun R hR => ⟨p, q, u, vg_, _, by rw [← hbb]; rfl, by rw [← hbb]; exact hp.mono hR, by rw [← hbb]; exact hq.mono hR, by rw [← hbb]; exact hu.mono hR, by rw [← hbb]; exact hg_.mono fun y hy => hR y (List.mem_append_right _ hy), by rw [← hbb]; exact By.nil, by rw [← hbb]; exact hxn, by rw [← hbb]; show 0 < 4294967296; decide⟩
 refine P0 rfl rfl rfl (A8 (vs := [.int .i64 k.user, .int .i64 k.dev, p, q, (vU x.n), u, vg_, .bool false, (vU 0), vS]) rfl rfl rfl kR qR (C1 rfl (C1 rfl (C1 hp.one (C1 hq.one (C1 rfl (C1 hu.one (C1 hg_.one al3))))))) UpC.upd ?_)
 refine P4 (E2 0 1 6) ?_
 refine S9 (B := [(b6, blk [.int .i64 k.user, .int .i64 k.dev, p, q, (vU x.n), u, vg_, .bool false, (vU 0), vS] 32)]) qP ?_
 refine A3 ?_
 refine A4 (qw_ 10) rfl ?_
 refine A6 rfl (C6 (e := 32) (sz := 10) (z := [A2Z, A2Z, vS, vS, G4, vS, vS, .bool false, G4, vS]) kR (eS rfl e0) (bdS 0 10 rfl qR bd0) rfl fun b36 => ?_)
 refine as_ (A0 (E7 0 1 6 7) (A5 (A3 (mv_ ?_))))
 refine A4 (F9 rfl) rfl ?_
 refine A4 (qf_ 5 5) rfl ?_
 refine A4 (I2 rfl kR (qS _ hkb) qR) rfl ?_
 refine A4 (K1 (sz := 3) rfl kR hK.once) rfl ?_
 refine mv_ (A0 (I1 1 6 7 40 41 42) (C0 ?_))
 refine F2 (α := Nat × (Value × List (List Value) × Mem) × Mem × Mem) (fun y => [(1, (vP pb)), (6, (vP b6)), (7, y.2.1.1), (40, vo), (41, (vI k.once.length)), (42, (vI y.1))]) (fun y => y.2.1.2.2 ++ (y.2.2.1 ++ MK)) (fun y => y.2.2.2) (fun y => y.1 ≤ k.once.length ∧ Sl 10 y.2.1.1 (y.1 + 1) y.2.1.2.1.flatten y.2.1.2.2 ∧ RwL bnR (y.2.2.2 ++ A) y.2.1.2.1 (A0J bb k.once s2 y.1).1 ∧ Prm pb (A0J bb k.once s2 y.1).2 y.2.2.1 ∧ (b6, blk [.int .i64 k.user, .int .i64 k.dev, p, q, (vU x.n), u, vg_, .bool false, (vU 0), vS] 32) ∈ y.2.2.2 ∧ ∀ z, z ∈ Jn0 ++ [] ++ A → z ∈ y.2.2.2 ++ A) (fun y => k.once.length - y.1) (0, (.slice (some ⟨b36, 0, none⟩) 1 1, [[.int .i64 k.user, .int .i64 k.dev, p, q, (vU x.n), u, vg_, .bool false, (vU 0), vS]], [(b36, _)]), B31, _) ⟨Nat.zero_le _, Sl.fresh (n := 1) (cs := [.int .i64 k.user, .int .i64 k.dev, p, q, (vU x.n), u, vg_, .bool false, (vU 0), vS]) (e := 32) rfl qD, RwL.cons (hbr _ qS) RwL.nil, hP31, by simp, qS⟩ (I1 1 6 7 40 41 42) (Fit.pick (B := [_]) qP (Fit.pick qP (Fit.last qP))) qI ?_
 rintro ⟨i, ⟨vi, ri, Bi⟩, MPi, Ji⟩ ⟨hi, hsi, hri, hPi, hJb, hJn⟩
 dsimp only at hi hsi hri hPi hJb hJn ⊢
 haveI := hsi.cel
 have hbl := A0K (b := bb) (s := s2) hi
 refine A3 ?_
 refine A4 (F1 rfl rfl rfl) rfl ?_
 refine A0 (Y0 1 6 7 40 41 42 43) (A5 ?_)
 refine C7 rfl ?_ ?_ <;> intro hc
 ·
  have hlt : i < k.once.length := by simp at hc; omega
  obtain ⟨o, ho⟩ : ∃ o, k.once[i]? = some o := ⟨_, List.getElem?_eq_getElem hlt⟩
  obtain ⟨r1, hr1, vo1, vo2, rfl, ho1, ho2, hon⟩ := hK.onceR.get i o ho
  haveI := ho1.cel
  haveI := ho2.cel
  have hbs := Z7 (b := bb) (s := s2) ho
  refine A9 (nx (I1 1 6 7 40 41 42) (A5 (C0 (A3 ?_))))
  refine A4 (K0 (sz := 3) rfl rfl kR rfl hK.once hlt) rfl ?_
  refine A4 (A0Q rfl kR (hK.once.mono qS) (hK.onceR.lens prT) qD hr1) rfl ?_
  refine A6 rfl (C5 (cs := [.int .u32 0, vS, vS]) kR rfl fun b9 => ?_)
  refine A6 rfl (A8 (vs := [(vU o.n), vo1, vo2]) rfl rfl rfl kR qR (C1 rfl (C1 ho1.one (C1 ho2.one K7))) UpC.upd ?_)
  refine A0 (Y0 1 6 7 9 40 41 42) (A3 ?_)
  refine A4 (H6 (n := 10) rfl kR (List.mem_append_right _ (List.mem_append_left _ hJb)) qR) rfl ?_
  refine A6 rfl (C5 (cs := [A2Z, A2Z, vS, vS, G4, vS, vS, .bool false, G4, vS]) kR rfl fun b10 => ?_)
  refine A6 rfl (A8 (vs := [.int .i64 k.user, .int .i64 k.dev, p, q, (vU x.n), u, vg_, .bool false, (vU 0), vS]) rfl rfl rfl kR qR (C1 rfl (C1 rfl (C1 hp.one (C1 hq.one (C1 rfl (C1 hu.one (C1 hg_.one al3))))))) UpC.upd ?_)
  refine A0 (A2o 1 6 7 9 10 40 41 42) ?_
  refine I0 (MPi ++ [(b10, blk [.int .i64 k.user, .int .i64 k.dev, p, q, (vU x.n), u, vg_, .bool false, (vU 0), vS] 32)]) (_) true [0, 1, 2, 3, 4, 5, 6, 7, 8, 10] [(0, 0), (1, 1), (2, 0), (3, 0), (4, 1), (6, 0), (5, 2), (7, 2), (8, 0), (9, 2), (10, 0), (11, 2)] kR kR qP fun hs K n0 hKm hKs hKn => ?_
  refine I8 hs rfl (qf_ 0 0) rfl ?_
  refine Q0 hs rfl hKs ql_ ?_
  refine km_ hs ?_
  refine I8 hs rfl (qf_ 1 1) rfl ?_
  refine Q0 hs rfl hKs ql_ ?_
  refine I8 hs rfl (qf_ 7 7) rfl ?_
  refine K6 MPi _ rfl rfl qP (fun y hy => hKm y (by simp [hy])) fun w0 => (E1 (Mc := MPi) (R := _) (aS rfl (aS rfl (a0))) kR qP (A0m pb _ vo1 o.sec MPi _ hPi qO (ho1.mono qS) hG.up) rfl ?_)
  rintro v52 M52 J52 ⟨hP52, h52⟩ hKx52
  haveI := h52.cel
  refine K6 [(b10, blk [.int .i64 k.user, .int .i64 k.dev, p, q, (vU x.n), u, vg_, .bool false, (vU 0), vS] 32)] _ rfl rfl qP (fun y hy => hKm y (by simp at hy; simp [hy])) fun w0 => (D6 rfl rfl rfl kR SetC.set UpC.upd ?_)
  intro hkS
  dsimp only [List.cons_append, List.nil_append, List.append_eq]
  refine I8 hs rfl (qf_ 8 8) rfl ?_
  refine P0 rfl rfl rfl (D6 rfl rfl rfl kR SetC.set UpC.upd ?_)
  refine I8 hs rfl (qf_ 9 9) rfl ?_
  refine P0 rfl rfl rfl (D6 rfl rfl h52.one kR SetC.set UpC.upd ?_)
  refine P4 (Y0 1 6 7 10 40 41 42) (C2 (mv_ ?_))
  refine A4 (qw_ 10) rfl ?_
  refine A6 rfl (C6 (e := 32) (sz := 10) (z := [A2Z, A2Z, vS, vS, G4, vS, vS, .bool false, G4, vS]) kR (eS rfl e0) (bdS 0 10 rfl qR bd0) rfl fun b58 => ?_)
  refine A6 rfl (I3 (e := 32) (sz := 10) (by_ := 152) rfl rfl kR rfl hsi (Rd.whole (n := 1) At.mem qR) (C1 rfl (C1 rfl (C1 hp.one (C1 hq.one (C1 rfl (C1 hu.one (C1 hg_.one (C1 rfl (C1 rfl (C1 h52.one K7)))))))))) qP (by unfold maxLen; omega) qO rfl fun v59 B59 hs59 => ?_)
  refine as_ (D0 (nb (nx (I1 1 6 7 40 41 42) (C2 ?_))))
  refine A4 (E3 ((i + 1 : Nat) : Int) rfl rfl (G3 qO qO qO)) rfl ?_
  refine mv_ (D0 ?_)
  exact rn (i + 1, (v59, ri ++ [[.int .i64 k.user, .int .i64 k.dev, p, q, (vU x.n), u, vg_, .bool true, (vU o.n), v52]], B59), M52, _) ⟨by dsimp only; omega, by simpa using hs59, by dsimp only; rw [hbs]; exact (hri.mono bnT qS).snoc ⟨p, q, u, vg_, v52, by rw [← hbb]; rfl, by rw [← hbb]; exact hp.mono fun z hz => qS z (hJn z hz), by rw [← hbb]; exact hq.mono fun z hz => qS z (hJn z hz), by rw [← hbb]; exact hu.mono fun z hz => qS z (hJn z hz), by rw [← hbb]; exact hg_.mono qS, h52.mono qS, by rw [← hbb]; exact hxn, hon⟩, by dsimp only; rw [hbs]; exact hP52, List.mem_append_right _ hJb, fun z hz => qS z (hJn z hz)⟩ (by dsimp only; omega) (I1 1 6 7 40 41 42) (Fit.pick qP (Fit.pick qP (Fit.last qP))) qI
 ·
  have hge : i = k.once.length := by simp at hc; omega
  subst hge
  refine E6 (te (re (be rfl (nx (D8 7) (A3 (mv_ (as_ (A0 (D8 4) ?_))))))))
  refine C3 ?_
  exact ⟨_, MK ++ MPi, Bi, K2 rfl rfl, Fit.pick qP (Fit.pick qP (Fit.last qP)), MPi, rfl, hPi, ri, by rw [hbl.1]; exact hsi.rd fun x hx => by simp [hx], hri.mono bnT qS⟩

open Go.Px Go.Ed
theorem B6u (w : LN) : rdN w < p25 := by
  unfold rdN
  split
  · exact Nat.mod_lt _ W3
  · exact W3
theorem B8A {x y : Nat} (h : x * x % p25 = xxN y) : On (fF dN) (fF x, fF y) := by
  have e0 : fF x * fF x = fF (xxN y) := by
    rw [← A0k, ← h]
    apply Fin.ext
    rw [A0j, A0j, Nat.mod_mod]
    unfold fM
    rw [Nat.mod_mod]
  have hD : fF (fA (fM dN (fM y y)) 1) = fF dN * (fF y * fF y) + 1 := by rw [B0e, A0k, A0k]; rfl
  have hne : fF dN * (fF y * fF y) + 1 ≠ 0 := FF.dy_ne
  rw [← hD] at hne
  have hi := C04 hne
  rw [hD] at hi
  have e1 : fF (xxN y) = (fF y * fF y - 1) * fF (fI (fA (fM dN (fM y y)) 1)) := by
    unfold xxN
    rw [A0k, B0f qD, A0k]; rfl
  rw [e1] at e0
  generalize fF (fI (fA (fM dN (fM y y)) 1)) = j at *
  generalize fF dN = d at *
  refine ⟨?_⟩
  show fF y * fF y - fF x * fF x = 1 + d * fF x * fF x * fF y * fF y
  generalize fF x = u at *
  generalize fF y = v at *
  clear h hD hne e1
  grind
theorem B5k {x n : Nat} (h : rtN x = some n) : n * n % p25 = x ∧ n < p25 := by
  rw [A6T] at h
  unfold B7B at h
  split at h
  · rename_i h1
    have e := Option.some.inj h
    rw [← e]
    exact ⟨h1, B1N _ _⟩
  · split at h
    · rename_i h2
      have e := Option.some.inj h
      rw [← e]
      exact ⟨h2, Nat.mod_lt _ W3⟩
    · cases h
theorem B8B {y x : Nat} {odd : Bool} (h : atN y odd = some x) : x < p25 ∧ On (fF dN) (fF x, fF y) := by
  unfold atN at h
  cases hr : rtN (xxN y) with
  | none => rw [hr] at h; cases h
  | some n =>
    obtain ⟨h1, h2⟩ := B5k hr
    have o := B8A h1
    rw [hr] at h
    unfold atO at h
    dsimp only at h
    split at h
    · cases h
    · have h3 := Option.some.inj h
      subst h3
      split
      · refine ⟨C1S _, ⟨?_⟩⟩
        have := o.eq
        show fF y * fF y - fF (fN n) * fF (fN n) = 1 + fF dN * fF (fN n) * fF (fN n) * fF y * fF y
        rw [fF_N h2]
        change fF y * fF y - fF n * fF n = 1 + fF dN * fF n * fF n * fF y * fF y at this
        generalize fF dN = d at *
        generalize fF n = u at *
        generalize fF y = v at *
        clear o h h1
        grind
      · exact ⟨h2, o⟩
theorem PR.at2 {x y : Nat} (hx : x < p25) (hy : y < p25) : PR (pAt x y) (fF x, fF y) := by
  have h := PR.at (Q := (fF x, fF y))
  rwa [show (fF x, fF y).1.val = x from Nat.mod_eq_of_lt hx, show (fF x, fF y).2.val = y from Nat.mod_eq_of_lt hy] at h
theorem B2K {b : LN} {P : Pt} (h : P8 b = some P) : ∃ x, x < p25 ∧ On (fF dN) (fF x, fF (rdN b)) ∧ P = pAt x (rdN b) := by
  unfold P8 at h
  split at h
  · split at h
    · rename_i x hx
      split at h
      · obtain ⟨h1, h2⟩ := B8B hx
        exact ⟨x, h1, h2, (Option.some.inj h).symm⟩
      · cases h
    · cases h
  · cases h
theorem PR.same_back {P P' : Pt} {Q Q' : Fin p25 × Fin p25} (h : PR P Q) (h' : PR P' Q') (hs : A5H P P' = true) : Q = Q' := by
  unfold A5H at hs
  rw [Bool.and_eq_true, decide_eq_true_iff, decide_eq_true_iff] at hs
  refine (FF.rep_same h.rep h'.rep).1 ⟨?_, ?_⟩
  · rw [← A0k, ← A0k, hs.1]
  · rw [← A0k, ← A0k, hs.2]
def nOf (S c a : Nat) : Nat := S + (lN - c * a % lN)
theorem B2L {p msg sig : LN} {A : Pt} {a : Nat} (hp : P8 p = some A) (hA : PR A (FF.nsm a bPt)) (h : A2U p msg sig = true) :
    ∃ x, On (fF dN) (fF x, fF (rdN (sig.take 32))) ∧ (fF x, fF (rdN (sig.take 32))) = FF.nsm (nOf (bv (sig.drop 32) % lN) (A1N (sig.take 32) p msg) a) bPt := by
  unfold A2U at h
  rw [Bool.and_eq_true] at h
  obtain ⟨-, h⟩ := h
  cases hr : P8 (sig.take 32) with
  | none => rw [hr, A81] at h; cases h
  | some r =>
    rw [hp, hr, A2i, Bool.and_eq_true] at h
    obtain ⟨-, h⟩ := h
    obtain ⟨x, hx, o, rfl⟩ := B2K hr
    have R := PR.at2 hx (B6u (sig.take 32))
    have hS : bv (sig.drop 32) % lN < 2 ^ 256 := Nat.lt_trans (Nat.mod_lt _ A1u) A82
    have hC := Nat.lt_trans (A7W (sig.take 32) p msg) A82
    have oA := FF.nsm_on A4i a
    have T := hA.times oA hC
    have U := R.add T o (FF.nsm_on oA _)
    have e := PR.same_back (PR.s.times A4i hS) U h
    refine ⟨x, o, ?_⟩
    unfold nOf
    generalize A1N (sig.take 32) p msg = c at *
    rw [FF.nsm_add A4i, e, FF.add_assoc o (FF.nsm_on oA _) (FF.nsm_on A4i _), ← FF.nsm_mul A4i, ← FF.nsm_add A4i]
    have e2 : (c * a + (lN - c * a % lN)) % lN = 0 := by
      have h1 := Nat.mod_add_div (c * a) lN
      have h2 := Nat.mod_lt (c * a) A1u
      generalize c * a % lN = r at *
      rw [show c * a + (lN - r) = lN * (c * a / lN + 1) by rw [Nat.mul_add, Nat.mul_one]; omega]
      exact Nat.mul_mod_right _ _
    have e3 : FF.nsm (c * a + (lN - c * a % lN)) bPt = ((0 : Fin p25), (1 : Fin p25)) := by
      rw [← FF.nsm_mod A4i A5L, e2]; rfl
    rw [e3, FF.add_o]

end Go.Proofs.YtoigcbkclcbmpaaGreatDoor
namespace Go.Px
def pk : Nat → (Nat → Nat) → Nat
  | 0, _ => 0
  | k + 1, f => 2 ^ 64 * pk k (fun i => f (i + 1)) + f 0
theorem A0S : ∀ (K : Nat) (f g : Nat → Nat), pk K f + pk K g = pk K (fun i => f i + g i)
  | 0, _, _ => rfl
  | K + 1, f, g => by
    show 2 ^ 64 * pk K _ + f 0 + (2 ^ 64 * pk K _ + g 0) = 2 ^ 64 * pk K _ + (f 0 + g 0)
    rw [← A0S K (fun i => f (i + 1)) (fun i => g (i + 1)), Nat.mul_add]; omega
theorem A35 (c : Nat) : ∀ (K : Nat) (f : Nat → Nat), pk K f * c = pk K (fun i => f i * c)
  | 0, _ => Nat.zero_mul c
  | K + 1, f => by
    show (2 ^ 64 * pk K _ + f 0) * c = 2 ^ 64 * pk K _ + f 0 * c
    rw [← A35 c K (fun i => f (i + 1)), Nat.add_mul, Nat.mul_assoc]
theorem B5l (A : Nat) {x : Nat} (h : x < 2 ^ 64) (j : Nat) : (2 ^ 64 * A + x).testBit j = if j < 64 then x.testBit j else A.testBit (j - 64) := Nat.testBit_two_pow_mul_add A h j
theorem A2n : ∀ (K : Nat) (f g : Nat → Nat), (∀ i, f i < 2 ^ 64) → (∀ i, g i < 2 ^ 64) → pk K f ^^^ pk K g = pk K (fun i => f i ^^^ g i)
  | 0, _, _, _, _ => Nat.xor_zero 0
  | K + 1, f, g, hf, hg => by
    show (2 ^ 64 * pk K _ + f 0) ^^^ (2 ^ 64 * pk K _ + g 0) = 2 ^ 64 * pk K _ + (f 0 ^^^ g 0)
    rw [← A2n K (fun i => f (i + 1)) (fun i => g (i + 1)) (fun i => hf _) (fun i => hg _)]
    apply Nat.eq_of_testBit_eq
    intro j
    rw [Nat.testBit_xor, B5l _ (hf 0), B5l _ (hg 0), B5l _ (Nat.xor_lt_two_pow (hf 0) (hg 0))]
    split <;> rw [Nat.testBit_xor]
theorem A36 : ∀ (K : Nat) (f g : Nat → Nat), (∀ i, f i < 2 ^ 64) → (∀ i, g i < 2 ^ 64) → pk K f &&& pk K g = pk K (fun i => f i &&& g i)
  | 0, _, _, _, _ => Nat.and_zero 0
  | K + 1, f, g, hf, hg => by
    show (2 ^ 64 * pk K _ + f 0) &&& (2 ^ 64 * pk K _ + g 0) = 2 ^ 64 * pk K _ + (f 0 &&& g 0)
    rw [← A36 K (fun i => f (i + 1)) (fun i => g (i + 1)) (fun i => hf _) (fun i => hg _)]
    apply Nat.eq_of_testBit_eq
    intro j
    rw [Nat.testBit_and, B5l _ (hf 0), B5l _ (hg 0), B5l _ (Nat.lt_of_le_of_lt Nat.and_le_left (hf 0))]
    split <;> rw [Nat.testBit_and]
theorem B2M {n m : Nat} (hn : n ≤ 64) (hm : m < 2 ^ (64 - n)) : ∀ (K : Nat) (f : Nat → Nat), (∀ i, f i < 2 ^ 64) → (pk K f >>> n) &&& pk K (fun _ => m) = pk K (fun i => (f i >>> n) &&& m)
  | 0, _, _ => by show (0 >>> n) &&& 0 = 0; rw [Nat.and_zero]
  | K + 1, f, hf => by
    have hm2 : m < 2 ^ 64 := Nat.lt_of_lt_of_le hm (Nat.pow_le_pow_right (by decide) (Nat.sub_le _ _))
    show ((2 ^ 64 * pk K _ + f 0) >>> n) &&& (2 ^ 64 * pk K _ + m) = 2 ^ 64 * pk K _ + ((f 0 >>> n) &&& m)
    rw [← B2M hn hm K (fun i => f (i + 1)) (fun i => hf _)]
    apply Nat.eq_of_testBit_eq
    intro j
    rw [Nat.testBit_and, Nat.testBit_shiftRight, B5l _ (hf 0), B5l _ hm2, B5l _ (Nat.lt_of_le_of_lt Nat.and_le_right hm2)]
    by_cases h : j < 64
    · rw [if_pos h, if_pos h, Nat.testBit_and, Nat.testBit_shiftRight]
      by_cases h2 : n + j < 64
      · rw [if_pos h2]
      · rw [if_neg h2, Nat.testBit_lt_two_pow (Nat.lt_of_lt_of_le hm (Nat.pow_le_pow_right (by decide) (by omega))), Bool.and_false, Bool.and_false]
    · rw [if_neg h, if_neg h, if_neg (by omega), Nat.testBit_and, Nat.testBit_shiftRight, show n + j - 64 = n + (j - 64) by omega]
theorem B6v : ∀ (K : Nat) (f : Nat → Nat) (i : Nat), (∀ i, f i < 2 ^ 64) → i < K → (pk K f >>> (64 * i)) % 2 ^ 64 = f i
  | K + 1, f, 0, hf, _ => by
    show (2 ^ 64 * pk K _ + f 0) % 2 ^ 64 = f 0
    rw [Nat.mul_add_mod, Nat.mod_eq_of_lt (hf 0)]
  | K + 1, f, i + 1, hf, h => by
    show ((2 ^ 64 * pk K _ + f 0) >>> (64 * (i + 1))) % 2 ^ 64 = f (i + 1)
    rw [show 64 * (i + 1) = 64 + 64 * i by omega, Nat.shiftRight_add, Nat.shiftRight_eq_div_pow _ 64, Nat.mul_add_div (by decide), Nat.div_eq_of_lt (hf 0), Nat.add_zero]
    exact B6v K (fun i => f (i + 1)) i (fun i => hf _) (by omega)
theorem C2e {x n : Nat} (hx : x < 4294967296) (hn : n ≤ 32) : (x * 4294967297) >>> n &&& 4294967295 = rotr x n := by
  have e : x * 4294967297 = 2 ^ 32 * x + x := by omega
  have hx2 : x < 2 ^ 32 := hx
  rw [e, show (4294967295 : Nat) = 2 ^ 32 - 1 from rfl]
  unfold rotr
  rw [show (4294967296 : Nat) = 2 ^ 32 from rfl]
  apply Nat.eq_of_testBit_eq
  intro j
  rw [Nat.testBit_and, Nat.testBit_shiftRight, Nat.testBit_two_pow_mul_add x hx2, Nat.testBit_two_pow_sub_one, Nat.testBit_or, Nat.testBit_shiftRight, Nat.testBit_mod_two_pow, Nat.testBit_shiftLeft]
  by_cases h : n + j < 32
  · rw [if_pos h, decide_eq_true (show j < 32 by omega), decide_eq_false (show ¬ j ≥ 32 - n by omega)]
    simp
  · rw [if_neg h, Nat.testBit_lt_two_pow (x := x) (i := n + j) (Nat.lt_of_lt_of_le hx2 (Nat.pow_le_pow_right (by decide) (by omega)))]
    by_cases h2 : j < 32
    · rw [decide_eq_true h2, decide_eq_true (show j ≥ 32 - n by omega), show n + j - 32 = j - (32 - n) by omega]
      simp
    · rw [decide_eq_false h2]; simp
theorem C0D (x : Nat) : x &&& 4294967295 = x % 4294967296 := Nat.and_two_pow_sub_one_eq_mod x 32
def mK (K : Nat) : Nat := pk K fun _ => 4294967295
def oK (K : Nat) : Nat := pk K fun _ => 1
theorem A2E {x : Nat} (h : x < 4294967296) : x < 2 ^ 64 := Nat.lt_trans h (by decide)
theorem A9k {K : Nat} {f : Nat → Nat} (h : ∀ i, f i < 2 ^ 64) : pk K f &&& mK K = pk K (fun i => f i % 4294967296) := by
  unfold mK
  rw [A36 K f _ h (fun _ => by decide)]
  congr 1; funext i; exact C0D _
theorem A7d {K : Nat} {f : Nat → Nat} (h : ∀ i, f i < 4294967296) {n : Nat} (hn : n ≤ 32) : (pk K f * 4294967297) >>> n &&& mK K = pk K (fun i => rotr (f i) n) := by
  unfold mK
  rw [A35, B2M (by omega) (Nat.lt_of_lt_of_le (by decide) (Nat.pow_le_pow_right (by decide) (by omega : 32 ≤ 64 - n))) K _ (fun i => by have := h i; omega)]
  congr 1; funext i; exact C2e (h i) hn
theorem B2N {K : Nat} {f : Nat → Nat} (h : ∀ i, f i < 4294967296) {n m l : Nat} (hn : n ≤ 32) (hm : m ≤ 32) (hl : l ≤ 32) :
    ((pk K f * 4294967297) >>> n ^^^ (pk K f * 4294967297) >>> m ^^^ (pk K f * 4294967297) >>> l) &&& mK K = pk K (fun i => rotr (f i) n ^^^ rotr (f i) m ^^^ rotr (f i) l) := by
  rw [Nat.and_xor_distrib_right, Nat.and_xor_distrib_right, A7d h hn, A7d h hm, A7d h hl, A2n, A2n]
  · exact fun i => A2E (A0a (G7 (h i)) (G7 (h i)))
  · exact fun i => A2E (G7 (h i))
  · exact fun i => A2E (G7 (h i))
  · exact fun i => A2E (G7 (h i))
theorem B2O {K : Nat} {f : Nat → Nat} (h : ∀ i, f i < 4294967296) {n m l : Nat} (hn : n ≤ 32) (hm : m ≤ 32) (hl : l ≤ 32) :
    ((pk K f * 4294967297) >>> n ^^^ (pk K f * 4294967297) >>> m ^^^ (pk K f) >>> l) &&& mK K = pk K (fun i => rotr (f i) n ^^^ rotr (f i) m ^^^ (f i >>> l)) := by
  have e : (pk K f) >>> l &&& mK K = pk K (fun i => f i >>> l) := by
    unfold mK
    rw [B2M (by omega) (Nat.lt_of_lt_of_le (by decide) (Nat.pow_le_pow_right (by decide) (by omega : 32 ≤ 64 - l))) K _ (fun i => A2E (h i))]
    congr 1; funext i
    rw [C0D, Nat.mod_eq_of_lt (A7s (h i))]
  rw [Nat.and_xor_distrib_right, Nat.and_xor_distrib_right, A7d h hn, A7d h hm, e, A2n, A2n]
  · exact fun i => A2E (A0a (G7 (h i)) (G7 (h i)))
  · exact fun i => A2E (A7s (h i))
  · exact fun i => A2E (G7 (h i))
  · exact fun i => A2E (G7 (h i))
def t1V (M O e f g h k w : Nat) : Nat :=
  (h + (((e * 4294967297) >>> 6 ^^^ (e * 4294967297) >>> 11 ^^^ (e * 4294967297) >>> 25) &&& M) + ((e &&& f) ^^^ ((M ^^^ e) &&& g)) + O * k + w) &&& M
def aV (M t a b c : Nat) : Nat :=
  (t + (((a * 4294967297) >>> 2 ^^^ (a * 4294967297) >>> 13 ^^^ (a * 4294967297) >>> 22) &&& M) + ((a &&& b) ^^^ (a &&& c) ^^^ (b &&& c))) &&& M
noncomputable def rL (M O : Nat) (ks : List Nat) : List Nat → Nat → Nat → Nat → Nat → Nat → Nat → Nat → Nat → S8 :=
  List.rec (motive := fun _ => List Nat → Nat → Nat → Nat → Nat → Nat → Nat → Nat → Nat → S8) (fun _ a b c d e f g h => ⟨a, b, c, d, e, f, g, h⟩)
    (fun k _ ih ws => List.rec (motive := fun _ => Nat → Nat → Nat → Nat → Nat → Nat → Nat → Nat → S8) (fun a b c d e f g h => ⟨a, b, c, d, e, f, g, h⟩)
      (fun w ws _ a b c d e f g h => F8 (t1V M O e f g h k w) fun t => F8 (aV M t a b c) fun a' => F8 ((d + t) &&& M) fun e' => ih ws a' a b c e' e f g) ws) ks
structure Pw (K X : Nat) (f : Nat → Nat) : Prop where
  eq : X = pk K f
  lt : ∀ i, f i < 4294967296
structure Ps8 (K : Nat) (T : S8) (s : Nat → S8) : Prop where
  a : Pw K T.a fun i => (s i).a
  b : Pw K T.b fun i => (s i).b
  c : Pw K T.c fun i => (s i).c
  d : Pw K T.d fun i => (s i).d
  e : Pw K T.e fun i => (s i).e
  f : Pw K T.f fun i => (s i).f
  g : Pw K T.g fun i => (s i).g
  h : Pw K T.h fun i => (s i).h
theorem Pw.add {K X Y : Nat} {f g : Nat → Nat} (h : Pw K X f) (h2 : Pw K Y g) : Pw K ((X + Y) &&& mK K) fun i => (f i + g i) % 4294967296 := ⟨by
  have := h.lt; have := h2.lt
  rw [h.eq, h2.eq, A0S, A9k fun i => by have := h.lt i; have := h2.lt i; omega], fun i => W7⟩
theorem Ps8.step {K : Nat} {T : S8} {s : Nat → S8} (h : Ps8 K T s) {k W : Nat} {w : Nat → Nat} (hk : k < 4294967296) (hw : Pw K W w) {t a : Nat}
    (ht : t = t1V (mK K) (oK K) T.e T.f T.g T.h k W) (ha : a = aV (mK K) t T.a T.b T.c) : Ps8 K ⟨a, T.a, T.b, T.c, (T.d + t) &&& mK K, T.e, T.f, T.g⟩ fun i => (s i).step k (w i) := by
  have t1 : Pw K t fun i => B87 (s i) k (w i) := by
    refine ⟨?_, fun i => W7⟩
    rw [ht]
    unfold t1V
    rw [h.e.eq, h.f.eq, h.g.eq, h.h.eq, hw.eq, B2N h.e.lt (by decide) (by decide) (by decide)]
    unfold oK
    rw [A35, A36 K _ _ (fun i => A2E (h.e.lt i)) (fun i => A2E (h.f.lt i))]
    have e1 : mK K ^^^ (pk K fun i => (s i).e) = pk K fun i => 4294967295 ^^^ (s i).e := A2n K _ _ (fun _ => by decide) (fun i => A2E (h.e.lt i))
    have l1 : ∀ i, (4294967295 ^^^ (s i).e) < 4294967296 := fun i => A0a (by decide) (h.e.lt i)
    rw [e1, A36 K _ _ (fun i => A2E (l1 i)) (fun i => A2E (h.g.lt i)), A2n K _ _ (fun i => A2E (A0y (h.e.lt i))) (fun i => A2E (A0y (l1 i))), A0S, A0S, A0S, A0S]
    have l2 : ∀ i, (rotr (s i).e 6 ^^^ rotr (s i).e 11 ^^^ rotr (s i).e 25) < 4294967296 := fun i => B9c (h.e.lt i)
    have l3 : ∀ i, ((s i).e &&& (s i).f ^^^ ((4294967295 ^^^ (s i).e) &&& (s i).g)) < 4294967296 := fun i => A0a (A0y (h.e.lt i)) (A0y (l1 i))
    rw [A9k fun i => by have := l2 i; have := l3 i; have := h.h.lt i; have := hw.lt i; omega]
    congr 1; funext i
    have := l2 i; have := l3 i; have := h.h.lt i; have := hw.lt i
    unfold B87 bs1 chz
    omega
  have a1 : Pw K a fun i => ((B87 (s i) k (w i) + bs0 (s i).a) % 4294967296 + maj (s i).a (s i).b (s i).c) % 4294967296 := by
    refine ⟨?_, fun i => W7⟩
    rw [ha]
    unfold aV
    rw [h.a.eq, h.b.eq, h.c.eq, t1.eq, B2N h.a.lt (by decide) (by decide) (by decide), A36 K _ _ (fun i => A2E (h.a.lt i)) (fun i => A2E (h.b.lt i)), A36 K _ _ (fun i => A2E (h.a.lt i)) (fun i => A2E (h.c.lt i)), A36 K _ _ (fun i => A2E (h.b.lt i)) (fun i => A2E (h.c.lt i)),
      A2n K _ _ (fun i => A2E (A0y (h.a.lt i))) (fun i => A2E (A0y (h.a.lt i))), A2n K _ _ (fun i => A2E (A0a (A0y (h.a.lt i)) (A0y (h.a.lt i)))) (fun i => A2E (A0y (h.b.lt i))), A0S, A0S]
    have l2 : ∀ i, (rotr (s i).a 2 ^^^ rotr (s i).a 13 ^^^ rotr (s i).a 22) < 4294967296 := fun i => B9b (h.a.lt i)
    have l3 : ∀ i, ((s i).a &&& (s i).b ^^^ (s i).a &&& (s i).c ^^^ (s i).b &&& (s i).c) < 4294967296 := fun i => A0a (A0a (A0y (h.a.lt i)) (A0y (h.a.lt i))) (A0y (h.b.lt i))
    rw [A9k fun i => by have := l2 i; have := l3 i; have := t1.lt i; omega]
    congr 1; funext i
    have := l2 i; have := l3 i; have := t1.lt i
    unfold bs0 maj
    omega
  exact ⟨a1, h.a, h.b, h.c, h.d.add t1, h.e, h.f, h.g⟩
def Lw (K : Nat) : List Nat → (Nat → List Nat) → Prop
  | [], w => ∀ i, w i = []
  | X :: R, w => ∃ f v, Pw K X f ∧ (∀ i, w i = f i :: v i) ∧ Lw K R v
theorem Lw.snoc {K X : Nat} {f : Nat → Nat} (hX : Pw K X f) : ∀ {R : List Nat} {w : Nat → List Nat}, Lw K R w → Lw K (R ++ [X]) fun i => w i ++ [f i]
  | [], w, h => ⟨f, fun _ => [], hX, fun i => by show w i ++ [f i] = _; rw [h i]; rfl, fun _ => rfl⟩
  | _ :: R, w, ⟨g, v, h1, h2, h3⟩ => ⟨g, fun i => v i ++ [f i], h1, fun i => by show w i ++ [f i] = _; rw [h2 i]; rfl, h3.snoc hX⟩
theorem Lw.congr {K : Nat} {R : List Nat} {w v : Nat → List Nat} (h : Lw K R w) (e : ∀ i, w i = v i) : Lw K R v := by rwa [show v = w from funext fun i => (e i).symm]
theorem Lw.rev {K : Nat} : ∀ {R : List Nat} {w : Nat → List Nat}, Lw K R w → Lw K R.reverse fun i => (w i).reverse
  | [], w, h => fun i => by show (w i).reverse = []; rw [h i]; rfl
  | X :: R, w, ⟨g, v, h1, h2, h3⟩ => by
    rw [List.reverse_cons]
    exact (h3.rev.snoc h1).congr fun i => by rw [h2 i, List.reverse_cons]
theorem Lw.nth {K : Nat} : ∀ {n : Nat} {R : List Nat} {w : Nat → List Nat}, Lw K R w → n < R.length → Pw K (Q5 n R) fun i => Q5 n (w i)
  | 0, X :: R, w, ⟨g, v, h1, h2, h3⟩, _ => by
    rw [show (fun i => Q5 0 (w i)) = g from funext fun i => by rw [h2 i]; rfl]
    exact h1
  | n + 1, X :: R, w, ⟨g, v, h1, h2, h3⟩, hl => by
    rw [show (fun i => Q5 (n + 1) (w i)) = fun i => Q5 n (v i) from funext fun i => by rw [h2 i]; rfl]
    exact h3.nth (by simpa using hl)
theorem B8C (k w : Nat) (ks ws : List Nat) (s : S8) : rF (k :: ks) (w :: ws) s = rF ks ws (s.step k w) := rfl
theorem C0E (k : Nat) (ks : List Nat) (s : S8) : rF (k :: ks) [] s = s := rfl
theorem B8D (M O k X : Nat) (ks W : List Nat) (a b c d e f g h : Nat) : rL M O (k :: ks) (X :: W) a b c d e f g h = F8 (t1V M O e f g h k X) fun t => F8 (aV M t a b c) fun a' => F8 ((d + t) &&& M) fun e' => rL M O ks W a' a b c e' e f g := rfl
theorem C2f {K : Nat} (ks : List Nat) : ∀ (W : List Nat) (w : Nat → List Nat) (T : S8) (s : Nat → S8), (∀ x ∈ ks, x < 4294967296) → Lw K W w → Ps8 K T s → Ps8 K (rL (mK K) (oK K) ks W T.a T.b T.c T.d T.e T.f T.g T.h) fun i => rF ks (w i) (s i) := by
  induction ks with
  | nil => intro W w T s _ _ h; exact h
  | cons k ks ih =>
    intro W w T s hk hw h
    match W, hw with
    | [], hw =>
      rw [show (fun i => rF (k :: ks) (w i) (s i)) = s from funext fun i => by rw [hw i, C0E]]
      exact h
    | X :: W, ⟨f, v, h1, h2, h3⟩ =>
      rw [show (fun i => rF (k :: ks) (w i) (s i)) = fun i => rF ks (v i) ((s i).step k (f i)) from funext fun i => by rw [h2 i, B8C]]
      have hs := h.step (hk k List.mem_cons_self) h1 rfl rfl
      rw [B8D, G9, G9, G9]
      exact ih W v _ _ (fun x hx => hk x (List.mem_cons_of_mem _ hx)) h3 hs
def wnV (M w16 w15 w7 w2 : Nat) : Nat :=
  (w16 + (((w15 * 4294967297) >>> 7 ^^^ (w15 * 4294967297) >>> 18 ^^^ w15 >>> 3) &&& M) + w7 + (((w2 * 4294967297) >>> 17 ^^^ (w2 * 4294967297) >>> 19 ^^^ w2 >>> 10) &&& M)) &&& M
noncomputable def wL (M n : Nat) : List Nat → List Nat :=
  Nat.rec (motive := fun _ => List Nat → List Nat) (fun r => r) (fun _ ih r => F8 (wnV M (Q5 15 r) (Q5 14 r) (Q5 6 r) (Q5 1 r)) fun x => ih (x :: r)) n
theorem C0F (n : Nat) (r : List Nat) : wF (n + 1) r = wF n (wnF (Q5 15 r) (Q5 14 r) (Q5 6 r) (Q5 1 r) :: r) := by
  have e : wF (n + 1) r = F8 (wnF (Q5 15 r) (Q5 14 r) (Q5 6 r) (Q5 1 r)) fun x => wF n (x :: r) := rfl
  rw [e, G9]
theorem C0G (M n : Nat) (r : List Nat) : wL M (n + 1) r = wL M n (wnV M (Q5 15 r) (Q5 14 r) (Q5 6 r) (Q5 1 r) :: r) := by
  have e : wL M (n + 1) r = F8 (wnV M (Q5 15 r) (Q5 14 r) (Q5 6 r) (Q5 1 r)) fun x => wL M n (x :: r) := rfl
  rw [e, G9]
theorem C0H {K : Nat} : ∀ (n : Nat) (R : List Nat) (w : Nat → List Nat), 16 ≤ R.length → Lw K R w → Lw K (wL (mK K) n R) fun i => wF n (w i)
  | 0, R, w, _, h => h
  | n + 1, R, w, hl, h => by
    have g16 := h.nth (n := 15) (by omega)
    have g15 := h.nth (n := 14) (by omega)
    have g7 := h.nth (n := 6) (by omega)
    have g2 := h.nth (n := 1) (by omega)
    have hx : Pw K (wnV (mK K) (Q5 15 R) (Q5 14 R) (Q5 6 R) (Q5 1 R)) fun i => wnF (Q5 15 (w i)) (Q5 14 (w i)) (Q5 6 (w i)) (Q5 1 (w i)) := by
      refine ⟨?_, fun i => W7⟩
      unfold wnV
      rw [g16.eq, g15.eq, g7.eq, g2.eq, B2O g15.lt (by decide) (by decide) (by decide), B2O g2.lt (by decide) (by decide) (by decide), A0S, A0S, A0S]
      have l1 : ∀ i, rotr (Q5 14 (w i)) 7 ^^^ rotr (Q5 14 (w i)) 18 ^^^ Q5 14 (w i) >>> 3 < 4294967296 := fun i => B89 (g15.lt i)
      have l2 : ∀ i, rotr (Q5 1 (w i)) 17 ^^^ rotr (Q5 1 (w i)) 19 ^^^ Q5 1 (w i) >>> 10 < 4294967296 := fun i => B9a (g2.lt i)
      rw [A9k fun i => by have := l1 i; have := l2 i; have := g16.lt i; have := g7.lt i; omega]
      congr 1; funext i
      have e3 : wnF (Q5 15 (w i)) (Q5 14 (w i)) (Q5 6 (w i)) (Q5 1 (w i)) = (((Q5 15 (w i) + (rotr (Q5 14 (w i)) 7 ^^^ rotr (Q5 14 (w i)) 18 ^^^ Q5 14 (w i) >>> 3)) % 4294967296 + Q5 6 (w i)) % 4294967296 + (rotr (Q5 1 (w i)) 17 ^^^ rotr (Q5 1 (w i)) 19 ^^^ Q5 1 (w i) >>> 10)) % 4294967296 := rfl
      rw [e3]
      omega
    have := C0H n (wnV (mK K) (Q5 15 R) (Q5 14 R) (Q5 6 R) (Q5 1 R) :: R) (fun i => wnF (Q5 15 (w i)) (Q5 14 (w i)) (Q5 6 (w i)) (Q5 1 (w i)) :: w i) (by rw [List.length_cons]; omega) ⟨_, w, hx, fun i => rfl, h⟩
    rw [show (fun i => wF (n + 1) (w i)) = fun i => wF n (wnF (Q5 15 (w i)) (Q5 14 (w i)) (Q5 6 (w i)) (Q5 1 (w i)) :: w i) from funext fun i => C0F n (w i)]
    rw [C0G]
    exact this
noncomputable def bkL {α : Type} (M O : Nat) (ks R : List Nat) (a b c d e f g h : Nat) (k : Nat → Nat → Nat → Nat → Nat → Nat → Nat → Nat → α) : α :=
  S8.rec (motive := fun _ => α) (fun a1 b1 c1 d1 e1 f1 g1 h1 => F8 ((a + a1) &&& M) fun a => F8 ((b + b1) &&& M) fun b => F8 ((c + c1) &&& M) fun c => F8 ((d + d1) &&& M) fun d =>
    F8 ((e + e1) &&& M) fun e => F8 ((f + f1) &&& M) fun f => F8 ((g + g1) &&& M) fun g => F8 ((h + h1) &&& M) fun h => k a b c d e f g h) (rL M O ks (wL M 48 R).reverse a b c d e f g h)
theorem B2P (ks p : List Nat) (s : S8) (hk : ks.length = 64) : rF ks (wF 48 (P3 p 16).reverse).reverse s = rounds ks (wx (P3 p 16) 48) s 64 := by
  have hw : (P3 p 16).length = 16 := A1T _ _
  have := B95 (P3 p 16) (by omega) 48 0
  have hl := A4p (P3 p 16) 48
  rw [show (P3 p 16).reverse = (wx (P3 p 16) 0).reverse from rfl, this, List.reverse_reverse, A6W _ _ _ _ (by omega) (by omega), List.take_of_length_le (by omega), List.take_of_length_le (by omega)]
theorem B2Q {α : Type} {K : Nat} {ks R : List Nat} {q : Nat → List Nat} (hk : ks.length = 64) (hk2 : ∀ x ∈ ks, x < 4294967296) (hR : Lw K R fun i => (P3 (q i) 16).reverse) (hl : 16 ≤ R.length) {T : S8} {s : Nat → S8} (h : Ps8 K T s) (k : Nat → Nat → Nat → Nat → Nat → Nat → Nat → Nat → α) :
    ∃ T' : S8, bkL (mK K) (oK K) ks R T.a T.b T.c T.d T.e T.f T.g T.h k = k T'.a T'.b T'.c T'.d T'.e T'.f T'.g T'.h ∧ Ps8 K T' fun i => N3 ks (s i) (q i) := by
  have h1 := (C0H 48 R _ hl hR).rev
  have h2 := C2f ks _ _ T s hk2 h1 h
  rw [show (fun i => rF ks (wF 48 (P3 (q i) 16).reverse).reverse (s i)) = fun i => rounds ks (wx (P3 (q i) 16) 48) (s i) 64 from funext fun i => B2P ks (q i) (s i) hk] at h2
  unfold bkL
  generalize rL (mK K) (oK K) ks (wL (mK K) 48 R).reverse T.a T.b T.c T.d T.e T.f T.g T.h = U at *
  obtain ⟨a1, b1, c1, d1, e1, f1, g1, k1⟩ := U
  exact ⟨⟨_, _, _, _, _, _, _, _⟩, by simp only [G9], h.a.add h2.a, h.b.add h2.b, h.c.add h2.c, h.d.add h2.d, h.e.add h2.e, h.f.add h2.f, h.g.add h2.g, h.h.add h2.h⟩
noncomputable def frc {α : Type} (l : List Nat) : (List Nat → α) → α := List.rec (motive := fun _ => (List Nat → α) → α) (fun k => k []) (fun x _ ih k => F8 x fun x => ih fun r => k (x :: r)) l
theorem A9l {α : Type} : ∀ (l : List Nat) (k : List Nat → α), frc l k = k l
  | [], k => rfl
  | x :: l, k => by
    have e : frc (x :: l) k = F8 x fun x => frc l fun r => k (x :: r) := rfl
    rw [e, G9, A9l l]
noncomputable def pkF (f : Nat → Nat) (n : Nat) : Nat → Nat := Nat.rec (motive := fun _ => Nat → Nat) (fun _ => 0) (fun _ ih i => F8 i fun i => F8 (f i) fun v => 2 ^ 64 * ih (i + 1) + v) n
theorem B6w (f : Nat → Nat) : ∀ n i, pkF f n i = pk n fun l => f (i + l)
  | 0, i => rfl
  | n + 1, i => by
    have e : pkF f (n + 1) i = F8 i fun i => F8 (f i) fun v => 2 ^ 64 * pkF f n (i + 1) + v := rfl
    rw [e, G9, G9, B6w f n]
    have e2 : (fun l => f (i + 1 + l)) = fun l => f (i + (l + 1)) := funext fun l => congrArg f (by omega)
    rw [e2]
    rfl
theorem B8E (f : Nat → Nat) (n : Nat) : pkF f n 0 = pk n f := by
  rw [B6w]
  exact congrArg (pk n) (funext fun l => congrArg f (Nat.zero_add l))
noncomputable def wsL (K O : Nat) (q : List Nat) (p : Nat) (x : Nat → Nat) (b : Nat) : List Nat := ((List.range 16).map fun i => if 16 * b + i = p / 4 then O * A44 (q.set p 0) (16 * b + i) + pkF x K 0 * 256 ^ (3 - p % 4) else O * A44 q (16 * b + i)).reverse
theorem W1 {q : List Nat} {p v : Nat} (h : p < q.length) : (q.set p v).getD p 0 = v := by rw [List.getD_eq_getElem?_getD, List.getElem?_set_self h]; rfl
theorem G8 {q : List Nat} {p v j : Nat} (h : ¬ j = p) : (q.set p v).getD j 0 = q.getD j 0 := by rw [List.getD_eq_getElem?_getD, List.getD_eq_getElem?_getD, List.getElem?_set_ne (by omega)]
theorem B5m {q : List Nat} {p v i : Nat} (h : p < q.length) (hi : i = p / 4) : A44 (q.set p v) i = A44 (q.set p 0) i + v * 256 ^ (3 - p % 4) := by
  unfold A44
  rcases (by omega : p % 4 = 0 ∨ p % 4 = 1 ∨ p % 4 = 2 ∨ p % 4 = 3) with e | e | e | e
  · rw [show 4 * i = p by omega, W1 h, W1 h, G8 (j := p + 1) (by omega), G8 (j := p + 1) (by omega), G8 (j := p + 2) (by omega), G8 (j := p + 2) (by omega), G8 (j := p + 3) (by omega), G8 (j := p + 3) (by omega), e]
    omega
  · rw [show 4 * i + 1 = p by omega, W1 h, W1 h, G8 (j := 4 * i) (by omega), G8 (j := 4 * i) (by omega), G8 (j := 4 * i + 2) (by omega), G8 (j := 4 * i + 2) (by omega), G8 (j := 4 * i + 3) (by omega), G8 (j := 4 * i + 3) (by omega), e]
    omega
  · rw [show 4 * i + 2 = p by omega, W1 h, W1 h, G8 (j := 4 * i) (by omega), G8 (j := 4 * i) (by omega), G8 (j := 4 * i + 1) (by omega), G8 (j := 4 * i + 1) (by omega), G8 (j := 4 * i + 3) (by omega), G8 (j := 4 * i + 3) (by omega), e]
    omega
  · rw [show 4 * i + 3 = p by omega, W1 h, W1 h, G8 (j := 4 * i) (by omega), G8 (j := 4 * i) (by omega), G8 (j := 4 * i + 1) (by omega), G8 (j := 4 * i + 1) (by omega), G8 (j := 4 * i + 2) (by omega), G8 (j := 4 * i + 2) (by omega), e]
    omega
theorem B5n {q : List Nat} {p v i : Nat} (h : ¬ i = p / 4) : A44 (q.set p v) i = A44 q i := by
  have g : ∀ j, j / 4 = i → (q.set p v).getD j 0 = q.getD j 0 := fun j hj => by
    rw [List.getD_eq_getElem?_getD, List.getD_eq_getElem?_getD, List.getElem?_set_ne (by omega)]
  unfold A44
  rw [g _ (by omega), g _ (by omega), g _ (by omega), g _ (by omega)]
theorem A7e (q : List Nat) (b i : Nat) : A44 (q.drop (64 * b)) i = A44 q (16 * b + i) := by
  have g : ∀ j, (q.drop (64 * b)).getD j 0 = q.getD (64 * b + j) 0 := fun j => by
    rw [List.getD_eq_getElem?_getD, List.getD_eq_getElem?_getD, List.getElem?_drop]
  unfold A44
  rw [g, g, g, g, show 64 * b + 4 * i = 4 * (16 * b + i) by omega, show 64 * b + (4 * i + 1) = 4 * (16 * b + i) + 1 by omega, show 64 * b + (4 * i + 2) = 4 * (16 * b + i) + 2 by omega, show 64 * b + (4 * i + 3) = 4 * (16 * b + i) + 3 by omega]
theorem Lw.map {K : Nat} (g : Nat → Nat) (f : Nat → Nat → Nat) : ∀ (l : List Nat), (∀ i ∈ l, Pw K (g i) (f i)) → Lw K (l.map g) fun j => l.map fun i => f i j
  | [], _ => fun _ => rfl
  | i :: l, h => ⟨f i, fun j => l.map fun i => f i j, h i List.mem_cons_self, fun _ => rfl, Lw.map g f l fun i hi => h i (List.mem_cons_of_mem _ hi)⟩
theorem B6x {q : List Nat} (hq : ∀ x ∈ q, x < 256) {p v : Nat} (hv : v < 256) : ∀ x ∈ q.set p v, x < 256 := fun x hx => by
  rcases List.mem_or_eq_of_mem_set hx with h | h
  · exact hq x h
  · rw [h]; exact hv
theorem B2R (K : Nat) {q : List Nat} {p : Nat} {x : Nat → Nat} (hp : p < q.length) (hq : ∀ x ∈ q, x < 256) (hx : ∀ l, x l < 256) (b : Nat) : Lw K (wsL K (oK K) q p x b) fun l => (P3 ((q.set p (x l)).drop (64 * b)) 16).reverse := by
  refine Lw.rev (w := fun l => P3 ((q.set p (x l)).drop (64 * b)) 16) ?_
  unfold P3
  refine Lw.map _ (fun i l => A44 ((q.set p (x l)).drop (64 * b)) i) _ fun i _ => ?_
  split
  · rename_i h
    refine ⟨?_, fun l => A7u (fun y hy => B6x hq (hx l) y (List.mem_of_mem_drop hy)) i⟩
    unfold oK
    rw [B8E, A35, A35, A0S]
    exact congrArg (pk K) (funext fun l => by rw [Nat.one_mul, A7e, B5m (v := x l) hp h])
  · rename_i h
    refine ⟨?_, fun l => A7u (fun y hy => B6x hq (hx l) y (List.mem_of_mem_drop hy)) i⟩
    unfold oK
    rw [A35]
    exact congrArg (pk K) (funext fun l => by rw [Nat.one_mul, A7e, B5n h])
theorem A99 (q : List Nat) : P3 (q.take 64) 16 = P3 q 16 := by
  unfold P3
  refine List.map_congr_left fun i hi => ?_
  have hi := List.mem_range.1 hi
  have g : ∀ j, j < 64 → (q.take 64).getD j 0 = q.getD j 0 := fun j hj => by
    rw [List.getD_eq_getElem?_getD, List.getD_eq_getElem?_getD, List.getElem?_take_of_lt hj]
  unfold A44
  rw [g _ (by omega), g _ (by omega), g _ (by omega), g _ (by omega)]
theorem C2g (ks : List Nat) (s : S8) (q : List Nat) : A1R ks 3 s q = N3 ks (N3 ks (N3 ks s (q.drop (64 * 0))) (q.drop (64 * 1))) (q.drop (64 * 2)) := by
  have e : ∀ s q, N3 ks s (List.take 64 q) = N3 ks s q := fun s q => by unfold N3; rw [A99]
  rw [A1R, A1R, A1R, A1R, e, e, e, List.drop_drop]
  rfl
noncomputable def C0I {α : Type} (K M O : Nat) (ks q : List Nat) (p : Nat) (x : Nat → Nat) (s : S8) (k : S8 → α) : α :=
  frc (wsL K O q p x 0) fun w0 => frc (wsL K O q p x 1) fun w1 => frc (wsL K O q p x 2) fun w2 =>
  bkL M O ks w0 (O * s.a) (O * s.b) (O * s.c) (O * s.d) (O * s.e) (O * s.f) (O * s.g) (O * s.h) fun a b c d e f g h => bkL M O ks w1 a b c d e f g h fun a b c d e f g h => bkL M O ks w2 a b c d e f g h fun a b c d e f g h => k ⟨a, b, c, d, e, f, g, h⟩
theorem A8c (K O : Nat) (q : List Nat) (p : Nat) (x : Nat → Nat) (b : Nat) : 16 ≤ (wsL K O q p x b).length := by unfold wsL; simp
theorem Pw.all {K v : Nat} (h : v < 4294967296) : Pw K (oK K * v) fun _ => v := ⟨by unfold oK; rw [A35]; congr 1; funext _; exact Nat.one_mul v, fun _ => h⟩
theorem B2S {α : Type} {K : Nat} {ks q : List Nat} {p : Nat} {x : Nat → Nat} (hk : ks.length = 64) (hk2 : ∀ x ∈ ks, x < 4294967296) (hp : p < q.length) (hq : ∀ x ∈ q, x < 256) (hx : ∀ l, x l < 256) {s : S8} (hs : s.ok) (k : S8 → α) :
    ∃ T, C0I K (mK K) (oK K) ks q p x s k = k T ∧ Ps8 K T fun l => A1R ks 3 s (q.set p (x l)) := by
  unfold C0I
  rw [A9l, A9l, A9l]
  obtain ⟨h1, h2, h3, h4, h5, h6, h7, h8⟩ := S8.ok_iff.1 hs
  have i0 : Ps8 K ⟨oK K * s.a, oK K * s.b, oK K * s.c, oK K * s.d, oK K * s.e, oK K * s.f, oK K * s.g, oK K * s.h⟩ fun _ => s := ⟨.all h1, .all h2, .all h3, .all h4, .all h5, .all h6, .all h7, .all h8⟩
  obtain ⟨T1, e1, i1⟩ := B2Q hk hk2 (B2R K hp hq hx 0) (A8c _ _ _ _ _ _) i0 (fun a b c d e f g h => bkL (mK K) (oK K) ks (wsL K (oK K) q p x 1) a b c d e f g h fun a b c d e f g h => bkL (mK K) (oK K) ks (wsL K (oK K) q p x 2) a b c d e f g h fun a b c d e f g h => k ⟨a, b, c, d, e, f, g, h⟩)
  obtain ⟨T2, e2, i2⟩ := B2Q hk hk2 (B2R K hp hq hx 1) (A8c _ _ _ _ _ _) i1 (fun a b c d e f g h => bkL (mK K) (oK K) ks (wsL K (oK K) q p x 2) a b c d e f g h fun a b c d e f g h => k ⟨a, b, c, d, e, f, g, h⟩)
  obtain ⟨T3, e3, i3⟩ := B2Q hk hk2 (B2R K hp hq hx 2) (A8c _ _ _ _ _ _) i2 (fun a b c d e f g h => k ⟨a, b, c, d, e, f, g, h⟩)
  refine ⟨T3, e1.trans (e2.trans e3), ?_⟩
  rw [show (fun l => A1R ks 3 s (q.set p (x l))) = _ from funext fun l => C2g ks s (q.set p (x l))]
  exact i3
def B5o (T : S8) (i : Nat) : S8 := ⟨T.a >>> (64 * i) % 18446744073709551616, T.b >>> (64 * i) % 18446744073709551616, T.c >>> (64 * i) % 18446744073709551616, T.d >>> (64 * i) % 18446744073709551616, T.e >>> (64 * i) % 18446744073709551616, T.f >>> (64 * i) % 18446744073709551616, T.g >>> (64 * i) % 18446744073709551616, T.h >>> (64 * i) % 18446744073709551616⟩
theorem Pw.get {K X i : Nat} {f : Nat → Nat} (h : Pw K X f) (hi : i < K) : X >>> (64 * i) % 18446744073709551616 = f i := by
  rw [h.eq]
  exact B6v K f i (fun i => A2E (h.lt i)) hi
theorem Ps8.lane {K : Nat} {T : S8} {s : Nat → S8} (h : Ps8 K T s) {i : Nat} (hi : i < K) : B5o T i = s i := by
  unfold B5o
  rw [h.a.get hi, h.b.get hi, h.c.get hi, h.d.get hi, h.e.get hi, h.f.get hi, h.g.get hi, h.h.get hi]
def swp (x : Nat) : Nat := x % 256 * 16777216 + (x >>> 8 % 256 * 65536 + (x >>> 16 % 256 * 256 + x >>> 24 % 256))
noncomputable def dgF (T : S8) (i : Nat) : Nat :=
  Nat.rec (motive := fun _ => List Nat → Nat) (fun _ => 0) (fun _ ih l => List.rec (motive := fun _ => Nat) 0 (fun X r _ => F8 (X >>> (64 * i) % 18446744073709551616) fun x => F8 (ih r) fun y => swp x + 4294967296 * y) l) 8 T.list
theorem B8F {m : List Nat} {p v : Nat} (h : p < m.length) : G6 (m.set p v) = (G6 m).set p v := by
  unfold G6
  rw [List.set_append_left _ _ h, List.length_set]
theorem A9m {m : List Nat} {p v : Nat} (h : p < m.length) (hl : (G6 m).length / 64 = 3) : U1 (m.set p v) = (A1R A0V 3 A0M ((G6 m).set p v)).bytes := by
  unfold U1
  rw [B8F h, List.length_set, hl]
end Go.Px

