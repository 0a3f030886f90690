/- The card of the law AgreeWiths: it returns true for every input; each argument reads behind the call as it read before; the listed package variables are tied to the program's text. No further condition. -/
import Derived.Test.YthbhpfefdnffaaaGreatDoorB19
import Derived.Laws.IdiomCopy
import Derived.Lib.LaidTab
import Derived.Stop.LaidErr
import Derived.MakeChecks
import Derived.Test.YthbhpfefdnffaaaGreatDoorCards
import Derived.Test.YthbhpfefdnffaaaGreatDoorTie
import Derived.Deep.DeepHandedRow
import Derived.Deep.DeepWitnessRowRef
import Derived.Lay
import Derived.LaidMore
set_option linter.unusedVariables false
set_option linter.unusedSimpArgs false
set_option maxRecDepth 100000
namespace Go.Proofs.YthbhpfefdnffaaaGreatDoor
open Go.Px
theorem KyR.lt {R : Mem} {kb : Nat} {k : Ks} {va vg vs vo vm : Value} {rs ro rm : List (List Value)} (h : KyR R kb k va vg vs vo vm rs ro rm) : ∀ w ∈ B4x k, ∀ x ∈ w, x < 256 := by
  intro w hw
  rcases List.mem_cons.1 hw with rfl | hw
  · exact h.agree.lt
  rcases List.mem_cons.1 hw with rfl | hw
  · exact h.sign.lt
  obtain ⟨x, hx, rfl⟩ := List.mem_map.1 hw
  rcases List.mem_append.1 hx with hx | hx
  · obtain ⟨i, hi⟩ := List.getElem?_of_mem hx
    obtain ⟨r, hr, a, b, rfl, h1, -⟩ := h.signedR.get i x hi
    exact h1.lt
  · obtain ⟨i, hi⟩ := List.getElem?_of_mem hx
    obtain ⟨r, hr, a, b, rfl, h1, -⟩ := h.onceR.get i x hi
    exact h1.lt
theorem C0V {k : Ks} {x : Pr} (h : x ∈ k.signed) : x.sec ∈ B4x k := by simp only [B4x, List.mem_cons, List.mem_map, List.mem_append]; exact .inr (.inr ⟨x, .inl h, rfl⟩)
theorem C0W {k : Ks} {x : Pr} (h : x ∈ k.once) : x.sec ∈ B4x k := by simp only [B4x, List.mem_cons, List.mem_map, List.mem_append]; exact .inr (.inr ⟨x, .inr h, rfl⟩)
theorem B5I (u d : Int) (s : Ps) : Ext s (A6F u d s).2 :=
  (((Y9 s).trans (Y9 (D7 s))).trans (B1X (k0N u d s) (D7 (D7 s)))).trans (A8P _ _ _)
def ag0 (m : Nat) : Ps := ⟨m % 2 == 0, [97, 103, 114, 101, 101], 0, []⟩
noncomputable def oA (m : Nat) : Ks × Ps := A6F 0 1 (ag0 m)
noncomputable def oB (m : Nat) : Ks × Ps := A6F 1 1 (oA m).2
structure OpF (m : Nat) (a b : Ks) (s : Ps) : Prop where
  ba : BuI a s
  bb : BuI b s
  sg : ∃ x, b.signed = [x] ∧ x.n = 1 ∧ x.sec.length = 32
  on : onN b = [2, 3, 4, 5]
  nx : b.next = 6
  ts : s.ts.length ≤ 22
  n : s.n ≤ 14
  real : s.real = (m % 2 == 0)
theorem A9B (s : Ps) : (E7 s).length = 32 := by
  cases hr : s.real with
  | true => rw [A41 hr]; unfold B4Z; rw [A0T]; decide
  | false => rw [A2O hr]; exact A0n _ (by decide)
theorem A9C (u d : Int) (s : Ps) : (A6F u d s).1.signed = [turnP (k0N u d s) (D7 (D7 s))] := by
  unfold A6F; rw [B1V]; rfl
theorem B4C (m : Nat) : OpF m (oA m).1 (oB m).1 (oB m).2 := by
  have e1 : (ag0 m).ts.length = 0 := rfl
  have e2 : (ag0 m).n = 0 := rfl
  have h1 := A7F 0 1 (ag0 m)
  have h2 := A7F 1 1 (oA m).2
  change (oA m).2.ts.length ≤ _ ∧ (oA m).2.n ≤ _ ∧ _ at h1
  change (oB m).2.ts.length ≤ _ ∧ (oB m).2.n ≤ _ ∧ _ at h2
  have b1 : BuI (oA m).1 (oA m).2 := BuI.new (s := ag0 m) Tok.nil Ar.nil (by omega) (by omega)
  have b2 : BuI (oB m).1 (oB m).2 := BuI.new b1.tok b1.ar (by omega) (by omega)
  have e := B5I 1 1 (oA m).2
  have e' := B5I 0 1 (ag0 m)
  exact ⟨b1.ext e.p b2.tok b2.ar, b2, ⟨_, A9C 1 1 (oA m).2, rfl, A9B _⟩, B9G 1 1 (oA m).2, B4y 1 1 (oA m).2, by omega, by omega, e.p.real.trans e'.p.real⟩
theorem B2k {b : Bn} {l : List Pr} {s : Ps} : ∀ i, (A07 b l s i).2.n = s.n
  | 0 => rfl
  | i + 1 => by
    unfold A07
    cases l[i]? with
    | none => exact B2k i
    | some o => show (K7 _ _).n = _; rw [A0N, B2k i]
theorem B9N {k : Ks} {s : Ps} : (U5 k s).2.n = s.n := by
  unfold U5
  cases k.signed with
  | nil => rfl
  | cons x l => show (A07 _ _ _ _).2.n = _; rw [B2k, A0N]; unfold idS; rw [A0N, A0N]
theorem B7W {k : Ks} {s : Ps} {x : Pr} {sl : List Pr} (hs : k.signed = x :: sl) {j : Nat} (hj : j < k.once.length + 1) : ∃ y xo, (U5 k s).1[j]? = some y ∧ y.user = k.user ∧ y.dev = k.dev ∧ y.ia = idA k s ∧ y.ig = idG k s ∧ y.signed = x.n ∧ y.key = P5 (idS k s) x.sec ∧ y.sig = x.sig ∧ y.has = xo.isSome ∧
    (∀ o, xo = some o → ∃ p, 0 < j ∧ k.once[j - 1]? = some p ∧ o = p.sec ∧ y.once = p.n ∧ y.oncek = P5 (A07 (A9J k x s) k.once (K7 (idS k s) x.sec) (j - 1)).2 p.sec) ∧ (xo = none ↔ j = 0) := by
  obtain ⟨g1, g2, g3, g4⟩ := A4v (s := s) hs
  cases j with
  | zero => exact ⟨_, none, g2, rfl, rfl, rfl, rfl, rfl, rfl, rfl, rfl, fun o h => (by cases h), by simp⟩
  | succ j =>
    obtain ⟨o, ho⟩ : ∃ o, k.once[j]? = some o := ⟨_, List.getElem?_eq_getElem (by omega)⟩
    exact ⟨_, some o.sec, g3 j o ho, rfl, rfl, rfl, rfl, rfl, rfl, rfl, rfl, fun o' h => (by cases h; exact ⟨o, by omega, ho, rfl, rfl, rfl⟩), by simp⟩
theorem B4D {ka kb : Ks} {s S : Ps} {x : Pr} {sl : List Pr} {y : Bn} {xo : Option (List Nat)} (hb : BuI kb s) (hs : kb.signed = x :: sl) (hl : s.ts.length + 200 ≤ 1048576) (ho4 : kb.once.length ≤ 10) (he : Pext (U5 kb s).2 S) (ha : BuI ka S) (l1 : ∀ w ∈ B4x ka, ∀ x ∈ w, x < 256) (l2 : ∀ w ∈ B4x kb, ∀ x ∈ w, x < 256) (hL : S.ts.length + 200 ≤ 1048576) (hn : S.n < 1000000000)
    (y3 : y.ia = idA kb s) (y4 : y.ig = idG kb s) (y5 : y.signed = x.n) (y6 : y.key = P5 (idS kb s) x.sec) (y7 : y.sig = x.sig) (y8 : y.has = xo.isSome) {j : Nat} (y9 : ∀ o, xo = some o → ∃ p, 0 < j ∧ kb.once[j - 1]? = some p ∧ o = p.sec ∧ y.once = p.n ∧ y.oncek = P5 (A07 (A9J kb x s) kb.once (K7 (idS kb s) x.sec) (j - 1)).2 p.sec) :
    ckB S y = true ∧ Agd (stS ka y S) ka.agree (E7 S) kb.agree x.sec xo (stH ka y S) (stK ka y S) ∧ BuI ka (stS ka y S) ∧ Ext S (stS ka y S) ∧ B1v (stS ka y S) ka.sign (stH ka y S).ig ∧ U3 S x.sec y.key := by
  obtain ⟨h1, h2, h3, h4, h5, h6, h7⟩ := hb.bundles hs hl ho4
  have hck : ckB S y = true := by
    unfold ckB
    rw [y6, y5, y7, y4, B9r (by omega) (h4.ext he) (h6.ext he), A3G]; rfl
  obtain ⟨g1, g2, g3, g4⟩ := B4A (b := y) (xo := xo) (kb := kb.agree) (xs := x.sec) ha (by rw [y6]; exact h5.ext he) (by rw [y3]; exact h3.ext he) y8 (fun o ho => by
    obtain ⟨p, q0, q1, q2, q3, q4⟩ := y9 o ho
    refine ⟨?_, q2 ▸ l2 _ (C0W (List.mem_of_getElem? q1))⟩
    rw [q4, q2]
    exact (h7 (j - 1) p q1).ext he) (l1 _ (by simp [B4x])) (l2 _ (C0V (by rw [hs]; simp))) (l2 _ (by simp [B4x])) hL hn
  exact ⟨hck, g1, g2, g3, g4, by rw [y6]; exact h5.ext he⟩
theorem B4E (m : Nat) (A : Mem) (hm : m < 256) (hG : Glb A) : FnX Tryz.prog 15 [.int .u8 ((m : Nat) : Int)] [] A fun q M J => ∃ tb pb ka kb MA MB MP, q = .pointer (some ⟨tb, 0, none⟩) ∧ M = (tb, blk [.pointer (some ⟨pb, 0, none⟩), .pointer (some ⟨ka, 0, none⟩), .pointer (some ⟨kb, 0, none⟩)] 37) :: (MA ++ (MB ++ MP)) ∧ Kys (J ++ A) ka (oA m).1 MA ∧ Kys (J ++ A) kb (oB m).1 MB ∧ Prm pb (oB m).2 MP := by
 refine FnX.enterZ (N := 24) Tryz.func15 rfl rfl rfl fun w_ => ?_
 refine C3 (D5 0) (A3 (as_ (A0 (D5 0) (A3 (mv_ ?_)))))
 refine A4 (A2o (a := m) (b := 2) rfl rfl rfl rfl (by decide)) rfl ?_
 rw [B9I m]
 refine A6 rfl (C5 (e := 5) (sz := 1) (z := [zu8, zu8, zu8, zu8, zu8]) kR (eS rfl (eS rfl (eS rfl (eS rfl (eS rfl e0))))) (bdS 0 1 rfl (by rfl) (bdS 1 1 rfl (by rfl) (bdS 2 1 rfl (by rfl) (bdS 3 1 rfl (by rfl) (bdS 4 1 rfl (by rfl) bd0))))) rfl fun b8 => ?_)
 refine A6 rfl (A34 rfl kR UpC.upd rfl ?_)
 refine A8d (B := [_]) (PickC.sing).perm ?_
 refine C8 (aS rfl (aS rfl a0)) kR (B0A (m % 2 == 0) _ [97, 103, 114, 101, 101] _ ⟨Rd.whole (n := 5) (At.mem) (by rfl), by decide, by decide⟩) rfl ?_
 rintro v10 MP J10 ⟨pb, rfl, hP⟩
 change Prm pb (ag0 m) MP at hP
 have q1 := A7F 0 1 (ag0 m)
 change (oA m).2.ts.length ≤ 11 ∧ (oA m).2.n ≤ 7 ∧ _ at q1
 refine mv_ ?_
 refine A4 (A3Q rfl) rfl ?_
 refine A4 (A3L rfl) rfl ?_
 refine as_ (as_ (A0 (D4 3 4) (A5 (A3 (mv_ ?_)))))
 refine A4 (G5 false rfl rfl (neF rfl)) rfl ?_
 refine A0 (D4 3 14) ?_
 refine D6 rfl ?_
 refine A9 (nx (D5 3) (A3 (mv_ (mv_ ?_))))
 refine A4 (F4 (place := fun x => #[(0, 1), (1, 1)][x]?) (z := [.int .i64 0, .int .i64 0]) (fun _ => by kernel_rfl) (eS rfl (eS rfl e0)) (bdS 0 1 rfl (by rfl) (bdS 1 1 rfl (by rfl) bd0))) rfl ?_
 refine A6 rfl (E1 (Mc := MP) (R := _) (aS rfl (aS rfl (a0))) kR PickC.perm (B9F 0 1 pb (ag0 m) MP _ hP (show 0 + 200 ≤ 1048576 by decide) (show 0 + 100 < 1000000000 by decide) hG.up) rfl ?_)
 rintro v18 M18 J18 ⟨ka, MA, MP2, rfl, rfl, hKa, hP2⟩
 refine mv_ ?_
 refine A4 (F4 (place := fun x => #[(0, 1), (1, 1)][x]?) (z := [.int .i64 0, .int .i64 0]) (fun _ => by kernel_rfl) (eS rfl (eS rfl e0)) (bdS 0 1 rfl (by rfl) (bdS 1 1 rfl (by rfl) bd0))) rfl ?_
 refine A6 rfl (E1 (Mc := MP2) (R := _) (aS rfl (aS rfl (a0))) kR PickC.perm (FnX.amb SubC.sub (B9F 1 1 pb (oA m).2 MP2 A hP2 (by omega) (by omega) hG)) rfl ?_)
 rintro v21 M21 J21 ⟨kb, MB, MP3, rfl, rfl, hKb, hP3⟩
 refine A4 (F4 (place := fun x => #[(0, 1), (1, 1), (2, 1)][x]?) (z := [.pointer none, .pointer none, .pointer none]) (fun _ => by kernel_rfl) (eS rfl (eS rfl (eS rfl e0))) (bdS 0 1 rfl (by rfl) (bdS 1 1 rfl (by rfl) (bdS 2 1 rfl (by rfl) bd0)))) rfl ?_
 refine A6 rfl (bx_ fun b23 => ?_)
 refine as_ (A0 (D5 2) (C1 ?_))
 exact ⟨_, (b23, blk [.pointer (some ⟨pb, 0, none⟩), .pointer (some ⟨ka, 0, none⟩), .pointer (some ⟨kb, 0, none⟩)] 37) :: (MA ++ (MB ++ MP3)), [], I2 rfl rfl, Fit.none (Fit.pick (B := [_]) PickC.perm (Fit.pick PickC.perm (Fit.pick PickC.perm (Fit.last PickC.perm)))), b23, pb, ka, kb, MA, MB, MP3, rfl, rfl, hKa.mono SubC.sub, hKb.mono SubC.sub, hP3⟩
def StV (R : Mem) (v : Value) (K : List Nat) (H : He) : Prop := ∃ x p r u, v = .tuple #[x, .agg (heC p r u H).toArray, .int .i64 0] ∧ By R x K ∧ HeR R H p r u
theorem StV.mono {R R' : Mem} {v : Value} {K : List Nat} {H : He} (h : StV R v K H) (hR : ∀ x, x ∈ R → x ∈ R') : StV R' v K H := by
  obtain ⟨x, p, r, u, h1, h2, h3⟩ := h
  exact ⟨x, p, r, u, h1, h2.mono hR, h3.mono hR⟩
theorem A6J (A : Mem) (hG : Glb A) : FnV Tryz.prog 14 [] A (.bool true) := by
 refine FnX.enter (N := 84) Tryz.func14 rfl rfl rfl fun w_ => ?_
 refine C3 kn (A3 (as_ (A0 kn (A3 ?_))))
 refine C8 (aS rfl a0) kR (B4E 1 _ (by decide) hG.up) rfl ?_
 rintro v9 M9 J9 ⟨tb, pb, ka, kb, MA, MB, MP, rfl, rfl, hKa, hKb, hP⟩
 have hF := B4C (1)
 generalize (oA (1)).1 = ak at *
 generalize (oB (1)).1 = bk at *
 generalize (oB (1)).2 = s at *
 obtain ⟨x, hsg, hxn, hxl⟩ := hF.sg
 have hol := B9H bk
 rw [hF.on] at hol
 change 4 = _ at hol
 have hts := hF.ts
 have hsn := hF.n
 have hrise : B7F bk.once := B7K (by rw [show bk.once.map (·.n) = onN bk from rfl, hF.on]; decide)
 refine as_ (A0 (D5 1) (A5 (A3 (mv_ ?_))))
 refine A4 (F5 (e := 37) rfl rfl kR) rfl ?_
 refine mv_ ?_
 refine F0 rfl rfl (OpQ.opL qm_ rfl ?_)
 refine F0 rfl rfl (OpQ.opL (G6 rfl) rfl ?_)
 refine F0 rfl rfl (OpQ.opL (qf_ 2 2) rfl ?_)
 refine F0 rfl rfl (OpQ.opL ql_ rfl ?_)
 refine F0 rfl rfl (OpQ.opL (F5 (e := 114) rfl rfl kR) rfl ?_)
 refine A4 (F1 rfl rfl) rfl ?_
 refine A0 (D4 1 18) ?_
 refine D6 rfl ?_
 refine A9 (nx (D5 1) ?_)
 refine A3k (B := [(tb, blk [.pointer (some ⟨pb, 0, none⟩), .pointer (some ⟨ka, 0, none⟩), .pointer (some ⟨kb, 0, none⟩)] 37)]) PickC.perm ?_
 refine A3k (B := MA) PickC.perm ?_
 refine A3k (B := MB) PickC.perm ?_
 obtain ⟨va, vg, vq, vo, vm, rs, ro, rm, hra⟩ := hKa.r
 obtain ⟨ua, ug, uq, uo, um, ss, so, sm, hrb⟩ := hKb.r
 have hla := (hra _ (fun _ h => List.mem_append_left MA h) (fun _ h => List.mem_append_right _ h)).lt
 have hlb := (hrb _ (fun _ h => List.mem_append_left MB h) (fun _ h => List.mem_append_right _ h)).lt
 refine D2 [0, 1, 2, 3, 4, 5, 6, 7, 9] (zp 0 [0, 0, 0, 1, 0, 0, 0, 1, 2, 0]) kR kR fun hs => ?_
 refine fm_ hs ?_
 refine D1 hs rfl (G6 rfl) rfl ?_
 refine D1 hs rfl (qf_ 2 2) rfl ?_
 refine F8 hs rfl ql_ rfl ?_
 refine fm_ hs ?_
 refine D1 hs rfl (G6 rfl) rfl ?_
 refine D1 hs rfl (qf_ 0 0) rfl ?_
 refine F8 hs rfl ql_ rfl ?_
 refine G3 rfl rfl rfl (E1 (Mc := MP) (R := _) (aS rfl (aS rfl (a0))) kR PickC.perm (B1U pb s kb bk ua ug uq uo um ss so sm x [] MP _ (hrb _ SubC.sub SubC.sub) hsg hP (by omega) (by omega) hG.up) rfl ?_)
 rintro v27 M27 J27 ⟨hP27, rows, hrd, hrw⟩
 haveI := hrd.cel
 obtain ⟨hbl, -, -, hbt⟩ := A4v (s := s) hsg
 rw [← hol] at hbl
 obtain ⟨y, xo, hy, -, -, y3, y4, y5, y6, y7, y8, y9, y10⟩ := B7W (s := s) hsg (j := 1) (by omega)
 obtain ⟨r0, hr0, w1, w2, w3, w4, w5, rfl, gw1, gw2, gw3, gw4, gw5, gws, gwo⟩ := hrw.get 1 y hy
 haveI := gw1.cel
 haveI := gw2.cel
 haveI := gw3.cel
 haveI := gw4.cel
 haveI := gw5.cel
 obtain ⟨hb1, hb2, -⟩ := hF.bb.bundles hsg (by omega) (by omega)
 have hbn : (U5 bk s).2.n = s.n := B9N
 have ha2 := hF.ba.ext hb2 hb1.tok hb1.ar
 obtain ⟨hck, hag, hbi, hex, -, hpx⟩ := B4D hF.bb hsg (by omega) (by omega) (Pext.refl _) ha2 hla hlb (by omega) (by omega) y3 y4 y5 y6 y7 y8 y9
 have hst := A7I ak y (U5 bk s).2
 have hans := hag.ans (kb := bk) hbi.tok (by omega) (by rw [hsg]; show A2x [x] (stH ak y (U5 bk s).2).signed = _; rw [show (stH ak y (U5 bk s).2).signed = x.n from y5]; exact B1Y) y8 (fun hh => by
  change y.has = true at hh
  rw [y8] at hh
  obtain ⟨o, rfl⟩ := Option.isSome_iff_exists.1 hh
  obtain ⟨q, q0, q1, q2, q3, -⟩ := y9 o rfl
  rw [show (stH ak y (U5 bk s).2).once = y.once from if_pos (y8.trans rfl), q3, q2]
  exact B7M hrise q1)
 have hKl := (B2a (stI ak y (U5 bk s).2) (stL ak.agree y (U5 bk s).2)).2
 change (stK ak y (U5 bk s).2).length = 32 at hKl
 have h2k := hex.n
 refine fa_ hs ?_
 refine E2 (D4 1 2) (A5 (A3 (mv_ ?_)))
 refine A4 (H5 (sz := 10) rfl kR hrd) rfl ?_
 rw [hbl]
 refine A4 (G5 false rfl rfl (neF (by rfl))) rfl ?_
 refine A0 (D8 1 2 30) ?_
 refine D6 rfl ?_
 refine A9 (nx (D4 1 2) ?_)
 refine H9 (M27) (_) true [0, 1, 2, 3, 4, 5, 6, 7, 8, 9, 10, 11, 12, 13, 14, 15, 16, 17, 19] [(0, 0), (1, 0), (2, 0), (3, 1), (4, 0), (5, 0), (6, 0), (7, 1), (8, 0), (9, 0), (10, 1), (11, 8), (12, 8), (13, 8), (16, 8), (14, 9), (15, 10), (17, 0), (18, 2), (19, 0)] kR kR PickC.perm fun hs K n0 hKm hKs hKn => ?_
 refine km_ hs ?_
 refine I9 hs rfl (G6 rfl) rfl ?_
 refine I9 hs rfl (qf_ 0 0) rfl ?_
 refine N5 hs rfl hKs ql_ ?_
 refine km_ hs ?_
 refine I9 hs rfl (G6 rfl) rfl ?_
 refine I9 hs rfl (qf_ 1 1) rfl ?_
 refine N5 hs rfl hKs ql_ ?_
 refine km_ hs ?_
 refine I9 hs rfl (K5 (sz := 10) (a := 1) rfl rfl kR rfl hrd (by rw [hbl]; decide)) rfl ?_
 refine N5 hs rfl hKs (A1a rfl kR (hrd.mono SubC.sub) (hrw.lens bnT) (by decide) hr0) ?_
 refine B2j [⟨11, 43, none, M27, fun v B R => Prm pb (stS ak y (U5 bk s).2) B ∧ StV R v (stK ak y (U5 bk s).2) (stH ak y (U5 bk s).2)⟩, ⟨12, 31, none, [], fun v B R => B = [] ∧ StV R v (stK ak y (U5 bk s).2) (stH ak y (U5 bk s).2)⟩, ⟨13, 44, none, [], fun v B R => B = [] ∧ By R v (stK ak y (U5 bk s).2)⟩, ⟨16, 4, none, [], fun v B _ => ∃ b, v = .pointer (some ⟨b, 0, none⟩) ∧ B = [(b, blk [.slice none 0 0, .slice none 0 0, .slice none 0 0, .int .u32 0, .bool false, .int .u32 0] 43)]⟩] [⟨14, 45, none, [], fun v B R => B = [] ∧ ∃ p r u, v = .agg (heC p r u (stH ak y (U5 bk s).2)).toArray ∧ HeR R (stH ak y (U5 bk s).2) p r u⟩, ⟨15, 46, none, [], fun v B R => B = [] ∧ v = .int .i64 0⟩] ([]) (fun bs => [bs 11, bs 12, bs 13, bs 16, bs 14, bs 15]) (hKn rfl) (by simp [A3H, A2z]) (show ∀ m ∈ ([M27, [], [], [], [], []] : List Mem), ∀ x ∈ m, K x.1 from C4 (hKm) (C4 (fun _ h => by cases h) (C4 (fun _ h => by cases h) (C4 (fun _ h => by cases h) (C4 (fun _ h => by cases h) (C4 (fun _ h => by cases h) (L3))))))) kR (fun _ => by first | rfl | kernel_rfl)
  (C4 (fun _ _ _ _ h ⟨p1, p2⟩ => ⟨p1, p2.mono h⟩) (C4 (fun _ _ _ _ h ⟨p1, p2⟩ => ⟨p1, p2.mono h⟩) (C4 (fun _ _ _ _ h ⟨p1, p2⟩ => ⟨p1, p2.mono h⟩) (C4 (fun _ _ _ _ _ h => h) (C4 (fun _ _ _ _ h ⟨p1, p, r, u, e, p2⟩ => ⟨p1, p, r, u, e, p2.mono h⟩) (C4 (fun _ _ _ _ _ h => h) (L3))))))) (show List.Nodup [43, 31, 44, 4, 45, 46] by decide) (show List.Nodup [11, 12, 13, 16, 14, 15] by decide) (C4 (C9 rfl) (C4 (C9 rfl) (C4 (C9 rfl) (C4 (C9 rfl) (C4 (C9 rfl) (C4 (C9 rfl) (L3)))))))
  hs (List.cons_ne_nil _ _) (C4 ⟨_, rfl, fun vs bs R Rj wG hb hj hjr ha => ⟨.inl rfl, ?_⟩⟩ (C4 ⟨_, rfl, fun vs bs R Rj wG hb hj hjr ha => ⟨.inl rfl, ?_⟩⟩ (C4 ⟨_, rfl, fun vs bs R Rj wG hb hj hjr ha => ⟨.inl rfl, ?_⟩⟩ (C4 ⟨_, rfl, fun vs bs R Rj wG hb hj hjr ha => ⟨.inl rfl, ?_⟩⟩ (L3))))) (C4 ⟨rfl, rfl, _, _, _, _, rfl, fun vs bs Rj hj ha => ?_⟩ (C4 ⟨rfl, rfl, _, _, _, _, rfl, fun vs bs Rj hj ha => ?_⟩ (L3))) ?_
 ·
  dsimp only [Gc.inp]
  refine E1 (Mc := M27) (R := []) (aS rfl (aS rfl (aS rfl (a0)))) kR (by simp) (FnX.amb (A := Rj) (fun x hx => by have := hjr x hx; simp [this]) (B7T pb (U5 bk s).2 ka ak va vg vq vo vm rs ro rm y w1 w2 w3 w4 w5 M27 Rj (hra _ (fun x hx => hj x (SubC.sub x hx)) (fun x hx => hj x (SubC.sub x hx))) hP27 hb1.ar (by omega) (by omega) (gw1.mono (fun x hx => hj x (SubC.sub x hx))) (gw2.mono (fun x hx => hj x (SubC.sub x hx))) (gw3.mono (fun x hx => hj x (SubC.sub x hx))) (gw4.mono (fun x hx => hj x (SubC.sub x hx))) (gw5.mono (fun x hx => hj x (SubC.sub x hx))) gws gwo (hG.sub (fun x hx => hj x (SubC.sub x hx))))) rfl ?_
  rintro v25 M25 J25 ⟨hh, -⟩
  obtain ⟨x, p, r, u, rfl, hP25, h25, hH25⟩ := hh hck
  exact ⟨_, rfl, by simpa using hP25, x, p, r, u, rfl, h25.mono fun x hx => by simp [hx], hH25.mono fun x hx => by simp [hx]⟩
 ·
  dsimp only [Gc.inp]
  have g11 := ha _ (List.mem_of_getElem? (i := 0) rfl) kR
  replace g11 : (fun v B R => Prm pb (stS ak y (U5 bk s).2) B ∧ StV R v (stK ak y (U5 bk s).2) (stH ak y (U5 bk s).2)) (vs 11) (bs 11) Rj := g11
  dsimp only at g11
  obtain ⟨-, k⟩ := g11
  exact OpQ.opL qm_ rfl ⟨_, rfl, rfl, k⟩
 ·
  dsimp only [Gc.inp]
  have g12 := ha _ (List.mem_of_getElem? (i := 1) rfl) kR
  replace g12 : (fun v B R => B = [] ∧ StV R v (stK ak y (U5 bk s).2) (stH ak y (U5 bk s).2)) (vs 12) (bs 12) Rj := g12
  dsimp only at g12
  obtain ⟨-, x, p, r, u, e, k1, k2⟩ := g12
  exact OpQ.opL (Q3 (vs := #[x, .agg (heC p r u (stH ak y (U5 bk s).2)).toArray, .int .i64 0]) (by rw [← e]; rfl) rfl) rfl ⟨_, rfl, rfl, k1⟩
 ·
  dsimp only [Gc.inp]
  exact C7 (cs := [.slice none 0 0, .slice none 0 0, .slice none 0 0, .int .u32 0, .bool false, .int .u32 0]) kR rfl fun b => ⟨_, rfl, b, rfl, rfl⟩
 ·
  have g12 := ha _ (List.mem_of_getElem? (i := 1) rfl) kR
  replace g12 : (fun v B R => B = [] ∧ StV R v (stK ak y (U5 bk s).2) (stH ak y (U5 bk s).2)) (vs 12) (bs 12) Rj := g12
  dsimp only at g12
  obtain ⟨-, x, p, r, u, e, k1, k2⟩ := g12
  exact ⟨_, Q3 (vs := #[x, .agg (heC p r u (stH ak y (U5 bk s).2)).toArray, .int .i64 0]) (by rw [← e]; rfl) rfl, rfl, p, r, u, rfl, k2⟩
 ·
  have g12 := ha _ (List.mem_of_getElem? (i := 1) rfl) kR
  replace g12 : (fun v B R => B = [] ∧ StV R v (stK ak y (U5 bk s).2) (stH ak y (U5 bk s).2)) (vs 12) (bs 12) Rj := g12
  dsimp only at g12
  obtain ⟨-, x, p, r, u, e, k1, k2⟩ := g12
  exact ⟨_, Q3 (vs := #[x, .agg (heC p r u (stH ak y (U5 bk s).2)).toArray, .int .i64 0]) (by rw [← e]; rfl) rfl, rfl, rfl⟩
 intro vs bs Jn0 hφ hKK
 have kk11 := hKK _ (List.mem_of_getElem? (i := 0) rfl)
 dsimp only at kk11
 have kk12 := hKK _ (List.mem_of_getElem? (i := 1) rfl)
 dsimp only at kk12
 have kk13 := hKK _ (List.mem_of_getElem? (i := 2) rfl)
 dsimp only at kk13
 have kk16 := hKK _ (List.mem_of_getElem? (i := 3) rfl)
 dsimp only at kk16
 have kk14 := hKK _ (List.mem_of_getElem? (i := 4) rfl)
 dsimp only at kk14
 have kk15 := hKK _ (List.mem_of_getElem? (i := 5) rfl)
 dsimp only at kk15
 clear hKK
 have g11 := ofH hφ
 dsimp only at g11
 replace hφ := ofT hφ
 have g12 := ofH hφ
 dsimp only at g12
 replace hφ := ofT hφ
 have g13 := ofH hφ
 dsimp only at g13
 replace hφ := ofT hφ
 have g16 := ofH hφ
 dsimp only at g16
 replace hφ := ofT hφ
 have g14 := ofH hφ
 dsimp only at g14
 replace hφ := ofT hφ
 have g15 := ofH hφ
 dsimp only at g15
 clear hφ
 dsimp only [W2, A3H, List.foldr, List.map, List.cons_append, List.nil_append]
 generalize bs 11 = B43 at *
 generalize bs 12 = B31 at *
 generalize bs 13 = B44 at *
 generalize bs 16 = B4 at *
 generalize bs 14 = B45 at *
 generalize bs 15 = B46 at *
 generalize vs 11 = u43 at *
 generalize vs 12 = u31 at *
 generalize vs 13 = u44 at *
 generalize vs 16 = u4 at *
 generalize vs 14 = u45 at *
 generalize vs 15 = u46 at *
 obtain ⟨hP43, -⟩ := g11
 obtain ⟨rfl, -⟩ := g12
 obtain ⟨rfl, hK43⟩ := g13
 obtain ⟨rfl, p, r, u, rfl, hHe⟩ := g14
 obtain ⟨rfl, rfl⟩ := g15
 obtain ⟨b16, rfl, rfl⟩ := g16
 haveI := hK43.cel
 haveI := hHe.ia.cel
 haveI := hHe.ig.cel
 haveI := hHe.key.cel
 obtain ⟨H, hH⟩ : ∃ z, stH ak y (U5 bk s).2 = z := ⟨_, rfl⟩
 obtain ⟨K, hK⟩ : ∃ z, stK ak y (U5 bk s).2 = z := ⟨_, rfl⟩
 obtain ⟨s3, hs3⟩ : ∃ z, stS ak y (U5 bk s).2 = z := ⟨_, rfl⟩
 rw [hH] at hHe hag hans
 rw [hK] at hK43 hag hans hKl
 rw [hs3] at hP43 hag hbi hex hst hans
 rw [hH]
 dsimp only [heC]
 refine I9 hs rfl (H6 rfl) rfl ?_
 refine XK.tl rfl rfl rfl (A8 (vs := [p, r, u, .int .u32 ((H.signed : Nat) : Int), .bool H.has, .int .u32 ((H.once : Nat) : Int)]) rfl rfl rfl kR (by rfl) (C4 hHe.ia.one (C4 hHe.ig.one (C4 hHe.key.one al3))) UpC.upd ?_)
 refine I9 hs rfl (H6 rfl) rfl ?_
 refine P6 (E4 1 3 4 5) ?_
 refine D2 [0, 1, 2, 3, 4, 5, 6, 7, 8, 10, 11, 12, 13, 14, 15, 16] (zp 0 [0, 0, 0, 1, 0, 0, 0, 1, 1, 2, 0, 0, 0, 0, 0, 0, 0]) kR kR fun hs => ?_
 refine fm_ hs ?_
 refine D1 hs rfl (G6 rfl) rfl ?_
 refine D1 hs rfl (qf_ 0 0) rfl ?_
 refine F8 hs rfl ql_ rfl ?_
 refine fm_ hs ?_
 refine D1 hs rfl (G6 rfl) rfl ?_
 refine D1 hs rfl (qf_ 2 2) rfl ?_
 refine F8 hs rfl ql_ rfl ?_
 refine F8 hs rfl (qw_ 6) rfl ?_
 refine G3 rfl rfl rfl (E1 (Mc := B43) (R := _) (aS rfl (aS rfl (aS rfl (a0)))) kR PickC.perm (B4B pb s3 kb bk ua ug uq uo um ss so sm H p r u B43 _ (hrb _ SubC.sub SubC.sub) hrise hP43 (by omega) (hHe.mono SubC.sub) hG.up) rfl ?_)
 rintro v57 M57 J57 ⟨o1, o2, rfl, hP57, ho1, ho2⟩
 haveI := ho1.cel
 haveI := ho2.cel
 rw [hans] at hP57 ho1 ho2 ⊢
 change By _ o1 K at ho1
 change By _ o2 x.sec at ho2
 refine fm_ hs ?_
 refine D1 hs rfl (A3Q rfl) rfl ?_
 refine D1 hs rfl (A3L rfl) rfl ?_
 refine D1 hs rfl (C0m rfl) rfl ?_
 refine fa_ hs ?_
 refine fa_ hs ?_
 refine fa_ hs ?_
 refine E2 (F7 3 5 6 7 8) (A3 (mv_ ?_))
 refine A4 (G5 true rfl rfl (eqT rfl)) rfl ?_
 refine mv_ ?_
 refine F0 rfl rfl (OpQ.opL qm_ rfl ?_)
 refine F0 rfl rfl (OpQ.opL (G5 true rfl rfl (eqT rfl)) rfl ?_)
 refine A4 (G8 rfl rfl) rfl ?_
 refine mv_ ?_
 refine F0 rfl rfl (OpQ.opL qm_ rfl ?_)
 refine F0 rfl rfl (OpQ.opL (H5 (sz := 1) rfl kR hK43.rd) rfl ?_)
 rw [hKl]
 refine F0 rfl rfl (OpQ.opL (G5 true rfl rfl (eqT rfl)) rfl ?_)
 refine A4 (G8 rfl rfl) rfl ?_
 refine mv_ ?_
 refine F0 rfl rfl (OpQ.opL qm_ rfl ?_)
 refine F0 rfl rfl (OpQ.opL (N1 rfl kR (hK43.rd.mono SubC.sub)) rfl ?_)
 refine F0 rfl rfl (OpQ.opL qm_ rfl ?_)
 refine F0 rfl rfl (OpQ.opL (N1 rfl kR (ho1.rd.mono SubC.sub)) rfl ?_)
 refine F0 rfl rfl (OpQ.opL ((show (decide (K = K)) = true by simp) ▸ B0a rfl rfl rfl rfl hK43.lt ho1.lt) rfl ?_)
 refine A4 (G8 rfl rfl) rfl ?_
 refine mv_ ?_
 refine F0 rfl rfl (OpQ.opL qm_ rfl ?_)
 refine F0 rfl rfl (OpQ.opL (H5 (sz := 1) rfl kR ho2.rd) rfl ?_)
 rw [hxl]
 refine F0 rfl rfl (OpQ.opL (G5 true rfl rfl (eqT rfl)) rfl ?_)
 refine A4 (G8 rfl rfl) rfl ?_
 refine as_ (A0 (D5 0) (C1 ?_))
 exact ⟨_, [], [], I2 rfl rfl, List.nil_sublist _, by simp, rfl, rfl, rfl⟩

end Go.Proofs.YthbhpfefdnffaaaGreatDoor
namespace Go.Px
open Go
def Sm (sz : Nat) (v : Value) (n : Nat) (xs : List Value) (B : Mem) : Prop :=
  ∃ (b o cap : Nat) (cs : List Value) (e : TypeId) (fr : Nat × Nat), v = .slice (some ⟨b, o, none⟩) n cap ∧ B = [(b, .cells cs.toArray e fr)] ∧ cs.length ≤ fr.1 ∧ n ≤ cap ∧ cap ≤ maxLen ∧ o + cap * sz ≤ cs.length ∧ xs.length = n * sz ∧ (∀ j u, xs[j]? = some u → cs[o + j]? = some u)
def Sx (sz : Nat) (v : Value) (n : Nat) (xs : List Value) (B : Mem) : Prop := Sl sz v n xs B ∨ Sm sz v n xs B
theorem Sm.rd {R B : Mem} {sz : Nat} {v : Value} {n : Nat} {xs : List Value} (h : Sm sz v n xs B) (hR : ∀ x, x ∈ B → x ∈ R) : Rd R sz v n xs := by
  obtain ⟨b, o, cap, cs, e, fr, rfl, rfl, h0, h1, h2, h3, h4, h5⟩ := h
  exact ⟨_, _, rfl, h4, h1, .inr ⟨b, o, cs, e, fr, rfl, hR _ (List.mem_singleton.2 rfl), h5⟩⟩
theorem Sx.rd {R B : Mem} {sz : Nat} {v : Value} {n : Nat} {xs : List Value} (h : Sx sz v n xs B) (hR : ∀ x, x ∈ B → x ∈ R) : Rd R sz v n xs := h.elim (fun h => h.rd hR) (fun h => h.rd hR)
theorem Sx.cel {B : Mem} {sz : Nat} {v : Value} {n : Nat} {xs : List Value} (h : Sx sz v n xs B) : Cel v [v] := (h.rd (R := B) fun _ h => h).cel
section
variable {C : Cx} {l : Env} {M J : Mem} {K : Env → Mem → Mem → Prop} {d : Nat} {s t e ty : TypeId} {pos : String} {af : Array Edge} {g : Option (Nat × Bool)} {x y : Operand} {ws : List Nat} {S : ByteArray}
end
end Go.Px

namespace Go.Proofs.YthbhpfefdnffaaaGreatDoor
open Go.Px
def A7K (p : List Nat) (n k : Nat) : List Nat := p ++ beN n k
def A9D (p q : List Nat) : List Nat := p ++ beN q.length 4 ++ q
theorem B9O {p : List Nat} (hp : ∀ x ∈ p, x < 256) (n k : Nat) : ∀ x ∈ A7K p n k, x < 256 := A6z hp (A4p n k)
theorem B9P {p q : List Nat} (hp : ∀ x ∈ p, x < 256) (hq : ∀ x ∈ q, x < 256) : ∀ x ∈ A9D p q, x < 256 := A6z (A6z hp (A4p _ _)) hq
theorem B5J {v : Value} {w : List Nat} {B : Mem} (h : Sl 1 v w.length (nums .u8 w) B) (hw : ∀ x ∈ w, x < 256) (hl : w.length ≤ 16777216) : By B v w := ⟨h.rd fun _ h => h, hw, hl⟩
theorem B2l (v : Value) (w : List Nat) (n k : Nat) (A : Mem) (hv : By A v w) (hn : n < 18446744073709551616) (hk : k ≤ 8) : FnX Tryz.prog 80 [v, .int .u64 ((n : Nat) : Int), .int .i64 ((k : Nat) : Int)] [] A fun q M J => J = [] ∧ Sl 1 q (A7K w n k).length (nums .u8 (A7K w n k)) M := by
 haveI := hv.cel
 have hvl := hv.len
 refine FnX.enterZ (N := 27) Tryz.func80 rfl rfl rfl fun w_ => ?_
 refine C3 (D8 0 1 2) (A3 (as_ (A0 (D8 0 1 2) (A3 (as_ (A0 (E4 0 1 2 7) (A3 ?_)))))))
 refine mv_ (mv_ ?_)
 refine A6 rfl (H8 (e := 5) (sz := 1) (by_ := 1) rfl rfl kR rfl Sl.nil (hv.rd.mono SubC.sub) E9 PickC.perm (by unfold maxLen; omega) (by omega) rfl fun v11 B11 hs11 => ?_)
 haveI := hs11.cel
 refine as_ (A0 (D8 1 2 7) (A5 (A3 (mv_ ?_))))
 refine A4 (E0 ((k : Int) - 1) rfl rfl (V6 rfl (by omega) (by omega))) rfl ?_
 refine as_ (A0 (D8 1 7 8) (C0 ?_))
 refine F3 (α := Nat × Value × Mem) (fun x => [(1, .int .u64 ((n : Nat) : Int)), (7, x.2.1), (8, .int .i64 ((k : Int) - 1 - (x.1 : Int)))]) (fun x => x.2.2) (fun _ => []) (fun x => x.1 ≤ k ∧ Sl 1 x.2.1 (w ++ bes n k x.1).length (nums .u8 (w ++ bes n k x.1)) x.2.2) (fun x => k - x.1) ⟨0, v11, B11⟩ ⟨Nat.zero_le _, by simpa [bes] using hs11⟩ (kq 1 (kq 7 (kp 8 (by simp; rfl) kn))) (Fit.last PickC.perm) (fun _ h => by cases h) ?_
 rintro ⟨x, v7, B7⟩ ⟨hx, hsl⟩
 dsimp only at hx hsl ⊢
 haveI := hsl.cel
 have hbl := A7v n k x
 have hll : (w ++ bes n k x).length = w.length + x := by rw [List.length_append, hbl]
 refine A5 (A3 (mv_ ?_))
 refine A4 (F2 rfl rfl rfl) rfl ?_
 refine A0 (E4 1 7 8 15) ?_
 refine C6 rfl (fun hc => ?_) (fun hc => ?_)
 ·
  have hltx : x < k := by simp at hc; omega
  obtain ⟨m, hm, hm2⟩ : ∃ m : Nat, ((k : Int) - 1 - (x : Int)) = (m : Int) ∧ m = k - 1 - x := ⟨k - 1 - x, by omega, rfl⟩
  rw [hm]
  refine A9 (nx (D8 1 7 8) (A5 (C0 (C2 (mv_ (mv_ (mv_ ?_)))))))
  refine A4 (E0 ((8 * m : Nat) : Int) rfl rfl (A3P (by omega) (by omega) (by omega))) rfl ?_
  refine A4 (A1F (a := n) (b := 8 * m) rfl rfl rfl rfl (by show _ ≤ 64; omega)) rfl ?_
  refine A4 (A2t rfl kR) rfl ?_
  refine A6 rfl (C5 (e := 5) (sz := 1) (z := [.int .u8 0]) kR (eS rfl e0) (bdS 0 1 rfl (by rfl) bd0) rfl fun b24 => ?_)
  refine A6 rfl (H8 (e := 5) (sz := 1) (by_ := 1) rfl rfl kR rfl (by first | assumption | exact Sl.nil) (Rd.whole (n := 1) At.mem (by rfl)) (by first | (simp [Value.oneCell']; done) | (intro c hc; simp only [List.mem_singleton] at hc; subst hc; first | exact Rd.one (by assumption) | exact Sl.one (by assumption))) PickC.perm (by unfold maxLen; omega) (by omega) rfl fun v25 B25 hs25 => ?_)
  refine as_ (D0 (nb (nx (D8 1 7 8) (C2 (mv_ ?_)))))
  refine A4 (E0 ((m : Int) - 1) rfl rfl (V6 rfl (by omega) (by omega))) rfl ?_
  refine as_ (D0 ?_)
  exact rn ⟨x + 1, v25, B25⟩ ⟨by dsimp only; omega, by dsimp only; rw [A8G, ← List.append_assoc, ← hm2]; exact X8 hs25 (by simp only [List.length_append, List.length_singleton]) (by simp [nums])⟩ (by dsimp only; omega) (kq 1 (kq 7 (kp 8 (by dsimp only; rw [show ((k : Int) - 1 - ((x + 1 : Nat) : Int)) = (m : Int) - 1 by omega]; rfl) kn))) (Fit.last PickC.perm) (fun _ h => by first | exact h | cases h)
 ·
  have hge : x = k := by simp at hc; omega
  subst hge
  refine E5 (te (re (be rfl (nx (D5 7) (A3 (mv_ (as_ (A0 (D5 6) ?_))))))))
  refine C1 ?_
  exact ⟨_, B7, [], I2 rfl rfl, Fit.none (Fit.last PickC.perm), rfl, hsl⟩
theorem B2m (v q : Value) (w u : List Nat) (A : Mem) (hv : By A v w) (hq : By A q u) : FnX Tryz.prog 34 [v, q] [] A fun r M J => J = [] ∧ Sl 1 r (A9D w u).length (nums .u8 (A9D w u)) M := by
 haveI := hv.cel
 haveI := hq.cel
 have hvl := hv.len
 have hql := hq.len
 refine FnX.enterZ (N := 12) Tryz.func34 rfl rfl rfl fun w_ => ?_
 refine C3 (D4 0 1) (A3 (as_ (A0 (D4 0 1) (A3 (mv_ (mv_ ?_))))))
 refine A4 (H5 (sz := 1) rfl kR hq.rd) rfl ?_
 refine A4 (A7U rfl kR) rfl ?_
 rw [Nat.mod_eq_of_lt (show u.length < 18446744073709551616 by omega)]
 refine C8 (aS rfl (aS rfl (aS rfl a0))) kR (B2l v w u.length 4 _ (hv.mono SubC.sub) (by omega) (by decide)) rfl ?_
 rintro v9 M9 J9 ⟨rfl, hs9⟩
 haveI := hs9.cel
 have hl9 : (A7K w u.length 4).length = w.length + 4 := by unfold A7K; rw [List.length_append, P8]
 refine mv_ ?_
 refine A6 rfl (H8 (e := 5) (sz := 1) (by_ := 1) rfl rfl kR rfl hs9 (hq.rd.mono SubC.sub) E9 PickC.perm (by unfold maxLen; omega) (by omega) rfl fun v11 B11 hs11 => ?_)
 haveI := hs11.cel
 refine as_ (A0 (D5 4) (C1 ?_))
 exact ⟨_, B11, [], I2 rfl rfl, Fit.none (Fit.last PickC.perm), rfl, X8 hs11 (by unfold A9D A7K; simp only [List.length_append]) (by unfold A9D A7K; simp [nums])⟩
theorem B2n (v : Value) (w : List Nat) (n k : Nat) (A : Mem) (hv : By A v w) (hn : n < 18446744073709551616) (hk : k ≤ 8) (hl : w.length ≤ 1000000) : FnX Tryz.prog 80 [v, .int .u64 ((n : Nat) : Int), .int .i64 ((k : Nat) : Int)] [] A fun r M J => M = [] ∧ By J r (A7K w n k) :=
  ((B2l v w n k A hv hn hk).frz0).mono fun r M J ⟨h1, h2⟩ => ⟨h1, B5J h2 (B9O hv.lt n k) (by unfold A7K; rw [List.length_append, P8]; omega)⟩
theorem A6K (v q : Value) (w u : List Nat) (A : Mem) (hv : By A v w) (hq : By A q u) (hl : w.length ≤ 1000000) (hlu : u.length ≤ 1000000) : FnX Tryz.prog 34 [v, q] [] A fun r M J => M = [] ∧ By J r (A9D w u) :=
  ((B2m v q w u A hv hq).frz0).mono fun r M J ⟨h1, h2⟩ => ⟨h1, B5J h2 (B9P hv.lt hq.lt) (by unfold A9D; rw [List.length_append, List.length_append, P8]; omega)⟩

def A9E (w : List Nat) (u d : Int) : List Nat := A7K (A7K w (u32N u) 4) (u32N d) 4
def B75 (w a g : List Nat) : List Nat := A9D (A9D w a) g
theorem A1Z (w : List Nat) (u d : Int) : (A9E w u d).length = w.length + 8 := by simp [A9E, A7K, P8]
theorem A8T (w a g : List Nat) : (B75 w a g).length = w.length + a.length + g.length + 8 := by simp [B75, A9D, P8]; omega
theorem B4F (u d u' d' : Int) (a g a' g' : List Nat) : B75 (A9E (B75 (A9E [] u d) a g) u' d') a' g' = A0i u d a g u' d' a' g' := by
  unfold B75 A9E A9D A7K A0i wiN
  simp [B9K, List.append_assoc]
theorem B2o (v : Value) (w : List Nat) (u d : Int) (A : Mem) (hv : By A v w) (hl : w.length ≤ 900000) : FnX Tryz.prog 79 [v, .agg #[.int .i64 u, .int .i64 d]] [] A fun r M J => M = [] ∧ By J r (A9E w u d) := by
 haveI := hv.cel
 refine FnX.enterZ (N := 16) Tryz.func79 rfl rfl rfl fun w_ => ?_
 refine C3 (D4 0 1) (A3 ?_)
 refine A6 rfl (bx_ fun b3 => ?_)
 refine as_ (A0 (D4 0 3) ?_)
 refine H9 ([]) (_) true (.range 12) [(0, 0), (1, 0), (2, 1), (3, 0), (4, 0), (6, 0), (7, 1), (8, 0), (9, 0), (5, 2), (10, 2), (11, 0)] kR kR PickC.perm fun hs K n0 hKm hKs hKn => ?_
 refine km_ hs ?_
 refine I9 hs rfl (qf_ 0 0) rfl ?_
 refine N5 hs rfl hKs ql_ ?_
 refine I9 hs rfl (A1h (k' := .u32) ((u32N u : Nat) : Int) rfl kR (A6H u)) rfl ?_
 refine I9 hs rfl (N9 (k' := .u64) (u32N u) rfl kR (B2d (by have := A5u u; omega))) rfl ?_
 refine I9 hs rfl (qf_ 1 1) rfl ?_
 refine N5 hs rfl hKs ql_ ?_
 refine I9 hs rfl (A1h (k' := .u32) ((u32N d : Nat) : Int) rfl kR (A6H d)) rfl ?_
 refine I9 hs rfl (N9 (k' := .u64) (u32N d) rfl kR (B2d (by have := A5u d; omega))) rfl ?_
 refine I1 [] _ rfl rfl (List.Perm.refl _) (fun _ h => by cases h) fun w0 => (D3 (aS rfl (aS rfl (aS rfl a0))) kR (B2n v w (u32N u) 4 _ (hv.mono SubC.sub) (by have := A5u u; omega) (by decide) (by omega)) rfl ?_)
 rintro r10 M10 J10 ⟨rfl, h10⟩ _
 haveI := h10.cel
 dsimp only [List.nil_append, List.append_eq]
 refine I1 [] _ rfl rfl (List.Perm.refl _) (fun _ h => by cases h) fun w0 => (D3 (aS rfl (aS rfl (aS rfl a0))) kR (B2n r10 (A7K w (u32N u) 4) (u32N d) 4 _ (h10.mono SubC.sub) (by have := A5u d; omega) (by decide) (by unfold A7K; rw [List.length_append, P8]; omega)) rfl ?_)
 rintro r15 M15 J15 ⟨rfl, h15⟩ _
 haveI := h15.cel
 dsimp only [List.nil_append, List.append_eq]
 refine I9 hs rfl (H6 rfl) rfl ?_
 refine P6 (D5 4) (C1 ?_)
 exact ⟨_, [], [], I2 rfl rfl, Fit.sub (List.nil_sublist _), rfl, h15.mono SubC.sub⟩
theorem B5K (v va vg : Value) (w a g : List Nat) (A : Mem) (hv : By A v w) (ha : By A va a) (hg : By A vg g) (hl : w.length + a.length + g.length ≤ 900000) : FnX Tryz.prog 78 [v, .agg #[va, vg]] [] A fun r M J => M = [] ∧ By J r (B75 w a g) := by
 haveI := hv.cel
 haveI := ha.cel
 haveI := hg.cel
 refine FnX.enterZ (N := 12) Tryz.func78 rfl rfl rfl fun w_ => ?_
 refine C3 (D4 0 1) (A3 ?_)
 refine A6 rfl (bx_ fun b3 => ?_)
 refine as_ (A0 (D4 0 3) ?_)
 refine H9 ([]) (_) true (.range 8) [(0, 0), (1, 0), (2, 1), (4, 0), (5, 1), (3, 2), (6, 2), (7, 0)] kR kR PickC.perm fun hs K n0 hKm hKs hKn => ?_
 refine km_ hs ?_
 refine I9 hs rfl (qf_ 0 0) rfl ?_
 refine N5 hs rfl hKs ql_ ?_
 refine I9 hs rfl (qf_ 1 1) rfl ?_
 refine N5 hs rfl hKs ql_ ?_
 refine I1 [] _ rfl rfl (List.Perm.refl _) (fun _ h => by cases h) fun w0 => (D3 (aS rfl (aS rfl a0)) kR (A6K v va w a _ (hv.mono SubC.sub) (ha.mono SubC.sub) (by omega) (by omega)) rfl ?_)
 rintro r8 M8 J8 ⟨rfl, h8⟩ _
 haveI := h8.cel
 dsimp only [List.nil_append, List.append_eq]
 refine I1 [] _ rfl rfl (List.Perm.refl _) (fun _ h => by cases h) fun w0 => (D3 (aS rfl (aS rfl a0)) kR (A6K r8 vg (A9D w a) g _ (h8.mono SubC.sub) (hg.mono SubC.sub) (by unfold A9D; rw [List.length_append, List.length_append, P8]; omega) (by omega)) rfl ?_)
 rintro r11 M11 J11 ⟨rfl, h11⟩ _
 haveI := h11.cel
 dsimp only [List.nil_append, List.append_eq]
 refine I9 hs rfl (H6 rfl) rfl ?_
 refine P6 (D5 4) (C1 ?_)
 exact ⟨_, [], [], I2 rfl rfl, Fit.sub (List.nil_sublist _), rfl, h11.mono SubC.sub⟩
theorem A8U (fu fd tu td : Int) (va vg vb vh : Value) (a g b h : List Nat) (A : Mem) (ga : By A va a) (gg : By A vg g) (gb : By A vb b) (gh : By A vh h) (hl : a.length + g.length + b.length + h.length ≤ 800000) : FnX Tryz.prog 29 [.agg #[.int .i64 fu, .int .i64 fd], .agg #[va, vg], .agg #[.int .i64 tu, .int .i64 td], .agg #[vb, vh]] [] A fun q M J => M = [] ∧ By J q (A0i fu fd a g tu td b h) := by
 haveI := ga.cel
 haveI := gg.cel
 haveI := gb.cel
 haveI := gh.cel
 refine FnX.enterZ (N := 17) Tryz.func29 rfl rfl rfl fun w_ => ?_
 refine C3 (E4 0 1 2 3) (A3 ?_)
 refine A6 rfl (bx_ fun b4 => ?_)
 refine A6 rfl (bx_ fun b5 => ?_)
 refine A6 rfl (bx_ fun b6 => ?_)
 refine A6 rfl (bx_ fun b7 => ?_)
 refine as_ (A0 (E4 4 5 6 7) ?_)
 refine H9 ([]) (_) true (.range 9) [(0, 1), (2, 1), (4, 1), (6, 1), (1, 2), (3, 2), (5, 2), (7, 2), (8, 0)] kR kR PickC.perm fun hs K n0 hKm hKs hKn => ?_
 refine N5 hs rfl hKs (qw_ 2) ?_
 refine N5 hs rfl hKs (qw_ 2) ?_
 refine N5 hs rfl hKs (qw_ 2) ?_
 refine N5 hs rfl hKs (qw_ 2) ?_
 refine I1 [] _ rfl rfl (List.Perm.refl _) (fun _ h => by cases h) fun w0 => (D3 (aS rfl (aS rfl a0)) kR (B2o _ [] fu fd _ By.nil (by decide)) rfl ?_)
 rintro r10 M10 J10 ⟨rfl, h10⟩ _
 haveI := h10.cel
 dsimp only [List.nil_append, List.append_eq]
 refine I1 [] _ rfl rfl (List.Perm.refl _) (fun _ h => by cases h) fun w0 => (D3 (aS rfl (aS rfl a0)) kR (B5K r10 va vg _ a g _ (h10.mono SubC.sub) (ga.mono SubC.sub) (gg.mono SubC.sub) (by rw [A1Z]; simp; omega)) rfl ?_)
 rintro r12 M12 J12 ⟨rfl, h12⟩ _
 haveI := h12.cel
 dsimp only [List.nil_append, List.append_eq]
 refine I1 [] _ rfl rfl (List.Perm.refl _) (fun _ h => by cases h) fun w0 => (D3 (aS rfl (aS rfl a0)) kR (B2o r12 _ tu td _ (h12.mono SubC.sub) (by rw [A8T, A1Z]; simp; omega)) rfl ?_)
 rintro r14 M14 J14 ⟨rfl, h14⟩ _
 haveI := h14.cel
 dsimp only [List.nil_append, List.append_eq]
 refine I1 [] _ rfl rfl (List.Perm.refl _) (fun _ h => by cases h) fun w0 => (D3 (aS rfl (aS rfl a0)) kR (B5K r14 vb vh _ b h _ (h14.mono SubC.sub) (gb.mono SubC.sub) (gh.mono SubC.sub) (by rw [A1Z, A8T, A1Z]; simp; omega)) rfl ?_)
 rintro r16 M16 J16 ⟨rfl, h16⟩ _
 haveI := h16.cel
 rw [B4F] at h16
 dsimp only [List.nil_append, List.append_eq]
 refine I9 hs rfl (H6 rfl) rfl ?_
 refine P6 (D5 8) (C1 ?_)
 exact ⟨_, [], [], I2 rfl rfl, Fit.sub (List.nil_sublist _), rfl, h16.mono SubC.sub⟩
theorem A6L (fu fd tu td : Int) (va vg vb vh : Value) (a g b h : List Nat) (A : Mem) (i0 : Byi A va a) (i1 : Byi A vg g) (i2 : Byi A vb b) (i3 : Byi A vh h) (q0 : a.length ≤ reachBytes) (q1 : g.length ≤ reachBytes) (q2 : b.length ≤ reachBytes) (q3 : h.length ≤ reachBytes) (hG : Glb A) : FnV Tryz.prog 8 [.agg #[.int .i64 fu, .int .i64 fd], .agg #[.int .i64 tu, .int .i64 td], .agg #[va, vg], .agg #[vb, vh]] A (.bool true) := by
 haveI := i0.cel
 haveI := i1.cel
 haveI := i2.cel
 haveI := i3.cel
 unfold reachBytes at q0 q1 q2 q3
 refine FnX.enter (N := 72) Tryz.func8 rfl rfl rfl fun w_ => ?_
 refine C3 (E4 0 1 2 3) (A3 ?_)
 refine A6 rfl (bx_ fun b4 => ?_)
 refine A6 rfl (bx_ fun b5 => ?_)
 refine A6 rfl (bx_ fun b6 => ?_)
 refine A6 rfl (bx_ fun b7 => ?_)
 refine as_ (A0 (E4 4 5 6 7) (A5 (A3 ?_)))
 refine F6 a0 kR (A6J _ hG.up) rfl ?_
 refine A4 (Z4 rfl) rfl ?_
 refine mv_ ?_
 refine F0 rfl rfl (OpQ.opL (qf_ 0 0) rfl ?_)
 refine F0 rfl rfl (OpQ.opL ql_ rfl ?_)
 refine F0 rfl rfl (OpQ.opL (H5 (sz := 1) rfl kR i0.rd) rfl ?_)
 refine F0 rfl rfl (OpQ.opL (qf_ 1 1) rfl ?_)
 refine F0 rfl rfl (OpQ.opL ql_ rfl ?_)
 refine F0 rfl rfl (OpQ.opL (H5 (sz := 1) rfl kR i1.rd) rfl ?_)
 refine F0 rfl rfl (OpQ.opL (E0 ((a.length + g.length : Nat) : Int) rfl rfl (G1 (by omega) (by omega) (by omega))) rfl ?_)
 refine F0 rfl rfl (OpQ.opL (qf_ 0 0) rfl ?_)
 refine F0 rfl rfl (OpQ.opL ql_ rfl ?_)
 refine F0 rfl rfl (OpQ.opL (H5 (sz := 1) rfl kR i2.rd) rfl ?_)
 refine F0 rfl rfl (OpQ.opL (E0 ((a.length + g.length + b.length : Nat) : Int) rfl rfl (G1 (by omega) (by omega) (by omega))) rfl ?_)
 refine F0 rfl rfl (OpQ.opL (qf_ 1 1) rfl ?_)
 refine F0 rfl rfl (OpQ.opL ql_ rfl ?_)
 refine F0 rfl rfl (OpQ.opL (H5 (sz := 1) rfl kR i3.rd) rfl ?_)
 refine F0 rfl rfl (OpQ.opL (E0 ((a.length + g.length + b.length + h.length : Nat) : Int) rfl rfl (G1 (by omega) (by omega) (by omega))) rfl ?_)
 refine F0 rfl rfl (OpQ.opL (F2 rfl rfl rfl) rfl ?_)
 refine A4 (F1 rfl rfl) rfl ?_
 refine A0 (F7 4 5 6 7 29) ?_
 refine C6 rfl (fun hc => ?_) (fun hc => ?_)
 ·
  refine A3 ?_
  refine F6 a0 kR (A6J _ hG.up) rfl ?_
  refine as_ (A0 (D5 8) (C1 (tr ?_)))
  exact ⟨_, [], [], I2 rfl rfl, List.nil_sublist _, by simp, rfl, rfl, rfl⟩
 ·
  have hlen : a.length + g.length + b.length + h.length ≤ 400 := by simp at hc; omega
  have ga := i0.by (by omega)
  have gg := i1.by (by omega)
  have gb := i2.by (by omega)
  have gh := i3.by (by omega)
  refine A9 (nx (E4 4 5 6 7) (A3 ?_))
  refine A4 (qf_ 0 0) rfl ?_
  refine A4 ql_ rfl ?_
  refine A4 (N1 rfl kR (ga.rd.mono SubC.sub)) rfl ?_
  refine A4 (qf_ 0 0) rfl ?_
  refine A4 ql_ rfl ?_
  refine A4 (N1 rfl kR (gb.rd.mono SubC.sub)) rfl ?_
  refine A4 (B0a rfl rfl rfl rfl ga.lt gb.lt) rfl ?_
  refine mv_ ?_
  refine U7 (t := 38) rfl (fun hb => ?_) (fun hb => ?_)
  ·
   have hsm : (decide (a = b) && decide (g = h)) = decide (g = h) := by rw [hb, Bool.true_and]
   refine F0 rfl rfl (OpQ.opL (qf_ 1 1) rfl ?_)
   refine F0 rfl rfl (OpQ.opL ql_ rfl ?_)
   refine F0 rfl rfl (OpQ.opL (N1 rfl kR (gg.rd.mono SubC.sub)) rfl ?_)
   refine F0 rfl rfl (OpQ.opL (qf_ 1 1) rfl ?_)
   refine F0 rfl rfl (OpQ.opL ql_ rfl ?_)
   refine F0 rfl rfl (OpQ.opL (N1 rfl kR (gh.rd.mono SubC.sub)) rfl ?_)
   refine F0 rfl rfl (OpQ.opL (B0a rfl rfl rfl rfl gg.lt gh.lt) rfl ?_)
   refine A4 (G8 rfl rfl) rfl ?_
   refine as_ (A0 (F7 4 5 6 7 9) ?_)
   refine H9 ([]) (_) true (.range 26) [(0, 1), (1, 1), (2, 1), (3, 1), (6, 1), (7, 1), (8, 1), (9, 1), (4, 3), (5, 3), (10, 3), (11, 3), (12, 4), (13, 0), (14, 1), (15, 1), (17, 0), (16, 2), (18, 0), (19, 0), (20, 0), (21, 1), (22, 1), (23, 2), (24, 0), (25, 0)] kR kR PickC.perm fun hs K n0 hKm hKs hKn => ?_
   refine N5 hs rfl hKs (qw_ 2) ?_
   refine N5 hs rfl hKs (qw_ 2) ?_
   refine N5 hs rfl hKs (qw_ 2) ?_
   refine N5 hs rfl hKs (qw_ 2) ?_
   refine N5 hs rfl hKs (qw_ 2) ?_
   refine N5 hs rfl hKs (qw_ 2) ?_
   refine N5 hs rfl hKs (qw_ 2) ?_
   refine N5 hs rfl hKs (qw_ 2) ?_
   refine A3c [⟨4, 51, fun v B R => B = [] ∧ By R v (A0i fu fd a g tu td b h)⟩, ⟨5, 52, fun v B _ => B = [] ∧ v = (.string (txt (A0i fu fd a g tu td b h)))⟩, ⟨10, 57, fun v B R => B = [] ∧ By R v (A0i fu fd a g tu td b h)⟩, ⟨11, 58, fun v B _ => B = [] ∧ v = (.string (txt (A0i fu fd a g tu td b h)))⟩, ⟨12, 59, fun v B _ => B = [] ∧ v = (.bool true)⟩]
    (C4 (fun _ _ _ _ hR h => ⟨h.1, h.2.mono hR⟩) (C4 (fun _ _ _ _ _ h => h) (C4 (fun _ _ _ _ hR h => ⟨h.1, h.2.mono hR⟩) (C4 (fun _ _ _ _ _ h => h) (C4 (fun _ _ _ _ _ h => h) (L3)))))) (show List.Nodup [51, 52, 57, 58, 59] by decide) (show List.Nodup [4, 5, 10, 11, 12] by decide) (C4 (C9 rfl) (C4 (C9 rfl) (C4 (C9 rfl) (C4 (C9 rfl) (C4 (C9 rfl) (L3))))))
    (C4 ⟨_, rfl, fun vs bs R w hb ha => ⟨.inl rfl, ?_⟩⟩ (C4 ⟨_, rfl, fun vs bs R w hb ha => ⟨.inl rfl, ?_⟩⟩ (C4 ⟨_, rfl, fun vs bs R w hb ha => ⟨.inl rfl, ?_⟩⟩ (C4 ⟨_, rfl, fun vs bs R w hb ha => ⟨.inl rfl, ?_⟩⟩ (C4 ⟨_, rfl, fun vs bs R w hb ha => ⟨.inl rfl, ?_⟩⟩ (L3)))))) ?_
   ·
    refine D3 (aS rfl (aS rfl (aS rfl (aS rfl (a0))))) kR (B5H fu fd tu td va vg vb vh a g b h _ (ga.mono (fun x hx => by have := hb x (by simp [hx]); simp [this])) (gg.mono (fun x hx => by have := hb x (by simp [hx]); simp [this])) (gb.mono (fun x hx => by have := hb x (by simp [hx]); simp [this])) (gh.mono (fun x hx => by have := hb x (by simp [hx]); simp [this])) (by omega)) rfl ?_
    rintro r M1 J1 ⟨rfl, hh⟩
    exact ⟨_, rfl, rfl, hh.mono fun x hx => by simp [hx]⟩
   ·
    have g4 := ha _ (List.mem_of_getElem? (i := 0) rfl) kR
    replace g4 : (fun v B R => B = [] ∧ By R v (A0i fu fd a g tu td b h)) (vs 4) (bs 4) R := g4
    dsimp only at g4
    obtain ⟨-, h2⟩ := g4
    exact OpQ.opL (N1 rfl kR (h2.rd.mono (fun x hx => by simp [hx]))) rfl ⟨_, rfl, rfl, rfl⟩
   ·
    refine D3 (aS rfl (aS rfl (aS rfl (aS rfl (a0))))) kR (A8U fu fd tu td va vg vb vh a g b h _ (ga.mono (fun x hx => by have := hb x (by simp [hx]); simp [this])) (gg.mono (fun x hx => by have := hb x (by simp [hx]); simp [this])) (gb.mono (fun x hx => by have := hb x (by simp [hx]); simp [this])) (gh.mono (fun x hx => by have := hb x (by simp [hx]); simp [this])) (by omega)) rfl ?_
    rintro r M1 J1 ⟨rfl, hh⟩
    exact ⟨_, rfl, rfl, hh.mono fun x hx => by simp [hx]⟩
   ·
    have g10 := ha _ (List.mem_of_getElem? (i := 2) rfl) kR
    replace g10 : (fun v B R => B = [] ∧ By R v (A0i fu fd a g tu td b h)) (vs 10) (bs 10) R := g10
    dsimp only at g10
    obtain ⟨-, h2⟩ := g10
    exact OpQ.opL (N1 rfl kR (h2.rd.mono (fun x hx => by simp [hx]))) rfl ⟨_, rfl, rfl, rfl⟩
   ·
    have g5 := ha _ (List.mem_of_getElem? (i := 1) rfl) kR
    replace g5 : (fun v B _ => B = [] ∧ v = (.string (txt (A0i fu fd a g tu td b h)))) (vs 5) (bs 5) R := g5
    dsimp only at g5
    have g11 := ha _ (List.mem_of_getElem? (i := 3) rfl) kR
    replace g11 : (fun v B _ => B = [] ∧ v = (.string (txt (A0i fu fd a g tu td b h)))) (vs 11) (bs 11) R := g11
    dsimp only at g11
    obtain ⟨-, e3⟩ := g5
    obtain ⟨-, e12⟩ := g11
    dsimp only [N6, List.map, List.cons_append, List.nil_append]
    rw [e3, e12]
    exact OpQ.opL (A7V rfl rfl rfl) rfl ⟨_, rfl, rfl, rfl⟩
   intro vs bs Jn0 hφ
   have g4 := ofH hφ
   dsimp only at g4
   replace hφ := ofT hφ
   have g5 := ofH hφ
   dsimp only at g5
   replace hφ := ofT hφ
   have g10 := ofH hφ
   dsimp only at g10
   replace hφ := ofT hφ
   have g11 := ofH hφ
   dsimp only at g11
   replace hφ := ofT hφ
   have g12 := ofH hφ
   dsimp only at g12
   clear hφ
   dsimp only [N6, H7, List.map, List.flatten, List.cons_append, List.nil_append]
   generalize bs 4 = B51 at *
   generalize bs 5 = B52 at *
   generalize bs 10 = B57 at *
   generalize bs 11 = B58 at *
   generalize bs 12 = B59 at *
   generalize vs 4 = u51 at *
   generalize vs 5 = u52 at *
   generalize vs 10 = u57 at *
   generalize vs 11 = u58 at *
   generalize vs 12 = u59 at *
   obtain ⟨rfl, rfl⟩ := g12
   refine km_ hs ?_
   refine A4O hs rfl rfl rfl rfl (by first | exact fun x hx => by rw [List.append_assoc]; exact List.mem_append_right _ hx | exact SubC.sub) hKs (qw_ 2) rfl ?_
   refine A4O hs rfl rfl rfl rfl (by first | exact fun x hx => by rw [List.append_assoc]; exact List.mem_append_right _ hx | exact SubC.sub) hKs (qw_ 2) rfl ?_
   refine A93 hs rfl rfl rfl rfl qm_ rfl ?_
   refine A95 [] _ rfl rfl rfl rfl (List.Perm.refl _) (fun _ h => by cases h) fun w0 => (R7 (aS rfl (aS rfl a0)) kR (A8R va vg vb vh a g b h _ (ga.mono SubC.sub) (gg.mono SubC.sub) (gb.mono SubC.sub) (gh.mono SubC.sub)) rfl fun _ => ?_)
   dsimp only [List.nil_append, List.append_eq]
   rw [hsm]
   refine A93 hs rfl rfl rfl rfl (A5z true rfl rfl kR (by simp)) rfl ?_
   refine I9 hs rfl (G8 rfl rfl) rfl ?_
   refine km_ hs ?_
   refine A4O hs rfl rfl rfl rfl (by first | exact fun x hx => by rw [List.append_assoc]; exact List.mem_append_right _ hx | exact SubC.sub) hKs (qw_ 2) rfl ?_
   refine A4O hs rfl rfl rfl rfl (by first | exact fun x hx => by rw [List.append_assoc]; exact List.mem_append_right _ hx | exact SubC.sub) hKs (qw_ 2) rfl ?_
   refine A95 [] _ rfl rfl rfl rfl (List.Perm.refl _) (fun _ h => by cases h) fun w0 => (R7 (aS rfl (aS rfl a0)) kR (A8R va vg va vg a g a g _ (ga.mono SubC.sub) (gg.mono SubC.sub) (ga.mono SubC.sub) (gg.mono SubC.sub)) rfl fun _ => ?_)
   dsimp only [List.nil_append, List.append_eq]
   rw [show (decide (a = a) && decide (g = g)) = true by simp]
   refine I9 hs rfl (G8 rfl rfl) rfl ?_
   refine I9 hs rfl (H6 rfl) rfl ?_
   refine P6 (D5 8) (C1 ?_)
   exact ⟨_, [], [], I2 rfl rfl, List.nil_sublist _, by simp, rfl, rfl, rfl⟩
  ·
   have hsm : (decide (a = b) && decide (g = h)) = false := by rw [hb, Bool.false_and]
   refine I4 rfl rfl rfl rfl ?_
   refine I4 rfl rfl rfl rfl ?_
   refine I4 rfl rfl rfl rfl ?_
   refine I4 rfl rfl rfl rfl ?_
   refine I4 rfl rfl rfl rfl ?_
   refine I4 rfl rfl rfl rfl ?_
   refine I4 rfl rfl rfl rfl ?_
   refine A4 (F1 rfl rfl) rfl ?_
   refine as_ (A0 (F7 4 5 6 7 9) ?_)
   refine H9 ([]) (_) true (.range 26) [(0, 1), (1, 1), (2, 1), (3, 1), (6, 1), (7, 1), (8, 1), (9, 1), (4, 3), (5, 3), (10, 3), (11, 3), (12, 4), (13, 0), (14, 1), (15, 1), (17, 0), (16, 2), (18, 0), (19, 0), (20, 0), (21, 1), (22, 1), (23, 2), (24, 0), (25, 0)] kR kR PickC.perm fun hs K n0 hKm hKs hKn => ?_
   refine N5 hs rfl hKs (qw_ 2) ?_
   refine N5 hs rfl hKs (qw_ 2) ?_
   refine N5 hs rfl hKs (qw_ 2) ?_
   refine N5 hs rfl hKs (qw_ 2) ?_
   refine N5 hs rfl hKs (qw_ 2) ?_
   refine N5 hs rfl hKs (qw_ 2) ?_
   refine N5 hs rfl hKs (qw_ 2) ?_
   refine N5 hs rfl hKs (qw_ 2) ?_
   refine A3c [⟨4, 51, fun v B R => B = [] ∧ By R v (A0i fu fd a g tu td b h)⟩, ⟨5, 52, fun v B _ => B = [] ∧ v = (.string (txt (A0i fu fd a g tu td b h)))⟩, ⟨10, 57, fun v B R => B = [] ∧ By R v (A0i fu fd a g tu td b h)⟩, ⟨11, 58, fun v B _ => B = [] ∧ v = (.string (txt (A0i fu fd a g tu td b h)))⟩, ⟨12, 59, fun v B _ => B = [] ∧ v = (.bool true)⟩]
    (C4 (fun _ _ _ _ hR h => ⟨h.1, h.2.mono hR⟩) (C4 (fun _ _ _ _ _ h => h) (C4 (fun _ _ _ _ hR h => ⟨h.1, h.2.mono hR⟩) (C4 (fun _ _ _ _ _ h => h) (C4 (fun _ _ _ _ _ h => h) (L3)))))) (show List.Nodup [51, 52, 57, 58, 59] by decide) (show List.Nodup [4, 5, 10, 11, 12] by decide) (C4 (C9 rfl) (C4 (C9 rfl) (C4 (C9 rfl) (C4 (C9 rfl) (C4 (C9 rfl) (L3))))))
    (C4 ⟨_, rfl, fun vs bs R w hb ha => ⟨.inl rfl, ?_⟩⟩ (C4 ⟨_, rfl, fun vs bs R w hb ha => ⟨.inl rfl, ?_⟩⟩ (C4 ⟨_, rfl, fun vs bs R w hb ha => ⟨.inl rfl, ?_⟩⟩ (C4 ⟨_, rfl, fun vs bs R w hb ha => ⟨.inl rfl, ?_⟩⟩ (C4 ⟨_, rfl, fun vs bs R w hb ha => ⟨.inl rfl, ?_⟩⟩ (L3)))))) ?_
   ·
    refine D3 (aS rfl (aS rfl (aS rfl (aS rfl (a0))))) kR (B5H fu fd tu td va vg vb vh a g b h _ (ga.mono (fun x hx => by have := hb x (by simp [hx]); simp [this])) (gg.mono (fun x hx => by have := hb x (by simp [hx]); simp [this])) (gb.mono (fun x hx => by have := hb x (by simp [hx]); simp [this])) (gh.mono (fun x hx => by have := hb x (by simp [hx]); simp [this])) (by omega)) rfl ?_
    rintro r M1 J1 ⟨rfl, hh⟩
    exact ⟨_, rfl, rfl, hh.mono fun x hx => by simp [hx]⟩
   ·
    have g4 := ha _ (List.mem_of_getElem? (i := 0) rfl) kR
    replace g4 : (fun v B R => B = [] ∧ By R v (A0i fu fd a g tu td b h)) (vs 4) (bs 4) R := g4
    dsimp only at g4
    obtain ⟨-, h2⟩ := g4
    exact OpQ.opL (N1 rfl kR (h2.rd.mono (fun x hx => by simp [hx]))) rfl ⟨_, rfl, rfl, rfl⟩
   ·
    refine D3 (aS rfl (aS rfl (aS rfl (aS rfl (a0))))) kR (A8U fu fd tu td va vg vb vh a g b h _ (ga.mono (fun x hx => by have := hb x (by simp [hx]); simp [this])) (gg.mono (fun x hx => by have := hb x (by simp [hx]); simp [this])) (gb.mono (fun x hx => by have := hb x (by simp [hx]); simp [this])) (gh.mono (fun x hx => by have := hb x (by simp [hx]); simp [this])) (by omega)) rfl ?_
    rintro r M1 J1 ⟨rfl, hh⟩
    exact ⟨_, rfl, rfl, hh.mono fun x hx => by simp [hx]⟩
   ·
    have g10 := ha _ (List.mem_of_getElem? (i := 2) rfl) kR
    replace g10 : (fun v B R => B = [] ∧ By R v (A0i fu fd a g tu td b h)) (vs 10) (bs 10) R := g10
    dsimp only at g10
    obtain ⟨-, h2⟩ := g10
    exact OpQ.opL (N1 rfl kR (h2.rd.mono (fun x hx => by simp [hx]))) rfl ⟨_, rfl, rfl, rfl⟩
   ·
    have g5 := ha _ (List.mem_of_getElem? (i := 1) rfl) kR
    replace g5 : (fun v B _ => B = [] ∧ v = (.string (txt (A0i fu fd a g tu td b h)))) (vs 5) (bs 5) R := g5
    dsimp only at g5
    have g11 := ha _ (List.mem_of_getElem? (i := 3) rfl) kR
    replace g11 : (fun v B _ => B = [] ∧ v = (.string (txt (A0i fu fd a g tu td b h)))) (vs 11) (bs 11) R := g11
    dsimp only at g11
    obtain ⟨-, e3⟩ := g5
    obtain ⟨-, e12⟩ := g11
    dsimp only [N6, List.map, List.cons_append, List.nil_append]
    rw [e3, e12]
    exact OpQ.opL (A7V rfl rfl rfl) rfl ⟨_, rfl, rfl, rfl⟩
   intro vs bs Jn0 hφ
   have g4 := ofH hφ
   dsimp only at g4
   replace hφ := ofT hφ
   have g5 := ofH hφ
   dsimp only at g5
   replace hφ := ofT hφ
   have g10 := ofH hφ
   dsimp only at g10
   replace hφ := ofT hφ
   have g11 := ofH hφ
   dsimp only at g11
   replace hφ := ofT hφ
   have g12 := ofH hφ
   dsimp only at g12
   clear hφ
   dsimp only [N6, H7, List.map, List.flatten, List.cons_append, List.nil_append]
   generalize bs 4 = B51 at *
   generalize bs 5 = B52 at *
   generalize bs 10 = B57 at *
   generalize bs 11 = B58 at *
   generalize bs 12 = B59 at *
   generalize vs 4 = u51 at *
   generalize vs 5 = u52 at *
   generalize vs 10 = u57 at *
   generalize vs 11 = u58 at *
   generalize vs 12 = u59 at *
   obtain ⟨rfl, rfl⟩ := g12
   refine km_ hs ?_
   refine A4O hs rfl rfl rfl rfl (by first | exact fun x hx => by rw [List.append_assoc]; exact List.mem_append_right _ hx | exact SubC.sub) hKs (qw_ 2) rfl ?_
   refine A4O hs rfl rfl rfl rfl (by first | exact fun x hx => by rw [List.append_assoc]; exact List.mem_append_right _ hx | exact SubC.sub) hKs (qw_ 2) rfl ?_
   refine A93 hs rfl rfl rfl rfl qm_ rfl ?_
   refine A95 [] _ rfl rfl rfl rfl (List.Perm.refl _) (fun _ h => by cases h) fun w0 => (R7 (aS rfl (aS rfl a0)) kR (A8R va vg vb vh a g b h _ (ga.mono SubC.sub) (gg.mono SubC.sub) (gb.mono SubC.sub) (gh.mono SubC.sub)) rfl fun _ => ?_)
   dsimp only [List.nil_append, List.append_eq]
   rw [hsm]
   refine A93 hs rfl rfl rfl rfl (A5z true rfl rfl kR (by simp)) rfl ?_
   refine I9 hs rfl (G8 rfl rfl) rfl ?_
   refine km_ hs ?_
   refine A4O hs rfl rfl rfl rfl (by first | exact fun x hx => by rw [List.append_assoc]; exact List.mem_append_right _ hx | exact SubC.sub) hKs (qw_ 2) rfl ?_
   refine A4O hs rfl rfl rfl rfl (by first | exact fun x hx => by rw [List.append_assoc]; exact List.mem_append_right _ hx | exact SubC.sub) hKs (qw_ 2) rfl ?_
   refine A95 [] _ rfl rfl rfl rfl (List.Perm.refl _) (fun _ h => by cases h) fun w0 => (R7 (aS rfl (aS rfl a0)) kR (A8R va vg va vg a g a g _ (ga.mono SubC.sub) (gg.mono SubC.sub) (ga.mono SubC.sub) (gg.mono SubC.sub)) rfl fun _ => ?_)
   dsimp only [List.nil_append, List.append_eq]
   rw [show (decide (a = a) && decide (g = g)) = true by simp]
   refine I9 hs rfl (G8 rfl rfl) rfl ?_
   refine I9 hs rfl (H6 rfl) rfl ?_
   refine P6 (D5 8) (C1 ?_)
   exact ⟨_, [], [], I2 rfl rfl, List.nil_sublist _, by simp, rfl, rfl, rfl⟩

section
variable {H : Type} {enc : TypeId × Value → H} {P : Program} {w : World} {spare : Nat → Bool} {held : Bool} {fuel : Nat} {t e : TypeId} {cs : List Value} {x : DataW H × List MemPlace} {v : Value} {d : DataW H} {p : List MemPlace} {r : Reach} {base : Nat} {k : IntKind}
end
theorem A5v {P : Program} {W : World} {name : String} {g : Nat} {cs : Array Value} (hg : P.globalNamed name = some g) (h : W.var? P name = some cs) : ∃ e fr, W.heap[g]? = some (.cells cs e fr) := by
  unfold World.var? at h
  rw [hg] at h
  simp only [Option.bind_some] at h
  split at h
  · rename_i c e fr hh
    cases h
    exact ⟨e, fr, hh⟩
  · cases h
def B2p (ws : List Nat) : List Int := ws.map fun n : Nat => (n : Int)
theorem A4w (k : IntKind) (ws : List Nat) : ((B2p ws).map fun z => Value.int k z).toArray = (nums k ws).toArray := by simp [B2p, nums]
theorem B7X {W : World} {a b : String × DataW Unit} {rest : List (String × DataW Unit)} (h : laidMet Tryz.prog (a :: b :: ("internal/strconv.uint64pow10", Rows.laid_internal_strconv_uint64pow10) :: rest) W) : ∃ e fr, W.heap[2]? = some (Obj.cells (nums .u64 A0x).toArray e fr) := by
  have h' : laidMet Tryz.prog (("internal/strconv.uint64pow10", Lib.tabData .u64 (B2p A0x)) :: rest) W := h.tail.tail
  have h1 := Lib.tabIs_of_head (g := 2) (t := 305) (e := 143) (n := 20) (by kernel_rfl) (by kernel_rfl) (by kernel_rfl) (by kernel_rfl) (by kernel_rfl) (by kernel_rfl) h'
  obtain ⟨ek, fk, h3⟩ := A5v (g := 2) (by kernel_rfl) h1
  rw [A4w] at h3
  exact ⟨ek, fk, h3⟩
end Go.Proofs.YthbhpfefdnffaaaGreatDoor

namespace Go.Proofs.YthbhpfefdnffaaaGreatDoor
open Go.Px Go.ChangeShapes Go.WideShapes Go.ChangeAt Go.RowKit
theorem A6M {H : Type} {enc : TypeId × Value → H} {w : World} {spare : Nat → Bool} {held : Bool} {r : Reach} {base : Nat} {v : Value} {d : DataW H} {p : List MemPlace} (hv : Value.okWide Tryz.prog w r base 29 v) (h : DataW.Trod enc Tryz.prog w 0 spare held 29 v d p) (hz : ∀ n ∈ d.weights Tryz.prog 29, n ≤ reachBytes) :
    ∃ (a0 : Value) (wa0 : List Nat) (a1 : Value) (wa1 : List Nat), v = .agg #[a0, a1] ∧ Px.Byz (Px.heapA w) a0 wa0 ∧ Px.Byz (Px.heapA w) a1 wa1 ∧ True := by
  obtain ⟨cs0, rfl, _⟩ := okWide_struct Tryz.underlying29 hv
  obtain ⟨fu, hm⟩ := h
  have hcs : (Value.agg cs0).cells.toList = cs0.toList := by simp [Value.cells]
  rw [hcs] at hm
  obtain ⟨l0, hl0⟩ : ∃ l, l = cs0.toList := ⟨_, rfl⟩
  rw [← hl0] at hm
  obtain ⟨_, _, _, _, h1, _, _⟩ := DataW.trod_struct Tryz.underlying29 hm
  rw [show Tryz.prog.cellsOf 29 = 2 from by kernel_rfl] at h1
  match l0, h1 with
  | [c0, c1], _ =>
    obtain ⟨me0, ye0, e0, ze0⟩ := Px.st_fieldZ Tryz.underlying29 hm hz 0 _ rfl (tf := 27) (o := 0) (c := 1) rfl rfl (by kernel_rfl)
    change DataW.trod enc Tryz.prog w 0 spare held _ 27 [c0] = _ at e0
    obtain ⟨a0, wa0, q0, bya0⟩ := Px.in_bytesZ Tryz.underlying27 Tryz.underlying5 (by kernel_rfl) (by kernel_rfl) e0 ze0
    obtain rfl : c0 = _ := (List.cons.inj q0).1
    obtain ⟨me1, ye1, e1, ze1⟩ := Px.st_fieldZ Tryz.underlying29 hm hz 1 _ rfl (tf := 27) (o := 1) (c := 1) rfl rfl (by kernel_rfl)
    change DataW.trod enc Tryz.prog w 0 spare held _ 27 [c1] = _ at e1
    obtain ⟨a1, wa1, q1, bya1⟩ := Px.in_bytesZ Tryz.underlying27 Tryz.underlying5 (by kernel_rfl) (by kernel_rfl) e1 ze1
    obtain rfl : c1 = _ := (List.cons.inj q1).1
    exact ⟨c0, wa0, c1, wa1, by rw [← Array.toArray_toList (xs := cs0), ← hl0], bya0, bya1, trivial⟩
theorem B2q {H : Type} {enc : TypeId × Value → H} {w : World} {spare : Nat → Bool} {held : Bool} {r : Reach} {base : Nat} {v : Value} {d : DataW H} {p : List MemPlace} (hv : Value.okWide Tryz.prog w r base 26 v) (h : DataW.Trod enc Tryz.prog w 0 spare held 26 v d p) (hz : ∀ n ∈ d.weights Tryz.prog 26, n ≤ reachBytes) :
    ∃ (a0 : Int) (a1 : Int), v = .agg #[.int .i64 a0, .int .i64 a1] ∧ (Lit.int .i64 a0).wf = true ∧ (Lit.int .i64 a1).wf = true ∧ True := by
  obtain ⟨cs0, rfl, _⟩ := okWide_struct Tryz.underlying26 hv
  obtain ⟨fu, hm⟩ := h
  have hcs : (Value.agg cs0).cells.toList = cs0.toList := by simp [Value.cells]
  rw [hcs] at hm
  obtain ⟨l0, hl0⟩ : ∃ l, l = cs0.toList := ⟨_, rfl⟩
  rw [← hl0] at hm
  obtain ⟨_, _, _, _, h1, _, _⟩ := DataW.trod_struct Tryz.underlying26 hm
  rw [show Tryz.prog.cellsOf 26 = 2 from by kernel_rfl] at h1
  match l0, h1 with
  | [c0, c1], _ =>
    obtain ⟨me0, ye0, e0, ze0⟩ := Px.st_fieldZ Tryz.underlying26 hm hz 0 _ rfl (tf := 3) (o := 0) (c := 1) rfl rfl (by kernel_rfl)
    change DataW.trod enc Tryz.prog w 0 spare held _ 3 [c0] = _ at e0
    obtain ⟨a0, q0, _, wfa0⟩ := DataW.trod_int Tryz.underlying3 e0
    obtain rfl : c0 = _ := (List.cons.inj q0).1
    obtain ⟨me1, ye1, e1, ze1⟩ := Px.st_fieldZ Tryz.underlying26 hm hz 1 _ rfl (tf := 3) (o := 1) (c := 1) rfl rfl (by kernel_rfl)
    change DataW.trod enc Tryz.prog w 0 spare held _ 3 [c1] = _ at e1
    obtain ⟨a1, q1, _, wfa1⟩ := DataW.trod_int Tryz.underlying3 e1
    obtain rfl : c1 = _ := (List.cons.inj q1).1
    exact ⟨a0, a1, by rw [← Array.toArray_toList (xs := cs0), ← hl0], wfa0, wfa1, trivial⟩

theorem B9Q {W : World} {a b : String × DataW Unit} {rest : List (String × DataW Unit)} (h : laidMet Tryz.prog (a :: b :: ("internal/strconv.uint64pow10", Rows.laid_internal_strconv_uint64pow10) :: ("pawl/sha.round", Rows.laid_pawl_sha_round) :: ("pawl/sha.first", Rows.laid_pawl_sha_first) :: rest) W) : Glb (heapA W) := by
  obtain ⟨e4, f4, h4⟩ := B7X h
  have h' : laidMet Tryz.prog (("pawl/sha.round", Lib.tabData .u32 (B2p A20)) :: ("pawl/sha.first", Lib.tabData .u32 (B2p A21.list)) :: rest) W := h.tail.tail.tail
  have h1 := Lib.tabIs_of_head (g := 1) (t := 265) (e := 30) (n := 64) (by kernel_rfl) (by kernel_rfl) (by kernel_rfl) (by kernel_rfl) (by kernel_rfl) (by kernel_rfl) h'
  have h2 := Lib.tabIs_of_head (g := 0) (t := 222) (e := 30) (n := 8) (by kernel_rfl) (by kernel_rfl) (by kernel_rfl) (by kernel_rfl) (by kernel_rfl) (by kernel_rfl) h'.tail
  obtain ⟨ek, fk, h3⟩ := A5v (g := 1) (by kernel_rfl) h1
  obtain ⟨ef, ff, h5⟩ := A5v (g := 0) (by kernel_rfl) h2
  rw [A4w] at h3 h5
  exact ⟨⟨ef, ff, A0L.2 h5⟩, ⟨ek, fk, A0L.2 h3⟩, ⟨e4, f4, A0L.2 h4⟩⟩
end Go.Proofs.YthbhpfefdnffaaaGreatDoor

namespace Go.Proofs.YthbhpfefdnffaaaGreatDoor.agreeWiths
open Go.ChangeShapes Go.WideShapes Go.ChangeAt Go.RowKit
theorem own : ownKnob Tryz.prog.godebug = none := by kernel_rfl
theorem laidOut : laidOutB Tryz.prog = true := by kernel_rfl
noncomputable def laidWorld (os : Os) : World := World.laidAll Tryz.prog os Rows.agreeWithsRow.laid
theorem laid_met (os : Os) : laidMetH Tryz.prog Rows.agreeWithsRow.laid ((laidWorld os).forCall (fun _ _ => 0) ⟨#[], #[.agg #[.int .i64 0, .int .i64 0], .agg #[.int .i64 0, .int .i64 0], .agg #[.slice none 0 0, .slice none 0 0], .agg #[.slice none 0 0, .slice none 0 0]], []⟩).memory := by
  rw [MakeChecks.laidMetH_plain _ _ _ (by kernel_rfl)]; exact laidMet_laidAll _ (by kernel_rfl) (by kernel_rfl)
theorem reads (os : Os) {H : Type} (enc : TypeId × Value → H) : ∃ places, DataW.whole enc Tryz.prog ((laidWorld os).forCall (fun _ _ => 0) ⟨#[], #[.agg #[.int .i64 0, .int .i64 0], .agg #[.int .i64 0, .int .i64 0], .agg #[.slice none 0 0, .slice none 0 0], .agg #[.slice none 0 0, .slice none 0 0]], []⟩).memory Tryz.f8.params.toList Rows.agreeWithsSpec.vars false (#[.agg #[.int .i64 0, .int .i64 0], .agg #[.int .i64 0, .int .i64 0], .agg #[.slice none 0 0, .slice none 0 0], .agg #[.slice none 0 0, .slice none 0 0]] : Array Value).toList 8 = some ([.agg [.lit (.int .i64 0), .lit (.int .i64 0)], .agg [.lit (.int .i64 0), .lit (.int .i64 0)], .agg [.nil, .nil], .agg [.nil, .nil]], [], places) :=
  ⟨[], by kernel_rfl⟩
theorem lifted (os : Os) (started : os.Started) (H : Type) (enc : TypeId × Value → H) (F : Stop.Interp) :
    ReturnsInHanded {} Tryz.checked os 8 .any ((OpenSpec.ofChange Rows.agreeWithsSpec).preRow enc Tryz.prog Tryz.f8 Rows.agreeWithsRow.domain false Rows.agreeWithsRow.laid) (((OpenSpec.ofChange Rows.agreeWithsSpec).at F).post enc Tryz.prog Tryz.f8 false true false false) := by
  obtain ⟨places, hx⟩ := reads os enc
  refine returnsInHanded_of_row (C := Tryz.checked) (s := (OpenSpec.ofChange Rows.agreeWithsSpec)) own started (by kernel_rfl) Tryz.func8
    (witness_row_at (enc := enc) (C := Tryz.checked) false (laidWorld os) #[.agg #[.int .i64 0, .int .i64 0], .agg #[.int .i64 0, .int .i64 0], .agg #[.slice none 0 0, .slice none 0 0], .agg #[.slice none 0 0, .slice none 0 0]] (World.laidAll_os _ _ _) (by kernel_rfl) (by kernel_rfl) (by kernel_rfl)
      (OpenSpec.preRow_of_cond 8 hx (by kernel_rfl) (fun k hk => by cases hk) (by kernel_rfl) (laid_met os))) ?_
  intro W base args ds gs before hval0 hW _ _ hsz hL _ _
  have hval : ∀ (j : Nat) t v, Tryz.f8.params[j]? = some t → args[j]? = some v → Value.okWide Tryz.prog W .any base t v := hval0
  have hW' := hW
  obtain ⟨p, q, hA0, hV, rfl, hfz, hnd⟩ := hW
  have hA : DataW.TrodAll enc Tryz.prog W 0 (fun _ => true) true Tryz.f8.params.toList args.toList ds p := hA0
  rw [Tryz.params8] at hA hval hsz
  obtain ⟨v0, vs0, d0, ds0, p0, q0, hargs, rfl, rfl, k0, r0_⟩ := trodAll_cons hA
  obtain ⟨v1, vs1, d1, ds1, p1, q1, rfl, rfl, rfl, k1, r1_⟩ := trodAll_cons r0_
  obtain ⟨v2, vs2, d2, ds2, p2, q2, rfl, rfl, rfl, k2, r2_⟩ := trodAll_cons r1_
  obtain ⟨v3, vs3, d3, ds3, p3, q3, rfl, rfl, rfl, k3, r3_⟩ := trodAll_cons r2_
  obtain ⟨rfl, rfl, rfl⟩ := trodAll_nil r3_
  obtain rfl : args = #[v0, v1, v2, v3] := by cases args; simp_all
  obtain ⟨rfl, rfl⟩ := trodVars_none hV
  have lt0 : ∀ x ∈ p0, x.block < W.heap.size := by obtain ⟨m, hm⟩ := k0; exact DataW.trod_lt m _ _ _ hm
  have lt1 : ∀ x ∈ p1, x.block < W.heap.size := by obtain ⟨m, hm⟩ := k1; exact DataW.trod_lt m _ _ _ hm
  have lt2 : ∀ x ∈ p2, x.block < W.heap.size := by obtain ⟨m, hm⟩ := k2; exact DataW.trod_lt m _ _ _ hm
  have lt3 : ∀ x ∈ p3, x.block < W.heap.size := by obtain ⟨m, hm⟩ := k3; exact DataW.trod_lt m _ _ _ hm
  obtain ⟨x0_0, x0_1, rfl, hx0_0, hx0_1, _⟩ := B2q (hval 0 26 v0 rfl rfl) k0 (fun n hn => of_decide_eq_true (List.all_eq_true.1 hsz n (DataW.weights_mem_each (j := 0) (t := 26) rfl rfl n hn)))
  obtain ⟨x1_0, x1_1, rfl, hx1_0, hx1_1, _⟩ := B2q (hval 1 26 v1 rfl rfl) k1 (fun n hn => of_decide_eq_true (List.all_eq_true.1 hsz n (DataW.weights_mem_each (j := 1) (t := 26) rfl rfl n hn)))
  obtain ⟨x2_0, wx2_0, x2_1, wx2_1, rfl, byx2_0, byx2_1, _⟩ := A6M (hval 2 29 v2 rfl rfl) k2 (fun n hn => of_decide_eq_true (List.all_eq_true.1 hsz n (DataW.weights_mem_each (j := 2) (t := 29) rfl rfl n hn)))
  obtain ⟨x3_0, wx3_0, x3_1, wx3_1, rfl, byx3_0, byx3_1, _⟩ := A6M (hval 3 29 v3 rfl rfl) k3 (fun n hn => of_decide_eq_true (List.all_eq_true.1 hsz n (DataW.weights_mem_each (j := 3) (t := 29) rfl rfl n hn)))
  clear hA0 hval0
  rw [MakeChecks.laidMetH_plain _ _ _ (by kernel_rfl)] at hL
  have hG := B9Q hL
  refine Calls.mono ((A6L x0_0 x0_1 x1_0 x1_1 x2_0 x2_1 x3_0 x3_1 wx2_0 wx2_1 wx3_0 wx3_1 _ byx2_0.toByi byx2_1.toByi byx3_0.toByi byx3_1.toByi byx2_0.sz byx2_1.sz byx3_0.sz byx3_1.sz hG).calls (Px.heapA_fx W)) fun e W' ⟨he, bel⟩ => ?_
  subst he
  exact ⟨_, rfl, _, _, _, [], _, [], hW', trodAll_mk1 (shut_bool Tryz.underlying4 _), (trodAll_cons_mk (Below.trod laidOut (by kernel_rfl) (of_decide_eq_true (by kernel_rfl)) k0 bel lt0) (trodAll_cons_mk (Below.trod laidOut (by kernel_rfl) (of_decide_eq_true (by kernel_rfl)) k1 bel lt1) (trodAll_cons_mk (Below.trod laidOut (by kernel_rfl) (of_decide_eq_true (by kernel_rfl)) k2 bel lt2) (trodAll_cons_mk (Below.trod laidOut (by kernel_rfl) (of_decide_eq_true (by kernel_rfl)) k3 bel lt3) trodAll_mk0)))), rfl, bel.frame _, fun h => by cases h⟩
theorem said : Rows.AgreeWithsSaid :=
  OpenClaim.holds_of_cond 8 Tryz.f8 rfl rfl rfl rfl rfl rfl rfl ⟨rfl, rfl, rfl, rfl, rfl⟩ rfl rfl rfl rfl rfl (by kernel_rfl) Tryz.func8 (by kernel_rfl)
    (of_decide_eq_true (by kernel_rfl)) (by unfold Func.isWrapper; first | (rw [if_pos (by decide +kernel)]; kernel_rfl) | (rw [if_neg (by decide +kernel)]; exact ⟨rfl, rfl⟩))
    (fun os started H enc _ F => by rw [OpenClaim.pre_eq_preRow]; exact lifted os started H enc F)
theorem plain (f : FuncId) (fn : Func) (hf : Tryz.pinned.checked.prog.funcNamed "pawl/pawllaw13.AgreeWiths" = some f) (hfn : Tryz.pinned.checked.prog.funcs[f]? = some fn) :
    true = Tryz.pinned.checked.prog.looks [] ∧ ∀ (j : Nat) t, fn.params[j]? = some t → Tryz.pinned.checked.prog.wantsStandIn t = false := by
  obtain rfl : f = 8 := Option.some.inj ((show Tryz.prog.funcNamed "pawl/pawllaw13.AgreeWiths" = some 8 by kernel_rfl).symm.trans hf) |>.symm
  obtain rfl : fn = Tryz.f8 := (Option.some.inj (Tryz.func8.symm.trans hfn)).symm
  refine ⟨by kernel_rfl, fun j t ht => ?_⟩
  rw [Tryz.params8] at ht
  have hm := Array.mem_of_getElem? ht
  simp only [List.mem_toArray, List.mem_cons, List.not_mem_nil, or_false] at hm
  rcases hm with rfl | rfl | rfl | rfl
  · exact (show Tryz.prog.wantsStandIn 26 = false by kernel_rfl)
  · exact (show Tryz.prog.wantsStandIn 26 = false by kernel_rfl)
  · exact (show Tryz.prog.wantsStandIn 29 = false by kernel_rfl)
  · exact (show Tryz.prog.wantsStandIn 29 = false by kernel_rfl)
theorem proved : Rows.AgreeWithsCardSaid :=
  Claim7.holds_tied_plain_at .later [] _ _ _ _ said (fun _ h => by cases h) (by kernel_rfl) (fun _ h => by cases h) agreeWiths_row_tie rfl ⟨rfl, rfl⟩ (by kernel_rfl) rfl plain (by kernel_rfl)
#print axioms proved
end Go.Proofs.YthbhpfefdnffaaaGreatDoor.agreeWiths

