/- Part 18 of the texts of this claim, one behind the other. -/
import Derived.Test.YthbhpfefdnffaaaGreatDoorB17
import Derived.Laws.StructEq
set_option linter.unusedVariables false
set_option linter.unusedSimpArgs false
set_option maxRecDepth 100000
namespace Go.Proofs.YthbhpfefdnffaaaGreatDoor
open Go.Px
noncomputable def idS (k : Ks) (s : Ps) : Ps := H6 (H6 s k.agree) k.sign
noncomputable def idA (k : Ks) (s : Ps) : List Nat := K9 s k.agree
noncomputable def idG (k : Ks) (s : Ps) : List Nat := B7W (H6 s k.agree) k.sign
theorem A1A (k : Ks) (s : Ps) : (idS k s).ts.length ≤ s.ts.length + 4 := by
  have h1 := N2 s k.agree
  have h2 := N2 (H6 s k.agree) k.sign
  unfold idS; omega
theorem A5s (k : Ks) (s : Ps) : (V6 k s).2.ts.length ≤ s.ts.length + 5 ∧ (V6 k s).2.n = s.n + 1 := by
  have h1 := K8 s
  have h2 := N2 (D3 s) (D6 s)
  have h3 := B4o (H6 (D3 s) (D6 s)) k.sign (A5F k.next (K9 (D3 s) (D6 s)))
  have h4 := B9q (H6 (D3 s) (D6 s)) k.sign (A5F k.next (K9 (D3 s) (D6 s)))
  have h5 := A0U (D3 s) (D6 s)
  show (B1I k s).ts.length ≤ _ ∧ (B1I k s).n = _
  unfold B1I
  omega
theorem A9z (k : Ks) (s : Ps) : (V6 k s).1.next = k.next + 1 := rfl
theorem B4p (k : Ks) (s : Ps) : (A1z k s).2.ts.length ≤ s.ts.length + 4 ∧ (A1z k s).2.n ≤ s.n + 4 ∧ (A1z k s).1.next ≤ k.next + 4 := by
  have h1 := A2X k s (4 - k.once.length)
  have h2 := A0n k s (4 - k.once.length)
  unfold A1z
  omega
def k0N (u d : Int) (s : Ps) : Ks := ⟨u, d, D6 s, D6 (D3 s), [], [], 1, []⟩
noncomputable def A2x (u d : Int) (s : Ps) : Ks × Ps := A1z (V6 (k0N u d s) (D3 (D3 s))).1 (V6 (k0N u d s) (D3 (D3 s))).2
theorem A5t (u d : Int) (s : Ps) : (A2x u d s).2.ts.length ≤ s.ts.length + 11 ∧ (A2x u d s).2.n ≤ s.n + 7 ∧ (A2x u d s).1.next ≤ 6 := by
  have h1 := K8 s
  have h2 := K8 (D3 s)
  have h3 := A5s (k0N u d s) (D3 (D3 s))
  have h4 := B4p (V6 (k0N u d s) (D3 (D3 s))).1 (V6 (k0N u d s) (D3 (D3 s))).2
  have h5 : (V6 (k0N u d s) (D3 (D3 s))).1.next = 2 := rfl
  unfold A2x
  omega
structure Bn where
  user : Int
  dev : Int
  ia : List Nat
  ig : List Nat
  signed : Nat
  key : List Nat
  sig : List Nat
  has : Bool
  once : Nat
  oncek : List Nat
def bnR (R : Mem) (x : Bn) (r : List Value) : Prop := ∃ va vg vk vs vo, r = [.int .i64 x.user, .int .i64 x.dev, va, vg, .int .u32 ((x.signed : Nat) : Int), vk, vs, .bool x.has, .int .u32 ((x.once : Nat) : Int), vo] ∧ By R va x.ia ∧ By R vg x.ig ∧ By R vk x.key ∧ By R vs x.sig ∧ By R vo x.oncek ∧ x.signed < 4294967296 ∧ x.once < 4294967296
theorem bnT : RowT 10 bnR := ⟨fun R R' x r hR ⟨va, vg, vk, vs, vo, h1, h2, h3, h4, h5, h6, h7⟩ => ⟨va, vg, vk, vs, vo, h1, h2.mono hR, h3.mono hR, h4.mono hR, h5.mono hR, h6.mono hR, h7⟩, fun R x r ⟨va, vg, vk, vs, vo, h1, _⟩ => by rw [h1]; rfl, fun R x r ⟨va, vg, vk, vs, vo, h1, h2, h3, h4, h5, h6, _⟩ => by
  rw [h1]
  exact C1 rfl (C1 rfl (C1 h2.one (C1 h3.one (C1 rfl (C1 h4.one (C1 h5.one (C1 rfl (C1 rfl (C1 h6.one K3)))))))))⟩
noncomputable def A5u (k : Ks) (x : Pr) (s : Ps) : Bn := ⟨k.user, k.dev, idA k s, idG k s, x.n, K9 (idS k s) x.sec, x.sig, false, 0, []⟩
noncomputable def A0p (b : Bn) (l : List Pr) (s : Ps) : Nat → List Bn × Ps
  | 0 => ([b], s)
  | i + 1 => match l[i]? with
    | none => A0p b l s i
    | some o => ((A0p b l s i).1 ++ [{ b with has := true, once := o.n, oncek := K9 (A0p b l s i).2 o.sec }], H6 (A0p b l s i).2 o.sec)
theorem A0o {b : Bn} {l : List Pr} {s : Ps} {i : Nat} {o : Pr} (h : l[i]? = some o) : A0p b l s (i + 1) = ((A0p b l s i).1 ++ [{ b with has := true, once := o.n, oncek := K9 (A0p b l s i).2 o.sec }], H6 (A0p b l s i).2 o.sec) := by
  simp only [A0p, h]
theorem A0A {b : Bn} {l : List Pr} {s : Ps} : ∀ {i : Nat}, i ≤ l.length → (A0p b l s i).1.length = i + 1 ∧ (A0p b l s i).2.ts.length ≤ s.ts.length + 2 * i
  | 0, _ => ⟨rfl, Nat.le_refl _⟩
  | i + 1, h => by
    have ih := A0A (b := b) (s := s) (i := i) (l := l) (by omega)
    rw [A0o (List.getElem?_eq_getElem (by omega))]
    have h2 := N2 (A0p b l s i).2 (l[i]'(by omega)).sec
    refine ⟨by simp [ih.1], ?_⟩
    show (H6 _ _).ts.length ≤ _
    omega
noncomputable def I1 (k : Ks) (s : Ps) : List Bn × Ps := match k.signed with
  | [] => ([], s)
  | x :: _ => A0p (A5u k x s) k.once (H6 (idS k s) x.sec) k.once.length
theorem A7E (pb : Nat) (s : Ps) (kb : Nat) (k : Ks) (va vg vq vo vm : Value) (rs ro rm : List (List Value)) (MP A : Mem) (hK : KyR A kb k va vg vq vo vm rs ro rm) (hP : Prm pb s MP) (hn : s.ts.length + 100 ≤ 1048576) (hG : Glb A) : FnX Tryz.prog 19 [.pointer (some ⟨kb, 0, none⟩), .pointer (some ⟨pb, 0, none⟩)] MP A fun q M J => Prm pb (idS k s) M ∧ ∃ p r, q = .agg #[p, r] ∧ By J p (idA k s) ∧ By J r (idG k s) := by
 have hkb := hK.blk_
 haveI := hK.agree.cel
 haveI := hK.sign.cel
 haveI := hK.signed.cel
 haveI := hK.once.cel
 haveI := hK.met.cel
 have pl := N2 s k.agree
 refine FnX.enterZ (N := 21) Tryz.func19 rfl rfl rfl fun w_ => ?_
 refine C4 (D5 0 1) (A3 ?_)
 refine A6 rfl (C5 (cs := [.slice none 0 0, .slice none 0 0]) kR rfl fun b4 => ?_)
 refine A0 (E1 0 1 4) (A5 (A3 (mv_ ?_)))
 refine A4 (F0 (e := 114) rfl rfl kR) rfl ?_
 refine A0 (E7 0 1 4 6) ?_
 refine D4 rfl ?_
 refine A9 (nx (E1 0 1 4) ?_)
 refine H5 (MP) (_) true (.range 13) [(0, 0), (1, 0), (2, 0), (3, 0), (4, 1), (6, 0), (7, 0), (8, 0), (9, 0), (10, 1), (5, 2), (11, 2), (12, 0), (13, 2)] kR kR PickC.perm fun hs K n0 hKm hKs hKn => ?_
 refine km_ hs ?_
 refine km_ hs ?_
 refine I0 hs rfl (F5 rfl) rfl ?_
 refine I0 hs rfl (qf_ 2 2) rfl ?_
 refine P0 hs rfl hKs (I2 rfl kR (mA hkb) (by rfl)) ?_
 refine km_ hs ?_
 refine km_ hs ?_
 refine I0 hs rfl (F5 rfl) rfl ?_
 refine I0 hs rfl (qf_ 3 3) rfl ?_
 refine P0 hs rfl hKs (I2 rfl kR (mA hkb) (by rfl)) ?_
 refine K0 _ _ rfl rfl (List.Perm.refl _) hKm fun w0 => (E0 (Mc := MP) (R := _) (aS rfl (aS rfl (a0))) kR PickC.perm (W5 pb s va k.agree MP _ hP (by omega) (hK.agree.mono SubC.sub) hG.up) rfl ?_)
 rintro v13 M13 J13 ⟨hP13, h13⟩ hKx13
 haveI := h13.cel
 refine K0 M13 _ rfl rfl PickC.perm (fun x hx => hKx13 (hKn rfl) x (by simpa using hx)) fun w0 => (E0 (Mc := M13) (R := _) (aS rfl (aS rfl (a0))) kR PickC.perm (B1s pb (H6 s k.agree) vg k.sign M13 _ hP13 (by omega) (hK.sign.mono SubC.sub) hG.up) rfl ?_)
 rintro v19 M19 J19 ⟨hP19, h19⟩ hKx19
 haveI := h19.cel
 refine I0 hs rfl (F3 (place := fun x => #[(0, 1), (1, 1)][x]?) (z := [.slice none 0 0, .slice none 0 0]) (fun _ => by kernel_rfl) (eS rfl (eS rfl e0)) (bdS 0 1 rfl (by rfl) (bdS 1 1 rfl (by rfl) bd0))) rfl ?_
 refine N5 rfl rfl rfl (A8 (vs := [v13, v19]) rfl rfl rfl kR (by rfl) (C1 h13.one (C1 h19.one K3)) UpC.upd ?_)
 refine N6 (D8 4) (C2 ?_)
 exact ⟨_, M19, [], A1k rfl rfl kR At.mem (by rfl), Fit.none (Fit.last PickC.perm), hP19, _, _, rfl, h13.mono SubC.sub, h19.mono SubC.sub⟩
theorem B7A (u d : Int) (pb : Nat) (s : Ps) (MP A : Mem) (hP : Prm pb s MP) (hn : s.ts.length + 200 ≤ 1048576) (hk : s.n + 100 < 1000000000) (hG : Glb A) : FnX Tryz.prog 22 [.pointer (some ⟨pb, 0, none⟩), .agg #[.int .i64 u, .int .i64 d]] MP A fun q M J => ∃ kb MK MP2, q = .pointer (some ⟨kb, 0, none⟩) ∧ M = MK ++ MP2 ∧ Kys (J ++ A) kb (A2x u d s).1 MK ∧ Prm pb (A2x u d s).2 MP2 := by
 have f1 := K8 s
 have f2 := K8 (D3 s)
 have f3 := A5s (k0N u d s) (D3 (D3 s))
 refine FnX.enterZ (N := 20) Tryz.func22 rfl rfl rfl fun w_ => ?_
 refine C4 (D5 0 1) (A3 ?_)
 refine A6 rfl (bx_ fun b3 => ?_)
 refine as_ (A0 (D5 0 3) ?_)
 refine H5 (MP) (_) true (.range 8) [(0, 1), (1, 0), (3, 0), (2, 2), (4, 2), (5, 0), (6, 2), (7, 0)] kR kR PickC.perm fun hs K n0 hKm hKs hKn => ?_
 refine P0 hs rfl hKs (qw_ 2) ?_
 refine km_ hs ?_
 refine km_ hs ?_
 refine K0 _ _ rfl rfl (List.Perm.refl _) hKm fun w0 => (E0 (Mc := MP) (R := _) (aS rfl (a0)) kR PickC.perm (U4 pb s MP _ hP (by omega) (by omega) hG.up) rfl ?_)
 rintro v8 M8 J8 ⟨hP8, h8⟩ hKx8
 haveI := h8.cel
 refine K0 M8 _ rfl rfl PickC.perm (fun x hx => hKx8 (hKn rfl) x (by simpa using hx)) fun w0 => (E0 (Mc := M8) (R := _) (aS rfl (a0)) kR PickC.perm (U4 pb (D3 s) M8 _ hP8 (by omega) (by omega) hG.up) rfl ?_)
 rintro v10 M10 J10 ⟨hP10, h10⟩ hKx10
 haveI := h10.cel
 refine I0 hs rfl (F3 (place := fun x => #[(0, 2), (2, 1), (3, 1), (4, 1), (5, 1), (6, 1), (7, 1)][x]?) (z := [A2E, A2E, .slice none 0 0, .slice none 0 0, .slice none 0 0, .slice none 0 0, G4, .slice none 0 0]) (fun _ => by kernel_rfl) (eS rfl (eS rfl (eS rfl (eS rfl e0)))) (bdS 0 2 rfl (by rfl) (bdS 2 1 rfl (by rfl) (bdS 3 1 rfl (by rfl) (bdS 6 1 rfl (by rfl) bd0))))) rfl ?_
 refine K0 [] _ rfl rfl (List.Perm.refl _) (fun _ h => by cases h) fun w0 => (B5H rfl (by first | exact Cel.cel | rfl) rfl fun b12 => fun hk12 => ?_)
 dsimp only [List.cons_append, List.nil_append, List.append_eq]
 refine I0 hs rfl (H8 rfl) rfl ?_
 refine N6 (D5 0 5) (A3 (mv_ (mv_ ?_)))
 refine A6 rfl (E0 (Mc := (b12, blk [.int .i64 u, .int .i64 d, v8, v10, .slice none 0 0, .slice none 0 0, .int .u32 ((1 : Nat) : Int), .slice none 0 0] 114) :: M10) (R := _) (aS rfl (aS rfl a0)) kR PickC.perm (B9r b12 pb (k0N u d s) (D3 (D3 s)) [(b12, blk [.int .i64 u, .int .i64 d, v8, v10, .slice none 0 0, .slice none 0 0, .int .u32 ((1 : Nat) : Int), .slice none 0 0] 114)] M10 _ ⟨⟨v8, v10, _, _, _, [], [], [], [], [], [], rfl, h8.mono SubC.sub, h10.mono SubC.sub, Sl.nil, RwL.nil, Sl.nil, RwL.nil, Sl.nil, RwL.nil, show 1 < 4294967296 by decide, Nat.zero_le _, Nat.zero_le _, Nat.zero_le _⟩⟩ hP10 (by omega) (by omega) (show 1 + 100 < 4000000000 by decide) hG.up) rfl ?_)
 rintro v15 M15 J15 ⟨MK15, MP15, rfl, hK15, hP15⟩
 refine A0 (D5 0 5) (A3 (mv_ (mv_ ?_)))
 refine A6 rfl (E0 (Mc := MK15 ++ MP15) (R := _) (aS rfl (aS rfl a0)) kR PickC.perm (B9p b12 pb _ _ MK15 MP15 _ (hK15.mono SubC.sub) hP15 (by omega) (by omega) (by rw [A9z]; show 1 + 1 + 100 < 4000000000; decide) hG.up) rfl ?_)
 rintro v18 M18 J18 ⟨rfl, MK18, MP18, rfl, hK18, hP18⟩
 refine A0 (D8 5) (A3 (mv_ (as_ (A0 (D8 4) (C2 ?_)))))
 exact ⟨_, MK18 ++ MP18, [(b3, blk [.int .i64 u, .int .i64 d] 26)], I4 rfl rfl, Fit.pick (B := [_]) PickC.perm (Fit.last PickC.perm), _, MK18, MP18, rfl, rfl, hK18.mono SubC.sub, hP18⟩
theorem B1L (pb : Nat) (s : Ps) (kb : Nat) (k : Ks) (va vg vq vo vm : Value) (rs ro rm : List (List Value)) (x : Pr) (sl : List Pr) (MP A : Mem) (hK : KyR A kb k va vg vq vo vm rs ro rm) (hsg : k.signed = x :: sl) (hP : Prm pb s MP) (hn : s.ts.length + 100 ≤ 1048576) (hol : k.once.length ≤ 10) (hG : Glb A) : FnX Tryz.prog 16 [.pointer (some ⟨kb, 0, none⟩), .pointer (some ⟨pb, 0, none⟩)] MP A fun q M J => Prm pb (I1 k s).2 M ∧ ∃ rows, Rd J 10 q (I1 k s).1.length rows.flatten ∧ RwL bnR (J ++ A) rows (I1 k s).1 := by
 have hkb := hK.blk_
 haveI := hK.agree.cel
 haveI := hK.sign.cel
 haveI := hK.signed.cel
 haveI := hK.once.cel
 haveI := hK.met.cel
 have il := A1A k s
 obtain ⟨r0, hr0, vs_, vg_, rfl, hs_, hg_, hxn⟩ := hK.signedR.get 0 x (by rw [hsg]; rfl)
 haveI := hs_.cel
 haveI := hg_.cel
 refine FnX.enterZ (N := 62) Tryz.func16 rfl rfl rfl fun w_ => ?_
 refine C4 (D5 0 1) (A3 (as_ (A0 (D5 0 1) (A5 (A3 (mv_ ?_))))))
 refine A4 (F0 (e := 114) rfl rfl kR) rfl ?_
 refine A0 (E1 0 1 12) ?_
 refine D4 rfl ?_
 refine A9 (nx (D5 0 1) (A3 (mv_ ?_)))
 refine A4 (F5 rfl) rfl ?_
 refine A4 (qf_ 4 4) rfl ?_
 refine A4 (I2 rfl kR (mA hkb) (by rfl)) rfl ?_
 refine A4 (I7 (sz := 3) (a := 0) rfl rfl kR rfl hK.signed (by rw [hsg]; simp)) rfl ?_
 refine A4 (A0F rfl kR (hK.signed.mono SubC.sub) (hK.signedR.lens prT) (by decide) hr0) rfl ?_
 refine A6 rfl (C5 (cs := [.int .u32 0, .slice none 0 0, .slice none 0 0]) kR rfl fun b5 => ?_)
 refine A6 rfl (A8 (vs := [.int .u32 ((x.n : Nat) : Int), vs_, vg_]) rfl rfl rfl kR (by rfl) (C1 rfl (C1 hs_.one (C1 hg_.one K3))) UpC.upd ?_)
 refine A0 (E1 0 1 5) ?_
 refine H5 (MP) (_) true (.range 17) [(0, 0), (1, 0), (2, 0), (3, 1), (4, 0), (5, 0), (7, 0), (8, 1), (9, 0), (10, 0), (11, 1), (13, 0), (14, 1), (6, 3), (12, 3), (15, 3), (16, 4), (17, 2)] kR kR PickC.perm fun hs K n0 hKm hKs hKn => ?_
 refine km_ hs ?_
 refine I0 hs rfl (F5 rfl) rfl ?_
 refine I0 hs rfl (qf_ 0 0) rfl ?_
 refine P0 hs rfl hKs (G5 (n := 2) rfl kR (mA hkb) TakeC.take) ?_
 refine km_ hs ?_
 refine km_ hs ?_
 refine I0 hs rfl (qf_ 0 0) rfl ?_
 refine P0 hs rfl hKs ql_ ?_
 refine km_ hs ?_
 refine I0 hs rfl (qf_ 1 1) rfl ?_
 refine P0 hs rfl hKs ql_ ?_
 refine I0 hs rfl (qf_ 2 2) rfl ?_
 refine P0 hs rfl hKs ql_ ?_
 refine A0S [⟨6, 25, none, MP, fun v B R => Prm pb (idS k s) B ∧ ∃ p q, v = .agg #[p, q] ∧ By R p (idA k s) ∧ By R q (idG k s)⟩, ⟨12, 31, some 6, [], fun v B R => Prm pb (H6 (idS k s) x.sec) B ∧ By R v (K9 (idS k s) x.sec)⟩, ⟨15, 34, none, [], fun v B R => B = [] ∧ ∃ p q u, v = .agg #[.int .i64 k.user, .int .i64 k.dev, p, q, .int .u32 ((x.n : Nat) : Int), u, vg_, .bool false, .int .u32 ((0 : Nat) : Int), .slice none 0 0] ∧ By R p (idA k s) ∧ By R q (idG k s) ∧ By R u (K9 (idS k s) x.sec)⟩, ⟨16, 6, none, [], fun v B _ => ∃ b, v = .pointer (some ⟨b, 0, none⟩) ∧ B = [(b, blk [.int .i64 0, .int .i64 0, .slice none 0 0, .slice none 0 0, .int .u32 0, .slice none 0 0, .slice none 0 0, .bool false, .int .u32 0, .slice none 0 0] 32)]⟩] (_) (fun bs => [bs 12, bs 15, bs 16]) (hKn rfl) (List.Perm.refl _) (show ∀ m ∈ ([MP, [], []] : List Mem), ∀ x ∈ m, K x.1 from C1 (hKm) (C1 (fun _ h => by cases h) (C1 (fun _ h => by cases h) (K3)))) kR (fun _ => by first | rfl | kernel_rfl)
  (C1 (fun _ _ _ _ h ⟨p1, p, q, e, p2, p3⟩ => ⟨p1, p, q, e, p2.mono h, p3.mono h⟩) (C1 (fun _ _ _ _ h ⟨p1, p2⟩ => ⟨p1, p2.mono h⟩) (C1 (fun _ _ _ _ h ⟨p1, p, q, u, e, p2, p3, p4⟩ => ⟨p1, p, q, u, e, p2.mono h, p3.mono h, p4.mono h⟩) (C1 (fun _ _ _ _ h hp => hp) (K3))))) (show List.Nodup [25, 31, 34, 6] by decide) (show List.Nodup [6, 12, 15, 16] by decide) (C1 (C7 rfl) (C1 (C7 rfl) (C1 (C7 rfl) (C1 (C7 rfl) (K3)))))
  (C1 ⟨_, rfl, fun vs bs R Rj wG hb hj hjr ha => ⟨.inl rfl, ?_⟩⟩ (C1 ⟨_, rfl, fun vs bs R Rj wG hb hj hjr ha => ⟨.inl rfl, ?_⟩⟩ (C1 ⟨_, rfl, fun vs bs R Rj wG hb hj hjr ha => ⟨.inl rfl, ?_⟩⟩ (C1 ⟨_, rfl, fun vs bs R Rj wG hb hj hjr ha => ⟨.inl rfl, ?_⟩⟩ (K3))))) ?_
 ·
  dsimp only [Gc.inp]
  refine E0 (Mc := MP) (R := []) (aS rfl (aS rfl (a0))) kR (by simp) (A7E pb s kb k va vg vq vo vm rs ro rm MP _ (hK.mono (fun x hx => by have := hb x (by simp [hx]); simp [this])) hP (by omega) (hG.sub (fun x hx => by have := hb x (by simp [hx]); simp [this]))) rfl ?_
  rintro v25 M25 J25 ⟨hP25, p, q, rfl, hp, hq⟩
  exact ⟨_, rfl, by simpa using hP25, p, q, rfl, hp.mono fun x hx => by simp [hx], hq.mono fun x hx => by simp [hx]⟩
 ·
  dsimp only [Gc.inp]
  have g6 := ha _ (List.mem_of_getElem? (i := 0) rfl) kR
  replace g6 : (fun v B R => Prm pb (idS k s) B ∧ ∃ p q, v = .agg #[p, q] ∧ By R p (idA k s) ∧ By R q (idG k s)) (vs 6) (bs 6) Rj := g6
  dsimp only at g6
  obtain ⟨hP25, -⟩ := g6
  refine E0 (Mc := bs 6) (R := []) (aS rfl (aS rfl (a0))) kR (by simp) (W5 pb (idS k s) vs_ x.sec (bs 6) _ hP25 (by omega) (hs_.mono (fun x hx => by have := hb x (by simp [hx]); simp [this])) (hG.sub (fun x hx => by have := hb x (by simp [hx]); simp [this]))) rfl ?_
  rintro v31 M31 J31 ⟨hP31, h31⟩
  exact ⟨_, rfl, by simpa using hP31, h31.mono fun x hx => by simp [hx]⟩
 ·
  dsimp only [Gc.inp]
  have g6 := ha _ (List.mem_of_getElem? (i := 0) rfl) kR
  replace g6 : (fun v B R => Prm pb (idS k s) B ∧ ∃ p q, v = .agg #[p, q] ∧ By R p (idA k s) ∧ By R q (idG k s)) (vs 6) (bs 6) Rj := g6
  dsimp only at g6
  have g12 := ha _ (List.mem_of_getElem? (i := 1) rfl) kR
  replace g12 : (fun v B R => Prm pb (H6 (idS k s) x.sec) B ∧ By R v (K9 (idS k s) x.sec)) (vs 12) (bs 12) Rj := g12
  dsimp only at g12
  obtain ⟨-, h31⟩ := g12
  obtain ⟨-, p, q, e25, hp, hq⟩ := g6
  haveI := h31.cel
  haveI := hp.cel
  haveI := hq.cel
  dsimp only [S7, List.map, List.cons_append, List.nil_append]
  rw [e25]
  exact OpQ.opL (F3 (place := fun x => #[(0, 2), (2, 2), (4, 1), (5, 1), (6, 1), (7, 1), (8, 1), (9, 1)][x]?) (z := [A2E, A2E, .slice none 0 0, .slice none 0 0, G4, .slice none 0 0, .slice none 0 0, .bool false, G4, .slice none 0 0]) (fun _ => by kernel_rfl) (eS rfl (eS rfl (eS rfl (eS rfl (eS rfl e0))))) (bdS 0 2 rfl (by rfl) (bdS 2 2 rfl (by rfl) (bdS 4 1 rfl (by rfl) (bdS 5 1 rfl (by rfl) (bdS 6 1 rfl (by rfl) bd0)))))) rfl ⟨_, rfl, rfl, p, q, _, rfl, hp, hq, h31⟩
 ·
  dsimp only [Gc.inp]
  exact C5 (cs := [A2E, A2E, .slice none 0 0, .slice none 0 0, G4, .slice none 0 0, .slice none 0 0, .bool false, G4, .slice none 0 0]) kR rfl fun b => ⟨_, rfl, b, rfl, rfl⟩
 intro vs bs Jn0 hφ hKK
 have kk6 := hKK _ (List.mem_of_getElem? (i := 0) rfl)
 dsimp only at kk6
 have kk12 := hKK _ (List.mem_of_getElem? (i := 1) rfl)
 dsimp only at kk12
 have kk15 := hKK _ (List.mem_of_getElem? (i := 2) rfl)
 dsimp only at kk15
 have kk16 := hKK _ (List.mem_of_getElem? (i := 3) rfl)
 dsimp only at kk16
 clear hKK
 have g6 := ofH hφ
 dsimp only at g6
 replace hφ := ofT hφ
 have g12 := ofH hφ
 dsimp only at g12
 replace hφ := ofT hφ
 have g15 := ofH hφ
 dsimp only at g15
 replace hφ := ofT hφ
 have g16 := ofH hφ
 dsimp only at g16
 clear hφ
 dsimp only [S7, A0y, List.foldr, List.map, List.cons_append, List.nil_append]
 generalize bs 6 = B25 at *
 generalize bs 12 = B31 at *
 generalize bs 15 = B34 at *
 generalize bs 16 = B6 at *
 generalize vs 6 = u25 at *
 generalize vs 12 = u31 at *
 generalize vs 15 = u34 at *
 generalize vs 16 = u6 at *
 obtain ⟨hP31, h31⟩ := g12
 clear g6
 obtain ⟨b6, rfl, rfl⟩ := g16
 obtain ⟨rfl, p, q, u, rfl, hp, hq, hu⟩ := g15
 haveI := hp.cel
 haveI := hq.cel
 haveI := hu.cel
 obtain ⟨bb, hbb⟩ : ∃ bb, A5u k x s = bb := ⟨_, rfl⟩
 obtain ⟨s2, hs2⟩ : ∃ s2, H6 (idS k s) x.sec = s2 := ⟨_, rfl⟩
 rw [hs2] at hP31
 have hs2l : s2.ts.length ≤ s.ts.length + 6 := by have := N2 (idS k s) x.sec; rw [hs2] at this; omega
 have hbun : I1 k s = A0p bb k.once s2 k.once.length := by unfold I1; rw [hsg, ← hbb, ← hs2]
 rw [hbun]
 have hbr : ∀ R, (∀ y, y ∈ Jn0 ++ [] ++ A → y ∈ R) → bnR R bb [.int .i64 k.user, .int .i64 k.dev, p, q, .int .u32 ((x.n : Nat) : Int), u, vg_, .bool false, .int .u32 ((0 : Nat) : Int), .slice none 0 0] := fun R hR => ⟨p, q, u, vg_, _, by rw [← hbb]; rfl, by rw [← hbb]; exact hp.mono hR, by rw [← hbb]; exact hq.mono hR, by rw [← hbb]; exact hu.mono hR, by rw [← hbb]; exact hg_.mono fun y hy => hR y (List.mem_append_right _ hy), by rw [← hbb]; exact By.nil, by rw [← hbb]; exact hxn, by rw [← hbb]; show 0 < 4294967296; decide⟩
 refine N5 rfl rfl rfl (A8 (vs := [.int .i64 k.user, .int .i64 k.dev, p, q, .int .u32 ((x.n : Nat) : Int), u, vg_, .bool false, .int .u32 ((0 : Nat) : Int), .slice none 0 0]) rfl rfl rfl kR (by rfl) (C1 rfl (C1 rfl (C1 hp.one (C1 hq.one (C1 rfl (C1 hu.one (C1 hg_.one al3))))))) UpC.upd ?_)
 refine N6 (E1 0 1 6) ?_
 refine X9 (B := [(b6, blk [.int .i64 k.user, .int .i64 k.dev, p, q, .int .u32 ((x.n : Nat) : Int), u, vg_, .bool false, .int .u32 ((0 : Nat) : Int), .slice none 0 0] 32)]) PickC.perm ?_
 refine A3 ?_
 refine A4 (qw_ 10) rfl ?_
 refine A6 rfl (C6 (e := 32) (sz := 10) (z := [A2E, A2E, .slice none 0 0, .slice none 0 0, G4, .slice none 0 0, .slice none 0 0, .bool false, G4, .slice none 0 0]) kR (eS rfl e0) (bdS 0 10 rfl (by rfl) bd0) rfl fun b36 => ?_)
 refine as_ (A0 (E7 0 1 6 7) (A5 (A3 (mv_ ?_))))
 refine A4 (F5 rfl) rfl ?_
 refine A4 (qf_ 5 5) rfl ?_
 refine A4 (I2 rfl kR (mA hkb) (by rfl)) rfl ?_
 refine A4 (I3 (sz := 3) rfl kR hK.once) rfl ?_
 refine mv_ (A0 (I5 1 6 7 40 41 42) (C0 ?_))
 refine F2 (α := Nat × (Value × List (List Value) × Mem) × Mem × Mem) (fun y => [(1, .pointer (some ⟨pb, 0, none⟩)), (6, .pointer (some ⟨b6, 0, none⟩)), (7, y.2.1.1), (40, vo), (41, .int .i64 ((k.once.length : Nat) : Int)), (42, .int .i64 ((y.1 : Nat) : Int))]) (fun y => y.2.1.2.2 ++ y.2.2.1) (fun y => y.2.2.2) (fun y => y.1 ≤ k.once.length ∧ Sl 10 y.2.1.1 (y.1 + 1) y.2.1.2.1.flatten y.2.1.2.2 ∧ RwL bnR (y.2.2.2 ++ A) y.2.1.2.1 (A0p bb k.once s2 y.1).1 ∧ Prm pb (A0p bb k.once s2 y.1).2 y.2.2.1 ∧ (b6, blk [.int .i64 k.user, .int .i64 k.dev, p, q, .int .u32 ((x.n : Nat) : Int), u, vg_, .bool false, .int .u32 ((0 : Nat) : Int), .slice none 0 0] 32) ∈ y.2.2.2 ∧ ∀ z, z ∈ Jn0 ++ [] ++ A → z ∈ y.2.2.2 ++ A) (fun y => k.once.length - y.1) (0, (.slice (some ⟨b36, 0, none⟩) 1 1, [[.int .i64 k.user, .int .i64 k.dev, p, q, .int .u32 ((x.n : Nat) : Int), u, vg_, .bool false, .int .u32 ((0 : Nat) : Int), .slice none 0 0]], [(b36, _)]), B31, _) ⟨Nat.zero_le _, Sl.fresh (n := 1) (cs := [.int .i64 k.user, .int .i64 k.dev, p, q, .int .u32 ((x.n : Nat) : Int), u, vg_, .bool false, .int .u32 ((0 : Nat) : Int), .slice none 0 0]) (e := 32) rfl (by decide), RwL.cons (hbr _ SubC.sub) RwL.nil, hP31, by simp, SubC.sub⟩ (I5 1 6 7 40 41 42) (Fit.pick (B := [_]) PickC.perm (Fit.last PickC.perm)) (fun _ h => h) ?_
 rintro ⟨i, ⟨vi, ri, Bi⟩, MPi, Ji⟩ ⟨hi, hsi, hri, hPi, hJb, hJn⟩
 dsimp only at hi hsi hri hPi hJb hJn ⊢
 haveI := hsi.cel
 have hbl := A0A (b := bb) (s := s2) hi
 refine A3 ?_
 refine A4 (F1 rfl rfl rfl) rfl ?_
 refine A0 (X3 1 6 7 40 41 42 43) (A5 ?_)
 refine C8 rfl (fun hc => ?_) (fun hc => ?_)
 ·
  have hlt : i < k.once.length := by simp at hc; omega
  obtain ⟨o, ho⟩ : ∃ o, k.once[i]? = some o := ⟨_, List.getElem?_eq_getElem hlt⟩
  obtain ⟨r1, hr1, vo1, vo2, rfl, ho1, ho2, hon⟩ := hK.onceR.get i o ho
  haveI := ho1.cel
  haveI := ho2.cel
  have hbs := A0o (b := bb) (s := s2) ho
  refine A9 (nx (I5 1 6 7 40 41 42) (A5 (C0 (A3 ?_))))
  refine A4 (I7 (sz := 3) rfl rfl kR rfl hK.once hlt) rfl ?_
  refine A4 (A0F rfl kR (hK.once.mono SubC.sub) (hK.onceR.lens prT) (by decide) hr1) rfl ?_
  refine A6 rfl (C5 (cs := [.int .u32 0, .slice none 0 0, .slice none 0 0]) kR rfl fun b9 => ?_)
  refine A6 rfl (A8 (vs := [.int .u32 ((o.n : Nat) : Int), vo1, vo2]) rfl rfl rfl kR (by rfl) (C1 rfl (C1 ho1.one (C1 ho2.one K3))) UpC.upd ?_)
  refine A0 (X3 1 6 7 9 40 41 42) (A3 ?_)
  refine A4 (H7 (n := 10) rfl kR (List.mem_append_right _ (List.mem_append_left _ hJb)) (by rfl)) rfl ?_
  refine A6 rfl (C5 (cs := [A2E, A2E, .slice none 0 0, .slice none 0 0, G4, .slice none 0 0, .slice none 0 0, .bool false, G4, .slice none 0 0]) kR rfl fun b10 => ?_)
  refine A6 rfl (A8 (vs := [.int .i64 k.user, .int .i64 k.dev, p, q, .int .u32 ((x.n : Nat) : Int), u, vg_, .bool false, .int .u32 ((0 : Nat) : Int), .slice none 0 0]) rfl rfl rfl kR (by rfl) (C1 rfl (C1 rfl (C1 hp.one (C1 hq.one (C1 rfl (C1 hu.one (C1 hg_.one al3))))))) UpC.upd ?_)
  refine A0 (A14 1 6 7 9 10 40 41 42) ?_
  refine H5 (MPi ++ [(b10, blk [.int .i64 k.user, .int .i64 k.dev, p, q, .int .u32 ((x.n : Nat) : Int), u, vg_, .bool false, .int .u32 ((0 : Nat) : Int), .slice none 0 0] 32)]) (_) true [0, 1, 2, 3, 4, 5, 6, 7, 8, 10] [(0, 0), (1, 1), (2, 0), (3, 0), (4, 1), (6, 0), (5, 2), (7, 2), (8, 0), (9, 2), (10, 0), (11, 2)] kR kR PickC.perm fun hs K n0 hKm hKs hKn => ?_
  refine I0 hs rfl (qf_ 0 0) rfl ?_
  refine P0 hs rfl hKs ql_ ?_
  refine km_ hs ?_
  refine I0 hs rfl (qf_ 1 1) rfl ?_
  refine P0 hs rfl hKs ql_ ?_
  refine I0 hs rfl (qf_ 7 7) rfl ?_
  refine K0 MPi _ rfl rfl PickC.perm (fun y hy => hKm y (by simp [hy])) fun w0 => (E0 (Mc := MPi) (R := _) (aS rfl (aS rfl (a0))) kR PickC.perm (W5 pb _ vo1 o.sec MPi _ hPi (by omega) (ho1.mono SubC.sub) hG.up) rfl ?_)
  rintro v52 M52 J52 ⟨hP52, h52⟩ hKx52
  haveI := h52.cel
  refine K0 [(b10, blk [.int .i64 k.user, .int .i64 k.dev, p, q, .int .u32 ((x.n : Nat) : Int), u, vg_, .bool false, .int .u32 ((0 : Nat) : Int), .slice none 0 0] 32)] _ rfl rfl PickC.perm (fun y hy => hKm y (by simp at hy; simp [hy])) fun w0 => (D9 rfl rfl rfl kR SetC.set UpC.upd ?_)
  intro hkS
  dsimp only [List.cons_append, List.nil_append, List.append_eq]
  refine I0 hs rfl (qf_ 8 8) rfl ?_
  refine N5 rfl rfl rfl (D9 rfl rfl rfl kR SetC.set UpC.upd ?_)
  refine I0 hs rfl (qf_ 9 9) rfl ?_
  refine N5 rfl rfl rfl (D9 rfl rfl h52.one kR SetC.set UpC.upd ?_)
  refine N6 (X3 1 6 7 10 40 41 42) (C3 (mv_ ?_))
  refine A4 (qw_ 10) rfl ?_
  refine A6 rfl (C6 (e := 32) (sz := 10) (z := [A2E, A2E, .slice none 0 0, .slice none 0 0, G4, .slice none 0 0, .slice none 0 0, .bool false, G4, .slice none 0 0]) kR (eS rfl e0) (bdS 0 10 rfl (by rfl) bd0) rfl fun b58 => ?_)
  refine A6 rfl (I8 (e := 32) (sz := 10) (by_ := 152) rfl rfl kR rfl hsi (Rd.whole (n := 1) At.mem (by rfl)) (C1 rfl (C1 rfl (C1 hp.one (C1 hq.one (C1 rfl (C1 hu.one (C1 hg_.one (C1 rfl (C1 rfl (C1 h52.one K3)))))))))) PickC.perm (by unfold maxLen; omega) (by omega) rfl fun v59 B59 hs59 => ?_)
  refine as_ (D0 (nb (nx (I5 1 6 7 40 41 42) (C3 ?_))))
  refine A4 (E4 ((i + 1 : Nat) : Int) rfl rfl (G3 (by omega) (by omega) (by omega))) rfl ?_
  refine mv_ (D0 ?_)
  exact rn (i + 1, (v59, ri ++ [[.int .i64 k.user, .int .i64 k.dev, p, q, .int .u32 ((x.n : Nat) : Int), u, vg_, .bool true, .int .u32 ((o.n : Nat) : Int), v52]], B59), M52, _) ⟨by dsimp only; omega, by simpa using hs59, by dsimp only; rw [hbs]; exact (hri.mono bnT SubC.sub).snoc ⟨p, q, u, vg_, v52, by rw [← hbb]; rfl, by rw [← hbb]; exact hp.mono fun z hz => SubC.sub z (hJn z hz), by rw [← hbb]; exact hq.mono fun z hz => SubC.sub z (hJn z hz), by rw [← hbb]; exact hu.mono fun z hz => SubC.sub z (hJn z hz), by rw [← hbb]; exact hg_.mono SubC.sub, h52.mono SubC.sub, by rw [← hbb]; exact hxn, hon⟩, by dsimp only; rw [hbs]; exact hP52, List.mem_append_right _ hJb, fun z hz => SubC.sub z (hJn z hz)⟩ (by dsimp only; omega) (I5 1 6 7 40 41 42) (Fit.pick PickC.perm (Fit.last PickC.perm)) (fun _ h => h)
 ·
  have hge : i = k.once.length := by simp at hc; omega
  subst hge
  refine E6 (te (re (be rfl (nx (D8 7) (A3 (mv_ (as_ (A0 (D8 4) ?_))))))))
  refine C2 ?_
  exact ⟨_, MPi, Bi, I4 rfl rfl, Fit.pick PickC.perm (Fit.last PickC.perm), hPi, ri, by rw [hbl.1]; exact hsi.rd fun x hx => by simp [hx], hri.mono bnT SubC.sub⟩

end Go.Proofs.YthbhpfefdnffaaaGreatDoor
namespace Go.Px
def appZ (P : Program) (t tn : TypeId) : Option (TypeId × List Value × Nat) :=
  match P.underlying tn with
  | some (.int _) => match P.underlying t with
    | some (.slice e) => match P.info? e with
      | some i => match i.zero with
        | some z => if i.size = z.cells.size ∧ 0 < i.size then some (e, z.cells.toList, i.bytes) else none
        | none => none
      | none => none
    | _ => none
  | _ => none
section z
variable {C : Cx} {l : Env} {M J : Mem} {K : Env → Mem → Mem → Prop} {d : Nat} {ty t tn e : TypeId} {pos : String} {af : Array Edge} {g : Option (Nat × Bool)} {x y : Operand}
end z
end Go.Px

namespace Go.Proofs.YthbhpfefdnffaaaGreatDoor
open Go.Px
def useK (k : Ks) (n : Nat) : Ks := { k with once := k.once.filter fun x => !A13 n x }
def meetK (k : Ks) (n : Nat) (w : List Nat) : Ks := if (A15 k.signed n).isSome && !decide (0 ≤ A1u (tstN n w) k.met) then { k with met := k.met ++ [⟨n, w⟩] } else k
def B4q (k : Ks) : List (List Nat) := k.agree :: k.sign :: (k.signed ++ k.once).map (·.sec)

def snN (k : Ks) : List Nat := k.signed.map (·.n)
def onN (k : Ks) : List Nat := k.once.map (·.n)
theorem B7B (k : Ks) (s : Ps) : onN (V6 k s).1 = onN k := rfl
theorem A8M (k : Ks) (s : Ps) : ∀ i, onN (fillI k s i).1 = onN k ++ (List.range i).map (k.next + ·)
  | 0 => by simp [fillI]
  | i + 1 => by
    have h := A8M k s i
    have hn := A0n k s i
    show List.map (fun x : Pr => x.n) ((fillI k s i).1.once ++ [_]) = _
    unfold onN at h ⊢
    rw [List.map_append, h, List.range_succ, List.map_append, ← List.append_assoc]
    simp [hn]
theorem B7C (k : Ks) (s : Ps) : onN (A1z k s).1 = onN k ++ (List.range (4 - k.once.length)).map (k.next + ·) := A8M k s _
theorem B1M (k : Ks) (s : Ps) : (A1z k s).1 = { k with once := (A1z k s).1.once, next := k.next + (4 - k.once.length) } := A5r k s _
theorem B1N (k : Ks) (s : Ps) : (A1z k s).1.next = k.next + (4 - k.once.length) := by rw [B1M]
theorem B5w (u d : Int) (s : Ps) : onN (A2x u d s).1 = [2, 3, 4, 5] := by
  unfold A2x; rw [B7C, B7B]; rfl
theorem B4r (u d : Int) (s : Ps) : (A2x u d s).1.next = 6 := by
  unfold A2x; rw [B1N]; rfl
theorem B5x (k : Ks) : (onN k).length = k.once.length := List.length_map ..
theorem A7F {l : List Pr} (h : (l.map (·.n)).Pairwise (· < ·)) : B4h l := by
  intro i j x y hij hx hy
  have h1 := List.pairwise_iff_getElem.1 h i j (by rw [List.length_map]; exact (List.getElem?_eq_some_iff.1 hx).1) (by rw [List.length_map]; exact (List.getElem?_eq_some_iff.1 hy).1) hij
  obtain ⟨hi, ei⟩ := List.getElem?_eq_some_iff.1 hx
  obtain ⟨hj, ej⟩ := List.getElem?_eq_some_iff.1 hy
  simp only [List.getElem_map, ei, ej] at h1
  exact h1
theorem A6G {b : Bn} {l : List Pr} {s : Ps} : ∀ {i : Nat}, i ≤ l.length → (A0p b l s i).1[0]? = some b
  | 0, _ => rfl
  | i + 1, h => by
    rw [A0o (List.getElem?_eq_getElem (by omega))]
    have h1 := (A0A (b := b) (s := s) (l := l) (i := i) (by omega)).1
    show (_ ++ _)[0]? = _
    rw [List.getElem?_append_left (by omega)]
    exact A6G (by omega)
theorem A8N {b : Bn} {l : List Pr} {s : Ps} {j : Nat} {o : Pr} (ho : l[j]? = some o) : ∀ {i : Nat}, i ≤ l.length → j < i → (A0p b l s i).1[j + 1]? = some { b with has := true, once := o.n, oncek := K9 (A0p b l s j).2 o.sec }
  | 0, _, hj => by omega
  | i + 1, h, hj => by
    obtain ⟨x, hx⟩ : ∃ x, l[i]? = some x := ⟨_, List.getElem?_eq_getElem (by omega)⟩
    rw [A0o hx]
    have h1 := (A0A (b := b) (s := s) (l := l) (i := i) (by omega)).1
    show (_ ++ _)[j + 1]? = _
    by_cases e : j = i
    · subst e
      rw [hx] at ho
      cases ho
      rw [List.getElem?_append_right (by omega), h1, Nat.sub_self]; rfl
    · rw [List.getElem?_append_left (by omega)]
      exact A8N ho (by omega) (by omega)
theorem A09 {k : Ks} {s : Ps} {x : Pr} {sl : List Pr} (h : k.signed = x :: sl) : (I1 k s).1.length = k.once.length + 1 ∧ (I1 k s).1[0]? = some (A5u k x s) ∧ (∀ (j : Nat) (o : Pr), k.once[j]? = some o → (I1 k s).1[j + 1]? = some { A5u k x s with has := true, once := o.n, oncek := K9 (A0p (A5u k x s) k.once (H6 (idS k s) x.sec) j).2 o.sec }) ∧ (I1 k s).2.ts.length ≤ s.ts.length + 6 + 2 * k.once.length := by
  have e : I1 k s = A0p (A5u k x s) k.once (H6 (idS k s) x.sec) k.once.length := by unfold I1; rw [h]
  rw [e]
  have h1 := A0A (b := A5u k x s) (s := H6 (idS k s) x.sec) (l := k.once) (Nat.le_refl _)
  have h2 := A1A k s
  have h3 := N2 (idS k s) x.sec
  exact ⟨h1.1, A6G (Nat.le_refl _), fun j o ho => A8N ho (Nat.le_refl _) (List.getElem?_eq_some_iff.1 ho).1, by omega⟩
theorem B9s (m : Nat) : ((m % 2 : Nat) : Int) = md (m % 2 == 0) := by
  rcases (by omega : m % 2 = 0 ∨ m % 2 = 1) with h | h <;> rw [h] <;> rfl
def opK (m : Nat) : Ps := ⟨m % 2 == 0, [107, 101, 121, 115], 0, []⟩

theorem B1O (k : Ks) (s : Ps) : Ext s (V6 k s).2 := ((W6 s).trans (A0m _ _)).trans (B5q _ _ _)
theorem A8O (k : Ks) (s : Ps) : ∀ i, Ext s (fillI k s i).2
  | 0 => Ext.refl s
  | i + 1 => (A8O k s i).trans (W6 _)
def Fr (s : Ps) (w : List Nat) (i : Nat) : Prop := if s.real then w = Y0 s.seed i else ∃ j, s.ts[j]? = some (B4P i) ∧ w = bts ((j : Nat) : Int)
theorem Fr.ext {s s' : Ps} {w : List Nat} {i : Nat} (h : Fr s w i) (he : Ext s s') : Fr s' w i := by
  unfold Fr at h ⊢
  rw [he.p.real]
  obtain ⟨l, e⟩ := he.p.ts
  split
  · rename_i hr; rw [if_pos hr] at h; rw [he.seed]; exact h
  · rename_i hr
    rw [if_neg hr] at h
    obtain ⟨j, h1, h2⟩ := h
    exact ⟨j, by rw [e]; exact A4k h1, h2⟩
theorem C0J {s : Ps} {w w' : List Nat} {i i' : Nat} (h : Fr s w i) (h' : Fr s w' i') (hi : i ≠ i') (hl : s.ts.length ≤ 1048576) (hk : s.real = true → Y0 s.seed i ≠ Y0 s.seed i') : w ≠ w' := by
  unfold Fr at h h'
  split at h
  · rename_i hr
    rw [if_pos hr] at h'
    rw [h, h']
    exact hk hr
  · rename_i hr
    rw [if_neg hr] at h'
    obtain ⟨j, h1, rfl⟩ := h
    obtain ⟨j', h2, rfl⟩ := h'
    intro e
    have b1 := (List.getElem?_eq_some_iff.1 h1).1
    have b2 := (List.getElem?_eq_some_iff.1 h2).1
    have e2 := A43 (by omega) (by omega) e
    subst e2
    rw [h1] at h2
    have e3 := Option.some.inj h2
    unfold B4P at e3
    injection e3 with a1 a2 a3 a4
    exact hi (by omega)
structure Sok (L : List (List Nat)) (s : Ps) : Prop where
  nd : L.Nodup
  fr : ∀ w ∈ L, ∃ i, i ≤ s.n ∧ Fr s w i
theorem Sok.nil {s : Ps} : Sok [] s := ⟨List.nodup_nil, fun w h => by cases h⟩
theorem Sok.ext {L : List (List Nat)} {s s' : Ps} (h : Sok L s) (he : Ext s s') : Sok L s' := ⟨h.nd, fun w hw => by
  obtain ⟨i, h1, h2⟩ := h.fr w hw
  exact ⟨i, Nat.le_trans h1 he.n, h2.ext he⟩⟩
theorem Sok.sub {L L' : List (List Nat)} {s : Ps} (h : Sok L s) (hs : L'.Sublist L) : Sok L' s := ⟨h.nd.sublist hs, fun w hw => h.fr w (hs.subset hw)⟩
theorem Sok.perm {L L' : List (List Nat)} {s : Ps} (h : Sok L s) (hp : L.Perm L') : Sok L' s := ⟨hp.nodup_iff.1 h.nd, fun w hw => h.fr w (hp.mem_iff.2 hw)⟩
def C0K (seed : List Nat) (m : Nat) : Prop := ∀ i j, i ≤ m → j ≤ m → i ≠ j → Y0 seed i ≠ Y0 seed j
theorem Sok.add {L : List (List Nat)} {s s' : Ps} {w : List Nat} {m : Nat} (h : Sok L s) (he : Ext s s') (hw : Fr s' w (s.n + 1)) (hn : s.n + 1 ≤ s'.n) (hl : s'.ts.length ≤ 1048576) (hm : s.n + 1 ≤ m) (ha : s'.real = true → C0K s'.seed m) : Sok (w :: L) s' := by
  have h' := h.ext he
  refine ⟨List.nodup_cons.2 ⟨fun hm' => ?_, h.nd⟩, fun x hx => ?_⟩
  · obtain ⟨i, h1, h2⟩ := h.fr w hm'
    exact C0J hw (h2.ext he) (show s.n + 1 ≠ i by omega) hl (fun hr => ha hr _ _ hm (by omega) (by omega)) rfl
  · rcases List.mem_cons.1 hx with rfl | hx
    · exact ⟨_, hn, hw⟩
    · exact h'.fr x hx
def kW : List Nat := [107, 101, 121, 115]
structure BuI (k : Ks) (s : Ps) : Prop where
  tok : Tok s.ts
  ar : Ar s.ts
  ag : Kok s k.agree
  sg : Kok s k.sign
  signed : ∀ x ∈ k.signed, Kok s x.sec ∧ ∃ p, U2 s x.sec p ∧ A2B s k.sign (A5F x.n p) x.sig
  once : ∀ x ∈ k.once, Kok s x.sec
theorem BuI.ext {k : Ks} {s s' : Ps} (h : BuI k s) (he : Pext s s') (ht : Tok s'.ts) (ha : Ar s'.ts) : BuI k s' :=
  ⟨ht, ha, h.ag.ext he, h.sg.ext he, fun x hx => by
    obtain ⟨h1, p, h2, h3⟩ := h.signed x hx
    exact ⟨h1.ext he, p, h2.ext he, h3.ext he⟩, fun x hx => (h.once x hx).ext he⟩
theorem A0V {s : Ps} (h : Tok s.ts) (hn : s.n < 1099511627776) : Tok (D3 s).ts := by
  cases hr : s.real with
  | true => rw [A42 hr]; exact h
  | false => exact (A0j h hn).2 hr
theorem B7D (n : Nat) {w : List Nat} (h : ∀ x ∈ w, x < 256) : ∀ x ∈ A5F n w, x < 256 := by
  intro x hx
  unfold A5F at hx
  simp only [List.mem_append] at hx
  rcases hx with ((hx | hx) | hx) | hx | hx
  · exact A8K _ _ x hx
  · revert x; decide
  · exact A8K _ _ x hx
  · exact A8K _ _ x hx
  · exact h x hx
theorem B4s (s : Ps) (w : List Nat) : ∀ x ∈ K9 s w, x < 256 := by
  unfold K9
  split
  · exact B5m _ _
  · exact B0k _
theorem BuI.turn {k : Ks} {s : Ps} (h : BuI k s) (hn : s.n < 1000000000) (hl : s.ts.length + 100 ≤ 1048576) : BuI (V6 k s).1 (V6 k s).2 := by
  have f1 := K8 s
  have f2 := N2 (D3 s) (D6 s)
  have t1 := A0V h.tok (by omega : s.n < 1099511627776)
  have k1 := (A0j h.tok (by omega : s.n < 1099511627776)).1
  obtain ⟨p1, -, t2⟩ := A4r k1 t1 (by omega)
  have e1 := (W6 s).p
  have e2 := (A0m (D3 s) (D6 s)).p
  have ksg := (h.sg.ext e1).ext e2
  obtain ⟨g1, t3⟩ := B9h (m := A5F k.next (K9 (D3 s) (D6 s))) ksg t2 (by omega) (B7D _ (B4s _ _)) (by rw [B4b, A3O]; omega)
  have e3 := (B5q (H6 (D3 s) (D6 s)) k.sign (A5F k.next (K9 (D3 s) (D6 s)))).p
  have he : Pext s (V6 k s).2 := (B1O k s).p
  have ha : Ar (V6 k s).2.ts := ((h.ar.fresh).pub _).sgn _ _
  have h' := h.ext he t3 ha
  refine ⟨t3, ha, h'.ag, h'.sg, fun x hx => ?_, h'.once⟩
  rcases List.mem_cons.1 (List.mem_of_mem_take (show x ∈ (turnP k s :: k.signed).take 2 from hx)) with rfl | hx
  · exact ⟨(k1.ext e2).ext e3, _, p1.ext e3, g1⟩
  · exact h'.signed x hx
theorem BuI.fillI {k : Ks} {s : Ps} (h : BuI k s) (hn : s.n < 1000000000) : ∀ i, i ≤ 4 → BuI (fillI k s i).1 (fillI k s i).2
  | 0, _ => h
  | i + 1, hi => by
    have ih := h.fillI hn i (by omega)
    have hp := A2X k s i
    have t1 := A0V ih.tok (by omega)
    have k1 := (A0j ih.tok (by omega)).1
    have h' := ih.ext (W6 _).p t1 ih.ar.fresh
    refine ⟨t1, h'.ar, h'.ag, h'.sg, h'.signed, fun x hx => ?_⟩
    rcases List.mem_append.1 (show x ∈ (Go.Proofs.YthbhpfefdnffaaaGreatDoor.fillI k s i).1.once ++ [_] from hx) with h1 | h1
    · exact h'.once x h1
    · rw [List.mem_singleton.1 h1]; exact k1
theorem BuI.fill {k : Ks} {s : Ps} (h : BuI k s) (hn : s.n < 1000000000) : BuI (A1z k s).1 (A1z k s).2 := h.fillI hn _ (by omega)
theorem BuI.new {u d : Int} {s : Ps} (ht : Tok s.ts) (ha : Ar s.ts) (hn : s.n + 100 < 1000000000) (hl : s.ts.length + 200 ≤ 1048576) : BuI (A2x u d s).1 (A2x u d s).2 := by
  have f1 := K8 s
  have f2 := K8 (D3 s)
  have t1 := A0V ht (by omega)
  have k1 := (A0j ht (by omega)).1
  have t2 := A0V t1 (by omega)
  have k2 := (A0j t1 (by omega)).1
  have h0 : BuI (k0N u d s) (D3 (D3 s)) := ⟨t2, ha.fresh.fresh, k1.ext (W6 _).p, k2, fun x hx => (by cases hx), fun x hx => (by cases hx)⟩
  have h1 := h0.turn (by omega) (by omega)
  have hp := A5s (k0N u d s) (D3 (D3 s))
  exact h1.fill (by omega)
theorem BuI.id {k : Ks} {s : Ps} (h : BuI k s) (hl : s.ts.length + 100 ≤ 1048576) : BuI k (idS k s) ∧ Pext s (idS k s) ∧ U2 (idS k s) k.agree (idA k s) ∧ B1t (idS k s) k.sign (idG k s) := by
  have f1 := N2 s k.agree
  obtain ⟨p1, -, t1⟩ := A4r h.ag h.tok (by omega)
  have e1 := (A0m s k.agree).p
  obtain ⟨-, p2, t2⟩ := A4r (h.sg.ext e1) t1 (by omega)
  have e2 := (A0m (H6 s k.agree) k.sign).p
  have e : Pext s (idS k s) := e1.trans e2
  exact ⟨h.ext e t2 ((h.ar.pub _).pub _), e, p1.ext e2, p2⟩
theorem BuI.bunJ {k : Ks} {s : Ps} {b : Bn} (h : BuI k s) (hl : s.ts.length + 100 ≤ 1048576) (ho4 : k.once.length ≤ 10) : ∀ i, i ≤ k.once.length → BuI k (A0p b k.once s i).2 ∧ Pext s (A0p b k.once s i).2 ∧ ∀ (j : Nat) (o : Pr), j < i → k.once[j]? = some o → U2 (A0p b k.once s i).2 o.sec (K9 (A0p b k.once s j).2 o.sec)
  | 0, _ => ⟨h, Pext.refl _, fun j o hj => by omega⟩
  | i + 1, hi => by
    obtain ⟨h1, h2, h3⟩ := h.bunJ (b := b) hl ho4 i (by omega)
    obtain ⟨x, hx⟩ : ∃ x, k.once[i]? = some x := ⟨_, List.getElem?_eq_getElem (by omega)⟩
    have hb := (A0A (b := b) (s := s) (l := k.once) (i := i) (by omega)).2
    obtain ⟨p1, -, t1⟩ := A4r (h1.once x (List.mem_of_getElem? hx)) h1.tok (by omega)
    have e1 := (A0m (A0p b k.once s i).2 x.sec).p
    rw [A0o hx]
    refine ⟨h1.ext e1 t1 (h1.ar.pub _), h2.trans e1, fun j o hj ho => ?_⟩
    by_cases e : j = i
    · subst e
      rw [hx] at ho
      cases ho
      exact p1
    · exact (h3 j o (by omega) ho).ext e1
theorem BuI.bundles {k : Ks} {s : Ps} {x : Pr} {sl : List Pr} (h : BuI k s) (hs : k.signed = x :: sl) (hl : s.ts.length + 200 ≤ 1048576) (ho4 : k.once.length ≤ 10) :
    BuI k (I1 k s).2 ∧ Pext s (I1 k s).2 ∧ U2 (I1 k s).2 k.agree (idA k s) ∧ B1t (I1 k s).2 k.sign (idG k s) ∧ U2 (I1 k s).2 x.sec (K9 (idS k s) x.sec) ∧ A2B (I1 k s).2 k.sign (A5F x.n (K9 (idS k s) x.sec)) x.sig ∧
    ∀ (j : Nat) (o : Pr), k.once[j]? = some o → U2 (I1 k s).2 o.sec (K9 (A0p (A5u k x s) k.once (H6 (idS k s) x.sec) j).2 o.sec) := by
  have e : I1 k s = A0p (A5u k x s) k.once (H6 (idS k s) x.sec) k.once.length := by unfold I1; rw [hs]
  have il := A1A k s
  obtain ⟨h1, e1, a1, a2⟩ := h.id (by omega)
  obtain ⟨kx, p, px, gx⟩ := h1.signed x (by rw [hs]; simp)
  obtain ⟨p1, -, t1⟩ := A4r kx h1.tok (by omega)
  have ee := px.eq h1.tok (by omega)
  have e2 := (A0m (idS k s) x.sec).p
  have pl := N2 (idS k s) x.sec
  obtain ⟨b1, b2, b3⟩ := (h1.ext e2 t1 (h1.ar.pub _)).bunJ (b := A5u k x s) (by rw [ee.1]; omega) ho4 k.once.length (Nat.le_refl _)
  rw [e]
  refine ⟨b1, (e1.trans e2).trans b2, (a1.ext e2).ext b2, (a2.ext e2).ext b2, p1.ext b2, ?_, fun j o ho => b3 j o (List.getElem?_eq_some_iff.1 ho).1 ho⟩
  rw [ee.2]
  exact (gx.ext e2).ext b2

def C0L (l : List Nat) : List Nat := l.reverse.take 2
structure TuI (i : Nat) (k : Ks) (s : Ps) (sg l : List Nat) : Prop where
  on : onN k = l
  sn : snN k = C0L sg
  ne : sg.length ≤ i + 1 ∧ 1 ≤ sg.length
  rise : l.Pairwise (· < ·)
  lt : ∀ x ∈ l, x < k.next
  slt : ∀ x ∈ sg, x < k.next
  ol : l.length ≤ 4
  nx : k.next ≤ 6 + 4 * i
  ts : s.ts.length ≤ 11 + 5 * i
  n : s.n ≤ 7 + 4 * i
end Go.Proofs.YthbhpfefdnffaaaGreatDoor
namespace Go.Px
theorem FnX.amb {P : Program} {f : FuncId} {args : List Value} {M A A' : Mem} {post : Value → Mem → Mem → Prop} (hA : ∀ x, x ∈ A → x ∈ A') (h : FnX P f args M A post) : FnX P f args M A' post := by
  intro w hw
  have h1 : St ⟨P, w, M.map Prod.fst, A, 0⟩ M [] w := ⟨hw.os, hw.tape, hw.output, hw.size, hw.frame, fun b o hb => hw.mem b o (by
    rcases List.mem_append.1 hb with hb | hb
    · exact List.mem_append_left _ hb
    · exact List.mem_append_right _ (hA _ hb)), hw.nodup, hw.own, hw.sepJ, fun b o hb => hw.sepA b o (hA _ hb), hw.old⟩
  refine Calls.mono (h w h1) ?_
  rintro e w' ⟨r, M', J', rfl, hp, hs⟩
  refine ⟨r, M', J', rfl, hp, ⟨hs.os, hs.tape, hs.output, hs.size, hs.frame, fun b o hb => ?_, hs.nodup, hs.own, hs.sepJ, hw.sepA, hs.old⟩⟩
  rcases List.mem_append.1 hb with hb | hb
  · exact hs.mem b o (List.mem_append_left _ hb)
  · rcases List.mem_append.1 hb with hb | hb
    · exact hs.mem b o (List.mem_append_right _ (List.mem_append_left _ hb))
    · have h2 := hw.sepA b o hb
      rw [hs.frame b h2.2 h2.1]
      exact hw.mem b o (List.mem_append_right _ hb)
end Go.Px

namespace Go.Proofs.YthbhpfefdnffaaaGreatDoor
open Go.Px
structure TuS where
  i : Nat
  k : Ks
  s : Ps
  sg : List Nat
  l : List Nat
  vs : Value
  vo : Value
  Bs : Mem
  Bo : Mem
  MK : Mem
  MP : Mem
  J : Mem

end Go.Proofs.YthbhpfefdnffaaaGreatDoor
namespace Go.Px
def intT (P : Program) (t : TypeId) : Bool := match P.underlying t with
  | some (.int _) => true
  | _ => false
def twoT (P : Program) (t : TypeId) : Bool :=
  match P.underlying t with
  | some (.struct fs) => match fs.toList with
    | [f, g] => f.offset == 0 && g.offset == 1 && (f.name != "_") && (g.name != "_") && intT P f.type && intT P g.type && !P.stoodInHeld t && !P.eqGuardType P.depth t
    | _ => false
  | _ => false
section
variable {P : Program} {R : Mem} {l : Env} {d : Option Nat} {ty t t' : TypeId} {pos : String} {af : Array Edge} {g : Option (Nat × Bool)} {x y : Operand} {k : IntKind} {a b a' b' : Int}
variable {v u : Value} {xs : List Value} {n j sz off m : Nat} {R' : Mem}
def fldT (P : Program) (s : TypeId) (f off : Nat) : Bool := match P.underlying s with
  | some (.struct fs) => match fs[f]? with
    | some fd => fd.offset == off && X0 P fd.type
    | none => false
  | _ => false
end
end Go.Px

namespace Go.Proofs.YthbhpfefdnffaaaGreatDoor
open Go.Px
structure BuC (u d : Int) (i : Nat) (k : Ks) (s : Ps) : Prop where
  bi : BuI k s
  rise : (onN k).Pairwise (· < ·)
  sg : 1 ≤ k.signed.length ∧ k.signed.length ≤ 2
  who : k.user = u ∧ k.dev = d
  ol : k.once.length ≤ 4
  nx : k.next ≤ 6 + i
  ts : s.ts.length ≤ 11 + 5 * i
  n : s.n ≤ 7 + i
theorem B1P {l : List Pr} {j : Nat} {o : Pr} (h : B4h l) (ho : l[j]? = some o) : A15 l o.n = some o.sec := by
  rcases A0z (A13 o.n) l with ⟨h1, h2⟩ | ⟨i, x, h1, h2, h3, h4⟩
  · have := h2 o (List.mem_of_getElem? ho); simp [A13] at this
  · have e : x.n = o.n := by simpa [A13] using h3
    rcases Nat.lt_trichotomy i j with hl | rfl | hl
    · have := h i j x o hl h2 ho; omega
    · rw [ho] at h2; cases h2; exact A08 h1 ho
    · have := h j i o x hl ho h2; omega
theorem A3P {x : Pr} {l : List Pr} : A15 (x :: l) x.n = some x.sec := by
  rcases A0z (A13 x.n) (x :: l) with ⟨h1, h2⟩ | ⟨i, y, h1, h2, h3, h4⟩
  · have := h2 x (by simp); simp [A13] at this
  · cases i with
    | zero => cases h2; exact A08 h1 rfl
    | succ i => have := h4 0 x (by omega) rfl; simp [A13] at this
def z32 : List Nat := List.replicate 32 0
def A0c : List Nat := [104, 101, 108, 108, 111]
theorem A5v : B256 A0c := ⟨by decide⟩
theorem B7E (ts : List Tm) : Rok ts z32 := ⟨by decide, by decide, .inl fun n => A56 fun h => by have := h.2.1; revert this; decide⟩
noncomputable def agS (s : Ps) : List (List Nat × List Nat) → Ps
  | [] => s
  | x :: r => agS (L3 s x.1 x.2) r
noncomputable def agK (s : Ps) : List (List Nat × List Nat) → List (List Nat)
  | [] => []
  | x :: r => A2i s x.1 x.2 :: agK (L3 s x.1 x.2) r
def seS (s : Ps) (l : List (List Nat)) : Ps := A69 s z32 l A0c 1
def seK (s : Ps) (l : List (List Nat)) : List Nat := (A8d s z32 l A0c 1).getD 0 []
theorem B1Q : ∀ (l : List (List Nat × List Nat)) (s : Ps), Ext s (agS s l)
  | [], s => Ext.refl s
  | x :: r, s => (B1D s x.1 x.2).trans (B1Q r _)
theorem A7G : ∀ (l : List (List Nat × List Nat)) (s : Ps), (agS s l).ts.length ≤ s.ts.length + 3 * l.length ∧ (agS s l).n = s.n
  | [], s => ⟨Nat.le_refl _, rfl⟩
  | x :: r, s => by
    have h1 := A7G r (L3 s x.1 x.2)
    have h2 := T8 s x.1 x.2
    have h3 := B7v s x.1 x.2
    rw [List.length_cons]
    show (agS (L3 s x.1 x.2) r).ts.length ≤ _ ∧ (agS (L3 s x.1 x.2) r).n = _
    omega
theorem A7H : ∀ (l : List (List Nat × List Nat)) (s : Ps), (agK s l).length = l.length
  | [], s => rfl
  | x :: r, s => by show (_ :: agK _ r).length = _; rw [List.length_cons, A7H r, List.length_cons]
theorem Ar.ag : ∀ (l : List (List Nat × List Nat)) {s : Ps}, Ar s.ts → Ar (agS s l).ts
  | [], s, h => h
  | x :: r, s, h => Ar.ag r (h.agr x.1 x.2)
theorem B7F (s : Ps) (l : List (List Nat)) : (seS s l).ts.length ≤ s.ts.length + l.length + 2 ∧ (seS s l).n = s.n := by
  have h1 := B3a s z32 l A0c 1
  have h2 := (A3s s z32 l A0c 1).2.1
  unfold seS
  omega
theorem A6H (s : Ps) (l : List (List Nat)) : (∀ x ∈ seK s l, x < 256) ∧ (seK s l).length = 32 := B7n (by decide) (by decide)
inductive AgL (s : Ps) : List (List Nat × List Nat) → List (List Nat) → Prop
  | nil : AgL s [] []
  | cons {a b k : List Nat} {r : List (List Nat × List Nat)} {ks : List (List Nat)} (h : A3L s a b k) (t : AgL s r ks) : AgL s ((a, b) :: r) (k :: ks)
theorem AgL.ext {s s' : Ps} {l : List (List Nat × List Nat)} {ks : List (List Nat)} (h : AgL s l ks) (he : Pext s s') : AgL s' l ks := by
  induction h with
  | nil => exact .nil
  | cons h t ih => exact .cons (h.ext he) ih
theorem AgL.swap {s : Ps} {l : List (List Nat × List Nat)} {ks : List (List Nat)} (h : AgL s l ks) : AgL s (l.map fun x => (x.2, x.1)) ks := by
  induction h with
  | nil => exact .nil
  | cons h t ih => exact .cons h.comm ih
theorem B7t.rok {s : Ps} {a b k : List Nat} (h : B7t s a b k) : B6p s.ts k := by
  obtain ⟨i, j, m, h1, h2, h3, h4, h5, h6⟩ := h
  exact ⟨m, (List.getElem?_eq_some_iff.1 h5).1, h6⟩
theorem AgL.rok {s : Ps} {l : List (List Nat × List Nat)} {ks : List (List Nat)} (h : AgL s l ks) (hr : s.real = false) : ∀ w ∈ ks, Rok s.ts w := by
  induction h with
  | nil => intro w hw; cases hw
  | cons h t ih =>
    intro w hw
    rcases List.mem_cons.1 hw with rfl | hw
    · exact ((A3L.f hr).1 h).rok.rok
    · exact ih w hw
theorem AgL.zrok {s : Ps} {l : List (List Nat × List Nat)} {ks : List (List Nat)} (h : AgL s l ks) : s.real = false → ∀ w ∈ z32 :: ks, Rok s.ts w := fun hr w hw => by
  rcases List.mem_cons.1 hw with rfl | hw
  · exact B7E _
  · exact h.rok hr w hw
abbrev Tri := List Nat × List Nat × List Nat
def tB (l : List Tri) : List (List Nat × List Nat) := l.map fun q => (q.1, q.2.2)
def tb (l : List Tri) : List (List Nat × List Nat) := l.map fun q => (q.1, q.2.1)
theorem B7G : ∀ (l : List Tri) {s : Ps}, (∀ q ∈ l, Kok s q.1 ∧ U2 s q.2.1 q.2.2 ∧ (∀ x ∈ q.1, x < 256) ∧ ∀ x ∈ q.2.1, x < 256) → Tok s.ts → s.ts.length + 3 * l.length ≤ 1048576 → AgL (agS s (tB l)) (tb l) (agK s (tB l)) ∧ Tok (agS s (tB l)).ts
  | [], s, _, ht, _ => ⟨.nil, ht⟩
  | q :: r, s, h, ht, hl => by
    rw [List.length_cons] at hl
    obtain ⟨h1, h2, h3, h4⟩ := h q (by simp)
    obtain ⟨g1, g2⟩ := B9l h1 h2 ht (by omega) h3 h4
    have h5 := T8 s q.1 q.2.2
    have he := (B1D s q.1 q.2.2).p
    obtain ⟨i1, i2⟩ := B7G r (s := L3 s q.1 q.2.2) (fun z hz => by
      obtain ⟨a1, a2, a3, a4⟩ := h z (by simp [hz])
      exact ⟨a1.ext he, a2.ext he, a3, a4⟩) g2 (by omega)
    exact ⟨.cons (g1.ext (B1Q (tB r) _).p) i1, i2⟩
theorem A5w : ∀ (l : List Tri) {s : Ps} {ks : List (List Nat)}, AgL s (tb l) ks → (∀ q ∈ l, U2 s q.2.1 q.2.2) → Tok s.ts → s.ts.length ≤ 1048576 → agS s (tB l) = s ∧ agK s (tB l) = ks
  | [], s, ks, h, _, _, _ => by
    cases h
    exact ⟨rfl, rfl⟩
  | q :: r, s, ks, h, hp, ht, hl => by
    obtain ⟨q1, q2, q3⟩ := q
    cases h with
    | cons h t =>
      obtain ⟨e1, e2⟩ := h.eq (hp _ (by simp)) ht hl
      obtain ⟨i1, i2⟩ := A5w r t (fun z hz => hp z (by simp [hz])) ht hl
      refine ⟨?_, ?_⟩
      · show agS (L3 s q1 q3) (tB r) = s
        rw [e1, i1]
      · show A2i s q1 q3 :: agK (L3 s q1 q3) (tB r) = _
        rw [e1, e2, i2]
structure He where
  ia : List Nat
  ig : List Nat
  key : List Nat
  signed : Nat
  has : Bool
  once : Nat
noncomputable def stP (ka e : List Nat) (b : Bn) : List (List Nat × List Nat) := (ka, b.key) :: (e, b.ia) :: (e, b.key) :: if b.has then [(e, b.oncek)] else []
noncomputable def stA (ka : List Nat) (b : Bn) (s : Ps) : Ps := agS (D3 s) (stP ka (D6 s) b)
noncomputable def stL (ka : List Nat) (b : Bn) (s : Ps) : List (List Nat) := agK (D3 s) (stP ka (D6 s) b)
noncomputable def stI (k : Ks) (b : Bn) (s : Ps) : Ps := H6 (idS k (stA k.agree b s)) (D6 s)
noncomputable def stS (k : Ks) (b : Bn) (s : Ps) : Ps := seS (stI k b s) (stL k.agree b s)
noncomputable def stK (k : Ks) (b : Bn) (s : Ps) : List Nat := seK (stI k b s) (stL k.agree b s)
noncomputable def stH (k : Ks) (b : Bn) (s : Ps) : He := ⟨idA k (stA k.agree b s), idG k (stA k.agree b s), K9 (idS k (stA k.agree b s)) (D6 s), b.signed, b.has, if b.has then b.once else 0⟩
theorem B7H (ka e : List Nat) (b : Bn) : (stP ka e b).length ≤ 4 := by unfold stP; split <;> simp
theorem A5x (k : Ks) (b : Bn) (s : Ps) : (stA k.agree b s).ts.length ≤ s.ts.length + 13 ∧ (stI k b s).ts.length ≤ s.ts.length + 19 ∧ (stS k b s).ts.length ≤ s.ts.length + 25 ∧ (stS k b s).n = s.n + 1 ∧ (stL k.agree b s).length ≤ 4 := by
  have h1 := K8 s
  have h2 := A7G (stP k.agree (D6 s) b) (D3 s)
  have h3 := B7H k.agree (D6 s) b
  have h4 := A1A k (stA k.agree b s)
  have h5 := N2 (idS k (stA k.agree b s)) (D6 s)
  have h6 := B7F (stI k b s) (stL k.agree b s)
  have h7 := A7H (stP k.agree (D6 s) b) (D3 s)
  have h8 := A0U (idS k (stA k.agree b s)) (D6 s)
  have h9 : (idS k (stA k.agree b s)).n = (stA k.agree b s).n := by unfold idS; rw [A0U, A0U]
  have e1 : (stA k.agree b s).ts.length = (agS (D3 s) (stP k.agree (D6 s) b)).ts.length := rfl
  have e2 : (stA k.agree b s).n = (agS (D3 s) (stP k.agree (D6 s) b)).n := rfl
  have e3 : (stI k b s).ts.length = (H6 (idS k (stA k.agree b s)) (D6 s)).ts.length := rfl
  have e4 : (stI k b s).n = (H6 (idS k (stA k.agree b s)) (D6 s)).n := rfl
  have e5 : (stL k.agree b s).length = (agK (D3 s) (stP k.agree (D6 s) b)).length := rfl
  have e6 : (stS k b s).ts.length = (seS (stI k b s) (stL k.agree b s)).ts.length := rfl
  have e7 : (stS k b s).n = (seS (stI k b s) (stL k.agree b s)).n := rfl
  omega
def anP (ka sx : List Nat) (ox : Option (List Nat)) (h : He) : List (List Nat × List Nat) := (sx, h.ia) :: (ka, h.key) :: (sx, h.key) :: match ox with | none => [] | some o => [(o, h.key)]
noncomputable def anE (ka sx : List Nat) (ox : Option (List Nat)) (h : He) (s : Ps) : Option (List Nat × List Nat) × Ps := (some (seK (agS s (anP ka sx ox h)) (agK s (anP ka sx ox h)), sx), seS (agS s (anP ka sx ox h)) (agK s (anP ka sx ox h)))
noncomputable def anR (k : Ks) (h : He) (s : Ps) : Option (List Nat × List Nat) × Ps :=
  match A15 k.signed h.signed with
  | none => (none, s)
  | some sx => if h.has then match A15 k.once h.once with
      | none => (none, agS s (anP k.agree sx none h))
      | some o => anE k.agree sx (some o) h s
    else anE k.agree sx none h s
theorem B9t {k : Ks} {h : He} {s : Ps} (h1 : A15 k.signed h.signed = none) : anR k h s = (none, s) := by unfold anR; rw [h1]
theorem B7I {k : Ks} {h : He} {s : Ps} {sx : List Nat} (h1 : A15 k.signed h.signed = some sx) (h2 : h.has = true) (h3 : A15 k.once h.once = none) : anR k h s = (none, agS s (anP k.agree sx none h)) := by unfold anR; rw [h1]; dsimp only; rw [if_pos h2, h3]
theorem A7I {k : Ks} {h : He} {s : Ps} {sx o : List Nat} (h1 : A15 k.signed h.signed = some sx) (h2 : h.has = true) (h3 : A15 k.once h.once = some o) : anR k h s = anE k.agree sx (some o) h s := by unfold anR; rw [h1]; dsimp only; rw [if_pos h2, h3]
theorem A5y {k : Ks} {h : He} {s : Ps} {sx : List Nat} (h1 : A15 k.signed h.signed = some sx) (h2 : h.has = false) : anR k h s = anE k.agree sx none h s := by unfold anR; rw [h1]; dsimp only; rw [if_neg (by rw [h2]; decide)]
def prs (ka e kb xs : List Nat) (xo : Option (List Nat)) : List (List Nat × List Nat) := (ka, xs) :: (e, kb) :: (e, xs) :: match xo with | none => [] | some o => [(e, o)]
structure Agd (s : Ps) (ka e kb xs : List Nat) (xo : Option (List Nat)) (h : He) (sec : List Nat) : Prop where
  pia : U2 s ka h.ia
  pkey : U2 s e h.key
  ex : ∃ l, AgL s (prs ka e kb xs xo) l ∧ ∀ s', Pext s s' → Tok s'.ts → s'.ts.length ≤ 1048576 → seS s' l = s' ∧ seK s' l = sec
theorem Agd.ext {s s' : Ps} {ka e kb xs : List Nat} {xo : Option (List Nat)} {h : He} {sec : List Nat} (g : Agd s ka e kb xs xo h sec) (he : Pext s s') : Agd s' ka e kb xs xo h sec := by
  obtain ⟨l, h1, h2⟩ := g.ex
  exact ⟨g.pia.ext he, g.pkey.ext he, l, h1.ext he, fun s2 h3 => h2 s2 (he.trans h3)⟩
theorem Agd.ans {s : Ps} {ka e xs : List Nat} {xo : Option (List Nat)} {h : He} {sec : List Nat} {kb : Ks} (g : Agd s ka e kb.agree xs xo h sec) (ht : Tok s.ts) (hl : s.ts.length ≤ 1048576) (h1 : A15 kb.signed h.signed = some xs) (h2 : h.has = xo.isSome) (h3 : h.has = true → A15 kb.once h.once = xo) : anR kb h s = (some (sec, xs), s) := by
  obtain ⟨l, g1, g2⟩ := g.ex
  obtain ⟨g3, g4⟩ := g2 s (Pext.refl s) ht hl
  have hE : anE kb.agree xs xo h s = (some (sec, xs), s) := by
    have g5 := g1.swap
    obtain ⟨a1, a2⟩ : agS s (anP kb.agree xs xo h) = s ∧ agK s (anP kb.agree xs xo h) = l := by
      cases xo with
      | none => exact A5w [(xs, ka, h.ia), (kb.agree, e, h.key), (xs, e, h.key)] g5 (by intro q hq; simp at hq; rcases hq with rfl | rfl | rfl <;> first | exact g.pia | exact g.pkey) ht hl
      | some o => exact A5w [(xs, ka, h.ia), (kb.agree, e, h.key), (xs, e, h.key), (o, e, h.key)] g5 (by intro q hq; simp at hq; rcases hq with rfl | rfl | rfl | rfl <;> first | exact g.pia | exact g.pkey) ht hl
    unfold anE
    rw [a1, a2, g3, g4]
  cases xo with
  | none => rw [A5y h1 h2, hE]
  | some o => rw [A7I h1 h2 (h3 h2), hE]
theorem B1R (s : Ps) : ∀ x ∈ D6 s, x < 256 := by
  cases hr : s.real with
  | true => rw [A1P hr]; exact A1Q _ _ _
  | false => rw [A2T hr]; exact B0k _
theorem B4t {ka : Ks} {s : Ps} {b : Bn} {kb xs : List Nat} {xo : Option (List Nat)} (ha : BuI ka s) (pk : U2 s xs b.key) (pi : U2 s kb b.ia) (ho : b.has = xo.isSome) (po : ∀ o, xo = some o → U2 s o b.oncek ∧ ∀ x ∈ o, x < 256) (l1 : ∀ x ∈ ka.agree, x < 256) (l2 : ∀ x ∈ xs, x < 256) (l3 : ∀ x ∈ kb, x < 256) (hl : s.ts.length + 200 ≤ 1048576) (hn : s.n < 1000000000) :
    Agd (stS ka b s) ka.agree (D6 s) kb xs xo (stH ka b s) (stK ka b s) ∧ BuI ka (stS ka b s) ∧ Ext s (stS ka b s) ∧ B1t (stS ka b s) ka.sign (stH ka b s).ig := by
  have f1 := K8 s
  have t1 := A0V ha.tok (by omega : s.n < 1099511627776)
  have k1 := (A0j ha.tok (by omega : s.n < 1099511627776)).1
  have e1 := W6 s
  have h1 := ha.ext e1.p t1 ha.ar.fresh
  have hfl := B1R s
  obtain ⟨g1, t2⟩ : AgL (stA ka.agree b s) (prs ka.agree (D6 s) kb xs xo) (stL ka.agree b s) ∧ Tok (stA ka.agree b s).ts := by
    unfold stA stL stP
    cases xo with
    | none =>
      rw [show b.has = false from ho]
      exact B7G [(ka.agree, xs, b.key), (D6 s, kb, b.ia), (D6 s, xs, b.key)] (by
        intro q hq
        simp at hq
        rcases hq with rfl | rfl | rfl
        · exact ⟨h1.ag, pk.ext e1.p, l1, l2⟩
        · exact ⟨k1, pi.ext e1.p, hfl, l3⟩
        · exact ⟨k1, pk.ext e1.p, hfl, l2⟩) t1 (by show _ + 3 * 3 ≤ _; omega)
    | some o =>
      rw [show b.has = true from ho]
      exact B7G [(ka.agree, xs, b.key), (D6 s, kb, b.ia), (D6 s, xs, b.key), (D6 s, o, b.oncek)] (by
        intro q hq
        simp at hq
        rcases hq with rfl | rfl | rfl | rfl
        · exact ⟨h1.ag, pk.ext e1.p, l1, l2⟩
        · exact ⟨k1, pi.ext e1.p, hfl, l3⟩
        · exact ⟨k1, pk.ext e1.p, hfl, l2⟩
        · exact ⟨k1, (po o rfl).1.ext e1.p, hfl, (po o rfl).2⟩) t1 (by show _ + 3 * 4 ≤ _; omega)
  obtain ⟨m1, m2, m3, m4, m5⟩ := A5x ka b s
  have e2 : Ext (D3 s) (stA ka.agree b s) := B1Q _ _
  have h2 := h1.ext e2.p t2 (Ar.ag _ h1.ar)
  obtain ⟨h3, e3, p3, q3⟩ := h2.id (by omega)
  have i4 := A1A ka (stA ka.agree b s)
  obtain ⟨p4, -, t4⟩ := A4r ((k1.ext e2.p).ext e3) h3.tok (by omega)
  have e4 := (A0m (idS ka (stA ka.agree b s)) (D6 s)).p
  have h4 := h3.ext e4 t4 (h3.ar.pub _)
  change Tok (stI ka b s).ts at t4
  change U2 (stI ka b s) _ _ at p4
  change Pext _ (stI ka b s) at e4
  change BuI ka (stI ka b s) at h4
  have g4 := (g1.ext e3).ext e4
  have lb : (stL ka.agree b s).length + 1 ≤ 10 := by omega
  have t5 : Tok (stS ka b s).ts := B7l t4 g4.zrok A5v (by decide) (by decide) (by omega)
  have e5 : Pext (stI ka b s) (stS ka b s) := (B9j _ _ _ _ _).p
  have h5 := h4.ext e5 t5 (h4.ar.der _ _ _ _)
  have eall : Pext s (stS ka b s) := (((e1.p.trans e2.p).trans e3).trans e4).trans e5
  refine ⟨⟨(p3.ext e4).ext e5, p4.ext e5, _, g4.ext e5, fun s' he ht' hl' => ?_⟩, h5, ⟨eall, ?_, by omega⟩, (q3.ext e4).ext e5⟩
  · obtain ⟨a1, a2⟩ := B1x t4 g4.zrok A5v (by decide) (by decide) (by omega) he ht' hl'
    exact ⟨a1, by show (A8d s' _ _ _ _).getD 0 [] = _; rw [a2]; rfl⟩
  · have i1 : (idS ka (stA ka.agree b s)).seed = (stA ka.agree b s).seed := by unfold idS; rw [(A0m _ _).seed, (A0m _ _).seed]
    show (seS _ _).seed = _
    unfold seS stI
    rw [(A3s _ _ _ _ _).2.2, (A0m _ _).seed, i1, e2.seed, e1.seed]

abbrev Rst := List Nat × Bool
structure Rdr (rb : Nat) (st : Rst) (R M : Mem) : Prop where
  ex : ∃ (v : Value), M = [(rb, blk [v, .bool st.2] 165)] ∧ By R v st.1
def rnN (st : Rst) (k : Nat) : Nat := if st.2 || decide (st.1.length < k) then 0 else bev (st.1.take k)
def rnS (st : Rst) (k : Nat) : Rst := if st.2 || decide (st.1.length < k) then (st.1, true) else (st.1.drop k, false)
def rbN (st : Rst) (most : Nat) : List Nat :=
  if (rnS st 4).2 || decide (rnN st 4 > most) || decide (rnN st 4 > (rnS st 4).1.length) then [] else (rnS st 4).1.take (rnN st 4)
def rbS (st : Rst) (most : Nat) : Rst :=
  if (rnS st 4).2 || decide (rnN st 4 > most) || decide (rnN st 4 > (rnS st 4).1.length) then ((rnS st 4).1, true) else ((rnS st 4).1.drop (rnN st 4), false)
def rEnd (st : Rst) : Bool := !st.2 && decide (st.1.length = 0)
def u32N (x : Int) : Nat := (x % 4294967296).toNat
def u64N (x : Int) : Nat := (x % 18446744073709551616).toNat
def ctN (st : Rst) (most : Nat) : Nat := if rnN st 2 > most then 0 else rnN st 2
def ctS (st : Rst) (most : Nat) : Rst := if rnN st 2 > most then ((rnS st 2).1, true) else rnS st 2
def wiN (u d : Int) (a g : List Nat) : List Nat := beN (u64N u) 4 ++ beN (u64N d) 4 ++ (beN a.length 4 ++ a) ++ (beN g.length 4 ++ g)
theorem B9u {s : Ps} {l : List (List Nat)} : (A8d s z32 l A0c 1) = [seK s l] := by
  have h := B1y s z32 l A0c 1
  unfold seK
  match h2 : A8d s z32 l A0c 1, h with
  | [x], _ => rfl
theorem B9v (A : Mem) : FnX Tryz.prog 106 [] [] A fun q M J => M = [] ∧ By J q z32 := by
 refine FnX.enterZ (N := 2) Tryz.func106 rfl rfl rfl fun w_ => ?_
 refine C4 kn (A3 (as_ (A0 kn (A3 ?_))))
 refine A6 rfl (A3b (by_ := 1) (k := .u8) (e := 5) 32 rfl rfl kR rfl rfl (by decide) (by decide) rfl fun b1 => ?_)
 refine as_ (A0 (D8 0) (C2 ?_))
 exact ⟨_, [], [(b1, blk (nums .u8 z32) 5)], I4 rfl rfl, Fit.eq (by simp [z32]), rfl, ⟨Rd.whole (n := 32) List.mem_cons_self (by rfl), by decide, by decide⟩⟩
theorem A3Q (pb : Nat) (s : Ps) (lv : Value) (l : List (List Nat)) (MP A : Mem) (hP : Prm pb s MP) (hl : LsV A lv l) (hll : l.length ≤ 1000) (hn : s.ts.length ≤ 1040000) (hG : Glb A) : FnX Tryz.prog 62 [.pointer (some ⟨pb, 0, none⟩), lv] MP A fun q M J => Prm pb (seS s l) M ∧ By J q (seK s l) := by
 haveI := hl.cel
 refine FnX.enterZ (N := 16) Tryz.func62 rfl rfl rfl fun w_ => ?_
 refine C4 (D5 0 1) (A3 (as_ (A0 (D5 0 1) (A3 (mv_ ?_)))))
 refine C9 a0 kR (B9v _) rfl ?_
 rintro v7 M7 J7 ⟨rfl, h7⟩
 haveI := h7.cel
 refine mv_ ?_
 refine A6 rfl (E0 (Mc := MP) (R := _) (aS rfl (aS rfl (aS rfl (aS rfl (aS rfl a0))))) kR PickC.perm (A7a pb s v7 lv z32 A0c l 1 MP _ hP (h7.mono SubC.sub) (hl.mono SubC.sub) hll A5v (by decide) (by decide) (by decide) hn hG.up) rfl ?_)
 rintro v9 M9 J9 ⟨hP9, hL9⟩
 haveI := hL9.cel
 rw [B9u] at hL9
 obtain ⟨us, hru, hul⟩ := hL9.ex
 change Rd J9 1 v9 1 us at hru
 obtain ⟨u, hu, hub⟩ := hul.at (show 0 < [seK s l].length from Nat.zero_lt_one)
 haveI := hub.cel
 change By J9 u (seK s l) at hub
 change Prm pb (seS s l) M9 at hP9
 refine as_ (A0 (D8 5) (A5 (A3 (mv_ ?_))))
 refine A4 (I3 (sz := 1) rfl kR hru) rfl ?_
 refine A4 (F9 false rfl rfl (eqF (by decide))) rfl ?_
 refine A0 (D5 5 12) ?_
 refine D4 rfl ?_
 refine A9 (nx (D8 5) (A3 (mv_ ?_)))
 refine A4 (I7 (sz := 1) (a := 0) rfl rfl kR rfl hru (by decide)) rfl ?_
 refine A4 (A1b (u := u) (hru.mono SubC.sub) rfl kR hu) rfl ?_
 refine as_ (A0 (D8 4) (C2 ?_))
 exact ⟨_, M9, [], I4 rfl rfl, Fit.none (Fit.last PickC.perm), hP9, hub.mono SubC.sub⟩
def wiP (u d : Int) (a g : List Nat) (u' d' : Int) (a' g' : List Nat) : Nat → List Nat
  | 0 => []
  | 1 => wiN u d a g
  | _ => wiN u d a g ++ wiN u' d' a' g'
def withN (u d : Int) (a g : List Nat) (u' d' : Int) (a' g' : List Nat) : List Nat := wiN u d a g ++ wiN u' d' a' g'
theorem B1S (pb : Nat) (s : Ps) (b : Bn) (va vg vk vs vo : Value) (MP A : Mem) (hP : Prm pb s MP) (hsub : ∀ x, x ∈ MP → x ∈ A) (har : Ar s.ts) (hn : s.ts.length ≤ 1048576) (ga : By A va b.ia) (gg : By A vg b.ig) (gk : By A vk b.key) (gs : By A vs b.sig) (go : By A vo b.oncek) (hsn : b.signed < 4294967296) (hG : Glb A) : FnV Tryz.prog 21 [.pointer (some ⟨pb, 0, none⟩), .agg #[.int .i64 b.user, .int .i64 b.dev, va, vg, .int .u32 ((b.signed : Nat) : Int), vk, vs, .bool b.has, .int .u32 ((b.once : Nat) : Int), vo]] A (.bool (decide (b.key.length = 32) && B2l s b.ig (A5F b.signed b.key) b.sig)) := by
 haveI := ga.cel
 haveI := gg.cel
 haveI := gk.cel
 haveI := gs.cel
 haveI := go.cel
 have hgl := gk.len
 refine FnX.enter (N := 23) Tryz.func21 rfl rfl rfl fun w => ?_
 refine C4 (D5 0 1) (A3 ?_)
 refine A6 rfl (bx_ fun b3 => ?_)
 refine as_ (A0 (D5 0 3) ?_)
 refine D2 (.range 19) [(0, 0), (1, 1), (2, 0), (3, 0), (4, 0), (5, 0), (6, 0), (7, 0), (8, 1), (9, 0), (10, 1), (11, 0), (12, 1), (14, 0), (15, 1), (13, 2), (16, 2), (17, 0), (18, 0)] kR kR fun hs => ?_
 refine D1 hs rfl (qf_ 5 5) rfl ?_
 refine F6 hs rfl ql_ rfl ?_
 refine D1 hs rfl (I3 (sz := 1) rfl kR gk.rd) rfl ?_
 refine D1 hs rfl (F9 (decide (b.key.length = 32)) rfl rfl (B9L _ 32)) rfl ?_
 refine fm_ hs ?_
 refine V9 (t := 9) rfl (fun hb => ?_) (fun hb => ?_)
 ·
  have hk32 : b.key.length = 32 := of_decide_eq_true hb
  refine N3 hs rfl rfl rfl rfl qm_ rfl ?_
  refine N3 hs rfl rfl rfl rfl (qf_ 2 2) rfl ?_
  refine N3 hs rfl rfl rfl rfl (qf_ 3 1) rfl ?_
  refine A0d hs rfl rfl rfl rfl ql_ rfl ?_
  refine N3 hs rfl rfl rfl rfl (qf_ 4 4) rfl ?_
  refine A0d hs rfl rfl rfl rfl ql_ rfl ?_
  refine N3 hs rfl rfl rfl rfl (qf_ 5 5) rfl ?_
  refine A0d hs rfl rfl rfl rfl ql_ rfl ?_
  refine N3 hs rfl rfl rfl rfl (qf_ 6 6) rfl ?_
  refine A0d hs rfl rfl rfl rfl ql_ rfl ?_
  refine A2J rfl rfl rfl rfl (aS rfl (aS rfl a0)) kR (A6E b.signed vk b.key _ hsn (gk.mono SubC.sub) (by omega)) rfl ?_
  rintro v18 M18 J18 ⟨rfl, h18⟩
  haveI := h18.cel
  refine A3g rfl rfl rfl rfl (aS rfl (aS rfl (aS rfl (aS rfl a0)))) kR (B3U pb s vg v18 vs b.ig (A5F b.signed b.key) b.sig MP _ hP (fun x hx => SubC.sub _ (hsub x hx)) har hn (gg.mono SubC.sub) (h18.mono SubC.sub) (gs.mono SubC.sub) hG.up) rfl ?_
  refine D1 hs rfl (H4 rfl rfl) rfl ?_
  refine fa_ hs ?_
  refine E3 (D8 4) (C2 ?_)
  exact ⟨_, [], [], I4 rfl rfl, List.nil_sublist _, by simp, by rw [hb, Bool.true_and], rfl, rfl⟩
 ·
  refine L4 hs ?_
  refine L4 hs ?_
  refine L4 hs ?_
  refine T9 hs ?_
  refine L4 hs ?_
  refine T9 hs ?_
  refine L4 hs ?_
  refine T9 hs ?_
  refine L4 hs ?_
  refine T9 hs ?_
  refine A63 hs rfl rfl rfl rfl rfl rfl ?_
  refine A63 hs rfl rfl rfl rfl rfl rfl ?_
  refine D1 hs rfl (E9 rfl rfl) rfl ?_
  refine fa_ hs ?_
  refine E3 (D8 4) (C2 ?_)
  exact ⟨_, [], [], I4 rfl rfl, List.nil_sublist _, by simp, by rw [hb, Bool.false_and], rfl, rfl⟩

end Go.Proofs.YthbhpfefdnffaaaGreatDoor
