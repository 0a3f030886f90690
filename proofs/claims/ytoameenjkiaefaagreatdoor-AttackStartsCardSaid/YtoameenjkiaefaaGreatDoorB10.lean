/- Part 10 of the texts of this claim, one behind the other. -/
import Derived.Test.YtoameenjkiaefaaGreatDoorB9
import Derived.Laws.StructEq
import Derived.Laws.Cover3
set_option linter.unusedVariables false
set_option linter.unusedSimpArgs false
set_option maxRecDepth 100000
namespace Go.Proofs.YtoameenjkiaefaaGreatDoor
open Go.Px
noncomputable def idS (k : Ks) (s : Ps) : Ps := G1 (G1 s k.agree) k.sign
noncomputable def idA (k : Ks) (s : Ps) : LN := I5 s k.agree
noncomputable def idG (k : Ks) (s : Ps) : LN := B5y (G1 s k.agree) k.sign
theorem A0L (k : Ks) (s : Ps) : (idS k s).ts.length ≤ s.ts.length + 4 := by
  have h1 := N9 s k.agree
  have h2 := N9 (G1 s k.agree) k.sign
  unfold idS; omega
theorem A3Z (k : Ks) (s : Ps) : (Z9 k s).2.ts.length ≤ s.ts.length + 5 ∧ (Z9 k s).2.n = s.n + 1 := by
  have h1 := K3 s
  have h2 := N9 (D4 s) (D9 s)
  have h3 := B1j (G1 (D4 s) (D9 s)) k.sign (A4X k.next (I5 (D4 s) (D9 s)))
  have h4 := B6t (G1 (D4 s) (D9 s)) k.sign (A4X k.next (I5 (D4 s) (D9 s)))
  have h5 := A3Y (D4 s) (D9 s)
  show (A9b k s).ts.length ≤ _ ∧ (A9b k s).n = _
  unfold A9b
  omega
theorem A7r (k : Ks) (s : Ps) : (Z9 k s).1.next = k.next + 1 := rfl
theorem B1k (k : Ks) (s : Ps) : (A2Q k s).2.ts.length ≤ s.ts.length + 4 ∧ (A2Q k s).2.n ≤ s.n + 4 ∧ (A2Q k s).1.next ≤ k.next + 4 := by
  have h1 := A1Q k s (4 - k.once.length)
  have h2 := A0n k s (4 - k.once.length)
  unfold A2Q
  omega
def k0N (u d : Int) (s : Ps) : Ks := ⟨u, d, D9 s, D9 (D4 s), [], [], 1, []⟩
noncomputable def A9e (u d : Int) (s : Ps) : Ks × Ps := A2Q (Z9 (k0N u d s) (D4 (D4 s))).1 (Z9 (k0N u d s) (D4 (D4 s))).2
theorem B4f (u d : Int) (s : Ps) : (A9e u d s).2.ts.length ≤ s.ts.length + 11 ∧ (A9e u d s).2.n ≤ s.n + 7 ∧ (A9e u d s).1.next ≤ 6 := by
  have h1 := K3 s
  have h2 := K3 (D4 s)
  have h3 := A3Z (k0N u d s) (D4 (D4 s))
  have h4 := B1k (Z9 (k0N u d s) (D4 (D4 s))).1 (Z9 (k0N u d s) (D4 (D4 s))).2
  have h5 : (Z9 (k0N u d s) (D4 (D4 s))).1.next = 2 := rfl
  unfold A9e
  omega
structure Bn where
  user : Int
  dev : Int
  ia : LN
  ig : LN
  signed : Nat
  key : LN
  sig : LN
  has : Bool
  once : Nat
  oncek : LN
def bnR (R : Mem) (x : Bn) (r : List Value) : Prop := ∃ va vg vk vs vo, r = [.int .i64 x.user, .int .i64 x.dev, va, vg, (vU x.signed), vk, vs, .bool x.has, (vU x.once), vo] ∧ By R va x.ia ∧ By R vg x.ig ∧ By R vk x.key ∧ By R vs x.sig ∧ By R vo x.oncek ∧ x.signed < 4294967296 ∧ x.once < 4294967296
theorem bnT : RowT 10 bnR := ⟨fun R R' x r hR ⟨va, vg, vk, vs, vo, h1, h2, h3, h4, h5, h6, h7⟩ => ⟨va, vg, vk, vs, vo, h1, h2.mono hR, h3.mono hR, h4.mono hR, h5.mono hR, h6.mono hR, h7⟩, fun R x r ⟨va, vg, vk, vs, vo, h1, _⟩ => by rw [h1]; rfl, fun R x r ⟨va, vg, vk, vs, vo, h1, h2, h3, h4, h5, h6, _⟩ => by
  rw [h1]
  exact A3 rfl (A3 rfl (A3 h2.one (A3 h3.one (A3 rfl (A3 h4.one (A3 h5.one (A3 rfl (A3 rfl (A3 h6.one H9)))))))))⟩
noncomputable def bunB (k : Ks) (x : Pr) (s : Ps) : Bn := ⟨k.user, k.dev, idA k s, idG k s, x.n, I5 (idS k s) x.sec, x.sig, false, 0, []⟩
noncomputable def A5i (b : Bn) (l : List Pr) (s : Ps) : Nat → List Bn × Ps
  | 0 => ([b], s)
  | i + 1 => match l[i]? with
    | none => A5i b l s i
    | some o => ((A5i b l s i).1 ++ [{ b with has := true, once := o.n, oncek := I5 (A5i b l s i).2 o.sec }], G1 (A5i b l s i).2 o.sec)
theorem A45 {b : Bn} {l : List Pr} {s : Ps} {i : Nat} {o : Pr} (h : l[i]? = some o) : A5i b l s (i + 1) = ((A5i b l s i).1 ++ [{ b with has := true, once := o.n, oncek := I5 (A5i b l s i).2 o.sec }], G1 (A5i b l s i).2 o.sec) := by
  simp only [A5i, h]
theorem A6x {b : Bn} {l : List Pr} {s : Ps} : ∀ {i : Nat}, i ≤ l.length → (A5i b l s i).1.length = i + 1 ∧ (A5i b l s i).2.ts.length ≤ s.ts.length + 2 * i
  | 0, _ => ⟨rfl, Nat.le_refl _⟩
  | i + 1, h => by
    have ih := A6x (b := b) (s := s) (i := i) (l := l) qO
    rw [A45 (List.getElem?_eq_getElem qO)]
    have h2 := N9 (A5i b l s i).2 (l[i]'qO).sec
    refine ⟨by simp [ih.1], ?_⟩
    show (G1 _ _).ts.length ≤ _
    omega
noncomputable def B4g (k : Ks) (s : Ps) : List Bn × Ps := match k.signed with
  | [] => ([], s)
  | x :: _ => A5i (bunB k x s) k.once (G1 (idS k s) x.sec) k.once.length
theorem A2x (pb : Nat × Nat) (s : Ps) (kb : Nat) (k : Ks) (va vg vq vo vm : Value) (rs ro rm : List (List Value)) (MP A : Mem) (hK : KyR A kb k va vg vq vo vm rs ro rm) (hP : Prm pb s MP) (hn : s.ts.length + 100 ≤ 1048576) (hG : Glb A) : FnX Tryz.prog 51 [(vP kb), .pointer (some ⟨pb.1, 0, none⟩)] MP A fun q M J => Prm pb (idS k s) M ∧ ∃ p r, q = .agg #[p, r] ∧ By J p (idA k s) ∧ By J r (idG k s) := by
 have hkb := hK.blk_
 haveI := hK.agree.cel
 haveI := hK.sign.cel
 haveI := hK.signed.cel
 haveI := hK.once.cel
 haveI := hK.met.cel
 have pl := N9 s k.agree
 refine FnX.enterZ (N := 21) Tryz.func51 rfl rfl rfl fun w_ => ?_
 refine A8 (D0 0 1) (A1 ?_)
 refine A4 rfl (D2 (cs := [vS, vS]) kR rfl fun b4 => ?_)
 refine A0 (E5 0 1 4) (A6 (A1 (mv_ ?_)))
 refine A2 (C9 (e := 127) rfl rfl kR) rfl ?_
 refine A0 (F4 0 1 4 6) ?_
 refine B0 rfl ?_
 refine A5 (nx (E5 0 1 4) ?_)
 refine E6 (MP) (_) true (.range 13) [(0, 0), (1, 0), (2, 0), (3, 0), (4, 1), (6, 0), (7, 0), (8, 0), (9, 0), (10, 1), (5, 2), (11, 2), (12, 0), (13, 2)] kR kR qP fun hs K n0 hKm hKs hKn => ?_
 refine km_ hs ?_
 refine km_ hs ?_
 refine F1 hs rfl (D8 rfl) rfl ?_
 refine F1 hs rfl (qf_ 2 2) rfl ?_
 refine I1 hs rfl hKs (G3 rfl kR (mA hkb) qR) ?_
 refine km_ hs ?_
 refine km_ hs ?_
 refine F1 hs rfl (D8 rfl) rfl ?_
 refine F1 hs rfl (qf_ 3 3) rfl ?_
 refine I1 hs rfl hKs (G3 rfl kR (mA hkb) qR) ?_
 refine F9 _ _ rfl rfl (List.Perm.refl _) hKm fun w0 => (A9 (Mc := MP) (R := _) (aS rfl (aS rfl (a0))) kR qP (A0m pb s va k.agree MP _ hP qO (hK.agree.mono qS) hG.up) rfl ?_)
 rintro v13 M13 J13 ⟨hP13, h13⟩ hKx13
 haveI := h13.cel
 refine F9 M13 _ rfl rfl qP (fun x hx => hKx13 (hKn rfl) x (by simpa using hx)) fun w0 => (A9 (Mc := M13) (R := _) (aS rfl (aS rfl (a0))) kR qP (A8U pb (G1 s k.agree) vg k.sign M13 _ hP13 qO (hK.sign.mono qS) hG.up) rfl ?_)
 rintro v19 M19 J19 ⟨hP19, h19⟩ hKx19
 haveI := h19.cel
 refine F1 hs rfl (D6 (place := fun x => #[(0, 1), (1, 1)][x]?) (z := [vS, vS]) (fun _ => by kernel_rfl) (eS rfl (eS rfl e0)) (bdS 0 1 rfl qR (bdS 1 1 rfl qR bd0))) rfl ?_
 refine K2 rfl rfl rfl (B8 (vs := [v13, v19]) rfl rfl rfl kR qR (A3 h13.one (A3 h19.one H9)) UpC.upd ?_)
 refine G7 (C7 4) (A7 ?_)
 exact ⟨_, M19, [], B0k rfl rfl kR At.mem qR, Fit.none (Fit.last qP), hP19, _, _, rfl, h13.mono qS, h19.mono qS⟩
theorem B4h (u d : Int) (pb : Nat × Nat) (s : Ps) (MP A : Mem) (hP : Prm pb s MP) (hn : s.ts.length + 200 ≤ 1048576) (hk : s.n + 100 < 1000000000) (hG : Glb A) : FnX Tryz.prog 19 [.pointer (some ⟨pb.1, 0, none⟩), .agg #[.int .i64 u, .int .i64 d]] MP A fun q M J => ∃ kb MK MP2, q = (vP kb) ∧ M = MK ++ MP2 ∧ Kys (J ++ A) kb (A9e u d s).1 MK ∧ Prm pb (A9e u d s).2 MP2 := by
 have f1 := K3 s
 have f2 := K3 (D4 s)
 have f3 := A3Z (k0N u d s) (D4 (D4 s))
 refine FnX.enterZ (N := 20) Tryz.func19 rfl rfl rfl fun w_ => ?_
 refine A8 (D0 0 1) (A1 ?_)
 refine A4 rfl (bx_ fun b3 => ?_)
 refine as_ (A0 (D0 0 3) ?_)
 refine E6 (MP) (_) true (.range 8) [(0, 1), (1, 0), (3, 0), (2, 2), (4, 2), (5, 0), (6, 2), (7, 0)] kR kR qP fun hs K n0 hKm hKs hKn => ?_
 refine I1 hs rfl hKs (qw_ 2) ?_
 refine km_ hs ?_
 refine km_ hs ?_
 refine F9 _ _ rfl rfl (List.Perm.refl _) hKm fun w0 => (A9 (Mc := MP) (R := _) (aS rfl (a0)) kR qP (R7 pb s MP _ hP qO qO hG.up) rfl ?_)
 rintro v8 M8 J8 ⟨hP8, h8⟩ hKx8
 haveI := h8.cel
 refine F9 M8 _ rfl rfl qP (fun x hx => hKx8 (hKn rfl) x (by simpa using hx)) fun w0 => (A9 (Mc := M8) (R := _) (aS rfl (a0)) kR qP (R7 pb (D4 s) M8 _ hP8 qO qO hG.up) rfl ?_)
 rintro v10 M10 J10 ⟨hP10, h10⟩ hKx10
 haveI := h10.cel
 refine F1 hs rfl (D6 (place := fun x => #[(0, 2), (2, 1), (3, 1), (4, 1), (5, 1), (6, 1), (7, 1)][x]?) (z := [G8, G8, vS, vS, vS, vS, E4, vS]) (fun _ => by kernel_rfl) (eS rfl (eS rfl (eS rfl (eS rfl e0)))) (bdS 0 2 rfl qR (bdS 2 1 rfl qR (bdS 3 1 rfl qR (bdS 6 1 rfl qR bd0))))) rfl ?_
 refine F9 [] _ rfl rfl (List.Perm.refl _) (fun _ h => by cases h) fun w0 => (B3e rfl (by first | exact Cel.cel | rfl) rfl fun b12 => fun hk12 => ?_)
 dsimp only [List.cons_append, List.nil_append, List.append_eq]
 refine F1 hs rfl (F5 rfl) rfl ?_
 refine G7 (D0 0 5) (A1 (mv_ (mv_ ?_)))
 refine A4 rfl (A9 (Mc := (b12, blk [.int .i64 u, .int .i64 d, v8, v10, vS, vS, (vU 1), vS] 127) :: M10) (R := _) (aS rfl (aS rfl a0)) kR qP (B6u b12 pb (k0N u d s) (D4 (D4 s)) [(b12, blk [.int .i64 u, .int .i64 d, v8, v10, vS, vS, (vU 1), vS] 127)] M10 _ ⟨⟨v8, v10, _, _, _, [], [], [], [], [], [], rfl, h8.mono qS, h10.mono qS, Sl.nil, RwL.nil, Sl.nil, RwL.nil, Sl.nil, RwL.nil, show 1 < 4294967296 by decide, Nat.zero_le _, Nat.zero_le _, Nat.zero_le _⟩⟩ hP10 qO qO (show 1 + 100 < 4000000000 by decide) hG.up) rfl ?_)
 rintro v15 M15 J15 ⟨MK15, MP15, rfl, hK15, hP15⟩
 refine A0 (D0 0 5) (A1 (mv_ (mv_ ?_)))
 refine A4 rfl (A9 (Mc := MK15 ++ MP15) (R := _) (aS rfl (aS rfl a0)) kR qP (B6s b12 pb _ _ MK15 MP15 _ (hK15.mono qS) hP15 qO qO (by rw [A7r]; show 1 + 1 + 100 < 4000000000; decide) hG.up) rfl ?_)
 rintro v18 M18 J18 ⟨rfl, MK18, MP18, rfl, hK18, hP18⟩
 refine A0 (C7 5) (A1 (mv_ (as_ (A0 (C7 4) (A7 ?_)))))
 exact ⟨_, MK18 ++ MP18, [(b3, blk [.int .i64 u, .int .i64 d] 28)], F7 rfl rfl, Fit.pick (B := [_]) qP (Fit.last qP), _, MK18, MP18, rfl, rfl, hK18.mono qS, hP18⟩
theorem A2y (pb : Nat × Nat) (s : Ps) (kb : Nat) (k : Ks) (va vg vq vo vm : Value) (rs ro rm : List (List Value)) (x : Pr) (sl : List Pr) (MP A : Mem) (hK : KyR A kb k va vg vq vo vm rs ro rm) (hsg : k.signed = x :: sl) (hP : Prm pb s MP) (hn : s.ts.length + 100 ≤ 1048576) (hol : k.once.length ≤ 10) (hG : Glb A) : FnX Tryz.prog 18 [(vP kb), .pointer (some ⟨pb.1, 0, none⟩)] MP A fun q M J => Prm pb (B4g k s).2 M ∧ ∃ rows, Rd J 10 q (B4g k s).1.length rows.flatten ∧ RwL bnR (J ++ A) rows (B4g k s).1 := by
 have hkb := hK.blk_
 haveI := hK.agree.cel
 haveI := hK.sign.cel
 haveI := hK.signed.cel
 haveI := hK.once.cel
 haveI := hK.met.cel
 have il := A0L k s
 obtain ⟨r0, hr0, vs_, vg_, rfl, hs_, hg_, hxn⟩ := hK.signedR.get 0 x (by rw [hsg]; rfl)
 haveI := hs_.cel
 haveI := hg_.cel
 refine FnX.enterZ (N := 62) Tryz.func18 rfl rfl rfl fun w_ => ?_
 refine A8 (D0 0 1) (A1 (as_ (A0 (D0 0 1) (A6 (A1 (mv_ ?_))))))
 refine A2 (C9 (e := 127) rfl rfl kR) rfl ?_
 refine A0 (E5 0 1 12) ?_
 refine B0 rfl ?_
 refine A5 (nx (D0 0 1) (A1 (mv_ ?_)))
 refine A2 (D8 rfl) rfl ?_
 refine A2 (qf_ 4 4) rfl ?_
 refine A2 (G3 rfl kR (mA hkb) qR) rfl ?_
 refine A2 (F2 (sz := 3) (a := 0) rfl rfl kR rfl hK.signed (by rw [hsg]; simp)) rfl ?_
 refine A2 (U4 rfl kR (hK.signed.mono qS) (hK.signedR.lens prT) qD hr0) rfl ?_
 refine A4 rfl (D2 (cs := [.int .u32 0, vS, vS]) kR rfl fun b5 => ?_)
 refine A4 rfl (B8 (vs := [(vU x.n), vs_, vg_]) rfl rfl rfl kR qR (A3 rfl (A3 hs_.one (A3 hg_.one H9))) UpC.upd ?_)
 refine A0 (E5 0 1 5) ?_
 refine E6 (MP) (_) true (.range 17) [(0, 0), (1, 0), (2, 0), (3, 1), (4, 0), (5, 0), (7, 0), (8, 1), (9, 0), (10, 0), (11, 1), (13, 0), (14, 1), (6, 3), (12, 3), (15, 3), (16, 4), (17, 2)] kR kR qP fun hs K n0 hKm hKs hKn => ?_
 refine km_ hs ?_
 refine F1 hs rfl (D8 rfl) rfl ?_
 refine F1 hs rfl (qf_ 0 0) rfl ?_
 refine I1 hs rfl hKs (A15 (n := 2) rfl kR (mA hkb) TakeC.take) ?_
 refine km_ hs ?_
 refine km_ hs ?_
 refine F1 hs rfl (qf_ 0 0) rfl ?_
 refine I1 hs rfl hKs ql_ ?_
 refine km_ hs ?_
 refine F1 hs rfl (qf_ 1 1) rfl ?_
 refine I1 hs rfl hKs ql_ ?_
 refine F1 hs rfl (qf_ 2 2) rfl ?_
 refine I1 hs rfl hKs ql_ ?_
 refine V1 [⟨6, 25, none, MP, fun v B R => Prm pb (idS k s) B ∧ ∃ p q, v = .agg #[p, q] ∧ By R p (idA k s) ∧ By R q (idG k s)⟩, ⟨12, 31, some 6, [], fun v B R => Prm pb (G1 (idS k s) x.sec) B ∧ By R v (I5 (idS k s) x.sec)⟩, ⟨15, 34, none, [], fun v B R => B = [] ∧ ∃ p q u, v = .agg #[.int .i64 k.user, .int .i64 k.dev, p, q, (vU x.n), u, vg_, .bool false, (vU 0), vS] ∧ By R p (idA k s) ∧ By R q (idG k s) ∧ By R u (I5 (idS k s) x.sec)⟩, ⟨16, 6, none, [], fun v B _ => ∃ b, v = (vP b) ∧ B = [(b, blk [.int .i64 0, .int .i64 0, vS, vS, .int .u32 0, vS, vS, .bool false, .int .u32 0, vS] 59)]⟩] (_) (fun bs => [bs 12, bs 15, bs 16]) (hKn rfl) (List.Perm.refl _) (show ∀ m ∈ ([MP, [], []] : List Mem), ∀ x ∈ m, K x.1 from A3 (hKm) (A3 (fun _ h => by cases h) (A3 (fun _ h => by cases h) (H9)))) kR (fun _ => by first | rfl | kernel_rfl)
  (A3 (fun _ _ _ _ h ⟨p1, p, q, e, p2, p3⟩ => ⟨p1, p, q, e, p2.mono h, p3.mono h⟩) (A3 (fun _ _ _ _ h ⟨p1, p2⟩ => ⟨p1, p2.mono h⟩) (A3 (fun _ _ _ _ h ⟨p1, p, q, u, e, p2, p3, p4⟩ => ⟨p1, p, q, u, e, p2.mono h, p3.mono h, p4.mono h⟩) (A3 (fun _ _ _ _ h hp => hp) (H9))))) (show List.Nodup [25, 31, 34, 6] by decide) (show List.Nodup [6, 12, 15, 16] by decide) (A3 (D5 rfl) (A3 (D5 rfl) (A3 (D5 rfl) (A3 (D5 rfl) (H9)))))
  (A3 ⟨_, rfl, fun vs bs R Rj wG hb hj hjr ha => ⟨.inl rfl, ?_⟩⟩ (A3 ⟨_, rfl, fun vs bs R Rj wG hb hj hjr ha => ⟨.inl rfl, ?_⟩⟩ (A3 ⟨_, rfl, fun vs bs R Rj wG hb hj hjr ha => ⟨.inl rfl, ?_⟩⟩ (A3 ⟨_, rfl, fun vs bs R Rj wG hb hj hjr ha => ⟨.inl rfl, ?_⟩⟩ (H9))))) ?_
 ·
  dsimp only [Gc.inp]
  refine A9 (Mc := MP) (R := []) (aS rfl (aS rfl (a0))) kR qM (A2x pb s kb k va vg vq vo vm rs ro rm MP _ (hK.mono (fun x hx => by have := hb x (by simp [hx]); simp [this])) hP qO (hG.sub (fun x hx => by have := hb x (by simp [hx]); simp [this]))) rfl ?_
  rintro v25 M25 J25 ⟨hP25, p, q, rfl, hp, hq⟩
  exact ⟨_, rfl, by simpa using hP25, p, q, rfl, hp.mono fun x hx => by simp [hx], hq.mono fun x hx => by simp [hx]⟩
 ·
  dsimp only [Gc.inp]
  have g6 := ha _ (List.mem_of_getElem? (i := 0) rfl) kR
  replace g6 : (fun v B R => Prm pb (idS k s) B ∧ ∃ p q, v = .agg #[p, q] ∧ By R p (idA k s) ∧ By R q (idG k s)) (vs 6) (bs 6) Rj := g6
  dsimp only at g6
  obtain ⟨hP25, -⟩ := g6
  refine A9 (Mc := bs 6) (R := []) (aS rfl (aS rfl (a0))) kR qM (A0m pb (idS k s) vs_ x.sec (bs 6) _ hP25 qO (hs_.mono (fun x hx => by have := hb x (by simp [hx]); simp [this])) (hG.sub (fun x hx => by have := hb x (by simp [hx]); simp [this]))) rfl ?_
  rintro v31 M31 J31 ⟨hP31, h31⟩
  exact ⟨_, rfl, by simpa using hP31, h31.mono fun x hx => by simp [hx]⟩
 ·
  dsimp only [Gc.inp]
  have g6 := ha _ (List.mem_of_getElem? (i := 0) rfl) kR
  replace g6 : (fun v B R => Prm pb (idS k s) B ∧ ∃ p q, v = .agg #[p, q] ∧ By R p (idA k s) ∧ By R q (idG k s)) (vs 6) (bs 6) Rj := g6
  dsimp only at g6
  have g12 := ha _ (List.mem_of_getElem? (i := 1) rfl) kR
  replace g12 : (fun v B R => Prm pb (G1 (idS k s) x.sec) B ∧ By R v (I5 (idS k s) x.sec)) (vs 12) (bs 12) Rj := g12
  dsimp only at g12
  obtain ⟨-, h31⟩ := g12
  obtain ⟨-, p, q, e25, hp, hq⟩ := g6
  haveI := h31.cel
  haveI := hp.cel
  haveI := hq.cel
  dsimp only [N3, List.map, List.cons_append, List.nil_append]
  rw [e25]
  exact OpQ.opL (D6 (place := fun x => #[(0, 2), (2, 2), (4, 1), (5, 1), (6, 1), (7, 1), (8, 1), (9, 1)][x]?) (z := [G8, G8, vS, vS, E4, vS, vS, .bool false, E4, vS]) (fun _ => by kernel_rfl) (eS rfl (eS rfl (eS rfl (eS rfl (eS rfl e0))))) (bdS 0 2 rfl qR (bdS 2 2 rfl qR (bdS 4 1 rfl qR (bdS 5 1 rfl qR (bdS 6 1 rfl qR bd0)))))) rfl ⟨_, rfl, rfl, p, q, _, rfl, hp, hq, h31⟩
 ·
  dsimp only [Gc.inp]
  exact D2 (cs := [G8, G8, vS, vS, E4, vS, vS, .bool false, E4, vS]) kR rfl fun b => ⟨_, rfl, b, rfl, rfl⟩
 intro vs bs Jn0 hφ hKK
 have kk6 := hKK _ (List.mem_of_getElem? (i := 0) rfl)
 dsimp only at kk6
 have kk12 := hKK _ (List.mem_of_getElem? (i := 1) rfl)
 dsimp only at kk12
 have kk15 := hKK _ (List.mem_of_getElem? (i := 2) rfl)
 dsimp only at kk15
 have kk16 := hKK _ (List.mem_of_getElem? (i := 3) rfl)
 dsimp only at kk16
 clear hKK
 have g6 := ofH hφ
 dsimp only at g6
 replace hφ := ofT hφ
 have g12 := ofH hφ
 dsimp only at g12
 replace hφ := ofT hφ
 have g15 := ofH hφ
 dsimp only at g15
 replace hφ := ofT hφ
 have g16 := ofH hφ
 dsimp only at g16
 clear hφ
 dsimp only [N3, Q6, List.foldr, List.map, List.cons_append, List.nil_append]
 generalize bs 6 = B25 at *
 generalize bs 12 = B31 at *
 generalize bs 15 = B34 at *
 generalize bs 16 = B6 at *
 generalize vs 6 = u25 at *
 generalize vs 12 = u31 at *
 generalize vs 15 = u34 at *
 generalize vs 16 = u6 at *
 obtain ⟨hP31, h31⟩ := g12
 clear g6
 obtain ⟨b6, rfl, rfl⟩ := g16
 obtain ⟨rfl, p, q, u, rfl, hp, hq, hu⟩ := g15
 haveI := hp.cel
 haveI := hq.cel
 haveI := hu.cel
 obtain ⟨bb, hbb⟩ : ∃ bb, bunB k x s = bb := ⟨_, rfl⟩
 obtain ⟨s2, hs2⟩ : ∃ s2, G1 (idS k s) x.sec = s2 := ⟨_, rfl⟩
 rw [hs2] at hP31
 have hs2l : s2.ts.length ≤ s.ts.length + 6 := by have := N9 (idS k s) x.sec; rw [hs2] at this; omega
 have hbun : B4g k s = A5i bb k.once s2 k.once.length := by unfold B4g; rw [hsg, ← hbb, ← hs2]
 rw [hbun]
 have hbr : ∀ R, (∀ y, y ∈ Jn0 ++ [] ++ A → y ∈ R) → bnR R bb [.int .i64 k.user, .int .i64 k.dev, p, q, (vU x.n), u, vg_, .bool false, (vU 0), vS] := fun R hR => ⟨p, q, u, vg_, _, by rw [← hbb]; rfl, by rw [← hbb]; exact hp.mono hR, by rw [← hbb]; exact hq.mono hR, by rw [← hbb]; exact hu.mono hR, by rw [← hbb]; exact hg_.mono fun y hy => hR y (List.mem_append_right _ hy), by rw [← hbb]; exact By.nil, by rw [← hbb]; exact hxn, by rw [← hbb]; show 0 < 4294967296; decide⟩
 refine K2 rfl rfl rfl (B8 (vs := [.int .i64 k.user, .int .i64 k.dev, p, q, (vU x.n), u, vg_, .bool false, (vU 0), vS]) rfl rfl rfl kR qR (A3 rfl (A3 rfl (A3 hp.one (A3 hq.one (A3 rfl (A3 hu.one (A3 hg_.one al3))))))) UpC.upd ?_)
 refine G7 (E5 0 1 6) ?_
 refine V7 (B := [(b6, blk [.int .i64 k.user, .int .i64 k.dev, p, q, (vU x.n), u, vg_, .bool false, (vU 0), vS] 59)]) qP ?_
 refine A1 ?_
 refine A2 (qw_ 10) rfl ?_
 refine A4 rfl (C4 (e := 59) (sz := 10) (z := [G8, G8, vS, vS, E4, vS, vS, .bool false, E4, vS]) kR (eS rfl e0) (bdS 0 10 rfl qR bd0) rfl fun b36 => ?_)
 refine as_ (A0 (F4 0 1 6 7) (A6 (A1 (mv_ ?_))))
 refine A2 (D8 rfl) rfl ?_
 refine A2 (qf_ 5 5) rfl ?_
 refine A2 (G3 rfl kR (mA hkb) qR) rfl ?_
 refine A2 (E2 (sz := 3) rfl kR hK.once) rfl ?_
 refine mv_ (A0 (I7 1 6 7 40 41 42) (C5 ?_))
 refine H0 (α := Nat × (Value × List (List Value) × Mem) × Mem × Mem) (fun y => [(1, .pointer (some ⟨pb.1, 0, none⟩)), (6, (vP b6)), (7, y.2.1.1), (40, vo), (41, (vI k.once.length)), (42, (vI y.1))]) (fun y => y.2.1.2.2 ++ y.2.2.1) (fun y => y.2.2.2) (fun y => y.1 ≤ k.once.length ∧ Sl 10 y.2.1.1 (y.1 + 1) y.2.1.2.1.flatten y.2.1.2.2 ∧ RwL bnR (y.2.2.2 ++ A) y.2.1.2.1 (A5i bb k.once s2 y.1).1 ∧ Prm pb (A5i bb k.once s2 y.1).2 y.2.2.1 ∧ (b6, blk [.int .i64 k.user, .int .i64 k.dev, p, q, (vU x.n), u, vg_, .bool false, (vU 0), vS] 59) ∈ y.2.2.2 ∧ ∀ z, z ∈ Jn0 ++ [] ++ A → z ∈ y.2.2.2 ++ A) (fun y => k.once.length - y.1) (0, (.slice (some ⟨b36, 0, none⟩) 1 1, [[.int .i64 k.user, .int .i64 k.dev, p, q, (vU x.n), u, vg_, .bool false, (vU 0), vS]], [(b36, _)]), B31, _) ⟨Nat.zero_le _, Sl.fresh (n := 1) (cs := [.int .i64 k.user, .int .i64 k.dev, p, q, (vU x.n), u, vg_, .bool false, (vU 0), vS]) (e := 59) rfl qD, RwL.cons (hbr _ qS) RwL.nil, hP31, by simp, qS⟩ (I7 1 6 7 40 41 42) (Fit.pick (B := [_]) qP (Fit.last qP)) qI ?_
 rintro ⟨i, ⟨vi, ri, Bi⟩, MPi, Ji⟩ ⟨hi, hsi, hri, hPi, hJb, hJn⟩
 dsimp only at hi hsi hri hPi hJb hJn ⊢
 haveI := hsi.cel
 have hbl := A6x (b := bb) (s := s2) hi
 refine A1 ?_
 refine A2 (F3 rfl rfl rfl) rfl ?_
 refine A0 (S9 1 6 7 40 41 42 43) (A6 ?_)
 refine C3 rfl ?_ ?_ <;> intro hc
 ·
  have hlt : i < k.once.length := by simp at hc; omega
  obtain ⟨o, ho⟩ : ∃ o, k.once[i]? = some o := ⟨_, List.getElem?_eq_getElem hlt⟩
  obtain ⟨r1, hr1, vo1, vo2, rfl, ho1, ho2, hon⟩ := hK.onceR.get i o ho
  haveI := ho1.cel
  haveI := ho2.cel
  have hbs := A45 (b := bb) (s := s2) ho
  refine A5 (nx (I7 1 6 7 40 41 42) (A6 (C5 (A1 ?_))))
  refine A2 (F2 (sz := 3) rfl rfl kR rfl hK.once hlt) rfl ?_
  refine A2 (U4 rfl kR (hK.once.mono qS) (hK.onceR.lens prT) qD hr1) rfl ?_
  refine A4 rfl (D2 (cs := [.int .u32 0, vS, vS]) kR rfl fun b9 => ?_)
  refine A4 rfl (B8 (vs := [(vU o.n), vo1, vo2]) rfl rfl rfl kR qR (A3 rfl (A3 ho1.one (A3 ho2.one H9))) UpC.upd ?_)
  refine A0 (S9 1 6 7 9 40 41 42) (A1 ?_)
  refine A2 (A0z (n := 10) rfl kR (List.mem_append_right _ (List.mem_append_left _ hJb)) qR) rfl ?_
  refine A4 rfl (D2 (cs := [G8, G8, vS, vS, E4, vS, vS, .bool false, E4, vS]) kR rfl fun b10 => ?_)
  refine A4 rfl (B8 (vs := [.int .i64 k.user, .int .i64 k.dev, p, q, (vU x.n), u, vg_, .bool false, (vU 0), vS]) rfl rfl rfl kR qR (A3 rfl (A3 rfl (A3 hp.one (A3 hq.one (A3 rfl (A3 hu.one (A3 hg_.one al3))))))) UpC.upd ?_)
  refine A0 (A0A 1 6 7 9 10 40 41 42) ?_
  refine E6 (MPi ++ [(b10, blk [.int .i64 k.user, .int .i64 k.dev, p, q, (vU x.n), u, vg_, .bool false, (vU 0), vS] 59)]) (_) true [0, 1, 2, 3, 4, 5, 6, 7, 8, 10] [(0, 0), (1, 1), (2, 0), (3, 0), (4, 1), (6, 0), (5, 2), (7, 2), (8, 0), (9, 2), (10, 0), (11, 2)] kR kR qP fun hs K n0 hKm hKs hKn => ?_
  refine F1 hs rfl (qf_ 0 0) rfl ?_
  refine I1 hs rfl hKs ql_ ?_
  refine km_ hs ?_
  refine F1 hs rfl (qf_ 1 1) rfl ?_
  refine I1 hs rfl hKs ql_ ?_
  refine F1 hs rfl (qf_ 7 7) rfl ?_
  refine F9 MPi _ rfl rfl qP (fun y hy => hKm y (by simp [hy])) fun w0 => (A9 (Mc := MPi) (R := _) (aS rfl (aS rfl (a0))) kR qP (A0m pb _ vo1 o.sec MPi _ hPi qO (ho1.mono qS) hG.up) rfl ?_)
  rintro v52 M52 J52 ⟨hP52, h52⟩ hKx52
  haveI := h52.cel
  refine F9 [(b10, blk [.int .i64 k.user, .int .i64 k.dev, p, q, (vU x.n), u, vg_, .bool false, (vU 0), vS] 59)] _ rfl rfl qP (fun y hy => hKm y (by simp at hy; simp [hy])) fun w0 => (F8 rfl rfl rfl kR SetC.set UpC.upd ?_)
  intro hkS
  dsimp only [List.cons_append, List.nil_append, List.append_eq]
  refine F1 hs rfl (qf_ 8 8) rfl ?_
  refine K2 rfl rfl rfl (F8 rfl rfl rfl kR SetC.set UpC.upd ?_)
  refine F1 hs rfl (qf_ 9 9) rfl ?_
  refine K2 rfl rfl rfl (F8 rfl rfl h52.one kR SetC.set UpC.upd ?_)
  refine G7 (S9 1 6 7 10 40 41 42) (C6 (mv_ ?_))
  refine A2 (qw_ 10) rfl ?_
  refine A4 rfl (C4 (e := 59) (sz := 10) (z := [G8, G8, vS, vS, E4, vS, vS, .bool false, E4, vS]) kR (eS rfl e0) (bdS 0 10 rfl qR bd0) rfl fun b58 => ?_)
  refine A4 rfl (F6 (e := 59) (sz := 10) (by_ := 152) rfl rfl kR rfl hsi (Rd.whole (n := 1) At.mem qR) (A3 rfl (A3 rfl (A3 hp.one (A3 hq.one (A3 rfl (A3 hu.one (A3 hg_.one (A3 rfl (A3 rfl (A3 h52.one H9)))))))))) qP (by unfold maxLen; omega) qO rfl fun v59 B59 hs59 => ?_)
  refine as_ (E1 (nb (nx (I7 1 6 7 40 41 42) (C6 ?_))))
  refine A2 (Q0 ((i + 1 : Nat) : Int) rfl rfl (W1 qO qO qO)) rfl ?_
  refine mv_ (E1 ?_)
  exact rn (i + 1, (v59, ri ++ [[.int .i64 k.user, .int .i64 k.dev, p, q, (vU x.n), u, vg_, .bool true, (vU o.n), v52]], B59), M52, _) ⟨by dsimp only; omega, by simpa using hs59, by dsimp only; rw [hbs]; exact (hri.mono bnT qS).snoc ⟨p, q, u, vg_, v52, by rw [← hbb]; rfl, by rw [← hbb]; exact hp.mono fun z hz => qS z (hJn z hz), by rw [← hbb]; exact hq.mono fun z hz => qS z (hJn z hz), by rw [← hbb]; exact hu.mono fun z hz => qS z (hJn z hz), by rw [← hbb]; exact hg_.mono qS, h52.mono qS, by rw [← hbb]; exact hxn, hon⟩, by dsimp only; rw [hbs]; exact hP52, List.mem_append_right _ hJb, fun z hz => qS z (hJn z hz)⟩ (by dsimp only; omega) (I7 1 6 7 40 41 42) (Fit.pick qP (Fit.last qP)) qI
 ·
  have hge : i = k.once.length := by simp at hc; omega
  subst hge
  refine G4 (te (re (be rfl (nx (C7 7) (A1 (mv_ (as_ (A0 (C7 4) ?_))))))))
  refine A7 ?_
  exact ⟨_, MPi, Bi, F7 rfl rfl, Fit.pick qP (Fit.last qP), hPi, ri, by rw [hbl.1]; exact hsi.rd fun x hx => by simp [hx], hri.mono bnT qS⟩

end Go.Proofs.YtoameenjkiaefaaGreatDoor
namespace Go.Px
def B8m (P : Program) (t tn : TypeId) : Option (TypeId × List Value × Nat) :=
  match P.underlying tn with
  | some (.int _) => match P.underlying t with
    | some (.slice e) => match P.info? e with
      | some i => match i.zero with
        | some z => if i.size = z.cells.size ∧ 0 < i.size then some (e, z.cells.toList, i.bytes) else none
        | none => none
      | none => none
    | _ => none
  | _ => none
theorem A0x (zs : Array Value) (n : Nat) : (Builtin.zeroCells zs n).size = n * zs.size := by simp [Builtin.zeroCells]
section z
variable {C : Cx} {l : Env} {M J : Mem} {K : Env → Mem → Mem → Prop} {d : Nat} {ty t tn e : TypeId} {pos : String} {af : Array Edge} {g : Option (Nat × Bool)} {x y : Operand}
theorem A30 {P : Program} {m by_ : Nat} {zs : List Value} {w : World} (ht : B8m P t tn = some (e, zs, by_)) (hmax : m ≤ maxLen) (hbytes : m * by_ ≤ 140737488355328) :
    ∃ v' w', (Builtin.append_ #[t, tn] ty #[.slice none 0 0, .int .i64 (m : Int)]).run P w = .ok v' w' ∧
      ((w' = w ∧ v' = .slice none 0 0 ∧ m = 0) ∨ (∃ o', w' = w.drew.alloc o' ∧ Sl zs.length v' m (Builtin.zeroCells zs.toArray m).toList [(w.heap.size, o')])) := by
  unfold B8m at ht
  split at ht <;> try cases ht
  rename_i kn htn
  split at ht <;> try cases ht
  rename_i e' hu
  split at ht <;> try cases ht
  rename_i i hi
  split at ht <;> try cases ht
  rename_i z hz
  split at ht <;> simp only [Option.some.injEq, Prod.mk.injEq, reduceCtorEq] at ht
  rename_i his0
  obtain ⟨his, hs0⟩ := his0
  obtain ⟨rfl, rfl, rfl⟩ := ht
  have hwm : IntKind.i64.wrap (m : Int) = m := by rw [IntKind.wrap_i64]; simp only [maxLen] at hmax; omega
  have hneg : ¬ ((m : Int) < 0) := by omega
  have h48i : ¬ (281474976710656 < (m : Int) * (i.bytes : Int)) := by
    rw [← Int.natCast_mul]; omega
  by_cases hm : m = 0
  · subst hm
    have hw0 : IntKind.i64.wrap 0 = 0 := by rw [IntKind.wrap_i64]; omega
    refine ⟨.slice none 0 0, w, ?_, .inl ⟨rfl, rfl, rfl⟩⟩
    simp [Builtin.append_, run_underlying hu, run_underlying htn, sizeOf, typeInfo, hi, asInt, asIntOf, hw0, storeCells]
  · have hge := grownCap_ge w (0 + m) 0 e'
    have hcm : grownCap w (0 + m) 0 e' ≤ maxLen := grownCap_le_maxLen w (0 + m) 0 e' (by simpa using hmax)
    have hfit : Builtin.nextslicecap (0 + m) 0 * i.bytes ≤ 281474976710656 := growslice_fits (by simp only [maxLen] at hmax; omega) (by simpa using hbytes)
    have h48' : ¬ (281474976710656 < Builtin.nextslicecap (0 + m) 0 * i.bytes) := by omega
    simp only [Nat.zero_add] at *
    have h63'' : ¬ (9223372036854775807 < (m : Int)) := by simp only [maxLen] at hmax; omega
    have hms : ¬ (m * i.size = 0) := Nat.mul_ne_zero hm (by omega)
    refine ⟨.slice (some ⟨w.heap.size, 0, none⟩) m (grownCap w m 0 e'), w.drew.alloc (.cells (Builtin.zeroCells z.cells m ++ Builtin.zeroCells z.cells (grownCap w m 0 e' - m)) e' (0, 0)), ?_, .inr ⟨_, rfl, ?_⟩⟩
    · simp [Builtin.append_, run_underlying hu, run_underlying htn, sizeOf, typeInfo, zeroValue, hi, hz, asInt, asIntOf, hwm, hm, hneg, h63'', h48', h48i, Question.forced, newRow, grownCap, Builtin.firstCells, loadCells, loadCellsFrom]
      intro h; exact absurd h hms
    · refine .inr ⟨w.heap.size, 0, grownCap w m 0 e', (Builtin.zeroCells z.cells m ++ Builtin.zeroCells z.cells (grownCap w m 0 e' - m)).toList, e', rfl, by simp [blk], hge, hcm, ?_, ?_, ?_⟩
      · simp [A0x, Nat.sub_mul]
        have := Nat.mul_le_mul_right z.cells.size hge
        omega
      · simp [A0x]
      · intro j u hj
        have hlt := (List.getElem?_eq_some_iff.1 hj).1
        simp only [Array.toList_append, Nat.zero_add]
        simp only [Array.toArray_toList] at hj hlt
        rw [List.getElem?_append_left hlt]
        exact hj
theorem A7s {m by_ : Nat} {j : Int} {zs : List Value} (hx : ev l x = some (.slice none 0 0)) (hy : ev l y = some (.int .i64 j)) (hj : j = (m : Int)) (ht : B8m C.P t tn = some (e, zs, by_))
    (hmax : m ≤ maxLen) (hbytes : m * by_ ≤ 140737488355328) (hd : Nat.blt d C.N = true)
    (k : ∀ v' B', Sl zs.length v' m (Builtin.zeroCells zs.toArray m).toList B' → K ((d, v') :: l) (B' ++ M) J) :
    OpL C ⟨some d, .call { callee := .builtin .append, args := #[x, y], argTypes := #[t, tn] }, ty, pos, af, g⟩ l M J K := by
  intro Qp a w ha hw
  subst hj
  obtain ⟨v', w', hrun, hcase⟩ := A30 (P := C.P) (ty := ty) (w := w) ht hmax hbytes
  have hexec : (execOp a.eval ⟨some d, .call { callee := .builtin .append, args := #[x, y], argTypes := #[t, tn] }, ty, pos, af, g⟩).run C.P w = .ok (.value v') w' := by
    simp [execOp, resolve, invoke, builtin, ha.ev hx, ha.ev hy, hrun]
  unfold Oper.wp
  rw [hexec]
  rcases hcase with ⟨rfl, rfl, rfl⟩ | ⟨o', rfl, hsl⟩
  · exact ⟨_, M, J, ha.put (D5 hd) _, hw, k _ [] (by rw [show (Builtin.zeroCells zs.toArray 0).toList = [] by simp [Builtin.zeroCells]]; exact Sl.nil)⟩
  · exact ⟨_, (w.heap.size, o') :: M, J, ha.put (D5 hd) v', St.alloc (w := w.drew) hw.drew o', k v' [_] hsl⟩
end z
theorem B2L {P : Program} {R : Mem} {l : Env} {d : Option Nat} {ty : TypeId} {pos : String} {af : Array Edge} {g : Option (Nat × Bool)} {x : Operand} {t e : TypeId} {p : Option Addr} {n c : Nat} (hx : ev l x = some (.slice p n c)) (hu : P.underlying t = some (.slice e)) :
    OpQ P R ⟨d, .call { callee := .builtin .cap, args := #[x], argTypes := #[t] }, ty, pos, af, g⟩ l (.int .i64 c) := fun N a w ha hw => by
  simp [execOp, resolve, invoke, builtin, Builtin.cap_, ha.ev hx, run_underlying hu, goInt]
end Go.Px

namespace Go.Proofs.YtoameenjkiaefaaGreatDoor
open Go.Px
def useK (k : Ks) (n : Nat) : Ks := { k with once := k.once.filter fun x => !A2v n x }
def meetK (k : Ks) (n : Nat) (w : LN) : Ks := if (A2w k.signed n).isSome && !decide (0 ≤ Q5 (tstN n w) k.met) then { k with met := k.met ++ [⟨n, w⟩] } else k
def A3j (k : Ks) : List (LN) := k.agree :: k.sign :: (k.signed ++ k.once).map (·.sec)
theorem B6v (m : Nat) (A : Mem) (hm : m ≤ 1000000) : FnX Tryz.prog 106 [vS, (vI m)] [] A fun q M J => Sl 3 q 0 [] M := by
 refine FnX.enterZ (N := 27) Tryz.func106 rfl rfl rfl fun w_ => ?_
 refine A8 (D0 0 1) (A1 (as_ (A0 (D0 0 1) (A6 (A1 (mv_ ?_))))))
 refine A2 (F0 false rfl rfl (ltF qO)) rfl ?_
 refine A0 (E5 0 1 6) ?_
 refine B0 rfl ?_
 refine A5 (nx (D0 0 1) ?_)
 refine P2 (α := Value × Mem) (fun y => [(0, y.1)]) (fun y => y.2) (fun _ => []) (fun y => Sl 3 y.1 0 [] y.2) ?_ ?_
 ·
  refine A1 (mv_ (mv_ ?_))
  refine A2 (B2L (e := 123) rfl kR) rfl ?_
  refine mv_ ?_
  refine A2 (A0s (e := 123) rfl kR) rfl ?_
  refine A2 (Q0 (0 : Int) rfl rfl (A6Y qD qD qD)) rfl ?_
  refine A2 (Q0 (m : Int) rfl rfl (A6Y qO qO qO)) rfl ?_
  refine as_ (A0 (D0 0 1) (A1 (mv_ ?_)))
  refine A2 (F3 rfl rfl rfl) rfl ?_
  refine A0 (E5 0 1 16) ?_
  refine C3 rfl ?_ ?_ <;> intro hc
  ·
   have hm0 : 0 < m := by simp at hc; omega
   refine C6 (mv_ (mv_ ?_))
   refine A2 (B2L (e := 123) rfl kR) rfl ?_
   refine A2 (A19 (sz := 3) (a := 0) rfl rfl kR rfl (Rd.nil (R := [])) qD) rfl ?_
   refine mv_ ?_
   refine A4 rfl (A7s (m := m) rfl rfl rfl (e := 123) (zs := [.int .u32 0, vS, vS]) (by_ := 56) kR (by unfold maxLen; omega) qO rfl fun v22 B22 hs22 => ?_)
   haveI := hs22.cel
   refine mv_ ?_
   refine A2 (A0s (e := 123) rfl kR) rfl ?_
   refine A2 (A19 (sz := 3) (a := 0) rfl rfl kR rfl (hs22.rd (R := B22) fun _ h => h) qO) rfl ?_
   refine as_ (E1 ?_)
   exact jn (vHi 0 v22, B22) (by simpa using hs22.hiV 0 qO) (C7 0) (Fit.last qP) qI
  ·
   have hm0 : m = 0 := by simp at hc; omega
   refine A5 ?_
   exact jn (vS, []) Sl.nil (C7 0) .rfl qI
 ·
  rintro ⟨vj, Bj⟩ hj
  dsimp only at hj ⊢
  haveI := hj.cel
  refine A1 (mv_ (as_ (A0 (C7 4) (A7 ?_))))
  exact ⟨_, Bj, [], F7 rfl rfl, Fit.none (Fit.last qP), hj⟩
theorem B1l (v v1 v2 : Value) (n1 n2 : Nat) (xs1 xs2 : List Value) (A : Mem) (hv : Rd A 1 v 2 [v1, v2]) (h1 : Rd A 3 v1 n1 xs1) (h2 : Rd A 3 v2 n2 xs2) (o1 : ∀ c ∈ xs1, c.oneCell' = true) (o2 : ∀ c ∈ xs2, c.oneCell' = true) (hn1 : n1 ≤ 10000) (hn2 : n2 ≤ 10000) : FnX Tryz.prog 58 [v] [] A fun q M J => Sl 3 q (n1 + n2) (xs1 ++ xs2) M := by
 haveI := hv.cel
 haveI := h1.cel
 haveI := h2.cel
 refine FnX.enterZ (N := 36) Tryz.func58 rfl rfl rfl fun w_ => ?_
 refine A8 (C7 0) (A1 (as_ (A0 (C7 0) (A1 (as_ (A0 (D0 0 3) (A6 ?_)))))))
 refine A1 (mv_ ?_)
 refine A2 (E2 (sz := 1) rfl kR hv) rfl ?_
 refine mv_ (A0 (G6 0 3 9 10 11) (C5 ?_))
 refine A11 3 ?_
 refine A0C ?_
 refine A1 ?_
 refine A2 (F0 true rfl rfl (ltT qD)) rfl ?_
 refine A0 (I7 0 3 9 10 11 12) (A6 ?_)
 refine E9 rfl ?_
 refine A5 (nx (G6 0 3 9 10 11) (A6 (C5 (A1 ?_))))
 refine A2 (F2 (sz := 1) (a := 0) rfl rfl kR rfl hv qD) rfl ?_
 refine A2 (L0 (u := v1) (hv.mono qS) rfl kR rfl) rfl ?_
 refine as_ (A0 (I7 0 3 5 9 10 11) (A1 (mv_ (mv_ ?_))))
 refine A2 (E2 (sz := 3) rfl kR h1) rfl ?_
 refine A2 (Q0 ((n1 : Nat) : Int) rfl rfl (W1 qO qO qO)) rfl ?_
 refine as_ (A0 (G6 0 3 9 10 11) (A1 (mv_ ?_)))
 refine A2 (F0 false rfl rfl (ltF qO)) rfl ?_
 refine A0 (I7 0 3 9 10 11 20) ?_
 refine B0 rfl ?_
 refine A5 (nb (nx (G6 0 3 9 10 11) (C6 ?_)))
 refine A2 (Q0 (1 : Int) rfl rfl (W1 qD qD qD)) rfl ?_
 refine mv_ (E1 ?_)
 refine un (G6 0 3 9 10 11) ?_
 refine A0C ?_
 refine A1 ?_
 refine A2 (F0 true rfl rfl (ltT qD)) rfl ?_
 refine A0 (I7 0 3 9 10 11 12) (A6 ?_)
 refine E9 rfl ?_
 refine A5 (nx (G6 0 3 9 10 11) (A6 (C5 (A1 ?_))))
 refine A2 (F2 (sz := 1) (a := 1) rfl rfl kR rfl hv qD) rfl ?_
 refine A2 (L0 (u := v2) (hv.mono qS) rfl kR rfl) rfl ?_
 refine as_ (A0 (I7 0 3 5 9 10 11) (A1 (mv_ (mv_ ?_))))
 refine A2 (E2 (sz := 3) rfl kR h2) rfl ?_
 refine A2 (Q0 ((n1 + n2 : Nat) : Int) rfl rfl (W1 qO qO qO)) rfl ?_
 refine as_ (A0 (G6 0 3 9 10 11) (A1 (mv_ ?_)))
 refine A2 (F0 false rfl rfl (ltF qO)) rfl ?_
 refine A0 (I7 0 3 9 10 11 20) ?_
 refine B0 rfl ?_
 refine A5 (nb (nx (G6 0 3 9 10 11) (C6 ?_)))
 refine A2 (Q0 (2 : Int) rfl rfl (W1 qD qD qD)) rfl ?_
 refine mv_ (E1 ?_)
 refine un (G6 0 3 9 10 11) ?_
 refine A0C ?_
 refine A1 ?_
 refine A2 (F0 false rfl rfl (ltF qD)) rfl ?_
 refine A0 (I7 0 3 9 10 11 12) (A6 ?_)
 refine B0 rfl ?_
 refine G4 (te (ue (be rfl (nx (D0 0 3) (A1 (mv_ ?_))))))
 refine A4 rfl (K0 (aS rfl (aS rfl a0)) kR (B6v (n1 + n2) _ qO) rfl ?_)
 rintro v24 M24 J24 hs24
 haveI := hs24.cel
 refine as_ (A0 (D0 0 6) (A6 (A1 (mv_ ?_))))
 refine A2 (E2 (sz := 1) rfl kR hv) rfl ?_
 refine mv_ (A0 (F4 6 25 26 27) (C5 ?_))
 refine A11 3 ?_
 refine A0C ?_
 refine A1 ?_
 refine A2 (F0 true rfl rfl (ltT qD)) rfl ?_
 refine A0 (G6 6 25 26 27 28) (A6 ?_)
 refine E9 rfl ?_
 refine A5 (nx (F4 6 25 26 27) (A6 (C5 (A1 ?_))))
 refine A2 (F2 (sz := 1) (a := 0) rfl rfl kR rfl hv qD) rfl ?_
 refine A2 (L0 (u := v1) (hv.mono qS) rfl kR rfl) rfl ?_
 refine as_ (A0 (G6 6 8 25 26 27) (C6 (mv_ (mv_ ?_))))
 refine A4 rfl (F6 (e := 123) (sz := 3) (by_ := 56) rfl rfl kR rfl hs24 (h1.mono qS) o1 qP (by unfold maxLen; omega) qO rfl fun v33 B33 hs33 => ?_)
 haveI := hs33.cel
 refine as_ (E1 (nb (nx (F4 6 25 26 27) (C6 ?_))))
 refine A2 (Q0 (1 : Int) rfl rfl (W1 qD qD qD)) rfl ?_
 refine mv_ (E1 ?_)
 refine un (F4 6 25 26 27) ?_
 refine A0C ?_
 refine A1 ?_
 refine A2 (F0 true rfl rfl (ltT qD)) rfl ?_
 refine A0 (G6 6 25 26 27 28) (A6 ?_)
 refine E9 rfl ?_
 refine A5 (nx (F4 6 25 26 27) (A6 (C5 (A1 ?_))))
 refine A2 (F2 (sz := 1) (a := 1) rfl rfl kR rfl hv qD) rfl ?_
 refine A2 (L0 (u := v2) (hv.mono qS) rfl kR rfl) rfl ?_
 refine as_ (A0 (G6 6 8 25 26 27) (C6 (mv_ (mv_ ?_))))
 refine A4 rfl (F6 (e := 123) (sz := 3) (by_ := 56) rfl rfl kR rfl hs33 (h2.mono qS) o2 qP (by unfold maxLen; omega) qO rfl fun v34 B34 hs34 => ?_)
 haveI := hs34.cel
 refine as_ (E1 (nb (nx (F4 6 25 26 27) (C6 ?_))))
 refine A2 (Q0 (2 : Int) rfl rfl (W1 qD qD qD)) rfl ?_
 refine mv_ (E1 ?_)
 refine un (F4 6 25 26 27) ?_
 refine A0C ?_
 refine A1 ?_
 refine A2 (F0 false rfl rfl (ltF qD)) rfl ?_
 refine A0 (G6 6 25 26 27 28) (A6 ?_)
 refine B0 rfl ?_
 refine G4 (te (ue (be rfl (nx (C7 6) (A1 (mv_ (as_ (A0 (C7 2) ?_))))))))
 refine A7 ?_
 exact ⟨_, B34, [], F7 rfl rfl, Fit.none (Fit.last qP), by simpa using hs34⟩
theorem B1m (k : Ks) : (A3j k).length = (k.signed ++ k.once).length + 2 := by simp [A3j]
theorem A9f {k : Ks} {i : Nat} {x : Pr} (h : (k.signed ++ k.once)[i]? = some x) : (A3j k).take (i + 2 + 1) = (A3j k).take (i + 2) ++ [x.sec] := by
  rw [List.take_add_one]
  have e : (A3j k)[i + 2]? = some x.sec := by
    unfold A3j
    rw [List.getElem?_cons_succ, List.getElem?_cons_succ, List.getElem?_map, h]; rfl
  rw [e]; rfl
theorem A9g (kb : Nat) (k : Ks) (va vg vq vo vm : Value) (rs ro rm : List (List Value)) (A : Mem) (hK : KyR A kb k va vg vq vo vm rs ro rm) (hl1 : k.signed.length ≤ 10000) (hl2 : k.once.length ≤ 10000) : FnX Tryz.prog 21 [(vP kb)] [] A fun q M J => M = [] ∧ LsV (J ++ A) q (A3j k) := by
 have hkb := hK.blk_
 haveI := hK.agree.cel
 haveI := hK.sign.cel
 haveI := hK.signed.cel
 haveI := hK.once.cel
 haveI := hK.met.cel
 refine FnX.enterZ (N := 36) Tryz.func21 rfl rfl rfl fun w_ => ?_
 refine A8 (C7 0) (A1 (as_ (A0 (C7 0) (A6 (A1 (mv_ ?_))))))
 refine A2 (C9 (e := 127) rfl rfl kR) rfl ?_
 refine A0 (D0 0 7) ?_
 refine B0 rfl ?_
 refine A5 (nx (C7 0) (A1 (mv_ ?_)))
 refine E0 (aS rfl a0) kR (A3X kb k va vg vq vo vm rs ro rm _ (hK.mono qS)) rfl ?_
 rintro v9 M9 J9 ⟨rfl, h9⟩
 haveI := h9.cel
 refine mv_ ?_
 refine E0 (aS rfl a0) kR (B4d kb k va vg vq vo vm rs ro rm _ (hK.mono qS)) rfl ?_
 rintro v11 M11 J11 ⟨rfl, h11⟩
 haveI := h11.cel
 refine A4 rfl (C4 (e := 22) (sz := 1) (z := [vS, vS]) kR (eS rfl (eS rfl e0)) (bdS 0 1 rfl qR (bdS 1 1 rfl qR bd0)) rfl fun b12 => ?_)
 refine as_ (A0 (D0 0 3) (A6 ?_))
 refine G5 (.range 12) [(0, 0), (1, 0), (2, 0), (3, 1), (4, 0), (5, 0), (6, 0), (7, 1), (11, 0), (8, 2), (9, 2), (10, 0)] kR kR fun hs => ?_
 refine fm_ hs ?_
 refine E8 hs rfl (D8 rfl) rfl ?_
 refine E8 hs rfl (qf_ 4 4) rfl ?_
 refine R5 hs rfl (G3 rfl kR (mA hkb) qR) rfl ?_
 refine fm_ hs ?_
 refine E8 hs rfl (D8 rfl) rfl ?_
 refine E8 hs rfl (qf_ 5 5) rfl ?_
 refine R5 hs rfl (G3 rfl kR (mA hkb) qR) rfl ?_
 refine fm_ hs ?_
 refine A5s rfl rfl fun _ => (C4 (e := 124) (sz := 1) (z := [vS, vS]) kR (eS rfl (eS rfl e0)) (bdS 0 1 rfl qR (bdS 1 1 rfl qR bd0)) rfl fun b21 => ?_)
 refine Y9 rfl (aS rfl a0) kR (B1l (.slice (some ⟨b21, 0, none⟩) 2 2) vq vo k.signed.length k.once.length rs.flatten ro.flatten _ (Rd.whole (n := 2) At.mem qR) (hK.signed.mono qS) (hK.once.mono qS) (hK.signedR.ones prT) (hK.onceR.ones prT) hl1 hl2) rfl ?_
 rintro v22 M22 J22 hs22
 haveI := hs22.cel
 refine B6e (B := M22) qP ?_
 have hr22 := hs22.rd (R := M22) fun _ h => h
 rw [← List.flatten_append, ← List.length_append] at hr22
 have hll : (k.signed ++ k.once).length ≤ 20000 := by rw [List.length_append]; omega
 have hsl := B1m k
 have hpr := hK.signedR.app hK.onceR
 obtain ⟨pl, hpl⟩ : ∃ pl, k.signed ++ k.once = pl := ⟨_, rfl⟩
 rw [hpl] at hr22 hll hsl hpr
 refine E8 hs rfl (E2 (sz := 3) rfl kR hr22) rfl ?_
 refine I2 (F4 3 22 23 24) (C5 ?_)
 refine H0 (α := Nat × Value × List Value × Mem × Mem) (fun y => [(3, y.2.1), (22, v22), (23, (vI pl.length)), (24, (vI y.1))]) (fun y => y.2.2.2.1) (fun y => y.2.2.2.2) (fun y => y.1 ≤ pl.length ∧ Sl 1 y.2.1 (y.1 + 2) y.2.2.1 y.2.2.2.1 ∧ Lst (y.2.2.2.2 ++ A) y.2.2.1 ((A3j k).take (y.1 + 2)) ∧ ∀ z, z ∈ M22 → z ∈ y.2.2.2.2) (fun y => pl.length - y.1) (0, .slice (some ⟨b12, 0, none⟩) 2 2, [v9, v11], [(b12, _)], _) ⟨Nat.zero_le _, Sl.fresh (n := 2) (cs := [v9, v11]) (e := 22) rfl qD, Lst.cons (h9.mono qS) (Lst.cons (h11.mono qS) Lst.nil), fun z hz => by simp [hz]⟩ (F4 3 22 23 24) (Fit.last qP) qI ?_
 rintro ⟨i, vi, us, Bi, Ji⟩ ⟨hi, hsi, hli, hJi⟩
 dsimp only at hi hsi hli hJi ⊢
 haveI := hsi.cel
 refine A1 ?_
 refine A2 (F3 rfl rfl rfl) rfl ?_
 refine A0 (G6 3 22 23 24 25) (A6 ?_)
 refine C3 rfl ?_ ?_ <;> intro hc
 ·
  have hlt : i < pl.length := by simp at hc; omega
  obtain ⟨o, ho⟩ : ∃ o, pl[i]? = some o := ⟨_, List.getElem?_eq_getElem hlt⟩
  obtain ⟨r1, hr1, vo1, vo2, rfl, ho1, ho2, hon⟩ := hpr.get i o ho
  haveI := ho1.cel
  haveI := ho2.cel
  have hst := A9f (k := k) (i := i) (x := o) (by rw [hpl]; exact ho)
  refine A5 (nx (F4 3 22 23 24) (A6 (C5 (A1 ?_))))
  refine A2 (F2 (sz := 3) rfl rfl kR rfl hr22 hlt) rfl ?_
  refine A2 (U4 rfl kR (hr22.mono fun z hz => by simp [hJi z hz]) (hpr.lens prT) qD hr1) rfl ?_
  refine A4 rfl (D2 (cs := [.int .u32 0, vS, vS]) kR rfl fun b5 => ?_)
  refine A4 rfl (B8 (vs := [(vU o.n), vo1, vo2]) rfl rfl rfl kR qR (A3 rfl (A3 ho1.one (A3 ho2.one H9))) UpC.upd ?_)
  refine A0 (G6 3 5 22 23 24) (C6 (mv_ ?_))
  refine A2 (qf_ 1 1) rfl ?_
  refine A2 ql_ rfl ?_
  refine E0 (aS rfl a0) kR (K6 vo1 o.sec _ (ho1.mono qS)) rfl ?_
  rintro v31 M31 J31 ⟨rfl, h31⟩
  haveI := h31.cel
  refine A4 rfl (C4 (e := 22) (sz := 1) (z := [vS]) kR (eS rfl e0) (bdS 0 1 rfl qR bd0) rfl fun b32 => ?_)
  refine A4 rfl (F6 (e := 22) (sz := 1) (by_ := 24) rfl rfl kR rfl hsi (Rd.whole (n := 1) At.mem qR) (A3 h31.one H9) qP (by unfold maxLen; omega) qO rfl fun v33 B33 hs33 => ?_)
  refine as_ (E1 (nb (nx (F4 3 22 23 24) (C6 ?_))))
  refine A2 (Q0 ((i + 1 : Nat) : Int) rfl rfl (W1 qO qO qO)) rfl ?_
  refine mv_ (E1 ?_)
  exact rn (i + 1, v33, us ++ [v31], B33, _) ⟨by dsimp only; omega, by dsimp only; rw [show i + 1 + 2 = i + 2 + 1 by omega]; exact hs33, by dsimp only; rw [show i + 1 + 2 = i + 2 + 1 by omega, hst]; exact (hli.mono qS).snoc (h31.mono qS), fun z hz => by simp [hJi z hz]⟩ (by dsimp only; omega) (F4 3 22 23 24) (Fit.last qP) qI
 ·
  have hge : i = pl.length := by simp at hc; omega
  subst hge
  refine G4 (te (re (be rfl (nx (C7 3) (A1 (mv_ (as_ (A0 (C7 2) ?_))))))))
  refine A7 ?_
  rw [List.take_of_length_le qO] at hli
  exact ⟨_, [], Bi, F7 rfl rfl, Fit.pick qP qZ, rfl, us, by rw [hsl]; exact hsi.rd fun x hx => by simp [hx], hli.mono qS⟩

def snN (k : Ks) : LN := k.signed.map (·.n)
def onN (k : Ks) : LN := k.once.map (·.n)
theorem B4i {l : List Pr} (h : (l.map (·.n)).Pairwise (· < ·)) : B2K l := by
  intro i j x y hij hx hy
  have h1 := List.pairwise_iff_getElem.1 h i j (by rw [List.length_map]; exact (List.getElem?_eq_some_iff.1 hx).1) (by rw [List.length_map]; exact (List.getElem?_eq_some_iff.1 hy).1) hij
  obtain ⟨hi, ei⟩ := List.getElem?_eq_some_iff.1 hx
  obtain ⟨hj, ej⟩ := List.getElem?_eq_some_iff.1 hy
  simp only [List.getElem_map, ei, ej] at h1
  exact h1
theorem B4j (k : Ks) (s : Ps) : Ext s (Z9 k s).2 := ((X9 s).trans (Y4 _ _)).trans (B2B _ _ _)
def Fr (s : Ps) (w : LN) (i : Nat) : Prop := if s.real then w = B0S s.seed i else ∃ j, s.ts[j]? = some (A7M i) ∧ w = bts ((j : Nat) : Int)
theorem Fr.ext {s s' : Ps} {w : LN} {i : Nat} (h : Fr s w i) (he : Ext s s') : Fr s' w i := by
  unfold Fr at h ⊢
  rw [he.p.real]
  obtain ⟨l, e⟩ := he.p.ts
  split
  · rename_i hr; rw [if_pos hr] at h; rw [he.seed]; exact h
  · rename_i hr
    rw [if_neg hr] at h
    obtain ⟨j, h1, h2⟩ := h
    exact ⟨j, by rw [e]; exact A1s h1, h2⟩
theorem B8n {s : Ps} {w w' : LN} {i i' : Nat} (h : Fr s w i) (h' : Fr s w' i') (hi : i ≠ i') (hl : s.ts.length ≤ 1048576) (hk : s.real = true → B0S s.seed i ≠ B0S s.seed i') : w ≠ w' := by
  unfold Fr at h h'
  split at h
  · rename_i hr
    rw [if_pos hr] at h'
    rw [h, h']
    exact hk hr
  · rename_i hr
    rw [if_neg hr] at h'
    obtain ⟨j, h1, rfl⟩ := h
    obtain ⟨j', h2, rfl⟩ := h'
    intro e
    have b1 := (List.getElem?_eq_some_iff.1 h1).1
    have b2 := (List.getElem?_eq_some_iff.1 h2).1
    have e2 := A3R qO qO e
    subst e2
    rw [h1] at h2
    have e3 := Option.some.inj h2
    unfold A7M at e3
    injection e3 with a1 a2 a3 a4
    exact hi qO
structure Sok (L : List (LN)) (s : Ps) : Prop where
  nd : L.Nodup
  fr : ∀ w ∈ L, ∃ i, i ≤ s.n ∧ Fr s w i
theorem Sok.nil {s : Ps} : Sok [] s := ⟨List.nodup_nil, fun w h => by cases h⟩
theorem Sok.ext {L : List (LN)} {s s' : Ps} (h : Sok L s) (he : Ext s s') : Sok L s' := ⟨h.nd, fun w hw => by
  obtain ⟨i, h1, h2⟩ := h.fr w hw
  exact ⟨i, Nat.le_trans h1 he.n, h2.ext he⟩⟩
theorem Sok.sub {L L' : List (LN)} {s : Ps} (h : Sok L s) (hs : L'.Sublist L) : Sok L' s := ⟨h.nd.sublist hs, fun w hw => h.fr w (hs.subset hw)⟩
theorem Sok.perm {L L' : List (LN)} {s : Ps} (h : Sok L s) (hp : L.Perm L') : Sok L' s := ⟨hp.nodup_iff.1 h.nd, fun w hw => h.fr w (hp.mem_iff.2 hw)⟩
def B8o (seed : LN) (m : Nat) : Prop := ∀ i j, i ≤ m → j ≤ m → i ≠ j → B0S seed i ≠ B0S seed j
theorem Sok.add {L : List (LN)} {s s' : Ps} {w : LN} {m : Nat} (h : Sok L s) (he : Ext s s') (hw : Fr s' w (s.n + 1)) (hn : s.n + 1 ≤ s'.n) (hl : s'.ts.length ≤ 1048576) (hm : s.n + 1 ≤ m) (ha : s'.real = true → B8o s'.seed m) : Sok (w :: L) s' := by
  have h' := h.ext he
  refine ⟨List.nodup_cons.2 ⟨fun hm' => ?_, h.nd⟩, fun x hx => ?_⟩
  · obtain ⟨i, h1, h2⟩ := h.fr w hm'
    exact B8n hw (h2.ext he) (show s.n + 1 ≠ i by omega) hl (fun hr => ha hr _ _ hm qO qO) rfl
  · rcases List.mem_cons.1 hx with rfl | hx
    · exact ⟨_, hn, hw⟩
    · exact h'.fr x hx
structure BuI (k : Ks) (s : Ps) : Prop where
  tok : Tok s.ts
  ar : Ar s.ts
  ag : Kok s k.agree
  sg : Kok s k.sign
  signed : ∀ x ∈ k.signed, Kok s x.sec ∧ ∃ p, K8 s x.sec p ∧ A3T s k.sign (A4X x.n p) x.sig
  once : ∀ x ∈ k.once, Kok s x.sec
theorem BuI.ext {k : Ks} {s s' : Ps} (h : BuI k s) (he : Pext s s') (ht : Tok s'.ts) (ha : Ar s'.ts) : BuI k s' :=
  ⟨ht, ha, h.ag.ext he, h.sg.ext he, fun x hx => by
    obtain ⟨h1, p, h2, h3⟩ := h.signed x hx
    exact ⟨h1.ext he, p, h2.ext he, h3.ext he⟩, fun x hx => (h.once x hx).ext he⟩
theorem A0a {s : Ps} (h : Tok s.ts) (hn : s.n < 1099511627776) : Tok (D4 s).ts := by
  cases hr : s.real with
  | true => rw [A1L hr]; exact h
  | false => exact (U7 h hn).2 hr
theorem B4k (n : Nat) {w : LN} (h : ∀ x ∈ w, x < 256) : ∀ x ∈ A4X n w, x < 256 := by
  intro x hx
  unfold A4X at hx
  simp only [List.mem_append] at hx
  rcases hx with ((hx | hx) | hx) | hx | hx
  · exact Y5 _ _ x hx
  · revert x; decide
  · exact Y5 _ _ x hx
  · exact Y5 _ _ x hx
  · exact h x hx
theorem B1n (s : Ps) (w : LN) : ∀ x ∈ I5 s w, x < 256 := by
  unfold I5
  split
  · exact A8F _ _
  · exact A7a _
theorem BuI.turn {k : Ks} {s : Ps} (h : BuI k s) (hn : s.n < 1000000000) (hl : s.ts.length + 100 ≤ 1048576) : BuI (Z9 k s).1 (Z9 k s).2 := by
  have f1 := K3 s
  have f2 := N9 (D4 s) (D9 s)
  have t1 := A0a h.tok (by omega : s.n < 1099511627776)
  have k1 := (U7 h.tok (by omega : s.n < 1099511627776)).1
  obtain ⟨p1, -, t2⟩ := A4T k1 t1 qO
  have e1 := (X9 s).p
  have e2 := (Y4 (D4 s) (D9 s)).p
  have ksg := (h.sg.ext e1).ext e2
  obtain ⟨g1, t3⟩ := B6m (m := A4X k.next (I5 (D4 s) (D9 s))) ksg t2 qO (B4k _ (B1n _ _)) (by rw [B06, A44]; omega)
  have e3 := (B2B (G1 (D4 s) (D9 s)) k.sign (A4X k.next (I5 (D4 s) (D9 s)))).p
  have he : Pext s (Z9 k s).2 := (B4j k s).p
  have ha : Ar (Z9 k s).2.ts := ((h.ar.fresh).pub _).sgn _ _
  have h' := h.ext he t3 ha
  refine ⟨t3, ha, h'.ag, h'.sg, fun x hx => ?_, h'.once⟩
  rcases List.mem_cons.1 (List.mem_of_mem_take (show x ∈ (turnP k s :: k.signed).take 2 from hx)) with rfl | hx
  · exact ⟨(k1.ext e2).ext e3, _, p1.ext e3, g1⟩
  · exact h'.signed x hx
theorem BuI.fillI {k : Ks} {s : Ps} (h : BuI k s) (hn : s.n < 1000000000) : ∀ i, i ≤ 4 → BuI (fillI k s i).1 (fillI k s i).2
  | 0, _ => h
  | i + 1, hi => by
    have ih := h.fillI hn i qO
    have hp := A1Q k s i
    have t1 := A0a ih.tok qO
    have k1 := (U7 ih.tok qO).1
    have h' := ih.ext (X9 _).p t1 ih.ar.fresh
    refine ⟨t1, h'.ar, h'.ag, h'.sg, h'.signed, fun x hx => ?_⟩
    rcases List.mem_append.1 (show x ∈ (Go.Proofs.YtoameenjkiaefaaGreatDoor.fillI k s i).1.once ++ [_] from hx) with h1 | h1
    · exact h'.once x h1
    · rw [List.mem_singleton.1 h1]; exact k1
theorem BuI.fill {k : Ks} {s : Ps} (h : BuI k s) (hn : s.n < 1000000000) : BuI (A2Q k s).1 (A2Q k s).2 := h.fillI hn _ qO
theorem BuI.new {u d : Int} {s : Ps} (ht : Tok s.ts) (ha : Ar s.ts) (hn : s.n + 100 < 1000000000) (hl : s.ts.length + 200 ≤ 1048576) : BuI (A9e u d s).1 (A9e u d s).2 := by
  have f1 := K3 s
  have f2 := K3 (D4 s)
  have t1 := A0a ht qO
  have k1 := (U7 ht qO).1
  have t2 := A0a t1 qO
  have k2 := (U7 t1 qO).1
  have h0 : BuI (k0N u d s) (D4 (D4 s)) := ⟨t2, ha.fresh.fresh, k1.ext (X9 _).p, k2, fun x hx => (by cases hx), fun x hx => (by cases hx)⟩
  have h1 := h0.turn qO qO
  have hp := A3Z (k0N u d s) (D4 (D4 s))
  exact h1.fill qO
theorem BuI.id {k : Ks} {s : Ps} (h : BuI k s) (hl : s.ts.length + 100 ≤ 1048576) : BuI k (idS k s) ∧ Pext s (idS k s) ∧ K8 (idS k s) k.agree (idA k s) ∧ B0e (idS k s) k.sign (idG k s) := by
  have f1 := N9 s k.agree
  obtain ⟨p1, -, t1⟩ := A4T h.ag h.tok qO
  have e1 := (Y4 s k.agree).p
  obtain ⟨-, p2, t2⟩ := A4T (h.sg.ext e1) t1 qO
  have e2 := (Y4 (G1 s k.agree) k.sign).p
  have e : Pext s (idS k s) := e1.trans e2
  exact ⟨h.ext e t2 ((h.ar.pub _).pub _), e, p1.ext e2, p2⟩
end Go.Proofs.YtoameenjkiaefaaGreatDoor
namespace Go.Px
open Go
def arrT (P : Program) (t : TypeId) : Option (Nat × IntKind) := match P.underlying t with
  | some (.array n e) => match P.underlying e with
    | some (.int k) => if P9 P e = some 1 then some (n, k) else none
    | _ => none
  | _ => none
section
variable {P : Program} {R : Mem} {l : Env} {d : Option Nat} {ty t : TypeId} {pos : String} {af : Array Edge} {g : Option (Nat × Bool)} {x y : Operand} {k : IntKind}
end
end Go.Px

namespace Go.Px
def intT (P : Program) (t : TypeId) : Bool := match P.underlying t with
  | some (.int _) => true
  | _ => false
def twoT (P : Program) (t : TypeId) : Bool :=
  match P.underlying t with
  | some (.struct fs) => match fs.toList with
    | [f, g] => f.offset == 0 && g.offset == 1 && (f.name != "_") && (g.name != "_") && intT P f.type && intT P g.type && !P.stoodInHeld t && !P.eqGuardType P.depth t
    | _ => false
  | _ => false
section
variable {P : Program} {R : Mem} {l : Env} {d : Option Nat} {ty t t' : TypeId} {pos : String} {af : Array Edge} {g : Option (Nat × Bool)} {x y : Operand} {k : IntKind} {a b a' b' : Int}
variable {v u : Value} {xs : List Value} {n j sz off m : Nat} {R' : Mem}
def fldT (P : Program) (s : TypeId) (f off : Nat) : Bool := match P.underlying s with
  | some (.struct fs) => match fs[f]? with
    | some fd => fd.offset == off && V9 P fd.type
    | none => false
  | _ => false
end
end Go.Px

namespace Go.Proofs.YtoameenjkiaefaaGreatDoor
open Go.Px
def z32 : LN := List.replicate 32 0
def A06 : LN := [104, 101, 108, 108, 111]
theorem A31 : B256 A06 := ⟨by decide⟩
theorem B4l (ts : List Tm) : Rok ts z32 := ⟨by decide, by decide, .inl fun n => A4H fun h => by have := h.2.1; revert this; decide⟩
noncomputable def agS (s : Ps) : List (LN × LN) → Ps
  | [] => s
  | x :: r => agS (I6 s x.1 x.2) r
noncomputable def agK (s : Ps) : List (LN × LN) → List (LN)
  | [] => []
  | x :: r => Y6 s x.1 x.2 :: agK (I6 s x.1 x.2) r
def seS (s : Ps) (l : List (LN)) : Ps := A2l s z32 l A06 1
def seK (s : Ps) (l : List (LN)) : LN := (A2P s z32 l A06 1).getD 0 []
theorem A9h : ∀ (l : List (LN × LN)) (s : Ps), Ext s (agS s l)
  | [], s => Ext.refl s
  | x :: r, s => (A6t s x.1 x.2).trans (A9h r _)
theorem A5M : ∀ (l : List (LN × LN)) (s : Ps), (agS s l).ts.length ≤ s.ts.length + 3 * l.length ∧ (agS s l).n = s.n
  | [], s => ⟨Nat.le_refl _, rfl⟩
  | x :: r, s => by
    have h1 := A5M r (I6 s x.1 x.2)
    have h2 := L4 s x.1 x.2
    have h3 := A82 s x.1 x.2
    rw [List.length_cons]
    show (agS (I6 s x.1 x.2) r).ts.length ≤ _ ∧ (agS (I6 s x.1 x.2) r).n = _
    omega
theorem A5N : ∀ (l : List (LN × LN)) (s : Ps), (agK s l).length = l.length
  | [], s => rfl
  | x :: r, s => by show (_ :: agK _ r).length = _; rw [List.length_cons, A5N r, List.length_cons]
theorem Ar.ag : ∀ (l : List (LN × LN)) {s : Ps}, Ar s.ts → Ar (agS s l).ts
  | [], s, h => h
  | x :: r, s, h => Ar.ag r (h.agr x.1 x.2)
theorem B4m (s : Ps) (l : List (LN)) : (seS s l).ts.length ≤ s.ts.length + l.length + 2 ∧ (seS s l).n = s.n := by
  have h1 := A02 s z32 l A06 1
  have h2 := (X1 s z32 l A06 1).2.1
  unfold seS
  omega
inductive AgL (s : Ps) : List (LN × LN) → List (LN) → Prop
  | nil : AgL s [] []
  | cons {a b k : LN} {r : List (LN × LN)} {ks : List (LN)} (h : A04 s a b k) (t : AgL s r ks) : AgL s ((a, b) :: r) (k :: ks)
theorem AgL.ext {s s' : Ps} {l : List (LN × LN)} {ks : List (LN)} (h : AgL s l ks) (he : Pext s s') : AgL s' l ks := by
  induction h with
  | nil => exact .nil
  | cons h t ih => exact .cons (h.ext he) ih
theorem AgL.swap {s : Ps} {l : List (LN × LN)} {ks : List (LN)} (h : AgL s l ks) : AgL s (l.map fun x => (x.2, x.1)) ks := by
  induction h with
  | nil => exact .nil
  | cons h t ih => exact .cons h.comm ih
theorem B3Y.rok {s : Ps} {a b k : LN} (h : B3Y s a b k) : B0W s.ts k := by
  obtain ⟨i, j, m, h1, h2, h3, h4, h5, h6⟩ := h
  exact ⟨m, (List.getElem?_eq_some_iff.1 h5).1, h6⟩
theorem AgL.rok {s : Ps} {l : List (LN × LN)} {ks : List (LN)} (h : AgL s l ks) (hr : s.real = false) : ∀ w ∈ ks, Rok s.ts w := by
  induction h with
  | nil => intro w hw; cases hw
  | cons h t ih =>
    intro w hw
    rcases List.mem_cons.1 hw with rfl | hw
    · exact ((A04.f hr).1 h).rok.rok
    · exact ih w hw
theorem AgL.zrok {s : Ps} {l : List (LN × LN)} {ks : List (LN)} (h : AgL s l ks) : s.real = false → ∀ w ∈ z32 :: ks, Rok s.ts w := fun hr w hw => by
  rcases List.mem_cons.1 hw with rfl | hw
  · exact B4l _
  · exact h.rok hr w hw
abbrev Tri := LN × LN × LN
def tB (l : List Tri) : List (LN × LN) := l.map fun q => (q.1, q.2.2)
def tb (l : List Tri) : List (LN × LN) := l.map fun q => (q.1, q.2.1)
theorem B4n : ∀ (l : List Tri) {s : Ps}, (∀ q ∈ l, Kok s q.1 ∧ K8 s q.2.1 q.2.2 ∧ (∀ x ∈ q.1, x < 256) ∧ ∀ x ∈ q.2.1, x < 256) → Tok s.ts → s.ts.length + 3 * l.length ≤ 1048576 → AgL (agS s (tB l)) (tb l) (agK s (tB l)) ∧ Tok (agS s (tB l)).ts
  | [], s, _, ht, _ => ⟨.nil, ht⟩
  | q :: r, s, h, ht, hl => by
    rw [List.length_cons] at hl
    obtain ⟨h1, h2, h3, h4⟩ := h q qM
    obtain ⟨g1, g2⟩ := B2H h1 h2 ht qO h3 h4
    have h5 := L4 s q.1 q.2.2
    have he := (A6t s q.1 q.2.2).p
    obtain ⟨i1, i2⟩ := B4n r (s := I6 s q.1 q.2.2) (fun z hz => by
      obtain ⟨a1, a2, a3, a4⟩ := h z (by simp [hz])
      exact ⟨a1.ext he, a2.ext he, a3, a4⟩) g2 qO
    exact ⟨.cons (g1.ext (A9h (tB r) _).p) i1, i2⟩
theorem A32 : ∀ (l : List Tri) {s : Ps} {ks : List (LN)}, AgL s (tb l) ks → (∀ q ∈ l, K8 s q.2.1 q.2.2) → Tok s.ts → s.ts.length ≤ 1048576 → agS s (tB l) = s ∧ agK s (tB l) = ks
  | [], s, ks, h, _, _, _ => by
    cases h
    exact ⟨rfl, rfl⟩
  | q :: r, s, ks, h, hp, ht, hl => by
    obtain ⟨q1, q2, q3⟩ := q
    cases h with
    | cons h t =>
      obtain ⟨e1, e2⟩ := h.eq (hp _ qM) ht hl
      obtain ⟨i1, i2⟩ := A32 r t (fun z hz => hp z (by simp [hz])) ht hl
      refine ⟨?_, ?_⟩
      · show agS (I6 s q1 q3) (tB r) = s
        rw [e1, i1]
      · show Y6 s q1 q3 :: agK (I6 s q1 q3) (tB r) = _
        rw [e1, e2, i2]
structure He where
  ia : LN
  ig : LN
  key : LN
  signed : Nat
  has : Bool
  once : Nat
noncomputable def stP (ka e : LN) (b : Bn) : List (LN × LN) := (ka, b.key) :: (e, b.ia) :: (e, b.key) :: if b.has then [(e, b.oncek)] else []
noncomputable def stA (ka : LN) (b : Bn) (s : Ps) : Ps := agS (D4 s) (stP ka (D9 s) b)
noncomputable def stL (ka : LN) (b : Bn) (s : Ps) : List (LN) := agK (D4 s) (stP ka (D9 s) b)
noncomputable def stI (k : Ks) (b : Bn) (s : Ps) : Ps := G1 (idS k (stA k.agree b s)) (D9 s)
noncomputable def stS (k : Ks) (b : Bn) (s : Ps) : Ps := seS (stI k b s) (stL k.agree b s)
noncomputable def stK (k : Ks) (b : Bn) (s : Ps) : LN := seK (stI k b s) (stL k.agree b s)
noncomputable def stH (k : Ks) (b : Bn) (s : Ps) : He := ⟨idA k (stA k.agree b s), idG k (stA k.agree b s), I5 (idS k (stA k.agree b s)) (D9 s), b.signed, b.has, if b.has then b.once else 0⟩
theorem B4o (ka e : LN) (b : Bn) : (stP ka e b).length ≤ 4 := by unfold stP; split <;> simp
theorem A9i (k : Ks) (b : Bn) (s : Ps) : (stA k.agree b s).ts.length ≤ s.ts.length + 13 ∧ (stI k b s).ts.length ≤ s.ts.length + 19 ∧ (stS k b s).ts.length ≤ s.ts.length + 25 ∧ (stS k b s).n = s.n + 1 ∧ (stL k.agree b s).length ≤ 4 := by
  have h1 := K3 s
  have h2 := A5M (stP k.agree (D9 s) b) (D4 s)
  have h3 := B4o k.agree (D9 s) b
  have h4 := A0L k (stA k.agree b s)
  have h5 := N9 (idS k (stA k.agree b s)) (D9 s)
  have h6 := B4m (stI k b s) (stL k.agree b s)
  have h7 := A5N (stP k.agree (D9 s) b) (D4 s)
  have h8 := A3Y (idS k (stA k.agree b s)) (D9 s)
  have h9 : (idS k (stA k.agree b s)).n = (stA k.agree b s).n := by unfold idS; rw [A3Y, A3Y]
  have e1 : (stA k.agree b s).ts.length = (agS (D4 s) (stP k.agree (D9 s) b)).ts.length := rfl
  have e2 : (stA k.agree b s).n = (agS (D4 s) (stP k.agree (D9 s) b)).n := rfl
  have e3 : (stI k b s).ts.length = (G1 (idS k (stA k.agree b s)) (D9 s)).ts.length := rfl
  have e4 : (stI k b s).n = (G1 (idS k (stA k.agree b s)) (D9 s)).n := rfl
  have e5 : (stL k.agree b s).length = (agK (D4 s) (stP k.agree (D9 s) b)).length := rfl
  have e6 : (stS k b s).ts.length = (seS (stI k b s) (stL k.agree b s)).ts.length := rfl
  have e7 : (stS k b s).n = (seS (stI k b s) (stL k.agree b s)).n := rfl
  omega
def anP (ka sx : LN) (ox : Option (LN)) (h : He) : List (LN × LN) := (sx, h.ia) :: (ka, h.key) :: (sx, h.key) :: match ox with | none => [] | some o => [(o, h.key)]
noncomputable def anE (ka sx : LN) (ox : Option (LN)) (h : He) (s : Ps) : Option (LN × LN) × Ps := (some (seK (agS s (anP ka sx ox h)) (agK s (anP ka sx ox h)), sx), seS (agS s (anP ka sx ox h)) (agK s (anP ka sx ox h)))
noncomputable def anR (k : Ks) (h : He) (s : Ps) : Option (LN × LN) × Ps :=
  match A2w k.signed h.signed with
  | none => (none, s)
  | some sx => if h.has then match A2w k.once h.once with
      | none => (none, agS s (anP k.agree sx none h))
      | some o => anE k.agree sx (some o) h s
    else anE k.agree sx none h s
theorem B6w {k : Ks} {h : He} {s : Ps} (h1 : A2w k.signed h.signed = none) : anR k h s = (none, s) := by unfold anR; rw [h1]
theorem B4p {k : Ks} {h : He} {s : Ps} {sx : LN} (h1 : A2w k.signed h.signed = some sx) (h2 : h.has = true) (h3 : A2w k.once h.once = none) : anR k h s = (none, agS s (anP k.agree sx none h)) := by unfold anR; rw [h1]; dsimp only; rw [if_pos h2, h3]
theorem A9j {k : Ks} {h : He} {s : Ps} {sx o : LN} (h1 : A2w k.signed h.signed = some sx) (h2 : h.has = true) (h3 : A2w k.once h.once = some o) : anR k h s = anE k.agree sx (some o) h s := by unfold anR; rw [h1]; dsimp only; rw [if_pos h2, h3]
theorem A6y {k : Ks} {h : He} {s : Ps} {sx : LN} (h1 : A2w k.signed h.signed = some sx) (h2 : h.has = false) : anR k h s = anE k.agree sx none h s := by unfold anR; rw [h1]; dsimp only; rw [if_neg (by rw [h2]; decide)]
def prs (ka e kb xs : LN) (xo : Option (LN)) : List (LN × LN) := (ka, xs) :: (e, kb) :: (e, xs) :: match xo with | none => [] | some o => [(e, o)]
structure Agd (s : Ps) (ka e kb xs : LN) (xo : Option (LN)) (h : He) (sec : LN) : Prop where
  pia : K8 s ka h.ia
  pkey : K8 s e h.key
  ex : ∃ l, AgL s (prs ka e kb xs xo) l ∧ ∀ s', Pext s s' → Tok s'.ts → s'.ts.length ≤ 1048576 → seS s' l = s' ∧ seK s' l = sec
theorem Agd.ext {s s' : Ps} {ka e kb xs : LN} {xo : Option (LN)} {h : He} {sec : LN} (g : Agd s ka e kb xs xo h sec) (he : Pext s s') : Agd s' ka e kb xs xo h sec := by
  obtain ⟨l, h1, h2⟩ := g.ex
  exact ⟨g.pia.ext he, g.pkey.ext he, l, h1.ext he, fun s2 h3 => h2 s2 (he.trans h3)⟩
theorem Agd.ans {s : Ps} {ka e xs : LN} {xo : Option (LN)} {h : He} {sec : LN} {kb : Ks} (g : Agd s ka e kb.agree xs xo h sec) (ht : Tok s.ts) (hl : s.ts.length ≤ 1048576) (h1 : A2w kb.signed h.signed = some xs) (h2 : h.has = xo.isSome) (h3 : h.has = true → A2w kb.once h.once = xo) : anR kb h s = (some (sec, xs), s) := by
  obtain ⟨l, g1, g2⟩ := g.ex
  obtain ⟨g3, g4⟩ := g2 s (Pext.refl s) ht hl
  have hE : anE kb.agree xs xo h s = (some (sec, xs), s) := by
    have g5 := g1.swap
    obtain ⟨a1, a2⟩ : agS s (anP kb.agree xs xo h) = s ∧ agK s (anP kb.agree xs xo h) = l := by
      cases xo with
      | none => exact A32 [(xs, ka, h.ia), (kb.agree, e, h.key), (xs, e, h.key)] g5 (by intro q hq; simp at hq; rcases hq with rfl | rfl | rfl <;> first | exact g.pia | exact g.pkey) ht hl
      | some o => exact A32 [(xs, ka, h.ia), (kb.agree, e, h.key), (xs, e, h.key), (o, e, h.key)] g5 (by intro q hq; simp at hq; rcases hq with rfl | rfl | rfl | rfl <;> first | exact g.pia | exact g.pkey) ht hl
    unfold anE
    rw [a1, a2, g3, g4]
  cases xo with
  | none => rw [A6y h1 h2, hE]
  | some o => rw [A9j h1 h2 (h3 h2), hE]
theorem A9k (s : Ps) : ∀ x ∈ D9 s, x < 256 := by
  cases hr : s.real with
  | true => rw [A6j hr]; exact A4L _ _ _
  | false => rw [A1M hr]; exact A7a _
theorem B1o {ka : Ks} {s : Ps} {b : Bn} {kb xs : LN} {xo : Option (LN)} (ha : BuI ka s) (pk : K8 s xs b.key) (pi : K8 s kb b.ia) (ho : b.has = xo.isSome) (po : ∀ o, xo = some o → K8 s o b.oncek ∧ ∀ x ∈ o, x < 256) (l1 : ∀ x ∈ ka.agree, x < 256) (l2 : ∀ x ∈ xs, x < 256) (l3 : ∀ x ∈ kb, x < 256) (hl : s.ts.length + 200 ≤ 1048576) (hn : s.n < 1000000000) :
    Agd (stS ka b s) ka.agree (D9 s) kb xs xo (stH ka b s) (stK ka b s) ∧ BuI ka (stS ka b s) ∧ Ext s (stS ka b s) ∧ B0e (stS ka b s) ka.sign (stH ka b s).ig := by
  have f1 := K3 s
  have t1 := A0a ha.tok (by omega : s.n < 1099511627776)
  have k1 := (U7 ha.tok (by omega : s.n < 1099511627776)).1
  have e1 := X9 s
  have h1 := ha.ext e1.p t1 ha.ar.fresh
  have hfl := A9k s
  obtain ⟨g1, t2⟩ : AgL (stA ka.agree b s) (prs ka.agree (D9 s) kb xs xo) (stL ka.agree b s) ∧ Tok (stA ka.agree b s).ts := by
    unfold stA stL stP
    cases xo with
    | none =>
      rw [show b.has = false from ho]
      exact B4n [(ka.agree, xs, b.key), (D9 s, kb, b.ia), (D9 s, xs, b.key)] (by
        intro q hq
        simp at hq
        rcases hq with rfl | rfl | rfl
        · exact ⟨h1.ag, pk.ext e1.p, l1, l2⟩
        · exact ⟨k1, pi.ext e1.p, hfl, l3⟩
        · exact ⟨k1, pk.ext e1.p, hfl, l2⟩) t1 (by show _ + 3 * 3 ≤ _; omega)
    | some o =>
      rw [show b.has = true from ho]
      exact B4n [(ka.agree, xs, b.key), (D9 s, kb, b.ia), (D9 s, xs, b.key), (D9 s, o, b.oncek)] (by
        intro q hq
        simp at hq
        rcases hq with rfl | rfl | rfl | rfl
        · exact ⟨h1.ag, pk.ext e1.p, l1, l2⟩
        · exact ⟨k1, pi.ext e1.p, hfl, l3⟩
        · exact ⟨k1, pk.ext e1.p, hfl, l2⟩
        · exact ⟨k1, (po o rfl).1.ext e1.p, hfl, (po o rfl).2⟩) t1 (by show _ + 3 * 4 ≤ _; omega)
  obtain ⟨m1, m2, m3, m4, m5⟩ := A9i ka b s
  have e2 : Ext (D4 s) (stA ka.agree b s) := A9h _ _
  have h2 := h1.ext e2.p t2 (Ar.ag _ h1.ar)
  obtain ⟨h3, e3, p3, q3⟩ := h2.id qO
  have i4 := A0L ka (stA ka.agree b s)
  obtain ⟨p4, -, t4⟩ := A4T ((k1.ext e2.p).ext e3) h3.tok qO
  have e4 := (Y4 (idS ka (stA ka.agree b s)) (D9 s)).p
  have h4 := h3.ext e4 t4 (h3.ar.pub _)
  change Tok (stI ka b s).ts at t4
  change K8 (stI ka b s) _ _ at p4
  change Pext _ (stI ka b s) at e4
  change BuI ka (stI ka b s) at h4
  have g4 := (g1.ext e3).ext e4
  have lb : (stL ka.agree b s).length + 1 ≤ 10 := by omega
  have t5 : Tok (stS ka b s).ts := A8X t4 g4.zrok A31 qD qD qO
  have e5 : Pext (stI ka b s) (stS ka b s) := (A4V _ _ _ _ _).p
  have h5 := h4.ext e5 t5 (h4.ar.der _ _ _ _)
  have eall : Pext s (stS ka b s) := (((e1.p.trans e2.p).trans e3).trans e4).trans e5
  refine ⟨⟨(p3.ext e4).ext e5, p4.ext e5, _, g4.ext e5, fun s' he ht' hl' => ?_⟩, h5, ⟨eall, ?_, by omega⟩, (q3.ext e4).ext e5⟩
  · obtain ⟨a1, a2⟩ := A2t t4 g4.zrok A31 qD qD qO he ht' hl'
    exact ⟨a1, by show (A2P s' _ _ _ _).getD 0 [] = _; rw [a2]; rfl⟩
  · have i1 : (idS ka (stA ka.agree b s)).seed = (stA ka.agree b s).seed := by unfold idS; rw [(Y4 _ _).seed, (Y4 _ _).seed]
    show (seS _ _).seed = _
    unfold seS stI
    rw [(X1 _ _ _ _ _).2.2, (Y4 _ _).seed, i1, e2.seed, e1.seed]

theorem W5 {n : Nat} (h : n < 18446744073709551616) : IntKind.u64.wrap (n : Int) = (n : Int) := A3x qO qO
theorem A0M {n : Nat} (h : n < 4294967296) : IntKind.u32.wrap (n : Int) = (n : Int) := A3y qO qO
def u32N (x : Int) : Nat := (x % 4294967296).toNat
theorem A33 (x : Int) : u32N x < 4294967296 := by unfold u32N; omega
theorem A2z (x : Int) : IntKind.u32.wrap x = ((u32N x : Nat) : Int) := by
  unfold u32N IntKind.wrap
  simp [IntKind.signed, IntKind.bits]
  omega
def u64N (x : Int) : Nat := (x % 18446744073709551616).toNat

end Go.Proofs.YtoameenjkiaefaaGreatDoor
