/- Part 17 of the texts of this claim, one behind the other. -/
import Derived.Test.YtphcaiplgpmnnaaGreatDoorB16
set_option linter.unusedVariables false
set_option linter.unusedSimpArgs false
set_option maxRecDepth 100000
namespace Go.Proofs.YtphcaiplgpmnnaaGreatDoor
open Go.Px
noncomputable def idS (k : Ks) (s : Ps) : Ps := pubS2 (pubS2 s k.agree) k.sign
noncomputable def idA (k : Ks) (s : Ps) : List Nat := pubK2 s k.agree
noncomputable def idG (k : Ks) (s : Ps) : List Nat := skK2 (pubS2 s k.agree) k.sign
theorem idS_len (k : Ks) (s : Ps) : (idS k s).ts.length ≤ s.ts.length + 4 := by
  have h1 := pubS2_len s k.agree
  have h2 := pubS2_len (pubS2 s k.agree) k.sign
  unfold idS; omega
theorem turnK_ps (k : Ks) (s : Ps) : (turnK k s).2.ts.length ≤ s.ts.length + 5 ∧ (turnK k s).2.n = s.n + 1 := by
  have h1 := freshS_len s
  have h2 := pubS2_len (freshS s) (freshK s)
  have h3 := sgS2_len (pubS2 (freshS s) (freshK s)) k.sign (msgN k.next (pubK2 (freshS s) (freshK s)))
  have h4 := sgS2_n (pubS2 (freshS s) (freshK s)) k.sign (msgN k.next (pubK2 (freshS s) (freshK s)))
  have h5 := pubS2_n (freshS s) (freshK s)
  show (turnS k s).ts.length ≤ _ ∧ (turnS k s).n = _
  unfold turnS
  omega
theorem turnK_next (k : Ks) (s : Ps) : (turnK k s).1.next = k.next + 1 := rfl
theorem fillK_ps (k : Ks) (s : Ps) : (fillK k s).2.ts.length ≤ s.ts.length + 4 ∧ (fillK k s).2.n ≤ s.n + 4 ∧ (fillK k s).1.next ≤ k.next + 4 := by
  have h1 := fillI_ps k s (4 - k.once.length)
  have h2 := fillI_next k s (4 - k.once.length)
  unfold fillK
  omega
def k0N (u d : Int) (s : Ps) : Ks := ⟨u, d, freshK s, freshK (freshS s), [], [], 1, []⟩
noncomputable def newK (u d : Int) (s : Ps) : Ks × Ps := fillK (turnK (k0N u d s) (freshS (freshS s))).1 (turnK (k0N u d s) (freshS (freshS s))).2
theorem newK_ps (u d : Int) (s : Ps) : (newK u d s).2.ts.length ≤ s.ts.length + 11 ∧ (newK u d s).2.n ≤ s.n + 7 ∧ (newK u d s).1.next ≤ 6 := by
  have h1 := freshS_len s
  have h2 := freshS_len (freshS s)
  have h3 := turnK_ps (k0N u d s) (freshS (freshS s))
  have h4 := fillK_ps (turnK (k0N u d s) (freshS (freshS s))).1 (turnK (k0N u d s) (freshS (freshS s))).2
  have h5 : (turnK (k0N u d s) (freshS (freshS s))).1.next = 2 := rfl
  unfold newK
  omega
/-- A bundle. -/
structure Bn where
  user : Int
  dev : Int
  ia : List Nat
  ig : List Nat
  signed : Nat
  key : List Nat
  sig : List Nat
  has : Bool
  once : Nat
  oncek : List Nat
def bnR (R : Mem) (x : Bn) (r : List Value) : Prop := ∃ va vg vk vs vo, r = [.int .i64 x.user, .int .i64 x.dev, va, vg, .int .u32 ((x.signed : Nat) : Int), vk, vs, .bool x.has, .int .u32 ((x.once : Nat) : Int), vo] ∧ By R va x.ia ∧ By R vg x.ig ∧ By R vk x.key ∧ By R vs x.sig ∧ By R vo x.oncek ∧ x.signed < 4294967296 ∧ x.once < 4294967296
theorem bnT : RowT 10 bnR := ⟨fun R R' x r hR ⟨va, vg, vk, vs, vo, h1, h2, h3, h4, h5, h6, h7⟩ => ⟨va, vg, vk, vs, vo, h1, h2.mono hR, h3.mono hR, h4.mono hR, h5.mono hR, h6.mono hR, h7⟩, fun R x r ⟨va, vg, vk, vs, vo, h1, _⟩ => by rw [h1]; rfl, fun R x r ⟨va, vg, vk, vs, vo, h1, h2, h3, h4, h5, h6, _⟩ => by
  rw [h1]
  exact allS rfl (allS rfl (allS h2.one (allS h3.one (allS rfl (allS h4.one (allS h5.one (allS rfl (allS rfl (allS h6.one all0)))))))))⟩
noncomputable def bunB (k : Ks) (x : Pr) (s : Ps) : Bn := ⟨k.user, k.dev, idA k s, idG k s, x.n, pubK2 (idS k s) x.sec, x.sig, false, 0, []⟩
noncomputable def bunI (b : Bn) (l : List Pr) (s : Ps) : Nat → List Bn × Ps
  | 0 => ([b], s)
  | i + 1 => match l[i]? with
    | none => bunI b l s i
    | some o => ((bunI b l s i).1 ++ [{ b with has := true, once := o.n, oncek := pubK2 (bunI b l s i).2 o.sec }], pubS2 (bunI b l s i).2 o.sec)
theorem bunI_succ {b : Bn} {l : List Pr} {s : Ps} {i : Nat} {o : Pr} (h : l[i]? = some o) : bunI b l s (i + 1) = ((bunI b l s i).1 ++ [{ b with has := true, once := o.n, oncek := pubK2 (bunI b l s i).2 o.sec }], pubS2 (bunI b l s i).2 o.sec) := by
  simp only [bunI, h]
theorem bunI_len {b : Bn} {l : List Pr} {s : Ps} : ∀ {i : Nat}, i ≤ l.length → (bunI b l s i).1.length = i + 1 ∧ (bunI b l s i).2.ts.length ≤ s.ts.length + 2 * i
  | 0, _ => ⟨rfl, Nat.le_refl _⟩
  | i + 1, h => by
    have ih := bunI_len (b := b) (s := s) (i := i) (l := l) (by omega)
    rw [bunI_succ (List.getElem?_eq_getElem (by omega))]
    have h2 := pubS2_len (bunI b l s i).2 (l[i]'(by omega)).sec
    refine ⟨by simp [ih.1], ?_⟩
    show (pubS2 _ _).ts.length ≤ _
    omega
noncomputable def bunK (k : Ks) (s : Ps) : List Bn × Ps := match k.signed with
  | [] => ([], s)
  | x :: _ => bunI (bunB k x s) k.once (pubS2 (idS k s) x.sec) k.once.length

theorem ident_f (pb : Nat) (s : Ps) (kb : Nat) (k : Ks) (va vg vq vo vm : Value) (rs ro rm : List (List Value)) (MP A : Mem) (hK : KyR A kb k va vg vq vo vm rs ro rm) (hP : Prm pb s MP) (hn : s.ts.length + 100 ≤ 1048576) (hG : Glb A) : FnX Tryz.prog 31 [.pointer (some ⟨kb, 0, none⟩), .pointer (some ⟨pb, 0, none⟩)] MP A fun q M J => Prm pb (idS k s) M ∧ ∃ p r, q = .agg #[p, r] ∧ By J p (idA k s) ∧ By J r (idG k s) := by
 have hkb := hK.blk_
 haveI := hK.agree.cel
 haveI := hK.sign.cel
 haveI := hK.signed.cel
 haveI := hK.once.cel
 haveI := hK.met.cel
 have pl := pubS2_len s k.agree
 refine FnX.enterZ (N := 21) Tryz.func31 rfl rfl rfl fun w_ => ?_
 refine XC.keep (kq 0 (kq 1 kn)) ?_
 refine XC.reg ?_
 refine XL.lo rfl (l_alloc (cs := [.slice none 0 0, .slice none 0 0]) (by kernel_rfl) rfl fun b4 => ?_)
 refine XL.fin (kq 0 (kq 1 (kq 4 kn))) ?_
 refine XC.seq ?_
 refine XC.reg ?_
 refine mv_ ?_
 refine XL.q (q_ptrEqNil (e := 96) rfl rfl (by kernel_rfl)) rfl ?_
 refine XL.fin (kq 0 (kq 1 (kq 4 (kq 6 kn)))) ?_
 refine XC.condF rfl ?_
 refine XC.skip ?_
 refine nx (kq 0 (kq 1 (kq 4 kn))) ?_
 refine XC.drawK (MP) (_) true [0, 1, 2, 3, 4, 5, 6, 7, 8, 9, 10, 11, 12] [(0, 0), (1, 0), (2, 0), (3, 0), (4, 1), (6, 0), (7, 0), (8, 0), (9, 0), (10, 1), (5, 2), (11, 2), (12, 0), (13, 2)] (by kernel_rfl) (by kernel_rfl) PickC.perm fun hs K n0 hKm hKs hKn => ?_
 refine XK.q hs rfl qm_ rfl ?_
 refine XK.q hs rfl qm_ rfl ?_
 refine XK.q hs rfl (q_nil rfl) rfl ?_
 refine XK.q hs rfl (qf_ 2 2) rfl ?_
 refine XK.r hs rfl kr_ hKs (q_load rfl (by kernel_rfl) (mA hkb) (by rfl)) rfl ?_
 refine XK.q hs rfl qm_ rfl ?_
 refine XK.q hs rfl qm_ rfl ?_
 refine XK.q hs rfl (q_nil rfl) rfl ?_
 refine XK.q hs rfl (qf_ 3 3) rfl ?_
 refine XK.r hs rfl kr_ hKs (q_load rfl (by kernel_rfl) (mA hkb) (by rfl)) rfl ?_
 refine XK.lo _ _ rfl rfl (List.Perm.refl _) hKm fun w0 => (l_call (Mc := MP) (R := _) (aS rfl (aS rfl (a0))) (by kernel_rfl) PickC.perm (public_b pb s va k.agree MP _ hP (by omega) (hK.agree.mono SubC.sub) hG.up) rfl ?_)
 rintro v13 M13 J13 ⟨hP13, h13⟩ hKx13
 haveI := h13.cel
 refine XK.lo M13 _ rfl rfl PickC.perm (fun x hx => hKx13 (hKn rfl) x (by simpa using hx)) fun w0 => (l_call (Mc := M13) (R := _) (aS rfl (aS rfl (a0))) (by kernel_rfl) PickC.perm (signKey_b pb (pubS2 s k.agree) vg k.sign M13 _ hP13 (by omega) (hK.sign.mono SubC.sub) hG.up) rfl ?_)
 rintro v19 M19 J19 ⟨hP19, h19⟩ hKx19
 haveI := h19.cel
 refine XK.q hs rfl (q_build (place := fun x => #[(0, 1), (1, 1)][x]?) (z := [.slice none 0 0, .slice none 0 0]) (fun _ => by kernel_rfl) (eS rfl (eS rfl e0)) (bdS 0 1 rfl (by rfl) (bdS 1 1 rfl (by rfl) bd0))) rfl ?_
 refine XK.tl rfl rfl rfl (l_storeW (vs := [v13, v19]) rfl rfl rfl (by kernel_rfl) (by rfl) (allS h13.one (allS h19.one all0)) UpC.upd ?_)
 refine XK.fin (kq 4 kn) ?_
 refine XC.ret ?_
 exact ⟨_, M19, [], resC rfl rfl (by kernel_rfl) At.mem (by rfl), Fit.none (Fit.last PickC.perm), hP19, _, _, rfl, h13.mono SubC.sub, h19.mono SubC.sub⟩

theorem new_f (u d : Int) (pb : Nat) (s : Ps) (MP A : Mem) (hP : Prm pb s MP) (hn : s.ts.length + 200 ≤ 1048576) (hk : s.n + 100 < 1000000000) (hG : Glb A) : FnX Tryz.prog 56 [.pointer (some ⟨pb, 0, none⟩), .agg #[.int .i64 u, .int .i64 d]] MP A fun q M J => ∃ kb MK MP2, q = .pointer (some ⟨kb, 0, none⟩) ∧ M = MK ++ MP2 ∧ Kys (J ++ A) kb (newK u d s).1 MK ∧ Prm pb (newK u d s).2 MP2 := by
 have f1 := freshS_len s
 have f2 := freshS_len (freshS s)
 have f3 := turnK_ps (k0N u d s) (freshS (freshS s))
 refine FnX.enterZ (N := 20) Tryz.func56 rfl rfl rfl fun w_ => ?_
 refine XC.keep (kq 0 (kq 1 kn)) ?_
 refine XC.reg ?_
 refine XL.lo rfl (bx_ fun b3 => ?_)
 refine as_ ?_
 refine XL.fin (kq 0 (kq 3 kn)) ?_
 refine XC.drawK (MP) (_) true [0, 1, 2, 3, 4, 5, 6, 7] [(0, 1), (1, 0), (3, 0), (2, 2), (4, 2), (5, 0), (6, 2), (7, 0)] (by kernel_rfl) (by kernel_rfl) PickC.perm fun hs K n0 hKm hKs hKn => ?_
 refine XK.r hs rfl kr_ hKs (qw_ 2) rfl ?_
 refine XK.q hs rfl qm_ rfl ?_
 refine XK.q hs rfl qm_ rfl ?_
 refine XK.lo _ _ rfl rfl (List.Perm.refl _) hKm fun w0 => (l_call (Mc := MP) (R := _) (aS rfl (a0)) (by kernel_rfl) PickC.perm (fresh_spec pb s MP _ hP (by omega) (by omega) hG.up) rfl ?_)
 rintro v8 M8 J8 ⟨hP8, h8⟩ hKx8
 haveI := h8.cel
 refine XK.lo M8 _ rfl rfl PickC.perm (fun x hx => hKx8 (hKn rfl) x (by simpa using hx)) fun w0 => (l_call (Mc := M8) (R := _) (aS rfl (a0)) (by kernel_rfl) PickC.perm (fresh_spec pb (freshS s) M8 _ hP8 (by omega) (by omega) hG.up) rfl ?_)
 rintro v10 M10 J10 ⟨hP10, h10⟩ hKx10
 haveI := h10.cel
 refine XK.q hs rfl (q_build (place := fun x => #[(0, 2), (2, 1), (3, 1), (4, 1), (5, 1), (6, 1), (7, 1)][x]?) (z := [.int .i64 0, .int .i64 0, .slice none 0 0, .slice none 0 0, .slice none 0 0, .slice none 0 0, .int .u32 0, .slice none 0 0]) (fun _ => by kernel_rfl) (eS rfl (eS rfl (eS rfl (eS rfl e0)))) (bdS 0 2 rfl (by rfl) (bdS 2 1 rfl (by rfl) (bdS 3 1 rfl (by rfl) (bdS 6 1 rfl (by rfl) bd0))))) rfl ?_
 refine XK.lo [] _ rfl rfl (List.Perm.refl _) (fun _ h => by cases h) fun w0 => (l_box rfl (by first | exact Cel.cel | rfl) rfl fun b12 => fun hk12 => ?_)
 dsimp only [List.cons_append, List.nil_append, List.append_eq]
 refine XK.q hs rfl (q_assign rfl) rfl ?_
 refine XK.fin (kq 0 (kq 5 kn)) ?_
 refine XC.reg ?_
 refine mv_ (mv_ ?_)
 refine XL.lo rfl (l_call (Mc := (b12, blk [.int .i64 u, .int .i64 d, v8, v10, .slice none 0 0, .slice none 0 0, .int .u32 ((1 : Nat) : Int), .slice none 0 0] 96) :: M10) (R := _) (aS rfl (aS rfl a0)) (by kernel_rfl) PickC.perm (turn_f b12 pb (k0N u d s) (freshS (freshS s)) [(b12, blk [.int .i64 u, .int .i64 d, v8, v10, .slice none 0 0, .slice none 0 0, .int .u32 ((1 : Nat) : Int), .slice none 0 0] 96)] M10 _ ⟨⟨v8, v10, _, _, _, [], [], [], [], [], [], rfl, h8.mono SubC.sub, h10.mono SubC.sub, Sl.nil, RwL.nil, Sl.nil, RwL.nil, Sl.nil, RwL.nil, show 1 < 4294967296 by decide, Nat.zero_le _, Nat.zero_le _, Nat.zero_le _⟩⟩ hP10 (by omega) (by omega) (show 1 + 100 < 4000000000 by decide) hG.up) rfl ?_)
 rintro v15 M15 J15 ⟨MK15, MP15, rfl, hK15, hP15⟩
 refine XL.fin (kq 0 (kq 5 kn)) ?_
 refine XC.reg ?_
 refine mv_ (mv_ ?_)
 refine XL.lo rfl (l_call (Mc := MK15 ++ MP15) (R := _) (aS rfl (aS rfl a0)) (by kernel_rfl) PickC.perm (fill_f b12 pb _ _ MK15 MP15 _ (hK15.mono SubC.sub) hP15 (by omega) (by omega) (by rw [turnK_next]; show 1 + 1 + 100 < 4000000000; decide) hG.up) rfl ?_)
 rintro v18 M18 J18 ⟨rfl, MK18, MP18, rfl, hK18, hP18⟩
 refine XL.fin (kq 5 kn) ?_
 refine XC.reg ?_
 refine mv_ (as_ ?_)
 refine XL.fin (kq 4 kn) ?_
 refine XC.ret ?_
 exact ⟨_, MK18 ++ MP18, [(b3, blk [.int .i64 u, .int .i64 d] 35)], res1 rfl rfl, Fit.pick (B := [_]) PickC.perm (Fit.last PickC.perm), _, MK18, MP18, rfl, rfl, hK18.mono SubC.sub, hP18⟩

theorem bundles_f (pb : Nat) (s : Ps) (kb : Nat) (k : Ks) (va vg vq vo vm : Value) (rs ro rm : List (List Value)) (x : Pr) (sl : List Pr) (MP A : Mem) (hK : KyR A kb k va vg vq vo vm rs ro rm) (hsg : k.signed = x :: sl) (hP : Prm pb s MP) (hn : s.ts.length + 100 ≤ 1048576) (hol : k.once.length ≤ 10) (hG : Glb A) : FnX Tryz.prog 23 [.pointer (some ⟨kb, 0, none⟩), .pointer (some ⟨pb, 0, none⟩)] MP A fun q M J => Prm pb (bunK k s).2 M ∧ ∃ rows, Rd J 10 q (bunK k s).1.length rows.flatten ∧ RwL bnR (J ++ A) rows (bunK k s).1 := by
 have hkb := hK.blk_
 haveI := hK.agree.cel
 haveI := hK.sign.cel
 haveI := hK.signed.cel
 haveI := hK.once.cel
 haveI := hK.met.cel
 have il := idS_len k s
 obtain ⟨r0, hr0, vs_, vg_, rfl, hs_, hg_, hxn⟩ := hK.signedR.get 0 x (by rw [hsg]; rfl)
 haveI := hs_.cel
 haveI := hg_.cel
 refine FnX.enterZ (N := 62) Tryz.func23 rfl rfl rfl fun w_ => ?_
 refine XC.keep (kq 0 (kq 1 kn)) ?_
 refine XC.reg ?_
 refine as_ ?_
 refine XL.fin (kq 0 (kq 1 kn)) ?_
 refine XC.seq ?_
 refine XC.reg ?_
 refine mv_ ?_
 refine XL.q (q_ptrEqNil (e := 96) rfl rfl (by kernel_rfl)) rfl ?_
 refine XL.fin (kq 0 (kq 1 (kq 12 kn))) ?_
 refine XC.condF rfl ?_
 refine XC.skip ?_
 refine nx (kq 0 (kq 1 kn)) ?_
 refine XC.reg ?_
 refine mv_ ?_
 refine XL.q (q_nil rfl) rfl ?_
 refine XL.q (qf_ 4 4) rfl ?_
 refine XL.q (q_load rfl (by kernel_rfl) (mA hkb) (by rfl)) rfl ?_
 refine XL.q (q_atV2 (sz := 3) (a := 0) rfl rfl (by kernel_rfl) rfl hK.signed (by rw [hsg]; simp)) rfl ?_
 refine XL.q (q_ldVR rfl (by kernel_rfl) (hK.signed.mono SubC.sub) (hK.signedR.lens prT) (by decide) hr0) rfl ?_
 refine XL.lo rfl (l_alloc (cs := [.int .u32 0, .slice none 0 0, .slice none 0 0]) (by kernel_rfl) rfl fun b5 => ?_)
 refine XL.lo rfl (l_storeW (vs := [.int .u32 ((x.n : Nat) : Int), vs_, vg_]) rfl rfl rfl (by kernel_rfl) (by rfl) (allS rfl (allS hs_.one (allS hg_.one all0))) UpC.upd ?_)
 refine XL.fin (kq 0 (kq 1 (kq 5 kn))) ?_
 refine XC.drawK (MP) (_) true [0, 1, 2, 3, 4, 5, 6, 7, 8, 9, 10, 11, 12, 13, 14, 15, 16] [(0, 0), (1, 0), (2, 0), (3, 1), (4, 0), (5, 0), (7, 0), (8, 1), (9, 0), (10, 0), (11, 1), (13, 0), (14, 1), (6, 3), (12, 3), (15, 3), (16, 4), (17, 2)] (by kernel_rfl) (by kernel_rfl) PickC.perm fun hs K n0 hKm hKs hKn => ?_
 refine XK.q hs rfl qm_ rfl ?_
 refine XK.q hs rfl (q_nil rfl) rfl ?_
 refine XK.q hs rfl (qf_ 0 0) rfl ?_
 refine XK.r hs rfl kr_ hKs (q_loadT (n := 2) rfl (by kernel_rfl) (mA hkb) TakeC.take) rfl ?_
 refine XK.q hs rfl qm_ rfl ?_
 refine XK.q hs rfl qm_ rfl ?_
 refine XK.q hs rfl (qf_ 0 0) rfl ?_
 refine XK.r hs rfl kr_ hKs ql_ rfl ?_
 refine XK.q hs rfl qm_ rfl ?_
 refine XK.q hs rfl (qf_ 1 1) rfl ?_
 refine XK.r hs rfl kr_ hKs ql_ rfl ?_
 refine XK.q hs rfl (qf_ 2 2) rfl ?_
 refine XK.r hs rfl kr_ hKs ql_ rfl ?_
 refine XK.groupC [⟨6, 25, none, MP, fun v B R => Prm pb (idS k s) B ∧ ∃ p q, v = .agg #[p, q] ∧ By R p (idA k s) ∧ By R q (idG k s)⟩, ⟨12, 31, some 6, [], fun v B R => Prm pb (pubS2 (idS k s) x.sec) B ∧ By R v (pubK2 (idS k s) x.sec)⟩, ⟨15, 34, none, [], fun v B R => B = [] ∧ ∃ p q u, v = .agg #[.int .i64 k.user, .int .i64 k.dev, p, q, .int .u32 ((x.n : Nat) : Int), u, vg_, .bool false, .int .u32 ((0 : Nat) : Int), .slice none 0 0] ∧ By R p (idA k s) ∧ By R q (idG k s) ∧ By R u (pubK2 (idS k s) x.sec)⟩, ⟨16, 6, none, [], fun v B _ => ∃ b, v = .pointer (some ⟨b, 0, none⟩) ∧ B = [(b, blk [.int .i64 0, .int .i64 0, .slice none 0 0, .slice none 0 0, .int .u32 0, .slice none 0 0, .slice none 0 0, .bool false, .int .u32 0, .slice none 0 0] 46)]⟩] (_) (fun bs => [bs 12, bs 15, bs 16]) (hKn rfl) (List.Perm.refl _) (show ∀ m ∈ ([MP, [], []] : List Mem), ∀ x ∈ m, K x.1 from allS (hKm) (allS (fun _ h => by cases h) (allS (fun _ h => by cases h) (all0)))) (by kernel_rfl) (fun _ => by first | rfl | kernel_rfl)
  (allS (fun _ _ _ _ h ⟨p1, p, q, e, p2, p3⟩ => ⟨p1, p, q, e, p2.mono h, p3.mono h⟩) (allS (fun _ _ _ _ h ⟨p1, p2⟩ => ⟨p1, p2.mono h⟩) (allS (fun _ _ _ _ h ⟨p1, p, q, u, e, p2, p3, p4⟩ => ⟨p1, p, q, u, e, p2.mono h, p3.mono h, p4.mono h⟩) (allS (fun _ _ _ _ h hp => hp) (all0))))) (show List.Nodup [25, 31, 34, 6] by decide) (show List.Nodup [6, 12, 15, 16] by decide) (allS (blt_lt rfl) (allS (blt_lt rfl) (allS (blt_lt rfl) (allS (blt_lt rfl) (all0)))))
  (allS ⟨_, rfl, fun vs bs R Rj wG hb hj hjr ha => ⟨.inl rfl, ?_⟩⟩ (allS ⟨_, rfl, fun vs bs R Rj wG hb hj hjr ha => ⟨.inl rfl, ?_⟩⟩ (allS ⟨_, rfl, fun vs bs R Rj wG hb hj hjr ha => ⟨.inl rfl, ?_⟩⟩ (allS ⟨_, rfl, fun vs bs R Rj wG hb hj hjr ha => ⟨.inl rfl, ?_⟩⟩ (all0))))) ?_
 ·
  dsimp only [Gc.inp]
  refine l_call (Mc := MP) (R := []) (aS rfl (aS rfl (a0))) (by kernel_rfl) (by simp) (ident_f pb s kb k va vg vq vo vm rs ro rm MP _ (hK.mono (fun x hx => by have := hb x (by simp [hx]); simp [this])) hP (by omega) (hG.sub (fun x hx => by have := hb x (by simp [hx]); simp [this]))) rfl ?_
  rintro v25 M25 J25 ⟨hP25, p, q, rfl, hp, hq⟩
  exact ⟨_, rfl, by simpa using hP25, p, q, rfl, hp.mono fun x hx => by simp [hx], hq.mono fun x hx => by simp [hx]⟩
 ·
  dsimp only [Gc.inp]
  have g6 := ha _ (List.mem_of_getElem? (i := 0) rfl) (by kernel_rfl)
  replace g6 : (fun v B R => Prm pb (idS k s) B ∧ ∃ p q, v = .agg #[p, q] ∧ By R p (idA k s) ∧ By R q (idG k s)) (vs 6) (bs 6) Rj := g6
  dsimp only at g6
  obtain ⟨hP25, -⟩ := g6
  refine l_call (Mc := bs 6) (R := []) (aS rfl (aS rfl (a0))) (by kernel_rfl) (by simp) (public_b pb (idS k s) vs_ x.sec (bs 6) _ hP25 (by omega) (hs_.mono (fun x hx => by have := hb x (by simp [hx]); simp [this])) (hG.sub (fun x hx => by have := hb x (by simp [hx]); simp [this]))) rfl ?_
  rintro v31 M31 J31 ⟨hP31, h31⟩
  exact ⟨_, rfl, by simpa using hP31, h31.mono fun x hx => by simp [hx]⟩
 ·
  dsimp only [Gc.inp]
  have g6 := ha _ (List.mem_of_getElem? (i := 0) rfl) (by kernel_rfl)
  replace g6 : (fun v B R => Prm pb (idS k s) B ∧ ∃ p q, v = .agg #[p, q] ∧ By R p (idA k s) ∧ By R q (idG k s)) (vs 6) (bs 6) Rj := g6
  dsimp only at g6
  have g12 := ha _ (List.mem_of_getElem? (i := 1) rfl) (by kernel_rfl)
  replace g12 : (fun v B R => Prm pb (pubS2 (idS k s) x.sec) B ∧ By R v (pubK2 (idS k s) x.sec)) (vs 12) (bs 12) Rj := g12
  dsimp only at g12
  obtain ⟨-, h31⟩ := g12
  obtain ⟨-, p, q, e25, hp, hq⟩ := g6
  haveI := h31.cel
  haveI := hp.cel
  haveI := hq.cel
  dsimp only [gEnvC, List.map, List.cons_append, List.nil_append]
  rw [e25]
  exact OpQ.opL (q_build (place := fun x => #[(0, 2), (2, 2), (4, 1), (5, 1), (6, 1), (7, 1), (8, 1), (9, 1)][x]?) (z := [.int .i64 0, .int .i64 0, .slice none 0 0, .slice none 0 0, .int .u32 0, .slice none 0 0, .slice none 0 0, .bool false, .int .u32 0, .slice none 0 0]) (fun _ => by kernel_rfl) (eS rfl (eS rfl (eS rfl (eS rfl (eS rfl e0))))) (bdS 0 2 rfl (by rfl) (bdS 2 2 rfl (by rfl) (bdS 4 1 rfl (by rfl) (bdS 5 1 rfl (by rfl) (bdS 6 1 rfl (by rfl) bd0)))))) rfl ⟨_, rfl, rfl, p, q, _, rfl, hp, hq, h31⟩
 ·
  dsimp only [Gc.inp]
  exact l_alloc (cs := [.int .i64 0, .int .i64 0, .slice none 0 0, .slice none 0 0, .int .u32 0, .slice none 0 0, .slice none 0 0, .bool false, .int .u32 0, .slice none 0 0]) (by kernel_rfl) rfl fun b => ⟨_, rfl, b, rfl, rfl⟩
 intro vs bs Jn0 hφ hKK
 have kk6 := hKK _ (List.mem_of_getElem? (i := 0) rfl)
 dsimp only at kk6
 have kk12 := hKK _ (List.mem_of_getElem? (i := 1) rfl)
 dsimp only at kk12
 have kk15 := hKK _ (List.mem_of_getElem? (i := 2) rfl)
 dsimp only at kk15
 have kk16 := hKK _ (List.mem_of_getElem? (i := 3) rfl)
 dsimp only at kk16
 clear hKK
 have g6 := ofH hφ
 dsimp only at g6
 replace hφ := ofT hφ
 have g12 := ofH hφ
 dsimp only at g12
 replace hφ := ofT hφ
 have g15 := ofH hφ
 dsimp only at g15
 replace hφ := ofT hφ
 have g16 := ofH hφ
 dsimp only at g16
 clear hφ
 dsimp only [gEnvC, joinC, List.foldr, List.map, List.cons_append, List.nil_append]
 generalize bs 6 = B25 at *
 generalize bs 12 = B31 at *
 generalize bs 15 = B34 at *
 generalize bs 16 = B6 at *
 generalize vs 6 = u25 at *
 generalize vs 12 = u31 at *
 generalize vs 15 = u34 at *
 generalize vs 16 = u6 at *
 obtain ⟨hP31, h31⟩ := g12
 clear g6
 obtain ⟨b6, rfl, rfl⟩ := g16
 obtain ⟨rfl, p, q, u, rfl, hp, hq, hu⟩ := g15
 haveI := hp.cel
 haveI := hq.cel
 haveI := hu.cel
 obtain ⟨bb, hbb⟩ : ∃ bb, bunB k x s = bb := ⟨_, rfl⟩
 obtain ⟨s2, hs2⟩ : ∃ s2, pubS2 (idS k s) x.sec = s2 := ⟨_, rfl⟩
 rw [hs2] at hP31
 have hs2l : s2.ts.length ≤ s.ts.length + 6 := by have := pubS2_len (idS k s) x.sec; rw [hs2] at this; omega
 have hbun : bunK k s = bunI bb k.once s2 k.once.length := by unfold bunK; rw [hsg, ← hbb, ← hs2]
 rw [hbun]
 have hbr : ∀ R, (∀ y, y ∈ Jn0 ++ [] ++ A → y ∈ R) → bnR R bb [.int .i64 k.user, .int .i64 k.dev, p, q, .int .u32 ((x.n : Nat) : Int), u, vg_, .bool false, .int .u32 ((0 : Nat) : Int), .slice none 0 0] := fun R hR => ⟨p, q, u, vg_, _, by rw [← hbb]; rfl, by rw [← hbb]; exact hp.mono hR, by rw [← hbb]; exact hq.mono hR, by rw [← hbb]; exact hu.mono hR, by rw [← hbb]; exact hg_.mono fun y hy => hR y (List.mem_append_right _ hy), by rw [← hbb]; exact By.nil, by rw [← hbb]; exact hxn, by rw [← hbb]; show 0 < 4294967296; decide⟩
 refine XK.tl rfl rfl rfl (l_storeW (vs := [.int .i64 k.user, .int .i64 k.dev, p, q, .int .u32 ((x.n : Nat) : Int), u, vg_, .bool false, .int .u32 ((0 : Nat) : Int), .slice none 0 0]) rfl rfl rfl (by kernel_rfl) (by rfl) (allS rfl (allS rfl (allS hp.one (allS hq.one (allS rfl (allS hu.one (allS hg_.one (allS rfl (allS rfl (allS rfl all0)))))))))) UpC.upd ?_)
 refine XK.fin (kq 0 (kq 1 (kq 6 kn))) ?_
 refine XC.frz (B := [(b6, blk [.int .i64 k.user, .int .i64 k.dev, p, q, .int .u32 ((x.n : Nat) : Int), u, vg_, .bool false, .int .u32 ((0 : Nat) : Int), .slice none 0 0] 46)]) PickC.perm ?_
 refine XC.reg ?_
 refine XL.q (qw_ 10) rfl ?_
 refine XL.lo rfl (l_buildSlice (e := 46) (sz := 10) (z := [.int .i64 0, .int .i64 0, .slice none 0 0, .slice none 0 0, .int .u32 0, .slice none 0 0, .slice none 0 0, .bool false, .int .u32 0, .slice none 0 0]) (by kernel_rfl) (eS rfl e0) (bdS 0 10 rfl (by rfl) bd0) rfl fun b36 => ?_)
 refine as_ ?_
 refine XL.fin (kq 0 (kq 1 (kq 6 (kq 7 kn)))) ?_
 refine XC.seq ?_
 refine XC.reg ?_
 refine mv_ ?_
 refine XL.q (q_nil rfl) rfl ?_
 refine XL.q (qf_ 5 5) rfl ?_
 refine XL.q (q_load rfl (by kernel_rfl) (mA hkb) (by rfl)) rfl ?_
 refine XL.q (q_lenV2 (sz := 3) rfl (by kernel_rfl) hK.once) rfl ?_
 refine mv_ ?_
 refine XL.fin (kq 1 (kq 6 (kq 7 (kq 40 (kq 41 (kq 42 kn)))))) ?_
 refine XC.block ?_
 refine XC.loop (α := Nat × (Value × List (List Value) × Mem) × Mem × Mem) (fun y => [(1, .pointer (some ⟨pb, 0, none⟩)), (6, .pointer (some ⟨b6, 0, none⟩)), (7, y.2.1.1), (40, vo), (41, .int .i64 ((k.once.length : Nat) : Int)), (42, .int .i64 ((y.1 : Nat) : Int))]) (fun y => y.2.1.2.2 ++ y.2.2.1) (fun y => y.2.2.2) (fun y => y.1 ≤ k.once.length ∧ Sl 10 y.2.1.1 (y.1 + 1) y.2.1.2.1.flatten y.2.1.2.2 ∧ RwL bnR (y.2.2.2 ++ A) y.2.1.2.1 (bunI bb k.once s2 y.1).1 ∧ Prm pb (bunI bb k.once s2 y.1).2 y.2.2.1 ∧ (b6, blk [.int .i64 k.user, .int .i64 k.dev, p, q, .int .u32 ((x.n : Nat) : Int), u, vg_, .bool false, .int .u32 ((0 : Nat) : Int), .slice none 0 0] 46) ∈ y.2.2.2 ∧ ∀ z, z ∈ Jn0 ++ [] ++ A → z ∈ y.2.2.2 ++ A) (fun y => k.once.length - y.1) (0, (.slice (some ⟨b36, 0, none⟩) 1 1, [[.int .i64 k.user, .int .i64 k.dev, p, q, .int .u32 ((x.n : Nat) : Int), u, vg_, .bool false, .int .u32 ((0 : Nat) : Int), .slice none 0 0]], [(b36, _)]), B31, _) ⟨Nat.zero_le _, Sl.fresh (n := 1) (cs := [.int .i64 k.user, .int .i64 k.dev, p, q, .int .u32 ((x.n : Nat) : Int), u, vg_, .bool false, .int .u32 ((0 : Nat) : Int), .slice none 0 0]) (e := 46) rfl (by decide), RwL.cons (hbr _ SubC.sub) RwL.nil, hP31, by simp, SubC.sub⟩ (kq 1 (kq 6 (kq 7 (kq 40 (kq 41 (kq 42 kn)))))) (Fit.pick (B := [_]) PickC.perm (Fit.last PickC.perm)) (fun _ h => h) ?_
 rintro ⟨i, ⟨vi, ri, Bi⟩, MPi, Ji⟩ ⟨hi, hsi, hri, hPi, hJb, hJn⟩
 dsimp only at hi hsi hri hPi hJb hJn ⊢
 haveI := hsi.cel
 have hbl := bunI_len (b := bb) (s := s2) hi
 refine XC.reg ?_
 refine XL.q (q_bin rfl rfl rfl) rfl ?_
 refine XL.fin (kq 1 (kq 6 (kq 7 (kq 40 (kq 41 (kq 42 (kq 43 kn))))))) ?_
 refine XC.seq ?_
 refine XC.cond rfl (fun hc => ?_) (fun hc => ?_)
 ·
  have hlt : i < k.once.length := by simp at hc; omega
  obtain ⟨o, ho⟩ : ∃ o, k.once[i]? = some o := ⟨_, List.getElem?_eq_getElem hlt⟩
  obtain ⟨r1, hr1, vo1, vo2, rfl, ho1, ho2, hon⟩ := hK.onceR.get i o ho
  haveI := ho1.cel
  haveI := ho2.cel
  have hbs := bunI_succ (b := bb) (s := s2) ho
  refine XC.skip ?_
  refine nx (kq 1 (kq 6 (kq 7 (kq 40 (kq 41 (kq 42 kn)))))) ?_
  refine XC.seq ?_
  refine XC.block ?_
  refine XC.reg ?_
  refine XL.q (q_atV2 (sz := 3) rfl rfl (by kernel_rfl) rfl hK.once hlt) rfl ?_
  refine XL.q (q_ldVR rfl (by kernel_rfl) (hK.once.mono SubC.sub) (hK.onceR.lens prT) (by decide) hr1) rfl ?_
  refine XL.lo rfl (l_alloc (cs := [.int .u32 0, .slice none 0 0, .slice none 0 0]) (by kernel_rfl) rfl fun b9 => ?_)
  refine XL.lo rfl (l_storeW (vs := [.int .u32 ((o.n : Nat) : Int), vo1, vo2]) rfl rfl rfl (by kernel_rfl) (by rfl) (allS rfl (allS ho1.one (allS ho2.one all0))) UpC.upd ?_)
  refine XL.fin (kq 1 (kq 6 (kq 7 (kq 9 (kq 40 (kq 41 (kq 42 kn))))))) ?_
  refine XC.reg ?_
  refine XL.q (q_loadW (n := 10) rfl (by kernel_rfl) (List.mem_append_right _ (List.mem_append_left _ hJb)) (by rfl)) rfl ?_
  refine XL.lo rfl (l_alloc (cs := [.int .i64 0, .int .i64 0, .slice none 0 0, .slice none 0 0, .int .u32 0, .slice none 0 0, .slice none 0 0, .bool false, .int .u32 0, .slice none 0 0]) (by kernel_rfl) rfl fun b10 => ?_)
  refine XL.lo rfl (l_storeW (vs := [.int .i64 k.user, .int .i64 k.dev, p, q, .int .u32 ((x.n : Nat) : Int), u, vg_, .bool false, .int .u32 ((0 : Nat) : Int), .slice none 0 0]) rfl rfl rfl (by kernel_rfl) (by rfl) (allS rfl (allS rfl (allS hp.one (allS hq.one (allS rfl (allS hu.one (allS hg_.one (allS rfl (allS rfl (allS rfl all0)))))))))) UpC.upd ?_)
  refine XL.fin (kq 1 (kq 6 (kq 7 (kq 9 (kq 10 (kq 40 (kq 41 (kq 42 kn)))))))) ?_
  refine XC.drawK (MPi ++ [(b10, blk [.int .i64 k.user, .int .i64 k.dev, p, q, .int .u32 ((x.n : Nat) : Int), u, vg_, .bool false, .int .u32 ((0 : Nat) : Int), .slice none 0 0] 46)]) (_) true [0, 1, 2, 3, 4, 5, 6, 7, 8, 10] [(0, 0), (1, 1), (2, 0), (3, 0), (4, 1), (6, 0), (5, 2), (7, 2), (8, 0), (9, 2), (10, 0), (11, 2)] (by kernel_rfl) (by kernel_rfl) PickC.perm fun hs K n0 hKm hKs hKn => ?_
  refine XK.q hs rfl (qf_ 0 0) rfl ?_
  refine XK.r hs rfl kr_ hKs ql_ rfl ?_
  refine XK.q hs rfl qm_ rfl ?_
  refine XK.q hs rfl (qf_ 1 1) rfl ?_
  refine XK.r hs rfl kr_ hKs ql_ rfl ?_
  refine XK.q hs rfl (qf_ 7 7) rfl ?_
  refine XK.lo MPi _ rfl rfl PickC.perm (fun y hy => hKm y (by simp [hy])) fun w0 => (l_call (Mc := MPi) (R := _) (aS rfl (aS rfl (a0))) (by kernel_rfl) PickC.perm (public_b pb _ vo1 o.sec MPi _ hPi (by omega) (ho1.mono SubC.sub) hG.up) rfl ?_)
  rintro v52 M52 J52 ⟨hP52, h52⟩ hKx52
  haveI := h52.cel
  refine XK.lo [(b10, blk [.int .i64 k.user, .int .i64 k.dev, p, q, .int .u32 ((x.n : Nat) : Int), u, vg_, .bool false, .int .u32 ((0 : Nat) : Int), .slice none 0 0] 46)] _ rfl rfl PickC.perm (fun y hy => hKm y (by simp at hy; simp [hy])) fun w0 => (l_store rfl rfl rfl (by kernel_rfl) SetC.set UpC.upd ?_)
  intro hkS
  dsimp only [List.cons_append, List.nil_append, List.append_eq]
  refine XK.q hs rfl (qf_ 8 8) rfl ?_
  refine XK.tl rfl rfl rfl (l_store rfl rfl rfl (by kernel_rfl) SetC.set UpC.upd ?_)
  refine XK.q hs rfl (qf_ 9 9) rfl ?_
  refine XK.tl rfl rfl rfl (l_store rfl rfl h52.one (by kernel_rfl) SetC.set UpC.upd ?_)
  refine XK.fin (kq 1 (kq 6 (kq 7 (kq 10 (kq 40 (kq 41 (kq 42 kn))))))) ?_
  refine XC.reg1 ?_
  refine mv_ ?_
  refine XL.q (qw_ 10) rfl ?_
  refine XL.lo rfl (l_buildSlice (e := 46) (sz := 10) (z := [.int .i64 0, .int .i64 0, .slice none 0 0, .slice none 0 0, .int .u32 0, .slice none 0 0, .slice none 0 0, .bool false, .int .u32 0, .slice none 0 0]) (by kernel_rfl) (eS rfl e0) (bdS 0 10 rfl (by rfl) bd0) rfl fun b58 => ?_)
  refine XL.lo rfl (l_append2 (e := 46) (sz := 10) (by_ := 152) rfl rfl (by kernel_rfl) rfl hsi (Rd.whole (n := 1) At.mem (by rfl)) (allS rfl (allS rfl (allS hp.one (allS hq.one (allS rfl (allS hu.one (allS hg_.one (allS rfl (allS rfl (allS h52.one all0)))))))))) PickC.perm (by unfold maxLen; omega) (by omega) rfl fun v59 B59 hs59 => ?_)
  refine as_ ?_
  refine XL.nil ?_
  refine nb ?_
  refine nx (kq 1 (kq 6 (kq 7 (kq 40 (kq 41 (kq 42 kn)))))) ?_
  refine XC.reg1 ?_
  refine XL.q (q_num ((i + 1 : Nat) : Int) rfl rfl (add64 (by omega) (by omega) (by omega))) rfl ?_
  refine mv_ ?_
  refine XL.nil ?_
  exact rn (i + 1, (v59, ri ++ [[.int .i64 k.user, .int .i64 k.dev, p, q, .int .u32 ((x.n : Nat) : Int), u, vg_, .bool true, .int .u32 ((o.n : Nat) : Int), v52]], B59), M52, _) ⟨by dsimp only; omega, by simpa using hs59, by dsimp only; rw [hbs]; exact (hri.mono bnT SubC.sub).snoc ⟨p, q, u, vg_, v52, by rw [← hbb]; rfl, by rw [← hbb]; exact hp.mono fun z hz => SubC.sub z (hJn z hz), by rw [← hbb]; exact hq.mono fun z hz => SubC.sub z (hJn z hz), by rw [← hbb]; exact hu.mono fun z hz => SubC.sub z (hJn z hz), by rw [← hbb]; exact hg_.mono SubC.sub, h52.mono SubC.sub, by rw [← hbb]; exact hxn, hon⟩, by dsimp only; rw [hbs]; exact hP52, List.mem_append_right _ hJb, fun z hz => SubC.sub z (hJn z hz)⟩ (by dsimp only; omega) (kq 1 (kq 6 (kq 7 (kq 40 (kq 41 (kq 42 kn)))))) (Fit.pick PickC.perm (Fit.last PickC.perm)) (fun _ h => h)
 ·
  have hge : i = k.once.length := by simp at hc; omega
  subst hge
  refine XC.exit ?_
  refine te ?_
  refine re ?_
  refine be rfl ?_
  refine nx (kq 7 kn) ?_
  refine XC.reg ?_
  refine mv_ (as_ ?_)
  refine XL.fin (kq 4 kn) ?_
  refine XC.ret ?_
  exact ⟨_, MPi, Bi, res1 rfl rfl, Fit.pick PickC.perm (Fit.last PickC.perm), hPi, ri, by rw [hbl.1]; exact hsi.rd fun x hx => by simp [hx], hri.mono bnT SubC.sub⟩

end Go.Proofs.YtphcaiplgpmnnaaGreatDoor
/-
  append(nil, make([]T, n)...) for a struct T (the translation hands over the number alone).
-/
namespace Go.Px
/-- What it asks of the types: the element, its zero cells, how many, the bytes. -/
def appZ (P : Program) (t tn : TypeId) : Option (TypeId × List Value × Nat) :=
  match P.underlying tn with
  | some (.int _) => match P.underlying t with
    | some (.slice e) => match P.info? e with
      | some i => match i.zero with
        | some z => if i.size = z.cells.size ∧ 0 < i.size then some (e, z.cells.toList, i.bytes) else none
        | none => none
      | none => none
    | _ => none
  | _ => none
section z
variable {C : Cx} {l : Env} {M J : Mem} {K : Env → Mem → Mem → Prop} {d : Nat} {ty t tn e : TypeId} {pos : String} {af : Array Edge} {g : Option (Nat × Bool)} {x y : Operand}
end z
end Go.Px

/- The walks of Use, Meet, Secrets. -/
namespace Go.Proofs.YtphcaiplgpmnnaaGreatDoor
open Go.Px
/-- Owned keys, taken apart; where all of it is known they are keys that are read. -/
theorem Kys.ex2 {R : Mem} {kb : Nat} {k : Ks} {M : Mem} (h : Kys R kb k M) : ∃ (va vg vs vo vm : Value) (rs ro rm : List (List Value)) (Bs Bo Bm : Mem), M = (kb, blk [.int .i64 k.user, .int .i64 k.dev, va, vg, vs, vo, .int .u32 ((k.next : Nat) : Int), vm] 96) :: (Bs ++ (Bo ++ Bm)) ∧
    (By R va k.agree ∧ By R vg k.sign ∧ Sl 3 vs k.signed.length rs.flatten Bs ∧ RwL prR R rs k.signed ∧ Sl 3 vo k.once.length ro.flatten Bo ∧ RwL prR R ro k.once ∧ Sl 2 vm k.met.length rm.flatten Bm ∧ RwL nmR R rm k.met ∧ k.next < 4294967296 ∧ k.signed.length ≤ 2 ∧ k.once.length ≤ 100 ∧ k.met.length ≤ 100000) ∧
    ∀ R', (∀ x, x ∈ R → x ∈ R') → (∀ x, x ∈ M → x ∈ R') → KyR R' kb k va vg vs vo vm rs ro rm := by
  obtain ⟨va, vg, vs, vo, vm, rs, ro, rm, Bs, Bo, Bm, h1, h2, h3, h4, h5, h6, h7, h8, h9, h10, h11, h12, h13⟩ := h.ex
  refine ⟨va, vg, vs, vo, vm, rs, ro, rm, Bs, Bo, Bm, h1, ⟨h2, h3, h4, h5, h6, h7, h8, h9, h10, h11, h12, h13⟩, fun R' hR hM => ?_⟩
  subst h1
  exact ⟨hM _ List.mem_cons_self, h2.mono hR, h3.mono hR, h4.rd fun x hx => hM x (by simp [hx]), h5.mono prT hR, h6.rd fun x hx => hM x (by simp [hx]), h7.mono prT hR, h8.rd fun x hx => hM x (by simp [hx]), h9.mono nmT hR, by omega, by omega, by omega, by omega⟩
def useK (k : Ks) (n : Nat) : Ks := { k with once := k.once.filter fun x => !tstP n x }
def meetK (k : Ks) (n : Nat) (w : List Nat) : Ks := if (getP k.signed n).isSome && !decide (0 ≤ fidxL (tstN n w) k.met) then { k with met := k.met ++ [⟨n, w⟩] } else k
theorem getP_mem {l : List Pr} {n : Nat} : (getP l n).isSome = decide (n ∈ l.map (·.n)) := by
  rcases fidxL_cases (tstP n) l with ⟨h1, h2⟩ | ⟨i, x, h1, h2, h3, h4⟩
  · rw [getP_no h1]
    symm
    refine decide_eq_false fun h => ?_
    obtain ⟨x, hx, e⟩ := List.mem_map.1 h
    have := h2 x hx
    simp [tstP, e] at this
  · rw [getP_yes h1 h2]
    symm
    have e : x.n = n := by simpa [tstP] using h3
    exact decide_eq_true (List.mem_map.2 ⟨x, List.mem_of_getElem? h2, e⟩)
def secL (k : Ks) : List (List Nat) := k.agree :: k.sign :: (k.signed ++ k.once).map (·.sec)

theorem meet_f (kb : Nat) (k : Ks) (vd : Value) (n : Nat) (wd : List Nat) (MK A : Mem) (hK : Kys A kb k MK) (hd : By A vd wd) (hnn : n < 4294967296) (hml : k.met.length < 100000) : FnX Tryz.prog 27 [.pointer (some ⟨kb, 0, none⟩), .int .u32 ((n : Nat) : Int), vd] MK A fun q M J => Kys (J ++ A) kb (meetK k n wd) M := by
 obtain ⟨va, vg, vq, vo, vm, rs, ro, rm, Bs, Bo, Bm, rfl, ⟨hva, hvg, hss, hrs, hso, hro, hsm, hrm, hn1, hn2, hn3, hn4⟩, hr⟩ := hK.ex2
 haveI := hva.cel
 haveI := hvg.cel
 haveI := hss.cel
 haveI := hso.cel
 haveI := hsm.cel
 haveI := hd.cel
 refine FnX.enterZ (N := 35) Tryz.func27 rfl rfl rfl fun w_ => ?_
 refine XC.keep (kq 0 (kq 1 (kq 2 kn))) ?_
 refine XC.reg ?_
 refine mv_ (mv_ ?_)
 refine XL.call (aS rfl (aS rfl a0)) (by kernel_rfl) (signed_f kb k va vg vq vo vm rs ro rm n _ (hr _ SubC.sub SubC.sub)) rfl ?_
 rintro v11 M11 J11 ⟨rfl, q, rfl, hq⟩
 haveI := hq.cel
 refine mv_ ?_
 refine XL.q (q_x0 rfl) rfl ?_
 refine XL.q (q_x1 rfl) rfl ?_
 refine as_ (as_ ?_)
 refine XL.fin (kq 0 (kq 1 (kq 2 (kq 7 kn)))) ?_
 cases hg : (getP k.signed n).isSome
 ·
  have hmk : meetK k n wd = k := by unfold meetK; rw [hg]; rfl
  refine XC.reg ?_
  refine mv_ (mv_ ?_)
  refine XL.gn rfl rfl rfl rfl ?_
  refine XL.gn rfl rfl rfl rfl ?_
  refine XL.gn rfl rfl rfl rfl ?_
  refine XL.gn rfl rfl rfl rfl ?_
  refine XL.gn rfl rfl rfl rfl ?_
  refine XL.q (q_pickF rfl rfl) rfl ?_
  refine XL.fin (kq 0 (kq 1 (kq 2 (kq 21 kn)))) ?_
  refine XC.condF rfl ?_
  refine XC.skip ?_
  exact ⟨_, (kb, blk [.int .i64 k.user, .int .i64 k.dev, va, vg, vq, vo, .int .u32 ((k.next : Nat) : Int), vm] 96) :: (Bs ++ (Bo ++ Bm)), [], res0 rfl, Fit.none (Fit.pick (B := [_]) PickC.perm (Fit.last PickC.perm)), by rw [hmk]; exact ⟨⟨va, vg, vq, vo, vm, rs, ro, rm, Bs, Bo, Bm, rfl, hva.mono SubC.sub, hvg.mono SubC.sub, hss, hrs.mono prT SubC.sub, hso, hro.mono prT SubC.sub, hsm, hrm.mono nmT SubC.sub, hn1, hn2, hn3, hn4⟩⟩⟩
 ·
  refine XC.reg ?_
  refine mv_ (mv_ ?_)
  refine XL.gy rfl rfl (OpQ.opL qm_ rfl ?_)
  refine XL.gy rfl rfl (OpQ.opL qm_ rfl ?_)
  refine XL.gy rfl rfl (OpQ.opL qm_ rfl ?_)
  refine XL.callVg rfl rfl (aS rfl (aS rfl (aS rfl a0))) (by kernel_rfl) (met_f kb k va vg vq vo vm rs ro rm vd n wd _ (hr _ SubC.sub SubC.sub) (hd.mono SubC.sub)) rfl ?_
  refine XL.gy rfl rfl (OpQ.opL (q_not rfl) rfl ?_)
  refine XL.q (q_pickT rfl rfl) rfl ?_
  refine XL.fin (kq 0 (kq 1 (kq 2 (kq 21 kn)))) ?_
  refine XC.cond rfl (fun hc => ?_) (fun hc => ?_)
  ·
   have hmk : meetK k n wd = { k with met := k.met ++ [⟨n, wd⟩] } := by unfold meetK; rw [hg, hc]; rfl
   refine XC.drawF1 [0, 1, 2, 3, 4, 5, 6, 7, 8, 9, 11, 12] [(0, 0), (1, 0), (2, 0), (3, 0), (4, 1), (5, 0), (6, 0), (7, 2), (8, 0), (9, 2), (10, 2), (11, 0), (12, 0), (13, 2)] (by kernel_rfl) (by kernel_rfl) fun hs => ?_
   refine XF.q hs rfl qm_ rfl ?_
   refine XF.q hs rfl qm_ rfl ?_
   refine XF.q hs rfl (q_nil rfl) rfl ?_
   refine XF.q hs rfl (qf_ 7 7) rfl ?_
   refine XF.r hs rfl ql_ rfl ?_
   refine XF.q hs rfl qm_ rfl ?_
   refine XF.q hs rfl qm_ rfl ?_
   refine XF.call rfl (aS rfl a0) (by kernel_rfl) (bclone_spec vd wd _ (hd.mono SubC.sub)) rfl ?_
   rintro v29 M29 J29 ⟨rfl, h29⟩
   haveI := h29.cel
   refine XF.q hs rfl (q_build (place := fun x => #[(0, 1), (1, 1)][x]?) (z := [.int .u32 0, .slice none 0 0]) (fun _ => by kernel_rfl) (eS rfl (eS rfl e0)) (bdS 0 1 rfl (by rfl) (bdS 1 1 rfl (by rfl) bd0))) rfl ?_
   refine XF.lo rfl rfl fun _ => (l_buildSlice (e := 101) (sz := 2) (z := [.int .u32 0, .slice none 0 0]) (by kernel_rfl) (eS rfl e0) (bdS 0 2 rfl (by rfl) bd0) rfl fun b31 => ?_)
   refine XF.tl rfl rfl rfl (l_append2 (e := 101) (sz := 2) (by_ := 32) rfl rfl (by kernel_rfl) rfl hsm (Rd.whole (n := 1) At.mem (by rfl)) (allS rfl (allS h29.one all0)) PickC.perm (by unfold maxLen; omega) (by omega) rfl fun v32 B32 hs32 => ?_)
   haveI := hs32.cel
   refine XF.q hs rfl (q_nil rfl) rfl ?_
   refine XF.q hs rfl (qf_ 7 7) rfl ?_
   refine XF.tl rfl rfl rfl (l_store rfl rfl hs32.one (by kernel_rfl) SetC.set UpC.upd ?_)
   refine XF.nil ?_
   refine ⟨_, (kb, blk [.int .i64 k.user, .int .i64 k.dev, va, vg, vq, vo, .int .u32 ((k.next : Nat) : Int), v32] 96) :: (Bs ++ (Bo ++ B32)), [], res0 rfl, Fit.none (Fit.pick (B := [_]) PickC.perm (Fit.pick PickC.perm (Fit.pick PickC.perm (Fit.last PickC.perm)))), ?_⟩
   rw [hmk]
   exact ⟨⟨va, vg, vq, vo, v32, rs, ro, rm ++ [[.int .u32 ((n : Nat) : Int), v29]], Bs, Bo, B32, rfl, hva.mono SubC.sub, hvg.mono SubC.sub, hss, hrs.mono prT SubC.sub, hso, hro.mono prT SubC.sub, by simpa using hs32, (hrm.mono nmT SubC.sub).snoc ⟨v29, rfl, h29.mono SubC.sub, hnn⟩, hn1, hn2, hn3, by simp; omega⟩⟩
  ·
   have hmk : meetK k n wd = k := by unfold meetK; rw [hg, hc]; rfl
   refine XC.skip ?_
   exact ⟨_, (kb, blk [.int .i64 k.user, .int .i64 k.dev, va, vg, vq, vo, .int .u32 ((k.next : Nat) : Int), vm] 96) :: (Bs ++ (Bo ++ Bm)), [], res0 rfl, Fit.none (Fit.pick (B := [_]) PickC.perm (Fit.last PickC.perm)), by rw [hmk]; exact ⟨⟨va, vg, vq, vo, vm, rs, ro, rm, Bs, Bo, Bm, rfl, hva.mono SubC.sub, hvg.mono SubC.sub, hss, hrs.mono prT SubC.sub, hso, hro.mono prT SubC.sub, hsm, hrm.mono nmT SubC.sub, hn1, hn2, hn3, hn4⟩⟩⟩

end Go.Proofs.YtphcaiplgpmnnaaGreatDoor
/- Numbers of keys; the walks of who, open, awake. -/
namespace Go.Proofs.YtphcaiplgpmnnaaGreatDoor
open Go.Px
def snN (k : Ks) : List Nat := k.signed.map (·.n)
def onN (k : Ks) : List Nat := k.once.map (·.n)
theorem turn_sn (k : Ks) (s : Ps) : snN (turnK k s).1 = (k.next :: snN k).take 2 := by
  show List.map (fun x : Pr => x.n) ((turnP k s :: k.signed).take 2) = _
  rw [List.map_take]; rfl
theorem turn_on (k : Ks) (s : Ps) : onN (turnK k s).1 = onN k := rfl
theorem fillI_on (k : Ks) (s : Ps) : ∀ i, onN (fillI k s i).1 = onN k ++ (List.range i).map (k.next + ·)
  | 0 => by simp [fillI]
  | i + 1 => by
    have h := fillI_on k s i
    have hn := fillI_next k s i
    show List.map (fun x : Pr => x.n) ((fillI k s i).1.once ++ [_]) = _
    unfold onN at h ⊢
    rw [List.map_append, h, List.range_succ, List.map_append, ← List.append_assoc]
    simp [hn]
theorem fill_on (k : Ks) (s : Ps) : onN (fillK k s).1 = onN k ++ (List.range (4 - k.once.length)).map (k.next + ·) := fillI_on k s _
theorem fill_eq (k : Ks) (s : Ps) : (fillK k s).1 = { k with once := (fillK k s).1.once, next := k.next + (4 - k.once.length) } := fillI_eq k s _
theorem fill_sn (k : Ks) (s : Ps) : snN (fillK k s).1 = snN k := by rw [fill_eq]; rfl
theorem fill_next (k : Ks) (s : Ps) : (fillK k s).1.next = k.next + (4 - k.once.length) := by rw [fill_eq]
theorem new_sn (u d : Int) (s : Ps) : snN (newK u d s).1 = [1] := by
  unfold newK; rw [fill_sn, turn_sn]; rfl
theorem new_on (u d : Int) (s : Ps) : onN (newK u d s).1 = [2, 3, 4, 5] := by
  unfold newK; rw [fill_on, turn_on]; rfl
theorem new_next (u d : Int) (s : Ps) : (newK u d s).1.next = 6 := by
  unfold newK; rw [fill_next]; rfl
theorem new_met (u d : Int) (s : Ps) : (newK u d s).1.met = [] := by
  unfold newK; rw [fill_eq]; rfl
theorem new_who (u d : Int) (s : Ps) : (newK u d s).1.user = u ∧ (newK u d s).1.dev = d := by
  unfold newK; rw [fill_eq]; exact ⟨rfl, rfl⟩
theorem on_len (k : Ks) : (onN k).length = k.once.length := List.length_map ..
/-- Prekeys are in a rising row just if their numbers are. -/
theorem rise_of {l : List Pr} (h : (l.map (·.n)).Pairwise (· < ·)) : Rise l := by
  intro i j x y hij hx hy
  have h1 := List.pairwise_iff_getElem.1 h i j (by rw [List.length_map]; exact (List.getElem?_eq_some_iff.1 hx).1) (by rw [List.length_map]; exact (List.getElem?_eq_some_iff.1 hy).1) hij
  obtain ⟨hi, ei⟩ := List.getElem?_eq_some_iff.1 hx
  obtain ⟨hj, ej⟩ := List.getElem?_eq_some_iff.1 hy
  simp only [List.getElem_map, ei, ej] at h1
  exact h1
theorem bunI_get0 {b : Bn} {l : List Pr} {s : Ps} : ∀ {i : Nat}, i ≤ l.length → (bunI b l s i).1[0]? = some b
  | 0, _ => rfl
  | i + 1, h => by
    rw [bunI_succ (List.getElem?_eq_getElem (by omega))]
    have h1 := (bunI_len (b := b) (s := s) (l := l) (i := i) (by omega)).1
    show (_ ++ _)[0]? = _
    rw [List.getElem?_append_left (by omega)]
    exact bunI_get0 (by omega)
theorem bunI_get {b : Bn} {l : List Pr} {s : Ps} {j : Nat} {o : Pr} (ho : l[j]? = some o) : ∀ {i : Nat}, i ≤ l.length → j < i → (bunI b l s i).1[j + 1]? = some { b with has := true, once := o.n, oncek := pubK2 (bunI b l s j).2 o.sec }
  | 0, _, hj => by omega
  | i + 1, h, hj => by
    obtain ⟨x, hx⟩ : ∃ x, l[i]? = some x := ⟨_, List.getElem?_eq_getElem (by omega)⟩
    rw [bunI_succ hx]
    have h1 := (bunI_len (b := b) (s := s) (l := l) (i := i) (by omega)).1
    show (_ ++ _)[j + 1]? = _
    by_cases e : j = i
    · subst e
      rw [hx] at ho
      cases ho
      rw [List.getElem?_append_right (by omega), h1, Nat.sub_self]; rfl
    · rw [List.getElem?_append_left (by omega)]
      exact bunI_get ho (by omega) (by omega)
/-- What the bundles of some keys are. -/
theorem bunK_facts {k : Ks} {s : Ps} {x : Pr} {sl : List Pr} (h : k.signed = x :: sl) : (bunK k s).1.length = k.once.length + 1 ∧ (bunK k s).1[0]? = some (bunB k x s) ∧ (∀ (j : Nat) (o : Pr), k.once[j]? = some o → (bunK k s).1[j + 1]? = some { bunB k x s with has := true, once := o.n, oncek := pubK2 (bunI (bunB k x s) k.once (pubS2 (idS k s) x.sec) j).2 o.sec }) ∧ (bunK k s).2.ts.length ≤ s.ts.length + 6 + 2 * k.once.length := by
  have e : bunK k s = bunI (bunB k x s) k.once (pubS2 (idS k s) x.sec) k.once.length := by unfold bunK; rw [h]
  rw [e]
  have h1 := bunI_len (b := bunB k x s) (s := pubS2 (idS k s) x.sec) (l := k.once) (Nat.le_refl _)
  have h2 := idS_len k s
  have h3 := pubS2_len (idS k s) x.sec
  exact ⟨h1.1, bunI_get0 (Nat.le_refl _), fun j o ho => bunI_get ho (Nat.le_refl _) (List.getElem?_eq_some_iff.1 ho).1, by omega⟩
theorem md_mod (m : Nat) : ((m % 2 : Nat) : Int) = md (m % 2 == 0) := by
  rcases (by omega : m % 2 = 0 ∨ m % 2 = 1) with h | h <;> rw [h] <;> rfl
def opK (m : Nat) : Ps := ⟨m % 2 == 0, [107, 101, 121, 115], 0, []⟩

theorem who12_f (a b : Nat) (A : Mem) (ha : a < 256) (hb : b < 256) : FnV Tryz.prog 17 [.int .u8 ((a : Nat) : Int), .int .u8 ((b : Nat) : Int)] A (.agg #[.int .i64 ((a % 8 : Nat) : Int), .int .i64 ((b : Nat) : Int)]) := by
 refine FnX.enter (N := 11) Tryz.func17 rfl rfl rfl fun w => ?_
 refine XC.keep (kq 0 (kq 1 kn)) ?_
 refine XC.reg ?_
 refine XL.lo rfl (l_alloc (cs := [.int .i64 0, .int .i64 0]) (by kernel_rfl) rfl fun b4 => ?_)
 refine XL.fin (kq 0 (kq 1 (kq 4 kn))) ?_
 refine XC.reg ?_
 refine mv_ ?_
 refine XL.q (q_remI (a := a) (b := 8) rfl rfl rfl rfl (by decide)) rfl ?_
 refine XL.q (q_same (k' := .i64) rfl (by kernel_rfl) (by show _ < 9223372036854775808; omega)) rfl ?_
 refine mv_ ?_
 refine XL.q (q_same (k' := .i64) rfl (by kernel_rfl) (by show _ < 9223372036854775808; omega)) rfl ?_
 refine XL.q (q_build (place := fun x => #[(0, 1), (1, 1)][x]?) (z := [.int .i64 0, .int .i64 0]) (fun _ => by kernel_rfl) (eS rfl (eS rfl e0)) (bdS 0 1 rfl (by rfl) (bdS 1 1 rfl (by rfl) bd0))) rfl ?_
 refine XL.lo rfl (l_storeW rfl rfl Cel.cel (by kernel_rfl) (lnS (lnS (ln0))) (allS rfl (allS rfl (all0))) UpC.upd ?_)
 refine XL.fin (kq 4 kn) ?_
 refine XC.ret ?_
 exact ⟨_, [], [], resC rfl rfl (by kernel_rfl) At.mem (by rfl), List.nil_sublist _, by simp, rfl, rfl, rfl⟩

theorem open12_f (m : Nat) (u d : Int) (A : Mem) (hm : m < 256) (hG : Glb A) : FnX Tryz.prog 16 [.int .u8 ((m : Nat) : Int), .agg #[.int .i64 u, .int .i64 d]] [] A fun q M J => ∃ pb kb MK MP, q = .tuple #[.pointer (some ⟨pb, 0, none⟩), .pointer (some ⟨kb, 0, none⟩)] ∧ M = MK ++ MP ∧ Kys (J ++ A) kb (newK u d (opK m)).1 MK ∧ Prm pb (newK u d (opK m)).2 MP := by
 refine FnX.enterZ (N := 22) Tryz.func16 rfl rfl rfl fun w_ => ?_
 refine XC.keep (kq 0 (kq 1 kn)) ?_
 refine XC.reg ?_
 refine XL.lo rfl (bx_ fun b3 => ?_)
 refine as_ (as_ ?_)
 refine XL.fin (kq 0 (kq 3 kn)) ?_
 refine XC.reg ?_
 refine mv_ ?_
 refine XL.q (q_remI (a := m) (b := 2) rfl rfl rfl rfl (by decide)) rfl ?_
 rw [md_mod m]
 refine XL.lo rfl (l_buildSlice (e := 5) (sz := 1) (z := [.int .u8 0, .int .u8 0, .int .u8 0, .int .u8 0]) (by kernel_rfl) (eS rfl (eS rfl (eS rfl (eS rfl e0)))) (bdS 0 1 rfl (by rfl) (bdS 1 1 rfl (by rfl) (bdS 2 1 rfl (by rfl) (bdS 3 1 rfl (by rfl) bd0)))) rfl fun b11 => ?_)
 refine XL.lo rfl (l_mark rfl (by kernel_rfl) UpC.upd rfl ?_)
 refine XL.frz (B := [_]) (PickC.sing).perm ?_
 refine XL.call (aS rfl (aS rfl a0)) (by kernel_rfl) (pnew_spec (m % 2 == 0) _ [107, 101, 121, 115] _ ⟨Rd.whole (n := 4) (At.mem) (by rfl), by decide, by decide⟩) rfl ?_
 rintro v13 MP J13 ⟨pb, rfl, hP⟩
 refine mv_ ?_
 refine XL.q (q_x0 rfl) rfl ?_
 refine XL.q (q_x1 rfl) rfl ?_
 refine as_ (as_ ?_)
 refine XL.fin (kq 3 (kq 6 (kq 7 kn))) ?_
 refine XC.seq ?_
 refine XC.reg ?_
 refine mv_ ?_
 refine XL.q (q_cmp false rfl rfl (neF rfl)) rfl ?_
 refine XL.fin (kq 3 (kq 6 (kq 17 kn))) ?_
 refine XC.condF rfl ?_
 refine XC.skip ?_
 refine nx (kq 3 (kq 6 kn)) ?_
 refine XC.reg ?_
 refine mv_ (mv_ ?_)
 refine XL.q (qw_ 2) rfl ?_
 refine XL.lo rfl (l_call (Mc := MP) (R := _) (aS rfl (aS rfl a0)) (by kernel_rfl) PickC.perm (new_f u d pb (opK m) MP _ hP (show 0 + 200 ≤ 1048576 by decide) (show 0 + 100 < 1000000000 by decide) hG.up) rfl ?_)
 rintro v21 M21 J21 ⟨kb, MK, MP2, rfl, rfl, hK, hP2⟩
 refine as_ (as_ ?_)
 refine XL.fin (kq 4 (kq 5 kn)) ?_
 refine XC.ret ?_
 exact ⟨_, MK ++ MP2, [(b3, blk [.int .i64 u, .int .i64 d] 35)], res2 rfl rfl rfl, Fit.pick (B := [_]) PickC.perm (Fit.last PickC.perm), pb, kb, MK, MP2, rfl, rfl, hK.mono SubC.sub, hP2⟩

theorem awake12_f (A : Mem) (hG : Glb A) : FnV Tryz.prog 12 [] A (.bool true) := by
 refine FnX.enter (N := 51) Tryz.func12 rfl rfl rfl fun w => ?_
 refine XC.keep kn ?_
 refine XC.reg ?_
 refine as_ ?_
 refine XL.fin kn ?_
 refine XC.reg ?_
 refine XL.callV (aS rfl (aS rfl a0)) (by kernel_rfl) (who12_f 1 2 _ (by decide) (by decide)) rfl ?_
 refine XL.call (aS rfl (aS rfl a0)) (by kernel_rfl) (open12_f 1 _ _ _ (by decide) hG.up) rfl ?_
 rintro v6 M6 J6 ⟨pb, kb, MK, MP, rfl, rfl, hK, hP⟩
 have hns := newK_ps (((1 % 8 : Nat)) : Int) ((2 : Nat) : Int) (opK 1)
 have hnsn := new_sn (((1 % 8 : Nat)) : Int) ((2 : Nat) : Int) (opK 1)
 have hnon := new_on (((1 % 8 : Nat)) : Int) ((2 : Nat) : Int) (opK 1)
 have hop : (opK 1).ts.length = 0 := rfl
 generalize (newK (((1 % 8 : Nat)) : Int) ((2 : Nat) : Int) (opK 1)).1 = k at *
 generalize (newK (((1 % 8 : Nat)) : Int) ((2 : Nat) : Int) (opK 1)).2 = s at *
 obtain ⟨va, vg, vs_, vo, vm, rs, ro, rm, hr⟩ := hK.r
 have hol := on_len k
 rw [hnon] at hol
 obtain ⟨x, sl, hsg, hxn⟩ : ∃ x sl, k.signed = x :: sl ∧ x.n = 1 := by
  unfold snN at hnsn
  cases hs : k.signed with
  | nil => rw [hs] at hnsn; cases hnsn
  | cons x sl => rw [hs] at hnsn; exact ⟨x, sl, rfl, (List.cons.inj hnsn).1⟩
 refine mv_ ?_
 refine XL.q (q_x0 rfl) rfl ?_
 refine XL.q (q_x1 rfl) rfl ?_
 refine as_ (as_ ?_)
 refine XL.fin (kq 1 (kq 2 kn)) ?_
 refine XC.seq ?_
 refine XC.reg ?_
 refine mv_ ?_
 refine XL.q (q_ptrEqNil (e := 96) rfl rfl (by kernel_rfl)) rfl ?_
 refine XL.fin (kq 1 (kq 2 (kq 10 kn))) ?_
 refine XC.condF rfl ?_
 refine XC.skip ?_
 refine nx (kq 1 (kq 2 kn)) ?_
 refine XC.reg ?_
 refine mv_ (mv_ ?_)
 refine XL.lo rfl (l_call (Mc := MP) (R := _) (aS rfl (aS rfl a0)) (by kernel_rfl) PickC.perm (bundles_f pb s kb k va vg vs_ vo vm rs ro rm x sl MP _ (hr _ SubC.sub SubC.sub) hsg hP (by omega) (by rw [← hol]; decide) hG.up) rfl ?_)
 rintro v13 M13 J13 ⟨hP13, rows, hrd, hrw⟩
 haveI := hrd.cel
 obtain ⟨hbl, hb0, hbj, -⟩ := bunK_facts (s := s) hsg
 rw [← hol] at hbl
 have hog : ∀ (j n : Nat), [2, 3, 4, 5][j]? = some n → ∃ o, k.once[j]? = some o ∧ o.n = n := fun j n h => by
  rw [← hnon] at h
  unfold onN at h
  rw [List.getElem?_map] at h
  cases ho : k.once[j]? with
  | none => rw [ho] at h; cases h
  | some o => rw [ho] at h; exact ⟨o, rfl, Option.some.inj h⟩
 obtain ⟨o0, ho0, hn0⟩ := hog 0 2 rfl
 obtain ⟨o3, ho3, hn3⟩ := hog 3 5 rfl
 have hb1 := hbj 0 o0 ho0
 have hb4 := hbj 3 o3 ho3
 obtain ⟨r0, hr0, a1, a2, a3, a4, a5, rfl, -⟩ := hrw.get 0 _ hb0
 obtain ⟨r1, hr1, c1, c2, c3, c4, c5, rfl, -⟩ := hrw.get 1 _ hb1
 obtain ⟨r4, hr4, d1, d2, d3, d4, d5, rfl, -⟩ := hrw.get 4 _ hb4
 dsimp only [bunB] at hr0 hr1 hr4
 rw [hxn] at hr0 hr1 hr4
 rw [hn0] at hr1
 rw [hn3] at hr4
 refine as_ ?_
 refine XL.fin (kq 3 kn) ?_
 refine XC.reg ?_
 refine mv_ ?_
 refine XL.q (q_lenV2 (sz := 10) rfl (by kernel_rfl) hrd) rfl ?_
 rw [hbl]
 refine XL.q (q_cmp true rfl rfl (eqT rfl)) rfl ?_
 refine mv_ ?_
 refine XL.gy rfl rfl (OpQ.opL qm_ rfl ?_)
 refine XL.gy rfl rfl (OpQ.opL (q_atV2 (sz := 10) (a := 0) rfl rfl (by kernel_rfl) rfl hrd (by rw [hbl]; decide)) rfl ?_)
 refine XL.gy rfl rfl (OpQ.opL (q_fldV (off := 4) rfl hrd (by rw [hbl]; decide) (by kernel_rfl)) rfl ?_)
 refine XL.gy rfl rfl (OpQ.opL (q_ldVF (u := .int .u32 ((1 : Nat) : Int)) rfl (hrd.mono SubC.sub) (by omega) (by kernel_rfl) (by rw [flat_get (hrw.lens bnT) hr0 4 (by decide)]; rfl)) rfl ?_)
 refine XL.gy rfl rfl (OpQ.opL (q_cmp true rfl rfl (eqT rfl)) rfl ?_)
 refine XL.q (q_pickT rfl rfl) rfl ?_
 refine mv_ ?_
 refine XL.gy rfl rfl (OpQ.opL qm_ rfl ?_)
 refine XL.gy rfl rfl (OpQ.opL (q_atV2 (sz := 10) (a := 0) rfl rfl (by kernel_rfl) rfl hrd (by rw [hbl]; decide)) rfl ?_)
 refine XL.gy rfl rfl (OpQ.opL (q_fldV (off := 7) rfl hrd (by rw [hbl]; decide) (by kernel_rfl)) rfl ?_)
 refine XL.gy rfl rfl (OpQ.opL (q_ldVF (u := .bool false) rfl (hrd.mono SubC.sub) (by omega) (by kernel_rfl) (by rw [flat_get (hrw.lens bnT) hr0 7 (by decide)]; rfl)) rfl ?_)
 refine XL.gy rfl rfl (OpQ.opL (q_not rfl) rfl ?_)
 refine XL.q (q_pickT rfl rfl) rfl ?_
 refine mv_ ?_
 refine XL.gy rfl rfl (OpQ.opL qm_ rfl ?_)
 refine XL.gy rfl rfl (OpQ.opL (q_atV2 (sz := 10) (a := 1) rfl rfl (by kernel_rfl) rfl hrd (by rw [hbl]; decide)) rfl ?_)
 refine XL.gy rfl rfl (OpQ.opL (q_fldV (off := 7) rfl hrd (by rw [hbl]; decide) (by kernel_rfl)) rfl ?_)
 refine XL.gy rfl rfl (OpQ.opL (q_ldVF (u := .bool true) rfl (hrd.mono SubC.sub) (by omega) (by kernel_rfl) (by rw [flat_get (hrw.lens bnT) hr1 7 (by decide)]; rfl)) rfl ?_)
 refine XL.q (q_pickT rfl rfl) rfl ?_
 refine mv_ ?_
 refine XL.gy rfl rfl (OpQ.opL qm_ rfl ?_)
 refine XL.gy rfl rfl (OpQ.opL (q_atV2 (sz := 10) (a := 1) rfl rfl (by kernel_rfl) rfl hrd (by rw [hbl]; decide)) rfl ?_)
 refine XL.gy rfl rfl (OpQ.opL (q_fldV (off := 8) rfl hrd (by rw [hbl]; decide) (by kernel_rfl)) rfl ?_)
 refine XL.gy rfl rfl (OpQ.opL (q_ldVF (u := .int .u32 ((2 : Nat) : Int)) rfl (hrd.mono SubC.sub) (by omega) (by kernel_rfl) (by rw [flat_get (hrw.lens bnT) hr1 8 (by decide)]; rfl)) rfl ?_)
 refine XL.gy rfl rfl (OpQ.opL (q_cmp true rfl rfl (eqT rfl)) rfl ?_)
 refine XL.q (q_pickT rfl rfl) rfl ?_
 refine mv_ ?_
 refine XL.gy rfl rfl (OpQ.opL qm_ rfl ?_)
 refine XL.gy rfl rfl (OpQ.opL (q_atV2 (sz := 10) (a := 4) rfl rfl (by kernel_rfl) rfl hrd (by rw [hbl]; decide)) rfl ?_)
 refine XL.gy rfl rfl (OpQ.opL (q_fldV (off := 8) rfl hrd (by rw [hbl]; decide) (by kernel_rfl)) rfl ?_)
 refine XL.gy rfl rfl (OpQ.opL (q_ldVF (u := .int .u32 ((5 : Nat) : Int)) rfl (hrd.mono SubC.sub) (by omega) (by kernel_rfl) (by rw [flat_get (hrw.lens bnT) hr4 8 (by decide)]; rfl)) rfl ?_)
 refine XL.gy rfl rfl (OpQ.opL (q_cmp true rfl rfl (eqT rfl)) rfl ?_)
 refine XL.q (q_pickT rfl rfl) rfl ?_
 refine as_ ?_
 refine XL.fin (kq 0 kn) ?_
 refine XC.ret ?_
 exact ⟨_, [], [], res1 rfl rfl, List.nil_sublist _, by simp, rfl, rfl, rfl⟩

end Go.Proofs.YtphcaiplgpmnnaaGreatDoor
/- What was made of keys is made of them again, in both modes: what a state behind it answers. -/
namespace Go.Proofs.YtphcaiplgpmnnaaGreatDoor
open Go.Px
/-- A state behind another one: of the same seed, too. -/
structure Ext (s s' : Ps) : Prop where
  p : Pext s s'
  seed : s'.seed = s.seed
  n : s.n ≤ s'.n
theorem Ext.refl (s : Ps) : Ext s s := ⟨Pext.refl s, rfl, Nat.le_refl _⟩
theorem Ext.trans {a b c : Ps} (h : Ext a b) (h' : Ext b c) : Ext a c := ⟨h.p.trans h'.p, h'.seed.trans h.seed, Nat.le_trans h.n h'.n⟩
theorem pub_t {s : Ps} {i : Nat} (hi : i < s.ts.length) (hl : s.ts.length ≤ 1048576) : pubS s (bts ((i : Nat) : Int)) = { s with ts := add s.ts (pubT ((i : Nat) : Int)) } ∧ pubK s (bts ((i : Nat) : Int)) = bts ((at_ s.ts (pubT ((i : Nat) : Int)) : Nat) : Int) := by
  obtain ⟨h1, h2⟩ := good_rd hi hl
  unfold pubS pubK
  rw [h1, h2]
  exact ⟨rfl, rfl⟩
/-- Of a secret key this is public. -/
def PubT (s : Ps) (w p : List Nat) : Prop := ∃ i j : Nat, i < s.ts.length ∧ w = bts ((i : Nat) : Int) ∧ s.ts[j]? = some (pubT ((i : Nat) : Int)) ∧ p = bts ((j : Nat) : Int)
def PubAt (s : Ps) (w p : List Nat) : Prop := if s.real then p = base25 (fitN w 32) else PubT s w p
def SkAt (s : Ps) (w p : List Nat) : Prop := if s.real then p = pubB (fitN w 32) else PubT s w p
def SigAt (s : Ps) (w m g : List Nat) : Prop := if s.real then g = sigB (fitN w 32) m else ∃ i j : Nat, i < s.ts.length ∧ w = bts ((i : Nat) : Int) ∧ s.ts[j]? = some (sigT ((i : Nat) : Int) m) ∧ g = fitN (bts ((j : Nat) : Int)) 64
theorem PubT.ext {s s' : Ps} {w p : List Nat} (h : PubT s w p) (he : Pext s s') : PubT s' w p := by
  obtain ⟨l, e⟩ := he.ts
  obtain ⟨i, j, h1, h2, h3, h4⟩ := h
  exact ⟨i, j, by rw [e, List.length_append]; omega, h2, by rw [e]; exact ext_at h3, h4⟩
theorem PubAt.ext {s s' : Ps} {w p : List Nat} (h : PubAt s w p) (he : Pext s s') : PubAt s' w p := by
  unfold PubAt at *
  rw [he.real]
  split
  · rename_i hr; rwa [if_pos hr] at h
  · rename_i hr; rw [if_neg hr] at h; exact h.ext he
theorem SkAt.ext {s s' : Ps} {w p : List Nat} (h : SkAt s w p) (he : Pext s s') : SkAt s' w p := by
  unfold SkAt at *
  rw [he.real]
  split
  · rename_i hr; rwa [if_pos hr] at h
  · rename_i hr; rw [if_neg hr] at h; exact h.ext he
theorem SigAt.ext {s s' : Ps} {w m g : List Nat} (h : SigAt s w m g) (he : Pext s s') : SigAt s' w m g := by
  unfold SigAt at *
  rw [he.real]
  split
  · rename_i hr; rwa [if_pos hr] at h
  · rename_i hr
    rw [if_neg hr] at h
    obtain ⟨l, e⟩ := he.ts
    obtain ⟨i, j, h1, h2, h3, h4⟩ := h
    exact ⟨i, j, by rw [e, List.length_append]; omega, h2, by rw [e]; exact ext_at h3, h4⟩
theorem PubT.eq {s : Ps} {w p : List Nat} (h : PubT s w p) (ht : Tok s.ts) (hl : s.ts.length ≤ 1048576) : pubS s w = s ∧ pubK s w = p := by
  obtain ⟨i, j, h1, rfl, h3, rfl⟩ := h
  obtain ⟨e1, e2⟩ := pub_t h1 hl
  obtain ⟨e3, e4⟩ := again ht h3
  rw [e1, e2, e3, e4]
  exact ⟨rfl, rfl⟩
theorem PubAt.eq {s : Ps} {w p : List Nat} (h : PubAt s w p) (ht : Tok s.ts) (hl : s.ts.length ≤ 1048576) : pubS2 s w = s ∧ pubK2 s w = p := by
  unfold PubAt at h
  unfold pubS2 pubK2
  cases hr : s.real with
  | true => rw [hr] at h; exact ⟨rfl, h.symm⟩
  | false => rw [hr] at h; exact PubT.eq h ht hl
theorem SkAt.eq {s : Ps} {w p : List Nat} (h : SkAt s w p) (ht : Tok s.ts) (hl : s.ts.length ≤ 1048576) : pubS2 s w = s ∧ skK2 s w = p := by
  unfold SkAt at h
  unfold pubS2 skK2
  cases hr : s.real with
  | true => rw [hr] at h; exact ⟨rfl, h.symm⟩
  | false => rw [hr] at h; exact PubT.eq h ht hl
theorem SigAt.f {s : Ps} (h : s.real = false) {w m g : List Nat} : SigAt s w m g ↔ ∃ i j : Nat, i < s.ts.length ∧ w = bts ((i : Nat) : Int) ∧ s.ts[j]? = some (sigT ((i : Nat) : Int) m) ∧ g = fitN (bts ((j : Nat) : Int)) 64 := by unfold SigAt; rw [if_neg (by rw [h]; decide)]
/-- What Check answers of terms. -/
def chkT (ts : List Tm) (p m g : List Nat) : Bool := decide (g.length = 64) && match plc g ts.length, plc p ts.length with
  | some i, some k => decide (p.length = 32) && match ts[i]?, ts[k]? with
    | some t, some u => decide (t.kind = 7) && decide (t.text = m) && decide (u.kind = 3) && decide (u.of.getD 0 0 = t.of.getD 0 0)
    | _, _ => false
  | _, _ => false
noncomputable def chkK (s : Ps) (p m g : List Nat) : Bool := if s.real then chkB p m g else chkT s.ts p m g
/-- Terms that are made of something are. -/
def Ar (ts : List Tm) : Prop := ∀ t ∈ ts, (t.kind = 3 ∨ t.kind = 6 ∨ t.kind = 7) → 0 < t.of.length
theorem Ar.nil : Ar [] := fun t h => by cases h
theorem Ar.add {ts : List Tm} (h : Ar ts) {t : Tm} (ht : (t.kind = 3 ∨ t.kind = 6 ∨ t.kind = 7) → 0 < t.of.length) : Ar (add ts t) := by
  unfold Go.Proofs.YtphcaiplgpmnnaaGreatDoor.add
  split
  · exact h
  · intro u hu
    rcases List.mem_append.1 hu with h1 | h1
    · exact h u h1
    · rw [List.mem_singleton.1 h1]; exact ht
theorem Ar.rd {ts : List Tm} (h : Ar ts) (w : List Nat) : Ar (rdT ts w) := by
  cases hp : plc w ts.length with
  | some j => rw [(rdT_some hp).1]; exact h
  | none => rw [(rdT_none hp).1]; exact h.add (by intro h; rcases h with h | h | h <;> cases h)
end Go.Proofs.YtphcaiplgpmnnaaGreatDoor
/- All secrets of keys are unlike; the walk of KeysSecrets. -/
namespace Go.Proofs.YtphcaiplgpmnnaaGreatDoor
open Go.Px
/-- The key that was made as the i-th one. -/
def Fr (s : Ps) (w : List Nat) (i : Nat) : Prop := if s.real then w = keyR s.seed i else ∃ j, s.ts[j]? = some (atom i) ∧ w = bts ((j : Nat) : Int)
theorem Fr.ext {s s' : Ps} {w : List Nat} {i : Nat} (h : Fr s w i) (he : Ext s s') : Fr s' w i := by
  unfold Fr at h ⊢
  rw [he.p.real]
  obtain ⟨l, e⟩ := he.p.ts
  split
  · rename_i hr; rw [if_pos hr] at h; rw [he.seed]; exact h
  · rename_i hr
    rw [if_neg hr] at h
    obtain ⟨j, h1, h2⟩ := h
    exact ⟨j, by rw [e]; exact ext_at h1, h2⟩
theorem fr_ne {s : Ps} {w w' : List Nat} {i i' : Nat} (h : Fr s w i) (h' : Fr s w' i') (hi : i ≠ i') (hl : s.ts.length ≤ 1048576) (hk : s.real = true → keyR s.seed i ≠ keyR s.seed i') : w ≠ w' := by
  unfold Fr at h h'
  split at h
  · rename_i hr
    rw [if_pos hr] at h'
    rw [h, h']
    exact hk hr
  · rename_i hr
    rw [if_neg hr] at h'
    obtain ⟨j, h1, rfl⟩ := h
    obtain ⟨j', h2, rfl⟩ := h'
    intro e
    have b1 := (List.getElem?_eq_some_iff.1 h1).1
    have b2 := (List.getElem?_eq_some_iff.1 h2).1
    have e2 := bts_inj (by omega) (by omega) e
    subst e2
    rw [h1] at h2
    have e3 := Option.some.inj h2
    unfold atom at e3
    injection e3 with a1 a2 a3 a4
    exact hi (by omega)
/-- Secrets, each once, each made by the state. -/
structure Sok (L : List (List Nat)) (s : Ps) : Prop where
  nd : L.Nodup
  fr : ∀ w ∈ L, ∃ i, i ≤ s.n ∧ Fr s w i
theorem Sok.nil {s : Ps} : Sok [] s := ⟨List.nodup_nil, fun w h => by cases h⟩
theorem Sok.ext {L : List (List Nat)} {s s' : Ps} (h : Sok L s) (he : Ext s s') : Sok L s' := ⟨h.nd, fun w hw => by
  obtain ⟨i, h1, h2⟩ := h.fr w hw
  exact ⟨i, Nat.le_trans h1 he.n, h2.ext he⟩⟩
theorem Sok.sub {L L' : List (List Nat)} {s : Ps} (h : Sok L s) (hs : L'.Sublist L) : Sok L' s := ⟨h.nd.sublist hs, fun w hw => h.fr w (hs.subset hw)⟩
theorem Sok.perm {L L' : List (List Nat)} {s : Ps} (h : Sok L s) (hp : L.Perm L') : Sok L' s := ⟨hp.nodup_iff.1 h.nd, fun w hw => h.fr w (hp.mem_iff.2 hw)⟩
/-- The keys of a seed up to a number are unlike. -/
def Apart (seed : List Nat) (m : Nat) : Prop := ∀ i j, i ≤ m → j ≤ m → i ≠ j → keyR seed i ≠ keyR seed j
theorem Sok.add {L : List (List Nat)} {s s' : Ps} {w : List Nat} {m : Nat} (h : Sok L s) (he : Ext s s') (hw : Fr s' w (s.n + 1)) (hn : s.n + 1 ≤ s'.n) (hl : s'.ts.length ≤ 1048576) (hm : s.n + 1 ≤ m) (ha : s'.real = true → Apart s'.seed m) : Sok (w :: L) s' := by
  have h' := h.ext he
  refine ⟨List.nodup_cons.2 ⟨fun hm' => ?_, h.nd⟩, fun x hx => ?_⟩
  · obtain ⟨i, h1, h2⟩ := h.fr w hm'
    exact fr_ne hw (h2.ext he) (show s.n + 1 ≠ i by omega) hl (fun hr => ha hr _ _ hm (by omega) (by omega)) rfl
  · rcases List.mem_cons.1 hx with rfl | hx
    · exact ⟨_, hn, hw⟩
    · exact h'.fr x hx
def kW : List Nat := [107, 101, 121, 115]
end Go.Proofs.YtphcaiplgpmnnaaGreatDoor
/-
  A call answers the same where more stands still.
-/
namespace Go.Px
theorem FnX.amb {P : Program} {f : FuncId} {args : List Value} {M A A' : Mem} {post : Value → Mem → Mem → Prop} (hA : ∀ x, x ∈ A → x ∈ A') (h : FnX P f args M A post) : FnX P f args M A' post := by
  intro w hw
  have h1 : St ⟨P, w, M.map Prod.fst, A, 0⟩ M [] w := ⟨hw.os, hw.tape, hw.output, hw.size, hw.frame, fun b o hb => hw.mem b o (by
    rcases List.mem_append.1 hb with hb | hb
    · exact List.mem_append_left _ hb
    · exact List.mem_append_right _ (hA _ hb)), hw.nodup, hw.own, hw.sepJ, fun b o hb => hw.sepA b o (hA _ hb), hw.old⟩
  refine Calls.mono (h w h1) ?_
  rintro e w' ⟨r, M', J', rfl, hp, hs⟩
  refine ⟨r, M', J', rfl, hp, ⟨hs.os, hs.tape, hs.output, hs.size, hs.frame, fun b o hb => ?_, hs.nodup, hs.own, hs.sepJ, hw.sepA, hs.old⟩⟩
  rcases List.mem_append.1 hb with hb | hb
  · exact hs.mem b o (List.mem_append_left _ hb)
  · rcases List.mem_append.1 hb with hb | hb
    · exact hs.mem b o (List.mem_append_right _ (List.mem_append_left _ hb))
    · have h2 := hw.sepA b o hb
      rw [hs.frame b h2.2 h2.1]
      exact hw.mem b o (List.mem_append_right _ hb)
end Go.Px

