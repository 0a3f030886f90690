/- Part 20 of the texts of this claim, one behind the other. -/
import Derived.Test.YtphcaiplgpmnnaaGreatDoorB19
set_option linter.unusedVariables false
set_option linter.unusedSimpArgs false
set_option linter.unusedVariables false
set_option linter.unusedSimpArgs false
namespace Go.Proofs.YtphcaiplgpmnnaaGreatDoor
open Go.Px
noncomputable def idS (k : Ks) (s : Ps) : Ps := pubS2 (pubS2 s k.agree) k.sign
noncomputable def idA (k : Ks) (s : Ps) : List Nat := pubK2 s k.agree
noncomputable def idG (k : Ks) (s : Ps) : List Nat := skK2 (pubS2 s k.agree) k.sign
theorem idS_len (k : Ks) (s : Ps) : (idS k s).ts.length ≤ s.ts.length + 4 := by
  have h1 := pubS2_len s k.agree
  have h2 := pubS2_len (pubS2 s k.agree) k.sign
  unfold idS; omega
theorem turnK_ps (k : Ks) (s : Ps) : (turnK k s).2.ts.length ≤ s.ts.length + 5 ∧ (turnK k s).2.n = s.n + 1 := by
  have h1 := freshS_len s
  have h2 := pubS2_len (freshS s) (freshK s)
  have h3 := sgS2_len (pubS2 (freshS s) (freshK s)) k.sign (msgN k.next (pubK2 (freshS s) (freshK s)))
  have h4 := sgS2_n (pubS2 (freshS s) (freshK s)) k.sign (msgN k.next (pubK2 (freshS s) (freshK s)))
  have h5 := pubS2_n (freshS s) (freshK s)
  show (turnS k s).ts.length ≤ _ ∧ (turnS k s).n = _
  unfold turnS
  omega
theorem turnK_next (k : Ks) (s : Ps) : (turnK k s).1.next = k.next + 1 := rfl
theorem fillK_ps (k : Ks) (s : Ps) : (fillK k s).2.ts.length ≤ s.ts.length + 4 ∧ (fillK k s).2.n ≤ s.n + 4 ∧ (fillK k s).1.next ≤ k.next + 4 := by
  have h1 := fillI_ps k s (4 - k.once.length)
  have h2 := fillI_next k s (4 - k.once.length)
  unfold fillK
  omega
def k0N (u d : Int) (s : Ps) : Ks := ⟨u, d, freshK s, freshK (freshS s), [], [], 1, []⟩
noncomputable def newK (u d : Int) (s : Ps) : Ks × Ps := fillK (turnK (k0N u d s) (freshS (freshS s))).1 (turnK (k0N u d s) (freshS (freshS s))).2
theorem newK_ps (u d : Int) (s : Ps) : (newK u d s).2.ts.length ≤ s.ts.length + 11 ∧ (newK u d s).2.n ≤ s.n + 7 ∧ (newK u d s).1.next ≤ 6 := by
  have h1 := freshS_len s
  have h2 := freshS_len (freshS s)
  have h3 := turnK_ps (k0N u d s) (freshS (freshS s))
  have h4 := fillK_ps (turnK (k0N u d s) (freshS (freshS s))).1 (turnK (k0N u d s) (freshS (freshS s))).2
  have h5 : (turnK (k0N u d s) (freshS (freshS s))).1.next = 2 := rfl
  unfold newK
  omega
/-- A bundle. -/
structure Bn where
  user : Int
  dev : Int
  ia : List Nat
  ig : List Nat
  signed : Nat
  key : List Nat
  sig : List Nat
  has : Bool
  once : Nat
  oncek : List Nat
def bnR (R : Mem) (x : Bn) (r : List Value) : Prop := ∃ va vg vk vs vo, r = [.int .i64 x.user, .int .i64 x.dev, va, vg, .int .u32 ((x.signed : Nat) : Int), vk, vs, .bool x.has, .int .u32 ((x.once : Nat) : Int), vo] ∧ By R va x.ia ∧ By R vg x.ig ∧ By R vk x.key ∧ By R vs x.sig ∧ By R vo x.oncek ∧ x.signed < 4294967296 ∧ x.once < 4294967296
theorem bnT : RowT 10 bnR := ⟨fun R R' x r hR ⟨va, vg, vk, vs, vo, h1, h2, h3, h4, h5, h6, h7⟩ => ⟨va, vg, vk, vs, vo, h1, h2.mono hR, h3.mono hR, h4.mono hR, h5.mono hR, h6.mono hR, h7⟩, fun R x r ⟨va, vg, vk, vs, vo, h1, _⟩ => by rw [h1]; rfl, fun R x r ⟨va, vg, vk, vs, vo, h1, h2, h3, h4, h5, h6, _⟩ => by
  rw [h1]
  exact allS rfl (allS rfl (allS h2.one (allS h3.one (allS rfl (allS h4.one (allS h5.one (allS rfl (allS rfl (allS h6.one all0)))))))))⟩
noncomputable def bunB (k : Ks) (x : Pr) (s : Ps) : Bn := ⟨k.user, k.dev, idA k s, idG k s, x.n, pubK2 (idS k s) x.sec, x.sig, false, 0, []⟩
noncomputable def bunI (b : Bn) (l : List Pr) (s : Ps) : Nat → List Bn × Ps
  | 0 => ([b], s)
  | i + 1 => match l[i]? with
    | none => bunI b l s i
    | some o => ((bunI b l s i).1 ++ [{ b with has := true, once := o.n, oncek := pubK2 (bunI b l s i).2 o.sec }], pubS2 (bunI b l s i).2 o.sec)
theorem bunI_succ {b : Bn} {l : List Pr} {s : Ps} {i : Nat} {o : Pr} (h : l[i]? = some o) : bunI b l s (i + 1) = ((bunI b l s i).1 ++ [{ b with has := true, once := o.n, oncek := pubK2 (bunI b l s i).2 o.sec }], pubS2 (bunI b l s i).2 o.sec) := by
  simp only [bunI, h]
theorem bunI_len {b : Bn} {l : List Pr} {s : Ps} : ∀ {i : Nat}, i ≤ l.length → (bunI b l s i).1.length = i + 1 ∧ (bunI b l s i).2.ts.length ≤ s.ts.length + 2 * i
  | 0, _ => ⟨rfl, Nat.le_refl _⟩
  | i + 1, h => by
    have ih := bunI_len (b := b) (s := s) (i := i) (l := l) (by omega)
    rw [bunI_succ (List.getElem?_eq_getElem (by omega))]
    have h2 := pubS2_len (bunI b l s i).2 (l[i]'(by omega)).sec
    refine ⟨by simp [ih.1], ?_⟩
    show (pubS2 _ _).ts.length ≤ _
    omega
noncomputable def bunK (k : Ks) (s : Ps) : List Bn × Ps := match k.signed with
  | [] => ([], s)
  | x :: _ => bunI (bunB k x s) k.once (pubS2 (idS k s) x.sec) k.once.length

set_option maxRecDepth 100000 in
theorem ident_f (pb : Nat) (s : Ps) (kb : Nat) (k : Ks) (va vg vq vo vm : Value) (rs ro rm : List (List Value)) (MP A : Mem) (hK : KyR A kb k va vg vq vo vm rs ro rm) (hP : Prm pb s MP) (hn : s.ts.length + 100 ≤ 1048576) (hG : Glb A) : FnX Tryz.prog 31 [.pointer (some ⟨kb, 0, none⟩), .pointer (some ⟨pb, 0, none⟩)] MP A fun q M J => Prm pb (idS k s) M ∧ ∃ p r, q = .agg #[p, r] ∧ By J p (idA k s) ∧ By J r (idG k s) := by
  have hkb := hK.blk_
  haveI := hK.agree.cel
  haveI := hK.sign.cel
  haveI := hK.signed.cel
  haveI := hK.once.cel
  haveI := hK.met.cel
  have pl := pubS2_len s k.agree
  refine FnX.enterZ (N := 21) Tryz.func31 rfl rfl rfl fun w_ => ?_
  refine XC.keep (kp 0 rfl (kp 1 rfl kn)) ?_
  refine XC.reg ?_
  refine XL.lo rfl (l_alloc (cs := [.slice none 0 0, .slice none 0 0]) (by kernel_rfl) rfl fun b4 => ?_)
  refine XL.fin (kp 0 rfl (kp 1 rfl (kp 4 rfl kn))) ?_
  refine XC.seq ?_
  refine XC.reg ?_
  refine XL.q (q_move rfl) rfl ?_
  refine XL.q (q_ptrEqNil (e := 96) rfl rfl (by kernel_rfl)) rfl ?_
  refine XL.fin (kp 0 rfl (kp 1 rfl (kp 4 rfl (kp 6 rfl kn)))) ?_
  refine XC.condF rfl ?_
  refine XC.skip ?_
  refine nx (kp 0 rfl (kp 1 rfl (kp 4 rfl kn))) ?_
  refine XC.drawK (MP) (_) true [0, 1, 2, 3, 4, 5, 6, 7, 8, 9, 10, 11, 12] [(0, 0), (1, 0), (2, 0), (3, 0), (4, 1), (6, 0), (7, 0), (8, 0), (9, 0), (10, 1), (5, 2), (11, 2), (12, 0), (13, 2)] (by kernel_rfl) (by kernel_rfl) PickC.perm fun hs K n0 hKm hKs hKn => ?_
  refine XK.q hs rfl (q_move rfl) rfl ?_
  refine XK.q hs rfl (q_move rfl) rfl ?_
  refine XK.q hs rfl (q_nil rfl) rfl ?_
  refine XK.q hs rfl (q_fieldAddrN 2 (off := 2) rfl (by kernel_rfl) rfl) rfl ?_
  refine XK.r hs rfl (fun x hx => by rw [List.append_assoc]; exact List.mem_append_right _ hx) hKs (q_load rfl (by kernel_rfl) (mA hkb) (by rfl)) rfl ?_
  refine XK.q hs rfl (q_move rfl) rfl ?_
  refine XK.q hs rfl (q_move rfl) rfl ?_
  refine XK.q hs rfl (q_nil rfl) rfl ?_
  refine XK.q hs rfl (q_fieldAddrN 3 (off := 3) rfl (by kernel_rfl) rfl) rfl ?_
  refine XK.r hs rfl (fun x hx => by rw [List.append_assoc]; exact List.mem_append_right _ hx) hKs (q_load rfl (by kernel_rfl) (mA hkb) (by rfl)) rfl ?_
  refine XK.lo _ _ rfl rfl (List.Perm.refl _) hKm fun w0 => (l_call (Mc := MP) (R := _) (aS rfl (aS rfl (a0))) (by kernel_rfl) PickC.perm (public_b pb s va k.agree MP _ hP (by omega) (hK.agree.mono SubC.sub) hG.up) rfl ?_)
  rintro v13 M13 J13 ⟨hP13, h13⟩ hKx13
  haveI := h13.cel
  refine XK.lo M13 _ rfl rfl PickC.perm (fun x hx => hKx13 (hKn rfl) x (by simpa using hx)) fun w0 => (l_call (Mc := M13) (R := _) (aS rfl (aS rfl (a0))) (by kernel_rfl) PickC.perm (signKey_b pb (pubS2 s k.agree) vg k.sign M13 _ hP13 (by omega) (hK.sign.mono SubC.sub) hG.up) rfl ?_)
  rintro v19 M19 J19 ⟨hP19, h19⟩ hKx19
  haveI := h19.cel
  refine XK.q hs rfl (q_build (place := fun x => #[(0, 1), (1, 1)][x]?) (z := [.slice none 0 0, .slice none 0 0]) (fun _ => by kernel_rfl) (eS rfl (eS rfl e0)) (bdS 0 1 rfl (by rfl) (bdS 1 1 rfl (by rfl) bd0))) rfl ?_
  refine XK.tl rfl rfl rfl (l_storeW (vs := [v13, v19]) rfl rfl rfl (by kernel_rfl) (by rfl) (allS h13.one (allS h19.one all0)) UpC.upd ?_)
  refine XK.fin (kp 4 rfl kn) ?_
  refine XC.ret ?_
  exact ⟨_, M19, [], resC rfl rfl (by kernel_rfl) At.mem (by rfl), Fit.none (Fit.last PickC.perm), hP19, _, _, rfl, h13.mono SubC.sub, h19.mono SubC.sub⟩

set_option maxRecDepth 100000 in
theorem new_f (u d : Int) (pb : Nat) (s : Ps) (MP A : Mem) (hP : Prm pb s MP) (hn : s.ts.length + 200 ≤ 1048576) (hk : s.n + 100 < 1000000000) (hG : Glb A) : FnX Tryz.prog 56 [.pointer (some ⟨pb, 0, none⟩), .agg #[.int .i64 u, .int .i64 d]] MP A fun q M J => ∃ kb MK MP2, q = .pointer (some ⟨kb, 0, none⟩) ∧ M = MK ++ MP2 ∧ Kys (J ++ A) kb (newK u d s).1 MK ∧ Prm pb (newK u d s).2 MP2 := by
  have f1 := freshS_len s
  have f2 := freshS_len (freshS s)
  have f3 := turnK_ps (k0N u d s) (freshS (freshS s))
  refine FnX.enterZ (N := 20) Tryz.func56 rfl rfl rfl fun w_ => ?_
  refine XC.keep (kp 0 rfl (kp 1 rfl kn)) ?_
  refine XC.reg ?_
  refine XL.lo rfl (l_box rfl (by first | exact Cel.cel | rfl) rfl fun b3 => ?_)
  refine XL.q (q_assign rfl) rfl ?_
  refine XL.fin (kp 0 rfl (kp 3 rfl kn)) ?_
  refine XC.drawK (MP) (_) true [0, 1, 2, 3, 4, 5, 6, 7] [(0, 1), (1, 0), (3, 0), (2, 2), (4, 2), (5, 0), (6, 2), (7, 0)] (by kernel_rfl) (by kernel_rfl) PickC.perm fun hs K n0 hKm hKs hKn => ?_
  refine XK.r hs rfl (fun x hx => by rw [List.append_assoc]; exact List.mem_append_right _ hx) hKs (q_loadW (n := 2) rfl (by kernel_rfl) (by first | exact At.mem | exact mA (by assumption)) (by rfl)) rfl ?_
  refine XK.q hs rfl (q_move rfl) rfl ?_
  refine XK.q hs rfl (q_move rfl) rfl ?_
  refine XK.lo _ _ rfl rfl (List.Perm.refl _) hKm fun w0 => (l_call (Mc := MP) (R := _) (aS rfl (a0)) (by kernel_rfl) PickC.perm (fresh_spec pb s MP _ hP (by omega) (by omega) hG.up) rfl ?_)
  rintro v8 M8 J8 ⟨hP8, h8⟩ hKx8
  haveI := h8.cel
  refine XK.lo M8 _ rfl rfl PickC.perm (fun x hx => hKx8 (hKn rfl) x (by simpa using hx)) fun w0 => (l_call (Mc := M8) (R := _) (aS rfl (a0)) (by kernel_rfl) PickC.perm (fresh_spec pb (freshS s) M8 _ hP8 (by omega) (by omega) hG.up) rfl ?_)
  rintro v10 M10 J10 ⟨hP10, h10⟩ hKx10
  haveI := h10.cel
  refine XK.q hs rfl (q_build (place := fun x => #[(0, 2), (2, 1), (3, 1), (4, 1), (5, 1), (6, 1), (7, 1)][x]?) (z := [.int .i64 0, .int .i64 0, .slice none 0 0, .slice none 0 0, .slice none 0 0, .slice none 0 0, .int .u32 0, .slice none 0 0]) (fun _ => by kernel_rfl) (eS rfl (eS rfl (eS rfl (eS rfl e0)))) (bdS 0 2 rfl (by rfl) (bdS 2 1 rfl (by rfl) (bdS 3 1 rfl (by rfl) (bdS 6 1 rfl (by rfl) bd0))))) rfl ?_
  refine XK.lo [] _ rfl rfl (List.Perm.refl _) (fun _ h => by cases h) fun w0 => (l_box rfl (by first | exact Cel.cel | rfl) rfl fun b12 => fun hk12 => ?_)
  dsimp only [List.cons_append, List.nil_append, List.append_eq]
  refine XK.q hs rfl (q_assign rfl) rfl ?_
  refine XK.fin (kp 0 rfl (kp 5 rfl kn)) ?_
  refine XC.reg ?_
  refine XL.q (q_move rfl) rfl ?_
  refine XL.q (q_move rfl) rfl ?_
  refine XL.lo rfl (l_call (Mc := (b12, blk [.int .i64 u, .int .i64 d, v8, v10, .slice none 0 0, .slice none 0 0, .int .u32 ((1 : Nat) : Int), .slice none 0 0] 96) :: M10) (R := _) (aS rfl (aS rfl a0)) (by kernel_rfl) PickC.perm (turn_f b12 pb (k0N u d s) (freshS (freshS s)) [(b12, blk [.int .i64 u, .int .i64 d, v8, v10, .slice none 0 0, .slice none 0 0, .int .u32 ((1 : Nat) : Int), .slice none 0 0] 96)] M10 _ ⟨⟨v8, v10, _, _, _, [], [], [], [], [], [], rfl, h8.mono SubC.sub, h10.mono SubC.sub, Sl.nil, RwL.nil, Sl.nil, RwL.nil, Sl.nil, RwL.nil, show 1 < 4294967296 by decide, Nat.zero_le _, Nat.zero_le _, Nat.zero_le _⟩⟩ hP10 (by omega) (by omega) (show 1 + 100 < 4000000000 by decide) hG.up) rfl ?_)
  rintro v15 M15 J15 ⟨MK15, MP15, rfl, hK15, hP15⟩
  refine XL.fin (kp 0 rfl (kp 5 rfl kn)) ?_
  refine XC.reg ?_
  refine XL.q (q_move rfl) rfl ?_
  refine XL.q (q_move rfl) rfl ?_
  refine XL.lo rfl (l_call (Mc := MK15 ++ MP15) (R := _) (aS rfl (aS rfl a0)) (by kernel_rfl) PickC.perm (fill_f b12 pb _ _ MK15 MP15 _ (hK15.mono SubC.sub) hP15 (by omega) (by omega) (by rw [turnK_next]; show 1 + 1 + 100 < 4000000000; decide) hG.up) rfl ?_)
  rintro v18 M18 J18 ⟨rfl, MK18, MP18, rfl, hK18, hP18⟩
  refine XL.fin (kp 5 rfl kn) ?_
  refine XC.reg ?_
  refine XL.q (q_move rfl) rfl ?_
  refine XL.q (q_assign rfl) rfl ?_
  refine XL.fin (kp 4 rfl kn) ?_
  refine XC.ret ?_
  exact ⟨_, MK18 ++ MP18, [(b3, blk [.int .i64 u, .int .i64 d] 35)], res1 rfl rfl, Fit.pick (B := [_]) PickC.perm (Fit.last PickC.perm), _, MK18, MP18, rfl, rfl, hK18.mono SubC.sub, hP18⟩

set_option maxRecDepth 100000 in
theorem bundles_f (pb : Nat) (s : Ps) (kb : Nat) (k : Ks) (va vg vq vo vm : Value) (rs ro rm : List (List Value)) (x : Pr) (sl : List Pr) (MP A : Mem) (hK : KyR A kb k va vg vq vo vm rs ro rm) (hsg : k.signed = x :: sl) (hP : Prm pb s MP) (hn : s.ts.length + 100 ≤ 1048576) (hol : k.once.length ≤ 10) (hG : Glb A) : FnX Tryz.prog 23 [.pointer (some ⟨kb, 0, none⟩), .pointer (some ⟨pb, 0, none⟩)] MP A fun q M J => Prm pb (bunK k s).2 M ∧ ∃ rows, Rd J 10 q (bunK k s).1.length rows.flatten ∧ RwL bnR (J ++ A) rows (bunK k s).1 := by
  have hkb := hK.blk_
  haveI := hK.agree.cel
  haveI := hK.sign.cel
  haveI := hK.signed.cel
  haveI := hK.once.cel
  haveI := hK.met.cel
  have il := idS_len k s
  obtain ⟨r0, hr0, vs_, vg_, rfl, hs_, hg_, hxn⟩ := hK.signedR.get 0 x (by rw [hsg]; rfl)
  haveI := hs_.cel
  haveI := hg_.cel
  refine FnX.enterZ (N := 62) Tryz.func23 rfl rfl rfl fun w_ => ?_
  refine XC.keep (kp 0 rfl (kp 1 rfl kn)) ?_
  refine XC.reg ?_
  refine XL.q (q_assign rfl) rfl ?_
  refine XL.fin (kp 0 rfl (kp 1 rfl kn)) ?_
  refine XC.seq ?_
  refine XC.reg ?_
  refine XL.q (q_move rfl) rfl ?_
  refine XL.q (q_ptrEqNil (e := 96) rfl rfl (by kernel_rfl)) rfl ?_
  refine XL.fin (kp 0 rfl (kp 1 rfl (kp 12 rfl kn))) ?_
  refine XC.condF rfl ?_
  refine XC.skip ?_
  refine nx (kp 0 rfl (kp 1 rfl kn)) ?_
  refine XC.reg ?_
  refine XL.q (q_move rfl) rfl ?_
  refine XL.q (q_nil rfl) rfl ?_
  refine XL.q (q_fieldAddrN 4 (off := 4) rfl (by kernel_rfl) rfl) rfl ?_
  refine XL.q (q_load rfl (by kernel_rfl) (mA hkb) (by rfl)) rfl ?_
  refine XL.q (q_atV2 (sz := 3) (a := 0) rfl rfl (by kernel_rfl) rfl hK.signed (by rw [hsg]; simp)) rfl ?_
  refine XL.q (q_ldVR rfl (by kernel_rfl) (hK.signed.mono SubC.sub) (hK.signedR.lens prT) (by decide) hr0) rfl ?_
  refine XL.lo rfl (l_alloc (cs := [.int .u32 0, .slice none 0 0, .slice none 0 0]) (by kernel_rfl) rfl fun b5 => ?_)
  refine XL.lo rfl (l_storeW (vs := [.int .u32 ((x.n : Nat) : Int), vs_, vg_]) rfl rfl rfl (by kernel_rfl) (by rfl) (allS rfl (allS hs_.one (allS hg_.one all0))) UpC.upd ?_)
  refine XL.fin (kp 0 rfl (kp 1 rfl (kp 5 rfl kn))) ?_
  refine XC.drawK (MP) (_) true [0, 1, 2, 3, 4, 5, 6, 7, 8, 9, 10, 11, 12, 13, 14, 15, 16] [(0, 0), (1, 0), (2, 0), (3, 1), (4, 0), (5, 0), (7, 0), (8, 1), (9, 0), (10, 0), (11, 1), (13, 0), (14, 1), (6, 3), (12, 3), (15, 3), (16, 4), (17, 2)] (by kernel_rfl) (by kernel_rfl) PickC.perm fun hs K n0 hKm hKs hKn => ?_
  refine XK.q hs rfl (q_move rfl) rfl ?_
  refine XK.q hs rfl (q_nil rfl) rfl ?_
  refine XK.q hs rfl (q_fieldAddrN 0 (off := 0) rfl (by kernel_rfl) rfl) rfl ?_
  refine XK.r hs rfl (fun x hx => by rw [List.append_assoc]; exact List.mem_append_right _ hx) hKs (q_loadT (n := 2) rfl (by kernel_rfl) (mA hkb) TakeC.take) rfl ?_
  refine XK.q hs rfl (q_move rfl) rfl ?_
  refine XK.q hs rfl (q_move rfl) rfl ?_
  refine XK.q hs rfl (q_fieldAddrN 0 (off := 0) rfl (by kernel_rfl) rfl) rfl ?_
  refine XK.r hs rfl (fun x hx => by rw [List.append_assoc]; exact List.mem_append_right _ hx) hKs (q_load rfl (by kernel_rfl) (by first | exact At.mem | exact mA (by assumption)) (by rfl)) rfl ?_
  refine XK.q hs rfl (q_move rfl) rfl ?_
  refine XK.q hs rfl (q_fieldAddrN 1 (off := 1) rfl (by kernel_rfl) rfl) rfl ?_
  refine XK.r hs rfl (fun x hx => by rw [List.append_assoc]; exact List.mem_append_right _ hx) hKs (q_load rfl (by kernel_rfl) (by first | exact At.mem | exact mA (by assumption)) (by rfl)) rfl ?_
  refine XK.q hs rfl (q_fieldAddrN 2 (off := 2) rfl (by kernel_rfl) rfl) rfl ?_
  refine XK.r hs rfl (fun x hx => by rw [List.append_assoc]; exact List.mem_append_right _ hx) hKs (q_load rfl (by kernel_rfl) (by first | exact At.mem | exact mA (by assumption)) (by rfl)) rfl ?_
  refine XK.groupC [⟨6, 25, none, MP, fun v B R => Prm pb (idS k s) B ∧ ∃ p q, v = .agg #[p, q] ∧ By R p (idA k s) ∧ By R q (idG k s)⟩, ⟨12, 31, some 6, [], fun v B R => Prm pb (pubS2 (idS k s) x.sec) B ∧ By R v (pubK2 (idS k s) x.sec)⟩, ⟨15, 34, none, [], fun v B R => B = [] ∧ ∃ p q u, v = .agg #[.int .i64 k.user, .int .i64 k.dev, p, q, .int .u32 ((x.n : Nat) : Int), u, vg_, .bool false, .int .u32 ((0 : Nat) : Int), .slice none 0 0] ∧ By R p (idA k s) ∧ By R q (idG k s) ∧ By R u (pubK2 (idS k s) x.sec)⟩, ⟨16, 6, none, [], fun v B _ => ∃ b, v = .pointer (some ⟨b, 0, none⟩) ∧ B = [(b, blk [.int .i64 0, .int .i64 0, .slice none 0 0, .slice none 0 0, .int .u32 0, .slice none 0 0, .slice none 0 0, .bool false, .int .u32 0, .slice none 0 0] 46)]⟩] (_) (fun bs => [bs 12, bs 15, bs 16]) (hKn rfl) (List.Perm.refl _) (show ∀ m ∈ ([MP, [], []] : List Mem), ∀ x ∈ m, K x.1 from allS (hKm) (allS (fun _ h => by cases h) (allS (fun _ h => by cases h) (all0)))) (by kernel_rfl) (fun _ => by first | rfl | kernel_rfl)
    (allS (fun _ _ _ _ h ⟨p1, p, q, e, p2, p3⟩ => ⟨p1, p, q, e, p2.mono h, p3.mono h⟩) (allS (fun _ _ _ _ h ⟨p1, p2⟩ => ⟨p1, p2.mono h⟩) (allS (fun _ _ _ _ h ⟨p1, p, q, u, e, p2, p3, p4⟩ => ⟨p1, p, q, u, e, p2.mono h, p3.mono h, p4.mono h⟩) (allS (fun _ _ _ _ h hp => hp) (all0))))) (show List.Nodup [25, 31, 34, 6] by decide) (show List.Nodup [6, 12, 15, 16] by decide) (allS (blt_lt rfl) (allS (blt_lt rfl) (allS (blt_lt rfl) (allS (blt_lt rfl) (all0)))))
    (allS ⟨_, rfl, fun vs bs R Rj wG hb hj hjr ha => ⟨.inl rfl, ?_⟩⟩ (allS ⟨_, rfl, fun vs bs R Rj wG hb hj hjr ha => ⟨.inl rfl, ?_⟩⟩ (allS ⟨_, rfl, fun vs bs R Rj wG hb hj hjr ha => ⟨.inl rfl, ?_⟩⟩ (allS ⟨_, rfl, fun vs bs R Rj wG hb hj hjr ha => ⟨.inl rfl, ?_⟩⟩ (all0))))) ?_
  ·
    dsimp only [Gc.inp]
    refine l_call (Mc := MP) (R := []) (aS rfl (aS rfl (a0))) (by kernel_rfl) (by simp) (ident_f pb s kb k va vg vq vo vm rs ro rm MP _ (hK.mono (fun x hx => by have := hb x (by simp [hx]); simp [this])) hP (by omega) (hG.sub (fun x hx => by have := hb x (by simp [hx]); simp [this]))) rfl ?_
    rintro v25 M25 J25 ⟨hP25, p, q, rfl, hp, hq⟩
    exact ⟨_, rfl, by simpa using hP25, p, q, rfl, hp.mono fun x hx => by simp [hx], hq.mono fun x hx => by simp [hx]⟩
  ·
    dsimp only [Gc.inp]
    have g6 := ha _ (List.mem_of_getElem? (i := 0) rfl) (by kernel_rfl)
    replace g6 : (fun v B R => Prm pb (idS k s) B ∧ ∃ p q, v = .agg #[p, q] ∧ By R p (idA k s) ∧ By R q (idG k s)) (vs 6) (bs 6) Rj := g6
    dsimp only at g6
    obtain ⟨hP25, -⟩ := g6
    refine l_call (Mc := bs 6) (R := []) (aS rfl (aS rfl (a0))) (by kernel_rfl) (by simp) (public_b pb (idS k s) vs_ x.sec (bs 6) _ hP25 (by omega) (hs_.mono (fun x hx => by have := hb x (by simp [hx]); simp [this])) (hG.sub (fun x hx => by have := hb x (by simp [hx]); simp [this]))) rfl ?_
    rintro v31 M31 J31 ⟨hP31, h31⟩
    exact ⟨_, rfl, by simpa using hP31, h31.mono fun x hx => by simp [hx]⟩
  ·
    dsimp only [Gc.inp]
    have g6 := ha _ (List.mem_of_getElem? (i := 0) rfl) (by kernel_rfl)
    replace g6 : (fun v B R => Prm pb (idS k s) B ∧ ∃ p q, v = .agg #[p, q] ∧ By R p (idA k s) ∧ By R q (idG k s)) (vs 6) (bs 6) Rj := g6
    dsimp only at g6
    have g12 := ha _ (List.mem_of_getElem? (i := 1) rfl) (by kernel_rfl)
    replace g12 : (fun v B R => Prm pb (pubS2 (idS k s) x.sec) B ∧ By R v (pubK2 (idS k s) x.sec)) (vs 12) (bs 12) Rj := g12
    dsimp only at g12
    obtain ⟨-, h31⟩ := g12
    obtain ⟨-, p, q, e25, hp, hq⟩ := g6
    haveI := h31.cel
    haveI := hp.cel
    haveI := hq.cel
    dsimp only [gEnvC, List.map, List.cons_append, List.nil_append]
    rw [e25]
    exact OpQ.opL (q_build (place := fun x => #[(0, 2), (2, 2), (4, 1), (5, 1), (6, 1), (7, 1), (8, 1), (9, 1)][x]?) (z := [.int .i64 0, .int .i64 0, .slice none 0 0, .slice none 0 0, .int .u32 0, .slice none 0 0, .slice none 0 0, .bool false, .int .u32 0, .slice none 0 0]) (fun _ => by kernel_rfl) (eS rfl (eS rfl (eS rfl (eS rfl (eS rfl e0))))) (bdS 0 2 rfl (by rfl) (bdS 2 2 rfl (by rfl) (bdS 4 1 rfl (by rfl) (bdS 5 1 rfl (by rfl) (bdS 6 1 rfl (by rfl) bd0)))))) rfl ⟨_, rfl, rfl, p, q, _, rfl, hp, hq, h31⟩
  ·
    dsimp only [Gc.inp]
    exact l_alloc (cs := [.int .i64 0, .int .i64 0, .slice none 0 0, .slice none 0 0, .int .u32 0, .slice none 0 0, .slice none 0 0, .bool false, .int .u32 0, .slice none 0 0]) (by kernel_rfl) rfl fun b => ⟨_, rfl, b, rfl, rfl⟩
  intro vs bs Jn0 hφ hKK
  have kk6 := hKK _ (List.mem_of_getElem? (i := 0) rfl)
  dsimp only at kk6
  have kk12 := hKK _ (List.mem_of_getElem? (i := 1) rfl)
  dsimp only at kk12
  have kk15 := hKK _ (List.mem_of_getElem? (i := 2) rfl)
  dsimp only at kk15
  have kk16 := hKK _ (List.mem_of_getElem? (i := 3) rfl)
  dsimp only at kk16
  clear hKK
  have g6 := ofH hφ
  dsimp only at g6
  replace hφ := ofT hφ
  have g12 := ofH hφ
  dsimp only at g12
  replace hφ := ofT hφ
  have g15 := ofH hφ
  dsimp only at g15
  replace hφ := ofT hφ
  have g16 := ofH hφ
  dsimp only at g16
  clear hφ
  dsimp only [gEnvC, joinC, List.foldr, List.map, List.cons_append, List.nil_append]
  generalize bs 6 = B25 at *
  generalize bs 12 = B31 at *
  generalize bs 15 = B34 at *
  generalize bs 16 = B6 at *
  generalize vs 6 = u25 at *
  generalize vs 12 = u31 at *
  generalize vs 15 = u34 at *
  generalize vs 16 = u6 at *
  obtain ⟨hP31, h31⟩ := g12
  clear g6
  obtain ⟨b6, rfl, rfl⟩ := g16
  obtain ⟨rfl, p, q, u, rfl, hp, hq, hu⟩ := g15
  haveI := hp.cel
  haveI := hq.cel
  haveI := hu.cel
  obtain ⟨bb, hbb⟩ : ∃ bb, bunB k x s = bb := ⟨_, rfl⟩
  obtain ⟨s2, hs2⟩ : ∃ s2, pubS2 (idS k s) x.sec = s2 := ⟨_, rfl⟩
  rw [hs2] at hP31
  have hs2l : s2.ts.length ≤ s.ts.length + 6 := by have := pubS2_len (idS k s) x.sec; rw [hs2] at this; omega
  have hbun : bunK k s = bunI bb k.once s2 k.once.length := by unfold bunK; rw [hsg, ← hbb, ← hs2]
  rw [hbun]
  have hbr : ∀ R, (∀ y, y ∈ Jn0 ++ [] ++ A → y ∈ R) → bnR R bb [.int .i64 k.user, .int .i64 k.dev, p, q, .int .u32 ((x.n : Nat) : Int), u, vg_, .bool false, .int .u32 ((0 : Nat) : Int), .slice none 0 0] := fun R hR => ⟨p, q, u, vg_, _, by rw [← hbb]; rfl, by rw [← hbb]; exact hp.mono hR, by rw [← hbb]; exact hq.mono hR, by rw [← hbb]; exact hu.mono hR, by rw [← hbb]; exact hg_.mono fun y hy => hR y (List.mem_append_right _ hy), by rw [← hbb]; exact By.nil, by rw [← hbb]; exact hxn, by rw [← hbb]; show 0 < 4294967296; decide⟩
  refine XK.tl rfl rfl rfl (l_storeW (vs := [.int .i64 k.user, .int .i64 k.dev, p, q, .int .u32 ((x.n : Nat) : Int), u, vg_, .bool false, .int .u32 ((0 : Nat) : Int), .slice none 0 0]) rfl rfl rfl (by kernel_rfl) (by rfl) (allS rfl (allS rfl (allS hp.one (allS hq.one (allS rfl (allS hu.one (allS hg_.one (allS rfl (allS rfl (allS rfl all0)))))))))) UpC.upd ?_)
  refine XK.fin (kp 0 rfl (kp 1 rfl (kp 6 rfl kn))) ?_
  refine XC.frz (B := [(b6, blk [.int .i64 k.user, .int .i64 k.dev, p, q, .int .u32 ((x.n : Nat) : Int), u, vg_, .bool false, .int .u32 ((0 : Nat) : Int), .slice none 0 0] 46)]) PickC.perm ?_
  refine XC.reg ?_
  refine XL.q (q_loadW (n := 10) rfl (by kernel_rfl) (by first | exact At.mem | exact mA (by assumption)) (by rfl)) rfl ?_
  refine XL.lo rfl (l_buildSlice (e := 46) (sz := 10) (z := [.int .i64 0, .int .i64 0, .slice none 0 0, .slice none 0 0, .int .u32 0, .slice none 0 0, .slice none 0 0, .bool false, .int .u32 0, .slice none 0 0]) (by kernel_rfl) (eS rfl e0) (bdS 0 10 rfl (by rfl) bd0) rfl fun b36 => ?_)
  refine XL.q (q_assign rfl) rfl ?_
  refine XL.fin (kp 0 rfl (kp 1 rfl (kp 6 rfl (kp 7 rfl kn)))) ?_
  refine XC.seq ?_
  refine XC.reg ?_
  refine XL.q (q_move rfl) rfl ?_
  refine XL.q (q_nil rfl) rfl ?_
  refine XL.q (q_fieldAddrN 5 (off := 5) rfl (by kernel_rfl) rfl) rfl ?_
  refine XL.q (q_load rfl (by kernel_rfl) (mA hkb) (by rfl)) rfl ?_
  refine XL.q (q_lenV2 (sz := 3) rfl (by kernel_rfl) hK.once) rfl ?_
  refine XL.q (q_move rfl) rfl ?_
  refine XL.fin (kp 1 rfl (kp 6 rfl (kp 7 rfl (kp 40 rfl (kp 41 rfl (kp 42 rfl kn)))))) ?_
  refine XC.block ?_
  refine XC.loop (α := Nat × (Value × List (List Value) × Mem) × Mem × Mem) (fun y => [(1, .pointer (some ⟨pb, 0, none⟩)), (6, .pointer (some ⟨b6, 0, none⟩)), (7, y.2.1.1), (40, vo), (41, .int .i64 ((k.once.length : Nat) : Int)), (42, .int .i64 ((y.1 : Nat) : Int))]) (fun y => y.2.1.2.2 ++ y.2.2.1) (fun y => y.2.2.2) (fun y => y.1 ≤ k.once.length ∧ Sl 10 y.2.1.1 (y.1 + 1) y.2.1.2.1.flatten y.2.1.2.2 ∧ RwL bnR (y.2.2.2 ++ A) y.2.1.2.1 (bunI bb k.once s2 y.1).1 ∧ Prm pb (bunI bb k.once s2 y.1).2 y.2.2.1 ∧ (b6, blk [.int .i64 k.user, .int .i64 k.dev, p, q, .int .u32 ((x.n : Nat) : Int), u, vg_, .bool false, .int .u32 ((0 : Nat) : Int), .slice none 0 0] 46) ∈ y.2.2.2 ∧ ∀ z, z ∈ Jn0 ++ [] ++ A → z ∈ y.2.2.2 ++ A) (fun y => k.once.length - y.1) (0, (.slice (some ⟨b36, 0, none⟩) 1 1, [[.int .i64 k.user, .int .i64 k.dev, p, q, .int .u32 ((x.n : Nat) : Int), u, vg_, .bool false, .int .u32 ((0 : Nat) : Int), .slice none 0 0]], [(b36, _)]), B31, _) ⟨Nat.zero_le _, Sl.fresh (n := 1) (cs := [.int .i64 k.user, .int .i64 k.dev, p, q, .int .u32 ((x.n : Nat) : Int), u, vg_, .bool false, .int .u32 ((0 : Nat) : Int), .slice none 0 0]) (e := 46) rfl (by decide), RwL.cons (hbr _ SubC.sub) RwL.nil, hP31, by simp, SubC.sub⟩ (kp 1 rfl (kp 6 rfl (kp 7 rfl (kp 40 rfl (kp 41 rfl (kp 42 rfl kn)))))) (Fit.pick (B := [_]) PickC.perm (Fit.last PickC.perm)) (fun _ h => h) ?_
  rintro ⟨i, ⟨vi, ri, Bi⟩, MPi, Ji⟩ ⟨hi, hsi, hri, hPi, hJb, hJn⟩
  dsimp only at hi hsi hri hPi hJb hJn ⊢
  haveI := hsi.cel
  have hbl := bunI_len (b := bb) (s := s2) hi
  refine XC.reg ?_
  refine XL.q (q_bin rfl rfl rfl) rfl ?_
  refine XL.fin (kp 1 rfl (kp 6 rfl (kp 7 rfl (kp 40 rfl (kp 41 rfl (kp 42 rfl (kp 43 rfl kn))))))) ?_
  refine XC.seq ?_
  refine XC.cond rfl (fun hc => ?_) (fun hc => ?_)
  ·
    have hlt : i < k.once.length := by simp at hc; omega
    obtain ⟨o, ho⟩ : ∃ o, k.once[i]? = some o := ⟨_, List.getElem?_eq_getElem hlt⟩
    obtain ⟨r1, hr1, vo1, vo2, rfl, ho1, ho2, hon⟩ := hK.onceR.get i o ho
    haveI := ho1.cel
    haveI := ho2.cel
    have hbs := bunI_succ (b := bb) (s := s2) ho
    refine XC.skip ?_
    refine nx (kp 1 rfl (kp 6 rfl (kp 7 rfl (kp 40 rfl (kp 41 rfl (kp 42 rfl kn)))))) ?_
    refine XC.seq ?_
    refine XC.block ?_
    refine XC.reg ?_
    refine XL.q (q_atV2 (sz := 3) rfl rfl (by kernel_rfl) rfl hK.once hlt) rfl ?_
    refine XL.q (q_ldVR rfl (by kernel_rfl) (hK.once.mono SubC.sub) (hK.onceR.lens prT) (by decide) hr1) rfl ?_
    refine XL.lo rfl (l_alloc (cs := [.int .u32 0, .slice none 0 0, .slice none 0 0]) (by kernel_rfl) rfl fun b9 => ?_)
    refine XL.lo rfl (l_storeW (vs := [.int .u32 ((o.n : Nat) : Int), vo1, vo2]) rfl rfl rfl (by kernel_rfl) (by rfl) (allS rfl (allS ho1.one (allS ho2.one all0))) UpC.upd ?_)
    refine XL.fin (kp 1 rfl (kp 6 rfl (kp 7 rfl (kp 9 rfl (kp 40 rfl (kp 41 rfl (kp 42 rfl kn))))))) ?_
    refine XC.reg ?_
    refine XL.q (q_loadW (n := 10) rfl (by kernel_rfl) (List.mem_append_right _ (List.mem_append_left _ hJb)) (by rfl)) rfl ?_
    refine XL.lo rfl (l_alloc (cs := [.int .i64 0, .int .i64 0, .slice none 0 0, .slice none 0 0, .int .u32 0, .slice none 0 0, .slice none 0 0, .bool false, .int .u32 0, .slice none 0 0]) (by kernel_rfl) rfl fun b10 => ?_)
    refine XL.lo rfl (l_storeW (vs := [.int .i64 k.user, .int .i64 k.dev, p, q, .int .u32 ((x.n : Nat) : Int), u, vg_, .bool false, .int .u32 ((0 : Nat) : Int), .slice none 0 0]) rfl rfl rfl (by kernel_rfl) (by rfl) (allS rfl (allS rfl (allS hp.one (allS hq.one (allS rfl (allS hu.one (allS hg_.one (allS rfl (allS rfl (allS rfl all0)))))))))) UpC.upd ?_)
    refine XL.fin (kp 1 rfl (kp 6 rfl (kp 7 rfl (kp 9 rfl (kp 10 rfl (kp 40 rfl (kp 41 rfl (kp 42 rfl kn)))))))) ?_
    refine XC.drawK (MPi ++ [(b10, blk [.int .i64 k.user, .int .i64 k.dev, p, q, .int .u32 ((x.n : Nat) : Int), u, vg_, .bool false, .int .u32 ((0 : Nat) : Int), .slice none 0 0] 46)]) (_) true [0, 1, 2, 3, 4, 5, 6, 7, 8, 10] [(0, 0), (1, 1), (2, 0), (3, 0), (4, 1), (6, 0), (5, 2), (7, 2), (8, 0), (9, 2), (10, 0), (11, 2)] (by kernel_rfl) (by kernel_rfl) PickC.perm fun hs K n0 hKm hKs hKn => ?_
    refine XK.q hs rfl (q_fieldAddrN 0 (off := 0) rfl (by kernel_rfl) rfl) rfl ?_
    refine XK.r hs rfl (fun x hx => by rw [List.append_assoc]; exact List.mem_append_right _ hx) hKs (q_load rfl (by kernel_rfl) (by first | exact At.mem | exact mA (by assumption)) (by rfl)) rfl ?_
    refine XK.q hs rfl (q_move rfl) rfl ?_
    refine XK.q hs rfl (q_fieldAddrN 1 (off := 1) rfl (by kernel_rfl) rfl) rfl ?_
    refine XK.r hs rfl (fun x hx => by rw [List.append_assoc]; exact List.mem_append_right _ hx) hKs (q_load rfl (by kernel_rfl) (by first | exact At.mem | exact mA (by assumption)) (by rfl)) rfl ?_
    refine XK.q hs rfl (q_fieldAddrN 7 (off := 7) rfl (by kernel_rfl) rfl) rfl ?_
    refine XK.lo MPi _ rfl rfl PickC.perm (fun y hy => hKm y (by simp [hy])) fun w0 => (l_call (Mc := MPi) (R := _) (aS rfl (aS rfl (a0))) (by kernel_rfl) PickC.perm (public_b pb _ vo1 o.sec MPi _ hPi (by omega) (ho1.mono SubC.sub) hG.up) rfl ?_)
    rintro v52 M52 J52 ⟨hP52, h52⟩ hKx52
    haveI := h52.cel
    refine XK.lo [(b10, blk [.int .i64 k.user, .int .i64 k.dev, p, q, .int .u32 ((x.n : Nat) : Int), u, vg_, .bool false, .int .u32 ((0 : Nat) : Int), .slice none 0 0] 46)] _ rfl rfl PickC.perm (fun y hy => hKm y (by simp at hy; simp [hy])) fun w0 => (l_store rfl rfl rfl (by kernel_rfl) SetC.set UpC.upd ?_)
    intro hkS
    dsimp only [List.cons_append, List.nil_append, List.append_eq]
    refine XK.q hs rfl (q_fieldAddrN 8 (off := 8) rfl (by kernel_rfl) rfl) rfl ?_
    refine XK.tl rfl rfl rfl (l_store rfl rfl rfl (by kernel_rfl) SetC.set UpC.upd ?_)
    refine XK.q hs rfl (q_fieldAddrN 9 (off := 9) rfl (by kernel_rfl) rfl) rfl ?_
    refine XK.tl rfl rfl rfl (l_store rfl rfl h52.one (by kernel_rfl) SetC.set UpC.upd ?_)
    refine XK.fin (kp 1 rfl (kp 6 rfl (kp 7 rfl (kp 10 rfl (kp 40 rfl (kp 41 rfl (kp 42 rfl kn))))))) ?_
    refine XC.reg1 ?_
    refine XL.q (q_move rfl) rfl ?_
    refine XL.q (q_loadW (n := 10) rfl (by kernel_rfl) (by first | exact At.mem | exact mA (by assumption)) (by rfl)) rfl ?_
    refine XL.lo rfl (l_buildSlice (e := 46) (sz := 10) (z := [.int .i64 0, .int .i64 0, .slice none 0 0, .slice none 0 0, .int .u32 0, .slice none 0 0, .slice none 0 0, .bool false, .int .u32 0, .slice none 0 0]) (by kernel_rfl) (eS rfl e0) (bdS 0 10 rfl (by rfl) bd0) rfl fun b58 => ?_)
    refine XL.lo rfl (l_append2 (e := 46) (sz := 10) (by_ := 152) rfl rfl (by kernel_rfl) rfl hsi (Rd.whole (n := 1) At.mem (by rfl)) (allS rfl (allS rfl (allS hp.one (allS hq.one (allS rfl (allS hu.one (allS hg_.one (allS rfl (allS rfl (allS h52.one all0)))))))))) PickC.perm (by unfold maxLen; omega) (by omega) rfl fun v59 B59 hs59 => ?_)
    refine XL.q (q_assign rfl) rfl ?_
    refine XL.nil ?_
    refine nb ?_
    refine nx (kp 1 rfl (kp 6 rfl (kp 7 rfl (kp 40 rfl (kp 41 rfl (kp 42 rfl kn)))))) ?_
    refine XC.reg1 ?_
    refine XL.q (q_num ((i + 1 : Nat) : Int) rfl rfl (add64 (by omega) (by omega) (by omega))) rfl ?_
    refine XL.q (q_move rfl) rfl ?_
    refine XL.nil ?_
    exact rn (i + 1, (v59, ri ++ [[.int .i64 k.user, .int .i64 k.dev, p, q, .int .u32 ((x.n : Nat) : Int), u, vg_, .bool true, .int .u32 ((o.n : Nat) : Int), v52]], B59), M52, _) ⟨by dsimp only; omega, by simpa using hs59, by dsimp only; rw [hbs]; exact (hri.mono bnT SubC.sub).snoc ⟨p, q, u, vg_, v52, by rw [← hbb]; rfl, by rw [← hbb]; exact hp.mono fun z hz => SubC.sub z (hJn z hz), by rw [← hbb]; exact hq.mono fun z hz => SubC.sub z (hJn z hz), by rw [← hbb]; exact hu.mono fun z hz => SubC.sub z (hJn z hz), by rw [← hbb]; exact hg_.mono SubC.sub, h52.mono SubC.sub, by rw [← hbb]; exact hxn, hon⟩, by dsimp only; rw [hbs]; exact hP52, List.mem_append_right _ hJb, fun z hz => SubC.sub z (hJn z hz)⟩ (by dsimp only; omega) (kp 1 rfl (kp 6 rfl (kp 7 rfl (kp 40 rfl (kp 41 rfl (kp 42 rfl kn)))))) (Fit.pick PickC.perm (Fit.last PickC.perm)) (fun _ h => h)
  ·
    have hge : i = k.once.length := by simp at hc; omega
    subst hge
    refine XC.exit ?_
    refine te ?_
    refine re ?_
    refine be rfl ?_
    refine nx (kp 7 rfl kn) ?_
    refine XC.reg ?_
    refine XL.q (q_move rfl) rfl ?_
    refine XL.q (q_assign rfl) rfl ?_
    refine XL.fin (kp 4 rfl kn) ?_
    refine XC.ret ?_
    exact ⟨_, MPi, Bi, res1 rfl rfl, Fit.pick PickC.perm (Fit.last PickC.perm), hPi, ri, by rw [hbl.1]; exact hsi.rd fun x hx => by simp [hx], hri.mono bnT SubC.sub⟩

end Go.Proofs.YtphcaiplgpmnnaaGreatDoor
/-
  append(nil, make([]T, n)...) for a struct T (the translation hands over the number alone).
-/
set_option linter.unusedVariables false
set_option linter.unusedSimpArgs false
namespace Go.Px
/-- What it asks of the types: the element, its zero cells, how many, the bytes. -/
def appZ (P : Program) (t tn : TypeId) : Option (TypeId × List Value × Nat) :=
  match P.underlying tn with
  | some (.int _) => match P.underlying t with
    | some (.slice e) => match P.info? e with
      | some i => match i.zero with
        | some z => if i.size = z.cells.size ∧ 0 < i.size then some (e, z.cells.toList, i.bytes) else none
        | none => none
      | none => none
    | _ => none
  | _ => none
theorem zeroCells_size (zs : Array Value) (n : Nat) : (Builtin.zeroCells zs n).size = n * zs.size := by simp [Builtin.zeroCells]
section z
variable {C : Cx} {l : Env} {M J : Mem} {K : Env → Mem → Mem → Prop} {d : Nat} {ty t tn e : TypeId} {pos : String} {af : Array Edge} {g : Option (Nat × Bool)} {x y : Operand}
theorem run_append_zN {P : Program} {m by_ : Nat} {zs : List Value} {w : World} (ht : appZ P t tn = some (e, zs, by_)) (hmax : m ≤ maxLen) (hbytes : m * by_ ≤ 140737488355328) :
    ∃ v' w', (Builtin.append_ #[t, tn] ty #[.slice none 0 0, .int .i64 (m : Int)]).run P w = .ok v' w' ∧
      ((w' = w ∧ v' = .slice none 0 0 ∧ m = 0) ∨ (∃ o', w' = w.drew.alloc o' ∧ Sl zs.length v' m (Builtin.zeroCells zs.toArray m).toList [(w.heap.size, o')])) := by
  unfold appZ at ht
  split at ht <;> try cases ht
  rename_i kn htn
  split at ht <;> try cases ht
  rename_i e' hu
  split at ht <;> try cases ht
  rename_i i hi
  split at ht <;> try cases ht
  rename_i z hz
  split at ht <;> simp only [Option.some.injEq, Prod.mk.injEq, reduceCtorEq] at ht
  rename_i his0
  obtain ⟨his, hs0⟩ := his0
  obtain ⟨rfl, rfl, rfl⟩ := ht
  have hwm : IntKind.i64.wrap (m : Int) = m := by rw [IntKind.wrap_i64]; simp only [maxLen] at hmax; omega
  have hneg : ¬ ((m : Int) < 0) := by omega
  have h48i : ¬ (281474976710656 < (m : Int) * (i.bytes : Int)) := by
    rw [← Int.natCast_mul]; omega
  by_cases hm : m = 0
  · subst hm
    have hw0 : IntKind.i64.wrap 0 = 0 := by rw [IntKind.wrap_i64]; omega
    refine ⟨.slice none 0 0, w, ?_, .inl ⟨rfl, rfl, rfl⟩⟩
    simp [Builtin.append_, run_underlying hu, run_underlying htn, sizeOf, typeInfo, hi, asInt, asIntOf, hw0, storeCells]
  · have hge := grownCap_ge w (0 + m) 0 e'
    have hcm : grownCap w (0 + m) 0 e' ≤ maxLen := grownCap_le_maxLen w (0 + m) 0 e' (by simpa using hmax)
    have hfit : Builtin.nextslicecap (0 + m) 0 * i.bytes ≤ 281474976710656 := growslice_fits (by simp only [maxLen] at hmax; omega) (by simpa using hbytes)
    have h48' : ¬ (281474976710656 < Builtin.nextslicecap (0 + m) 0 * i.bytes) := by omega
    simp only [Nat.zero_add] at *
    have h63'' : ¬ (9223372036854775807 < (m : Int)) := by simp only [maxLen] at hmax; omega
    have hms : ¬ (m * i.size = 0) := Nat.mul_ne_zero hm (by omega)
    refine ⟨.slice (some ⟨w.heap.size, 0, none⟩) m (grownCap w m 0 e'), w.drew.alloc (.cells (Builtin.zeroCells z.cells m ++ Builtin.zeroCells z.cells (grownCap w m 0 e' - m)) e' (0, 0)), ?_, .inr ⟨_, rfl, ?_⟩⟩
    · simp [Builtin.append_, run_underlying hu, run_underlying htn, sizeOf, typeInfo, zeroValue, hi, hz, asInt, asIntOf, hwm, hm, hneg, h63'', h48', h48i, Question.forced, newRow, grownCap, Builtin.firstCells, loadCells, loadCellsFrom]
      intro h; exact absurd h hms
    · refine .inr ⟨w.heap.size, 0, grownCap w m 0 e', (Builtin.zeroCells z.cells m ++ Builtin.zeroCells z.cells (grownCap w m 0 e' - m)).toList, e', rfl, by simp [blk], hge, hcm, ?_, ?_, ?_⟩
      · simp [zeroCells_size, Nat.sub_mul]
        have := Nat.mul_le_mul_right z.cells.size hge
        omega
      · simp [zeroCells_size]
      · intro j u hj
        have hlt := (List.getElem?_eq_some_iff.1 hj).1
        simp only [Array.toList_append, Nat.zero_add]
        simp only [Array.toArray_toList] at hj hlt
        rw [List.getElem?_append_left hlt]
        exact hj
theorem l_appendZN {m by_ : Nat} {j : Int} {zs : List Value} (hx : ev l x = some (.slice none 0 0)) (hy : ev l y = some (.int .i64 j)) (hj : j = (m : Int)) (ht : appZ C.P t tn = some (e, zs, by_))
    (hmax : m ≤ maxLen) (hbytes : m * by_ ≤ 140737488355328) (hd : Nat.blt d C.N = true)
    (k : ∀ v' B', Sl zs.length v' m (Builtin.zeroCells zs.toArray m).toList B' → K ((d, v') :: l) (B' ++ M) J) :
    OpL C ⟨some d, .call { callee := .builtin .append, args := #[x, y], argTypes := #[t, tn] }, ty, pos, af, g⟩ l M J K := by
  intro Qp a w ha hw
  subst hj
  obtain ⟨v', w', hrun, hcase⟩ := run_append_zN (P := C.P) (ty := ty) (w := w) ht hmax hbytes
  have hexec : (execOp a.eval ⟨some d, .call { callee := .builtin .append, args := #[x, y], argTypes := #[t, tn] }, ty, pos, af, g⟩).run C.P w = .ok (.value v') w' := by
    simp [execOp, resolve, invoke, builtin, ha.ev hx, ha.ev hy, hrun]
  unfold Oper.wp
  rw [hexec]
  rcases hcase with ⟨rfl, rfl, rfl⟩ | ⟨o', rfl, hsl⟩
  · exact ⟨_, M, J, ha.put (blt_lt hd) _, hw, k _ [] (by rw [show (Builtin.zeroCells zs.toArray 0).toList = [] by simp [Builtin.zeroCells]]; exact Sl.nil)⟩
  · exact ⟨_, (w.heap.size, o') :: M, J, ha.put (blt_lt hd) v', St.alloc (w := w.drew) hw.drew o', k v' [_] hsl⟩
end z
theorem q_capS {P : Program} {R : Mem} {l : Env} {d : Option Nat} {ty : TypeId} {pos : String} {af : Array Edge} {g : Option (Nat × Bool)} {x : Operand} {t e : TypeId} {p : Option Addr} {n c : Nat} (hx : ev l x = some (.slice p n c)) (hu : P.underlying t = some (.slice e)) :
    OpQ P R ⟨d, .call { callee := .builtin .cap, args := #[x], argTypes := #[t] }, ty, pos, af, g⟩ l (.int .i64 c) := fun N a w ha hw => by
  simp [execOp, resolve, invoke, builtin, Builtin.cap_, ha.ev hx, run_underlying hu, goInt]
end Go.Px

/- The walks of Use, Meet, Secrets. -/
set_option linter.unusedVariables false
set_option linter.unusedSimpArgs false
namespace Go.Proofs.YtphcaiplgpmnnaaGreatDoor
open Go.Px
/-- Owned keys, taken apart; where all of it is known they are keys that are read. -/
theorem Kys.ex2 {R : Mem} {kb : Nat} {k : Ks} {M : Mem} (h : Kys R kb k M) : ∃ (va vg vs vo vm : Value) (rs ro rm : List (List Value)) (Bs Bo Bm : Mem), M = (kb, blk [.int .i64 k.user, .int .i64 k.dev, va, vg, vs, vo, .int .u32 ((k.next : Nat) : Int), vm] 96) :: (Bs ++ (Bo ++ Bm)) ∧
    (By R va k.agree ∧ By R vg k.sign ∧ Sl 3 vs k.signed.length rs.flatten Bs ∧ RwL prR R rs k.signed ∧ Sl 3 vo k.once.length ro.flatten Bo ∧ RwL prR R ro k.once ∧ Sl 2 vm k.met.length rm.flatten Bm ∧ RwL nmR R rm k.met ∧ k.next < 4294967296 ∧ k.signed.length ≤ 2 ∧ k.once.length ≤ 100 ∧ k.met.length ≤ 100000) ∧
    ∀ R', (∀ x, x ∈ R → x ∈ R') → (∀ x, x ∈ M → x ∈ R') → KyR R' kb k va vg vs vo vm rs ro rm := by
  obtain ⟨va, vg, vs, vo, vm, rs, ro, rm, Bs, Bo, Bm, h1, h2, h3, h4, h5, h6, h7, h8, h9, h10, h11, h12, h13⟩ := h.ex
  refine ⟨va, vg, vs, vo, vm, rs, ro, rm, Bs, Bo, Bm, h1, ⟨h2, h3, h4, h5, h6, h7, h8, h9, h10, h11, h12, h13⟩, fun R' hR hM => ?_⟩
  subst h1
  exact ⟨hM _ List.mem_cons_self, h2.mono hR, h3.mono hR, h4.rd fun x hx => hM x (by simp [hx]), h5.mono prT hR, h6.rd fun x hx => hM x (by simp [hx]), h7.mono prT hR, h8.rd fun x hx => hM x (by simp [hx]), h9.mono nmT hR, by omega, by omega, by omega, by omega⟩
def useK (k : Ks) (n : Nat) : Ks := { k with once := k.once.filter fun x => !tstP n x }
def meetK (k : Ks) (n : Nat) (w : List Nat) : Ks := if (getP k.signed n).isSome && !decide (0 ≤ fidxL (tstN n w) k.met) then { k with met := k.met ++ [⟨n, w⟩] } else k
theorem getP_mem {l : List Pr} {n : Nat} : (getP l n).isSome = decide (n ∈ l.map (·.n)) := by
  rcases fidxL_cases (tstP n) l with ⟨h1, h2⟩ | ⟨i, x, h1, h2, h3, h4⟩
  · rw [getP_no h1]
    symm
    refine decide_eq_false fun h => ?_
    obtain ⟨x, hx, e⟩ := List.mem_map.1 h
    have := h2 x hx
    simp [tstP, e] at this
  · rw [getP_yes h1 h2]
    symm
    have e : x.n = n := by simpa [tstP] using h3
    exact decide_eq_true (List.mem_map.2 ⟨x, List.mem_of_getElem? h2, e⟩)
theorem useK_no {k : Ks} {n : Nat} (h : (getP k.once n).isSome = false) : useK k n = k := by
  have h2 : k.once.filter (fun x => !tstP n x) = k.once := by
    refine List.filter_eq_self.2 fun x hx => ?_
    rw [getP_mem] at h
    have h3 := of_decide_eq_false h
    have : x.n ≠ n := fun e => h3 (List.mem_map.2 ⟨x, hx, e⟩)
    simp [tstP, this]
  unfold useK; rw [h2]
theorem use_cloP {l : List Pr} {rows : List (List Value)} {n b : Nat} {A : Mem} (hR : RwL prR A rows l) (hb : (b, blk [.int .u32 ((n : Nat) : Int)] 22) ∈ A) :
    ∀ (j : Nat) (r : List Value), rows[j]? = some r → FnV Tryz.prog 62 (.agg r.toArray :: [.pointer (some ⟨b, 0, none⟩)]) A (.bool ((fun j => (l[j]?.map (tstP n)).getD false) j)) := fun j r hr => by
  obtain ⟨x, hx, vs, vg, rfl, hs, hg, _⟩ := hR.of hr
  dsimp only
  rw [hx]
  exact usec_spec vs vg x n b _ hs hg hb
def secL (k : Ks) : List (List Nat) := k.agree :: k.sign :: (k.signed ++ k.once).map (·.sec)

set_option maxRecDepth 100000 in
theorem use_f (kb : Nat) (k : Ks) (n : Nat) (MK A : Mem) (hK : Kys A kb k MK) (hrise : Rise k.once) : FnX Tryz.prog 20 [.pointer (some ⟨kb, 0, none⟩), .int .u32 ((n : Nat) : Int)] MK A fun q M J => q = .bool (getP k.once n).isSome ∧ Kys (J ++ A) kb (useK k n) M := by
  obtain ⟨va, vg, vq, vo, vm, rs, ro, rm, Bs, Bo, Bm, rfl, ⟨hva, hvg, hss, hrs, hso, hro, hsm, hrm, hn1, hn2, hn3, hn4⟩, hr⟩ := hK.ex2
  haveI := hva.cel
  haveI := hvg.cel
  haveI := hss.cel
  haveI := hso.cel
  haveI := hsm.cel
  refine FnX.enterZ (N := 24) Tryz.func20 rfl rfl rfl fun w_ => ?_
  refine XC.keep (kp 0 rfl (kp 1 rfl kn)) ?_
  refine XC.reg ?_
  refine XL.lo rfl (l_box rfl (by first | exact Cel.cel | rfl) rfl fun b3 => ?_)
  refine XL.q (q_assign rfl) rfl ?_
  refine XL.fin (kp 0 rfl (kp 3 rfl kn)) ?_
  refine XC.seq ?_
  refine XC.reg ?_
  refine XL.q (q_move rfl) rfl ?_
  refine XL.q (q_load rfl (by kernel_rfl) (by first | exact At.mem | exact mA (by assumption)) (by rfl)) rfl ?_
  refine XL.call (aS rfl (aS rfl a0)) (by kernel_rfl) (once_f kb k va vg vq vo vm rs ro rm n _ (hr _ SubC.sub SubC.sub) hrise) rfl ?_
  rintro v10 M10 J10 ⟨rfl, q, rfl, hq⟩
  haveI := hq.cel
  refine XL.q (q_move rfl) rfl ?_
  refine XL.q (q_x0 rfl) rfl ?_
  refine XL.q (q_x1 rfl) rfl ?_
  refine XL.q (q_assign rfl) rfl ?_
  refine XL.q (q_assign rfl) rfl ?_
  refine XL.fin (kp 0 rfl (kp 3 rfl (kp 6 rfl kn))) ?_
  cases hg : (getP k.once n).isSome
  ·
    refine XC.reg ?_
    refine XL.q (q_move rfl) rfl ?_
    refine XL.q (q_not rfl) rfl ?_
    refine XL.fin (kp 0 rfl (kp 3 rfl (kp 14 rfl kn))) ?_
    refine XC.condT rfl ?_
    refine XC.reg ?_
    refine XL.q (q_assign rfl) rfl ?_
    refine XL.fin (kp 4 rfl kn) ?_
    refine XC.ret ?_
    refine tr ?_
    exact ⟨_, (kb, blk [.int .i64 k.user, .int .i64 k.dev, va, vg, vq, vo, .int .u32 ((k.next : Nat) : Int), vm] 96) :: (Bs ++ (Bo ++ Bm)), [], res1 rfl rfl, Fit.none (Fit.pick (B := [_]) PickC.perm (Fit.last PickC.perm)), rfl, by rw [useK_no hg]; exact ⟨⟨va, vg, vq, vo, vm, rs, ro, rm, Bs, Bo, Bm, rfl, hva.mono SubC.sub, hvg.mono SubC.sub, hss, hrs.mono prT SubC.sub, hso, hro.mono prT SubC.sub, hsm, hrm.mono nmT SubC.sub, hn1, hn2, hn3, hn4⟩⟩⟩
  ·
    refine XC.reg ?_
    refine XL.q (q_move rfl) rfl ?_
    refine XL.q (q_not rfl) rfl ?_
    refine XL.fin (kp 0 rfl (kp 3 rfl (kp 14 rfl kn))) ?_
    refine XC.condF rfl ?_
    refine XC.skip ?_
    refine nx (kp 0 rfl (kp 3 rfl kn)) ?_
    refine XC.reg ?_
    refine XL.q (q_move rfl) rfl ?_
    refine XL.q (q_move rfl) rfl ?_
    refine XL.q (q_nil rfl) rfl ?_
    refine XL.q (q_fieldAddrN 5 (off := 5) rfl (by kernel_rfl) rfl) rfl ?_
    refine XL.q (q_load rfl (by kernel_rfl) (by first | exact At.mem | exact mA (by assumption)) (by rfl)) rfl ?_
    refine XL.q (q_mkFunc (aS rfl a0)) rfl ?_
    refine XL.lo rfl (l_call (Mc := Bo) (R := _) (aS rfl (aS rfl a0)) (by kernel_rfl) PickC.perm (by rw [← hro.len] at hso; exact delfn_Pair vo ro 62 [.pointer (some ⟨b3, 0, none⟩)] (fun j => (k.once[j]?.map (tstP n)).getD false) Bo _ hso (hro.lens prT) (hro.ones prT) (by rw [hro.len]; omega) (by kernel_rfl) (use_cloP (hro.mono prT SubC.sub) At.mem)) rfl ?_)
    rintro v21 M21 J21 h21
    haveI := h21.cel
    refine XL.q (q_nil rfl) rfl ?_
    refine XL.q (q_fieldAddrN 5 (off := 5) rfl (by kernel_rfl) rfl) rfl ?_
    refine XL.lo rfl (l_store rfl rfl h21.one (by kernel_rfl) SetC.set UpC.upd ?_)
    refine XL.fin kn ?_
    refine XC.reg ?_
    refine XL.q (q_assign rfl) rfl ?_
    refine XL.fin (kp 4 rfl kn) ?_
    refine XC.ret ?_
    have hkm := hro.kpt (fun j => (k.once[j]?.map (tstP n)).getD false) ro.length
    rw [kpt_filter, hro.len, List.take_length] at hkm
    rw [hro.len] at h21
    have hkl : (k.once.filter fun x => !tstP n x).length ≤ 100 := Nat.le_trans (List.length_filter_le _ _) hn3
    refine ⟨_, (kb, blk [.int .i64 k.user, .int .i64 k.dev, va, vg, vq, v21, .int .u32 ((k.next : Nat) : Int), vm] 96) :: (Bs ++ (M21 ++ Bm)), [], res1 rfl rfl, Fit.none (Fit.pick (B := [_]) PickC.perm (Fit.pick PickC.perm (Fit.pick PickC.perm (Fit.last PickC.perm)))), rfl, ⟨⟨va, vg, vq, v21, vm, rs, _, rm, Bs, M21, Bm, rfl, hva.mono SubC.sub, hvg.mono SubC.sub, hss, hrs.mono prT SubC.sub, ?_, hkm.mono prT SubC.sub, hsm, hrm.mono nmT SubC.sub, hn1, hn2, hkl, hn4⟩⟩⟩
    rw [hkm.len] at h21
    exact h21

set_option maxRecDepth 100000 in
theorem grow_f (m : Nat) (A : Mem) (hm : m ≤ 1000000) : FnX Tryz.prog 105 [.slice none 0 0, .int .i64 ((m : Nat) : Int)] [] A fun q M J => Sl 3 q 0 [] M := by
  refine FnX.enterZ (N := 27) Tryz.func105 rfl rfl rfl fun w_ => ?_
  refine XC.keep (kp 0 rfl (kp 1 rfl kn)) ?_
  refine XC.reg ?_
  refine XL.q (q_assign rfl) rfl ?_
  refine XL.fin (kp 0 rfl (kp 1 rfl kn)) ?_
  refine XC.seq ?_
  refine XC.reg ?_
  refine XL.q (q_move rfl) rfl ?_
  refine XL.q (q_cmp false rfl rfl (ltF (by omega))) rfl ?_
  refine XL.fin (kp 0 rfl (kp 1 rfl (kp 6 rfl kn))) ?_
  refine XC.condF rfl ?_
  refine XC.skip ?_
  refine nx (kp 0 rfl (kp 1 rfl kn)) ?_
  refine XC.join (α := Value × Mem) (fun y => [(0, y.1)]) (fun y => y.2) (fun _ => []) (fun y => Sl 3 y.1 0 [] y.2) ?_ ?_
  ·
    refine XC.reg ?_
    refine XL.q (q_move rfl) rfl ?_
    refine XL.q (q_move rfl) rfl ?_
    refine XL.q (q_capS (e := 98) rfl (by kernel_rfl)) rfl ?_
    refine XL.q (q_move rfl) rfl ?_
    refine XL.q (q_lenS (e := 98) rfl (by kernel_rfl)) rfl ?_
    refine XL.q (q_num (0 : Int) rfl rfl (sub64 (by decide) (by decide) (by decide))) rfl ?_
    refine XL.q (q_num (m : Int) rfl rfl (sub64 (by omega) (by omega) (by omega))) rfl ?_
    refine XL.q (q_assign rfl) rfl ?_
    refine XL.fin (kp 0 rfl (kp 1 rfl kn)) ?_
    refine XC.reg ?_
    refine XL.q (q_move rfl) rfl ?_
    refine XL.q (q_bin rfl rfl rfl) rfl ?_
    refine XL.fin (kp 0 rfl (kp 1 rfl (kp 16 rfl kn))) ?_
    refine XC.cond rfl (fun hc => ?_) (fun hc => ?_)
    ·
      have hm0 : 0 < m := by simp at hc; omega
      refine XC.reg1 ?_
      refine XL.q (q_move rfl) rfl ?_
      refine XL.q (q_move rfl) rfl ?_
      refine XL.q (q_capS (e := 98) rfl (by kernel_rfl)) rfl ?_
      refine XL.q (q_hiV2 (sz := 3) (a := 0) rfl rfl (by kernel_rfl) rfl (Rd.nil (R := [])) (by decide)) rfl ?_
      refine XL.q (q_move rfl) rfl ?_
      refine XL.lo rfl (l_appendZN (m := m) rfl rfl rfl (e := 98) (zs := [.int .u32 0, .slice none 0 0, .slice none 0 0]) (by_ := 56) (by kernel_rfl) (by unfold maxLen; omega) (by omega) rfl fun v22 B22 hs22 => ?_)
      haveI := hs22.cel
      refine XL.q (q_move rfl) rfl ?_
      refine XL.q (q_lenS (e := 98) rfl (by kernel_rfl)) rfl ?_
      refine XL.q (q_hiV2 (sz := 3) (a := 0) rfl rfl (by kernel_rfl) rfl (hs22.rd (R := B22) fun _ h => h) (by omega)) rfl ?_
      refine XL.q (q_assign rfl) rfl ?_
      refine XL.nil ?_
      exact jn (vHi 0 v22, B22) (by simpa using hs22.hiV 0 (by omega)) (kp 0 rfl kn) (Fit.last PickC.perm) (fun _ h => h)
    ·
      have hm0 : m = 0 := by simp at hc; omega
      refine XC.skip ?_
      exact jn (.slice none 0 0, []) Sl.nil (kp 0 rfl kn) .rfl (fun _ h => h)
  ·
    rintro ⟨vj, Bj⟩ hj
    dsimp only at hj ⊢
    haveI := hj.cel
    refine XC.reg ?_
    refine XL.q (q_move rfl) rfl ?_
    refine XL.q (q_assign rfl) rfl ?_
    refine XL.fin (kp 4 rfl kn) ?_
    refine XC.ret ?_
    exact ⟨_, Bj, [], res1 rfl rfl, Fit.none (Fit.last PickC.perm), hj⟩

set_option maxRecDepth 100000 in
theorem concat_f (v v1 v2 : Value) (n1 n2 : Nat) (xs1 xs2 : List Value) (A : Mem) (hv : Rd A 1 v 2 [v1, v2]) (h1 : Rd A 3 v1 n1 xs1) (h2 : Rd A 3 v2 n2 xs2) (o1 : ∀ c ∈ xs1, c.oneCell' = true) (o2 : ∀ c ∈ xs2, c.oneCell' = true) (hn1 : n1 ≤ 10000) (hn2 : n2 ≤ 10000) : FnX Tryz.prog 68 [v] [] A fun q M J => Sl 3 q (n1 + n2) (xs1 ++ xs2) M := by
  haveI := hv.cel
  haveI := h1.cel
  haveI := h2.cel
  refine FnX.enterZ (N := 36) Tryz.func68 rfl rfl rfl fun w_ => ?_
  refine XC.keep (kp 0 rfl kn) ?_
  refine XC.reg ?_
  refine XL.q (q_assign rfl) rfl ?_
  refine XL.fin (kp 0 rfl kn) ?_
  refine XC.reg ?_
  refine XL.q (q_assign rfl) rfl ?_
  refine XL.fin (kp 0 rfl (kp 3 rfl kn)) ?_
  refine XC.seq ?_
  refine XC.reg ?_
  refine XL.q (q_move rfl) rfl ?_
  refine XL.q (q_lenV2 (sz := 1) rfl (by kernel_rfl) hv) rfl ?_
  refine XL.q (q_move rfl) rfl ?_
  refine XL.fin (kp 0 rfl (kp 3 rfl (kp 9 rfl (kp 10 rfl (kp 11 rfl kn))))) ?_
  refine XC.block ?_
  refine XC.rounds 3 ?_
  refine XR.step ?_
  refine XC.reg ?_
  refine XL.q (q_cmp true rfl rfl (ltT (by decide))) rfl ?_
  refine XL.fin (kp 0 rfl (kp 3 rfl (kp 9 rfl (kp 10 rfl (kp 11 rfl (kp 12 rfl kn)))))) ?_
  refine XC.seq ?_
  refine XC.condT rfl ?_
  refine XC.skip ?_
  refine nx (kp 0 rfl (kp 3 rfl (kp 9 rfl (kp 10 rfl (kp 11 rfl kn))))) ?_
  refine XC.seq ?_
  refine XC.block ?_
  refine XC.reg ?_
  refine XL.q (q_atV2 (sz := 1) (a := 0) rfl rfl (by kernel_rfl) rfl hv (by decide)) rfl ?_
  refine XL.q (q_ldV (u := v1) (hv.mono SubC.sub) rfl (by kernel_rfl) rfl) rfl ?_
  refine XL.q (q_assign rfl) rfl ?_
  refine XL.fin (kp 0 rfl (kp 3 rfl (kp 5 rfl (kp 9 rfl (kp 10 rfl (kp 11 rfl kn)))))) ?_
  refine XC.reg ?_
  refine XL.q (q_move rfl) rfl ?_
  refine XL.q (q_move rfl) rfl ?_
  refine XL.q (q_lenV2 (sz := 3) rfl (by kernel_rfl) h1) rfl ?_
  refine XL.q (q_num ((n1 : Nat) : Int) rfl rfl (add64 (by omega) (by omega) (by omega))) rfl ?_
  refine XL.q (q_assign rfl) rfl ?_
  refine XL.fin (kp 0 rfl (kp 3 rfl (kp 9 rfl (kp 10 rfl (kp 11 rfl kn))))) ?_
  refine XC.reg ?_
  refine XL.q (q_move rfl) rfl ?_
  refine XL.q (q_cmp false rfl rfl (ltF (by omega))) rfl ?_
  refine XL.fin (kp 0 rfl (kp 3 rfl (kp 9 rfl (kp 10 rfl (kp 11 rfl (kp 20 rfl kn)))))) ?_
  refine XC.condF rfl ?_
  refine XC.skip ?_
  refine nb ?_
  refine nx (kp 0 rfl (kp 3 rfl (kp 9 rfl (kp 10 rfl (kp 11 rfl kn))))) ?_
  refine XC.reg1 ?_
  refine XL.q (q_num (1 : Int) rfl rfl (add64 (by decide) (by decide) (by decide))) rfl ?_
  refine XL.q (q_move rfl) rfl ?_
  refine XL.nil ?_
  refine un (kp 0 rfl (kp 3 rfl (kp 9 rfl (kp 10 rfl (kp 11 rfl kn))))) ?_
  refine XR.step ?_
  refine XC.reg ?_
  refine XL.q (q_cmp true rfl rfl (ltT (by decide))) rfl ?_
  refine XL.fin (kp 0 rfl (kp 3 rfl (kp 9 rfl (kp 10 rfl (kp 11 rfl (kp 12 rfl kn)))))) ?_
  refine XC.seq ?_
  refine XC.condT rfl ?_
  refine XC.skip ?_
  refine nx (kp 0 rfl (kp 3 rfl (kp 9 rfl (kp 10 rfl (kp 11 rfl kn))))) ?_
  refine XC.seq ?_
  refine XC.block ?_
  refine XC.reg ?_
  refine XL.q (q_atV2 (sz := 1) (a := 1) rfl rfl (by kernel_rfl) rfl hv (by decide)) rfl ?_
  refine XL.q (q_ldV (u := v2) (hv.mono SubC.sub) rfl (by kernel_rfl) rfl) rfl ?_
  refine XL.q (q_assign rfl) rfl ?_
  refine XL.fin (kp 0 rfl (kp 3 rfl (kp 5 rfl (kp 9 rfl (kp 10 rfl (kp 11 rfl kn)))))) ?_
  refine XC.reg ?_
  refine XL.q (q_move rfl) rfl ?_
  refine XL.q (q_move rfl) rfl ?_
  refine XL.q (q_lenV2 (sz := 3) rfl (by kernel_rfl) h2) rfl ?_
  refine XL.q (q_num ((n1 + n2 : Nat) : Int) rfl rfl (add64 (by omega) (by omega) (by omega))) rfl ?_
  refine XL.q (q_assign rfl) rfl ?_
  refine XL.fin (kp 0 rfl (kp 3 rfl (kp 9 rfl (kp 10 rfl (kp 11 rfl kn))))) ?_
  refine XC.reg ?_
  refine XL.q (q_move rfl) rfl ?_
  refine XL.q (q_cmp false rfl rfl (ltF (by omega))) rfl ?_
  refine XL.fin (kp 0 rfl (kp 3 rfl (kp 9 rfl (kp 10 rfl (kp 11 rfl (kp 20 rfl kn)))))) ?_
  refine XC.condF rfl ?_
  refine XC.skip ?_
  refine nb ?_
  refine nx (kp 0 rfl (kp 3 rfl (kp 9 rfl (kp 10 rfl (kp 11 rfl kn))))) ?_
  refine XC.reg1 ?_
  refine XL.q (q_num (2 : Int) rfl rfl (add64 (by decide) (by decide) (by decide))) rfl ?_
  refine XL.q (q_move rfl) rfl ?_
  refine XL.nil ?_
  refine un (kp 0 rfl (kp 3 rfl (kp 9 rfl (kp 10 rfl (kp 11 rfl kn))))) ?_
  refine XR.step ?_
  refine XC.reg ?_
  refine XL.q (q_cmp false rfl rfl (ltF (by decide))) rfl ?_
  refine XL.fin (kp 0 rfl (kp 3 rfl (kp 9 rfl (kp 10 rfl (kp 11 rfl (kp 12 rfl kn)))))) ?_
  refine XC.seq ?_
  refine XC.condF rfl ?_
  refine XC.exit ?_
  refine te ?_
  refine ue ?_
  refine be rfl ?_
  refine nx (kp 0 rfl (kp 3 rfl kn)) ?_
  refine XC.reg ?_
  refine XL.q (q_move rfl) rfl ?_
  refine XL.lo rfl (l_call0 (aS rfl (aS rfl a0)) (by kernel_rfl) (grow_f (n1 + n2) _ (by omega)) rfl ?_)
  rintro v24 M24 J24 hs24
  haveI := hs24.cel
  refine XL.q (q_assign rfl) rfl ?_
  refine XL.fin (kp 0 rfl (kp 6 rfl kn)) ?_
  refine XC.seq ?_
  refine XC.reg ?_
  refine XL.q (q_move rfl) rfl ?_
  refine XL.q (q_lenV2 (sz := 1) rfl (by kernel_rfl) hv) rfl ?_
  refine XL.q (q_move rfl) rfl ?_
  refine XL.fin (kp 6 rfl (kp 25 rfl (kp 26 rfl (kp 27 rfl kn)))) ?_
  refine XC.block ?_
  refine XC.rounds 3 ?_
  refine XR.step ?_
  refine XC.reg ?_
  refine XL.q (q_cmp true rfl rfl (ltT (by decide))) rfl ?_
  refine XL.fin (kp 6 rfl (kp 25 rfl (kp 26 rfl (kp 27 rfl (kp 28 rfl kn))))) ?_
  refine XC.seq ?_
  refine XC.condT rfl ?_
  refine XC.skip ?_
  refine nx (kp 6 rfl (kp 25 rfl (kp 26 rfl (kp 27 rfl kn)))) ?_
  refine XC.seq ?_
  refine XC.block ?_
  refine XC.reg ?_
  refine XL.q (q_atV2 (sz := 1) (a := 0) rfl rfl (by kernel_rfl) rfl hv (by decide)) rfl ?_
  refine XL.q (q_ldV (u := v1) (hv.mono SubC.sub) rfl (by kernel_rfl) rfl) rfl ?_
  refine XL.q (q_assign rfl) rfl ?_
  refine XL.fin (kp 6 rfl (kp 8 rfl (kp 25 rfl (kp 26 rfl (kp 27 rfl kn))))) ?_
  refine XC.reg1 ?_
  refine XL.q (q_move rfl) rfl ?_
  refine XL.q (q_move rfl) rfl ?_
  refine XL.lo rfl (l_append2 (e := 98) (sz := 3) (by_ := 56) rfl rfl (by kernel_rfl) rfl hs24 (h1.mono SubC.sub) o1 PickC.perm (by unfold maxLen; omega) (by omega) rfl fun v33 B33 hs33 => ?_)
  haveI := hs33.cel
  refine XL.q (q_assign rfl) rfl ?_
  refine XL.nil ?_
  refine nb ?_
  refine nx (kp 6 rfl (kp 25 rfl (kp 26 rfl (kp 27 rfl kn)))) ?_
  refine XC.reg1 ?_
  refine XL.q (q_num (1 : Int) rfl rfl (add64 (by decide) (by decide) (by decide))) rfl ?_
  refine XL.q (q_move rfl) rfl ?_
  refine XL.nil ?_
  refine un (kp 6 rfl (kp 25 rfl (kp 26 rfl (kp 27 rfl kn)))) ?_
  refine XR.step ?_
  refine XC.reg ?_
  refine XL.q (q_cmp true rfl rfl (ltT (by decide))) rfl ?_
  refine XL.fin (kp 6 rfl (kp 25 rfl (kp 26 rfl (kp 27 rfl (kp 28 rfl kn))))) ?_
  refine XC.seq ?_
  refine XC.condT rfl ?_
  refine XC.skip ?_
  refine nx (kp 6 rfl (kp 25 rfl (kp 26 rfl (kp 27 rfl kn)))) ?_
  refine XC.seq ?_
  refine XC.block ?_
  refine XC.reg ?_
  refine XL.q (q_atV2 (sz := 1) (a := 1) rfl rfl (by kernel_rfl) rfl hv (by decide)) rfl ?_
  refine XL.q (q_ldV (u := v2) (hv.mono SubC.sub) rfl (by kernel_rfl) rfl) rfl ?_
  refine XL.q (q_assign rfl) rfl ?_
  refine XL.fin (kp 6 rfl (kp 8 rfl (kp 25 rfl (kp 26 rfl (kp 27 rfl kn))))) ?_
  refine XC.reg1 ?_
  refine XL.q (q_move rfl) rfl ?_
  refine XL.q (q_move rfl) rfl ?_
  refine XL.lo rfl (l_append2 (e := 98) (sz := 3) (by_ := 56) rfl rfl (by kernel_rfl) rfl hs33 (h2.mono SubC.sub) o2 PickC.perm (by unfold maxLen; omega) (by omega) rfl fun v34 B34 hs34 => ?_)
  haveI := hs34.cel
  refine XL.q (q_assign rfl) rfl ?_
  refine XL.nil ?_
  refine nb ?_
  refine nx (kp 6 rfl (kp 25 rfl (kp 26 rfl (kp 27 rfl kn)))) ?_
  refine XC.reg1 ?_
  refine XL.q (q_num (2 : Int) rfl rfl (add64 (by decide) (by decide) (by decide))) rfl ?_
  refine XL.q (q_move rfl) rfl ?_
  refine XL.nil ?_
  refine un (kp 6 rfl (kp 25 rfl (kp 26 rfl (kp 27 rfl kn)))) ?_
  refine XR.step ?_
  refine XC.reg ?_
  refine XL.q (q_cmp false rfl rfl (ltF (by decide))) rfl ?_
  refine XL.fin (kp 6 rfl (kp 25 rfl (kp 26 rfl (kp 27 rfl (kp 28 rfl kn))))) ?_
  refine XC.seq ?_
  refine XC.condF rfl ?_
  refine XC.exit ?_
  refine te ?_
  refine ue ?_
  refine be rfl ?_
  refine nx (kp 6 rfl kn) ?_
  refine XC.reg ?_
  refine XL.q (q_move rfl) rfl ?_
  refine XL.q (q_assign rfl) rfl ?_
  refine XL.fin (kp 2 rfl kn) ?_
  refine XC.ret ?_
  exact ⟨_, B34, [], res1 rfl rfl, Fit.none (Fit.last PickC.perm), by simpa using hs34⟩

theorem secL_len (k : Ks) : (secL k).length = (k.signed ++ k.once).length + 2 := by simp [secL]
theorem secL_take {k : Ks} {i : Nat} {x : Pr} (h : (k.signed ++ k.once)[i]? = some x) : (secL k).take (i + 2 + 1) = (secL k).take (i + 2) ++ [x.sec] := by
  rw [List.take_add_one]
  have e : (secL k)[i + 2]? = some x.sec := by
    unfold secL
    rw [List.getElem?_cons_succ, List.getElem?_cons_succ, List.getElem?_map, h]; rfl
  rw [e]; rfl

set_option maxRecDepth 100000 in
theorem secrets_f (kb : Nat) (k : Ks) (va vg vq vo vm : Value) (rs ro rm : List (List Value)) (A : Mem) (hK : KyR A kb k va vg vq vo vm rs ro rm) (hl1 : k.signed.length ≤ 10000) (hl2 : k.once.length ≤ 10000) : FnX Tryz.prog 24 [.pointer (some ⟨kb, 0, none⟩)] [] A fun q M J => M = [] ∧ LsV (J ++ A) q (secL k) := by
  have hkb := hK.blk_
  haveI := hK.agree.cel
  haveI := hK.sign.cel
  haveI := hK.signed.cel
  haveI := hK.once.cel
  haveI := hK.met.cel
  refine FnX.enterZ (N := 36) Tryz.func24 rfl rfl rfl fun w_ => ?_
  refine XC.keep (kp 0 rfl kn) ?_
  refine XC.reg ?_
  refine XL.q (q_assign rfl) rfl ?_
  refine XL.fin (kp 0 rfl kn) ?_
  refine XC.seq ?_
  refine XC.reg ?_
  refine XL.q (q_move rfl) rfl ?_
  refine XL.q (q_ptrEqNil (e := 96) rfl rfl (by kernel_rfl)) rfl ?_
  refine XL.fin (kp 0 rfl (kp 7 rfl kn)) ?_
  refine XC.condF rfl ?_
  refine XC.skip ?_
  refine nx (kp 0 rfl kn) ?_
  refine XC.reg ?_
  refine XL.q (q_move rfl) rfl ?_
  refine XL.call (aS rfl a0) (by kernel_rfl) (kagree_f kb k va vg vq vo vm rs ro rm _ (hK.mono SubC.sub)) rfl ?_
  rintro v9 M9 J9 ⟨rfl, h9⟩
  haveI := h9.cel
  refine XL.q (q_move rfl) rfl ?_
  refine XL.call (aS rfl a0) (by kernel_rfl) (ksign_f kb k va vg vq vo vm rs ro rm _ (hK.mono SubC.sub)) rfl ?_
  rintro v11 M11 J11 ⟨rfl, h11⟩
  haveI := h11.cel
  refine XL.lo rfl (l_buildSlice (e := 23) (sz := 1) (z := [.slice none 0 0, .slice none 0 0]) (by kernel_rfl) (eS rfl (eS rfl e0)) (bdS 0 1 rfl (by rfl) (bdS 1 1 rfl (by rfl) bd0)) rfl fun b12 => ?_)
  refine XL.q (q_assign rfl) rfl ?_
  refine XL.fin (kp 0 rfl (kp 3 rfl kn)) ?_
  refine XC.seq ?_
  refine XC.drawF [0, 1, 2, 3, 4, 5, 6, 7, 8, 9, 10, 11] [(0, 0), (1, 0), (2, 0), (3, 1), (4, 0), (5, 0), (6, 0), (7, 1), (11, 0), (8, 2), (9, 2), (10, 0)] (by kernel_rfl) (by kernel_rfl) fun hs => ?_
  refine XF.q hs rfl (q_move rfl) rfl ?_
  refine XF.q hs rfl (q_nil rfl) rfl ?_
  refine XF.q hs rfl (q_fieldAddrN 4 (off := 4) rfl (by kernel_rfl) rfl) rfl ?_
  refine XF.r hs rfl (q_load rfl (by kernel_rfl) (mA hkb) (by rfl)) rfl ?_
  refine XF.q hs rfl (q_move rfl) rfl ?_
  refine XF.q hs rfl (q_nil rfl) rfl ?_
  refine XF.q hs rfl (q_fieldAddrN 5 (off := 5) rfl (by kernel_rfl) rfl) rfl ?_
  refine XF.r hs rfl (q_load rfl (by kernel_rfl) (mA hkb) (by rfl)) rfl ?_
  refine XF.q hs rfl (q_move rfl) rfl ?_
  refine XF.lo rfl rfl fun _ => (l_buildSlice (e := 93) (sz := 1) (z := [.slice none 0 0, .slice none 0 0]) (by kernel_rfl) (eS rfl (eS rfl e0)) (bdS 0 1 rfl (by rfl) (bdS 1 1 rfl (by rfl) bd0)) rfl fun b21 => ?_)
  refine XF.call rfl (aS rfl a0) (by kernel_rfl) (concat_f (.slice (some ⟨b21, 0, none⟩) 2 2) vq vo k.signed.length k.once.length rs.flatten ro.flatten _ (Rd.whole (n := 2) At.mem (by rfl)) (hK.signed.mono SubC.sub) (hK.once.mono SubC.sub) (hK.signedR.ones prT) (hK.onceR.ones prT) hl1 hl2) rfl ?_
  rintro v22 M22 J22 hs22
  haveI := hs22.cel
  refine XF.frz (B := M22) PickC.perm ?_
  have hr22 := hs22.rd (R := M22) fun _ h => h
  rw [← List.flatten_append, ← List.length_append] at hr22
  have hll : (k.signed ++ k.once).length ≤ 20000 := by rw [List.length_append]; omega
  have hsl := secL_len k
  have hpr := hK.signedR.app hK.onceR
  obtain ⟨pl, hpl⟩ : ∃ pl, k.signed ++ k.once = pl := ⟨_, rfl⟩
  rw [hpl] at hr22 hll hsl hpr
  refine XF.q hs rfl (q_lenV2 (sz := 3) rfl (by kernel_rfl) hr22) rfl ?_
  refine XF.fin (kp 3 rfl (kp 22 rfl (kp 23 rfl (kp 24 rfl kn)))) ?_
  refine XC.block ?_
  refine XC.loop (α := Nat × Value × List Value × Mem × Mem) (fun y => [(3, y.2.1), (22, v22), (23, .int .i64 ((pl.length : Nat) : Int)), (24, .int .i64 ((y.1 : Nat) : Int))]) (fun y => y.2.2.2.1) (fun y => y.2.2.2.2) (fun y => y.1 ≤ pl.length ∧ Sl 1 y.2.1 (y.1 + 2) y.2.2.1 y.2.2.2.1 ∧ Lst (y.2.2.2.2 ++ A) y.2.2.1 ((secL k).take (y.1 + 2)) ∧ ∀ z, z ∈ M22 → z ∈ y.2.2.2.2) (fun y => pl.length - y.1) (0, .slice (some ⟨b12, 0, none⟩) 2 2, [v9, v11], [(b12, _)], _) ⟨Nat.zero_le _, Sl.fresh (n := 2) (cs := [v9, v11]) (e := 23) rfl (by decide), Lst.cons (h9.mono SubC.sub) (Lst.cons (h11.mono SubC.sub) Lst.nil), fun z hz => by simp [hz]⟩ (kp 3 rfl (kp 22 rfl (kp 23 rfl (kp 24 rfl kn)))) (Fit.last PickC.perm) (fun _ h => h) ?_
  rintro ⟨i, vi, us, Bi, Ji⟩ ⟨hi, hsi, hli, hJi⟩
  dsimp only at hi hsi hli hJi ⊢
  haveI := hsi.cel
  refine XC.reg ?_
  refine XL.q (q_bin rfl rfl rfl) rfl ?_
  refine XL.fin (kp 3 rfl (kp 22 rfl (kp 23 rfl (kp 24 rfl (kp 25 rfl kn))))) ?_
  refine XC.seq ?_
  refine XC.cond rfl (fun hc => ?_) (fun hc => ?_)
  ·
    have hlt : i < pl.length := by simp at hc; omega
    obtain ⟨o, ho⟩ : ∃ o, pl[i]? = some o := ⟨_, List.getElem?_eq_getElem hlt⟩
    obtain ⟨r1, hr1, vo1, vo2, rfl, ho1, ho2, hon⟩ := hpr.get i o ho
    haveI := ho1.cel
    haveI := ho2.cel
    have hst := secL_take (k := k) (i := i) (x := o) (by rw [hpl]; exact ho)
    refine XC.skip ?_
    refine nx (kp 3 rfl (kp 22 rfl (kp 23 rfl (kp 24 rfl kn)))) ?_
    refine XC.seq ?_
    refine XC.block ?_
    refine XC.reg ?_
    refine XL.q (q_atV2 (sz := 3) rfl rfl (by kernel_rfl) rfl hr22 hlt) rfl ?_
    refine XL.q (q_ldVR rfl (by kernel_rfl) (hr22.mono fun z hz => by simp [hJi z hz]) (hpr.lens prT) (by decide) hr1) rfl ?_
    refine XL.lo rfl (l_alloc (cs := [.int .u32 0, .slice none 0 0, .slice none 0 0]) (by kernel_rfl) rfl fun b5 => ?_)
    refine XL.lo rfl (l_storeW (vs := [.int .u32 ((o.n : Nat) : Int), vo1, vo2]) rfl rfl rfl (by kernel_rfl) (by rfl) (allS rfl (allS ho1.one (allS ho2.one all0))) UpC.upd ?_)
    refine XL.fin (kp 3 rfl (kp 5 rfl (kp 22 rfl (kp 23 rfl (kp 24 rfl kn))))) ?_
    refine XC.reg1 ?_
    refine XL.q (q_move rfl) rfl ?_
    refine XL.q (q_fieldAddrN 1 (off := 1) rfl (by kernel_rfl) rfl) rfl ?_
    refine XL.q (q_load rfl (by kernel_rfl) (by first | exact At.mem | exact mA (by assumption)) (by rfl)) rfl ?_
    refine XL.call (aS rfl a0) (by kernel_rfl) (bclone_spec vo1 o.sec _ (ho1.mono SubC.sub)) rfl ?_
    rintro v31 M31 J31 ⟨rfl, h31⟩
    haveI := h31.cel
    refine XL.lo rfl (l_buildSlice (e := 23) (sz := 1) (z := [.slice none 0 0]) (by kernel_rfl) (eS rfl e0) (bdS 0 1 rfl (by rfl) bd0) rfl fun b32 => ?_)
    refine XL.lo rfl (l_append2 (e := 23) (sz := 1) (by_ := 24) rfl rfl (by kernel_rfl) rfl hsi (Rd.whole (n := 1) At.mem (by rfl)) (allS h31.one all0) PickC.perm (by unfold maxLen; omega) (by omega) rfl fun v33 B33 hs33 => ?_)
    refine XL.q (q_assign rfl) rfl ?_
    refine XL.nil ?_
    refine nb ?_
    refine nx (kp 3 rfl (kp 22 rfl (kp 23 rfl (kp 24 rfl kn)))) ?_
    refine XC.reg1 ?_
    refine XL.q (q_num ((i + 1 : Nat) : Int) rfl rfl (add64 (by omega) (by omega) (by omega))) rfl ?_
    refine XL.q (q_move rfl) rfl ?_
    refine XL.nil ?_
    exact rn (i + 1, v33, us ++ [v31], B33, _) ⟨by dsimp only; omega, by dsimp only; rw [show i + 1 + 2 = i + 2 + 1 by omega]; exact hs33, by dsimp only; rw [show i + 1 + 2 = i + 2 + 1 by omega, hst]; exact (hli.mono SubC.sub).snoc (h31.mono SubC.sub), fun z hz => by simp [hJi z hz]⟩ (by dsimp only; omega) (kp 3 rfl (kp 22 rfl (kp 23 rfl (kp 24 rfl kn)))) (Fit.last PickC.perm) (fun _ h => h)
  ·
    have hge : i = pl.length := by simp at hc; omega
    subst hge
    refine XC.exit ?_
    refine te ?_
    refine re ?_
    refine be rfl ?_
    refine nx (kp 3 rfl kn) ?_
    refine XC.reg ?_
    refine XL.q (q_move rfl) rfl ?_
    refine XL.q (q_assign rfl) rfl ?_
    refine XL.fin (kp 2 rfl kn) ?_
    refine XC.ret ?_
    rw [List.take_of_length_le (by omega)] at hli
    exact ⟨_, [], Bi, res1 rfl rfl, Fit.pick PickC.perm (Fit.sub (List.nil_sublist _)), rfl, us, by rw [hsl]; exact hsi.rd fun x hx => by simp [hx], hli.mono SubC.sub⟩

end Go.Proofs.YtphcaiplgpmnnaaGreatDoor
