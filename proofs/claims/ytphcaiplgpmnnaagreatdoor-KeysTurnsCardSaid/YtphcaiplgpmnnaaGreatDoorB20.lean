/- Part 20 of the texts of this claim, one behind the other. -/
import Derived.Test.YtphcaiplgpmnnaaGreatDoorB19
set_option linter.unusedVariables false
set_option linter.unusedSimpArgs false
set_option linter.unusedVariables false
set_option linter.unusedSimpArgs false
namespace Go.Proofs.YtphcaiplgpmnnaaGreatDoor
open Go.Px
noncomputable def idS (k : Ks) (s : Ps) : Ps := pubS2 (pubS2 s k.agree) k.sign
noncomputable def idA (k : Ks) (s : Ps) : List Nat := pubK2 s k.agree
noncomputable def idG (k : Ks) (s : Ps) : List Nat := skK2 (pubS2 s k.agree) k.sign
theorem idS_len (k : Ks) (s : Ps) : (idS k s).ts.length ≤ s.ts.length + 4 := by
  have h1 := pubS2_len s k.agree
  have h2 := pubS2_len (pubS2 s k.agree) k.sign
  unfold idS; omega
theorem turnK_ps (k : Ks) (s : Ps) : (turnK k s).2.ts.length ≤ s.ts.length + 5 ∧ (turnK k s).2.n = s.n + 1 := by
  have h1 := freshS_len s
  have h2 := pubS2_len (freshS s) (freshK s)
  have h3 := sgS2_len (pubS2 (freshS s) (freshK s)) k.sign (msgN k.next (pubK2 (freshS s) (freshK s)))
  have h4 := sgS2_n (pubS2 (freshS s) (freshK s)) k.sign (msgN k.next (pubK2 (freshS s) (freshK s)))
  have h5 := pubS2_n (freshS s) (freshK s)
  show (turnS k s).ts.length ≤ _ ∧ (turnS k s).n = _
  unfold turnS
  omega
theorem turnK_next (k : Ks) (s : Ps) : (turnK k s).1.next = k.next + 1 := rfl
theorem fillK_ps (k : Ks) (s : Ps) : (fillK k s).2.ts.length ≤ s.ts.length + 4 ∧ (fillK k s).2.n ≤ s.n + 4 ∧ (fillK k s).1.next ≤ k.next + 4 := by
  have h1 := fillI_ps k s (4 - k.once.length)
  have h2 := fillI_next k s (4 - k.once.length)
  unfold fillK
  omega
def k0N (u d : Int) (s : Ps) : Ks := ⟨u, d, freshK s, freshK (freshS s), [], [], 1, []⟩
noncomputable def newK (u d : Int) (s : Ps) : Ks × Ps := fillK (turnK (k0N u d s) (freshS (freshS s))).1 (turnK (k0N u d s) (freshS (freshS s))).2
theorem newK_ps (u d : Int) (s : Ps) : (newK u d s).2.ts.length ≤ s.ts.length + 11 ∧ (newK u d s).2.n ≤ s.n + 7 ∧ (newK u d s).1.next ≤ 6 := by
  have h1 := freshS_len s
  have h2 := freshS_len (freshS s)
  have h3 := turnK_ps (k0N u d s) (freshS (freshS s))
  have h4 := fillK_ps (turnK (k0N u d s) (freshS (freshS s))).1 (turnK (k0N u d s) (freshS (freshS s))).2
  have h5 : (turnK (k0N u d s) (freshS (freshS s))).1.next = 2 := rfl
  unfold newK
  omega
/-- A bundle. -/
structure Bn where
  user : Int
  dev : Int
  ia : List Nat
  ig : List Nat
  signed : Nat
  key : List Nat
  sig : List Nat
  has : Bool
  once : Nat
  oncek : List Nat
def bnR (R : Mem) (x : Bn) (r : List Value) : Prop := ∃ va vg vk vs vo, r = [.int .i64 x.user, .int .i64 x.dev, va, vg, .int .u32 ((x.signed : Nat) : Int), vk, vs, .bool x.has, .int .u32 ((x.once : Nat) : Int), vo] ∧ By R va x.ia ∧ By R vg x.ig ∧ By R vk x.key ∧ By R vs x.sig ∧ By R vo x.oncek ∧ x.signed < 4294967296 ∧ x.once < 4294967296
theorem bnT : RowT 10 bnR := ⟨fun R R' x r hR ⟨va, vg, vk, vs, vo, h1, h2, h3, h4, h5, h6, h7⟩ => ⟨va, vg, vk, vs, vo, h1, h2.mono hR, h3.mono hR, h4.mono hR, h5.mono hR, h6.mono hR, h7⟩, fun R x r ⟨va, vg, vk, vs, vo, h1, _⟩ => by rw [h1]; rfl, fun R x r ⟨va, vg, vk, vs, vo, h1, h2, h3, h4, h5, h6, _⟩ => by
  rw [h1]
  exact allS rfl (allS rfl (allS h2.one (allS h3.one (allS rfl (allS h4.one (allS h5.one (allS rfl (allS rfl (allS h6.one all0)))))))))⟩
noncomputable def bunB (k : Ks) (x : Pr) (s : Ps) : Bn := ⟨k.user, k.dev, idA k s, idG k s, x.n, pubK2 (idS k s) x.sec, x.sig, false, 0, []⟩
noncomputable def bunI (b : Bn) (l : List Pr) (s : Ps) : Nat → List Bn × Ps
  | 0 => ([b], s)
  | i + 1 => match l[i]? with
    | none => bunI b l s i
    | some o => ((bunI b l s i).1 ++ [{ b with has := true, once := o.n, oncek := pubK2 (bunI b l s i).2 o.sec }], pubS2 (bunI b l s i).2 o.sec)
theorem bunI_succ {b : Bn} {l : List Pr} {s : Ps} {i : Nat} {o : Pr} (h : l[i]? = some o) : bunI b l s (i + 1) = ((bunI b l s i).1 ++ [{ b with has := true, once := o.n, oncek := pubK2 (bunI b l s i).2 o.sec }], pubS2 (bunI b l s i).2 o.sec) := by
  simp only [bunI, h]
theorem bunI_len {b : Bn} {l : List Pr} {s : Ps} : ∀ {i : Nat}, i ≤ l.length → (bunI b l s i).1.length = i + 1 ∧ (bunI b l s i).2.ts.length ≤ s.ts.length + 2 * i
  | 0, _ => ⟨rfl, Nat.le_refl _⟩
  | i + 1, h => by
    have ih := bunI_len (b := b) (s := s) (i := i) (l := l) (by omega)
    rw [bunI_succ (List.getElem?_eq_getElem (by omega))]
    have h2 := pubS2_len (bunI b l s i).2 (l[i]'(by omega)).sec
    refine ⟨by simp [ih.1], ?_⟩
    show (pubS2 _ _).ts.length ≤ _
    omega
noncomputable def bunK (k : Ks) (s : Ps) : List Bn × Ps := match k.signed with
  | [] => ([], s)
  | x :: _ => bunI (bunB k x s) k.once (pubS2 (idS k s) x.sec) k.once.length

set_option maxRecDepth 100000 in
theorem ident_f (pb : Nat) (s : Ps) (kb : Nat) (k : Ks) (va vg vq vo vm : Value) (rs ro rm : List (List Value)) (MP A : Mem) (hK : KyR A kb k va vg vq vo vm rs ro rm) (hP : Prm pb s MP) (hn : s.ts.length + 100 ≤ 1048576) (hG : Glb A) : FnX Tryz.prog 31 [.pointer (some ⟨kb, 0, none⟩), .pointer (some ⟨pb, 0, none⟩)] MP A fun q M J => Prm pb (idS k s) M ∧ ∃ p r, q = .agg #[p, r] ∧ By J p (idA k s) ∧ By J r (idG k s) := by
  have hkb := hK.blk_
  haveI := hK.agree.cel
  haveI := hK.sign.cel
  haveI := hK.signed.cel
  haveI := hK.once.cel
  haveI := hK.met.cel
  have pl := pubS2_len s k.agree
  refine FnX.enterZ (N := 21) Tryz.func31 rfl rfl rfl fun w_ => ?_
  refine XC.keep (kp 0 rfl (kp 1 rfl kn)) ?_
  refine XC.reg ?_
  refine XL.lo rfl (l_alloc (cs := [.slice none 0 0, .slice none 0 0]) (by kernel_rfl) rfl fun b4 => ?_)
  refine XL.fin (kp 0 rfl (kp 1 rfl (kp 4 rfl kn))) ?_
  refine XC.seq ?_
  refine XC.reg ?_
  refine XL.q (q_move rfl) rfl ?_
  refine XL.q (q_ptrEqNil (e := 96) rfl rfl (by kernel_rfl)) rfl ?_
  refine XL.fin (kp 0 rfl (kp 1 rfl (kp 4 rfl (kp 6 rfl kn)))) ?_
  refine XC.condF rfl ?_
  refine XC.skip ?_
  refine nx (kp 0 rfl (kp 1 rfl (kp 4 rfl kn))) ?_
  refine XC.drawK (MP) (_) true [0, 1, 2, 3, 4, 5, 6, 7, 8, 9, 10, 11, 12] [(0, 0), (1, 0), (2, 0), (3, 0), (4, 1), (6, 0), (7, 0), (8, 0), (9, 0), (10, 1), (5, 2), (11, 2), (12, 0), (13, 2)] (by kernel_rfl) (by kernel_rfl) PickC.perm fun hs K n0 hKm hKs hKn => ?_
  refine XK.q hs rfl (q_move rfl) rfl ?_
  refine XK.q hs rfl (q_move rfl) rfl ?_
  refine XK.q hs rfl (q_nil rfl) rfl ?_
  refine XK.q hs rfl (q_fieldAddrN 2 (off := 2) rfl (by kernel_rfl) rfl) rfl ?_
  refine XK.r hs rfl (fun x hx => by rw [List.append_assoc]; exact List.mem_append_right _ hx) hKs (q_load rfl (by kernel_rfl) (mA hkb) (by rfl)) rfl ?_
  refine XK.q hs rfl (q_move rfl) rfl ?_
  refine XK.q hs rfl (q_move rfl) rfl ?_
  refine XK.q hs rfl (q_nil rfl) rfl ?_
  refine XK.q hs rfl (q_fieldAddrN 3 (off := 3) rfl (by kernel_rfl) rfl) rfl ?_
  refine XK.r hs rfl (fun x hx => by rw [List.append_assoc]; exact List.mem_append_right _ hx) hKs (q_load rfl (by kernel_rfl) (mA hkb) (by rfl)) rfl ?_
  refine XK.lo _ _ rfl rfl (List.Perm.refl _) hKm fun w0 => (l_call (Mc := MP) (R := _) (aS rfl (aS rfl (a0))) (by kernel_rfl) PickC.perm (public_b pb s va k.agree MP _ hP (by omega) (hK.agree.mono SubC.sub) hG.up) rfl ?_)
  rintro v13 M13 J13 ⟨hP13, h13⟩ hKx13
  haveI := h13.cel
  refine XK.lo M13 _ rfl rfl PickC.perm (fun x hx => hKx13 (hKn rfl) x (by simpa using hx)) fun w0 => (l_call (Mc := M13) (R := _) (aS rfl (aS rfl (a0))) (by kernel_rfl) PickC.perm (signKey_b pb (pubS2 s k.agree) vg k.sign M13 _ hP13 (by omega) (hK.sign.mono SubC.sub) hG.up) rfl ?_)
  rintro v19 M19 J19 ⟨hP19, h19⟩ hKx19
  haveI := h19.cel
  refine XK.q hs rfl (q_build (place := fun x => #[(0, 1), (1, 1)][x]?) (z := [.slice none 0 0, .slice none 0 0]) (fun _ => by kernel_rfl) (eS rfl (eS rfl e0)) (bdS 0 1 rfl (by rfl) (bdS 1 1 rfl (by rfl) bd0))) rfl ?_
  refine XK.tl rfl rfl rfl (l_storeW (vs := [v13, v19]) rfl rfl rfl (by kernel_rfl) (by rfl) (allS h13.one (allS h19.one all0)) UpC.upd ?_)
  refine XK.fin (kp 4 rfl kn) ?_
  refine XC.ret ?_
  exact ⟨_, M19, [], resC rfl rfl (by kernel_rfl) At.mem (by rfl), Fit.none (Fit.last PickC.perm), hP19, _, _, rfl, h13.mono SubC.sub, h19.mono SubC.sub⟩

set_option maxRecDepth 100000 in
theorem new_f (u d : Int) (pb : Nat) (s : Ps) (MP A : Mem) (hP : Prm pb s MP) (hn : s.ts.length + 200 ≤ 1048576) (hk : s.n + 100 < 1000000000) (hG : Glb A) : FnX Tryz.prog 56 [.pointer (some ⟨pb, 0, none⟩), .agg #[.int .i64 u, .int .i64 d]] MP A fun q M J => ∃ kb MK MP2, q = .pointer (some ⟨kb, 0, none⟩) ∧ M = MK ++ MP2 ∧ Kys (J ++ A) kb (newK u d s).1 MK ∧ Prm pb (newK u d s).2 MP2 := by
  have f1 := freshS_len s
  have f2 := freshS_len (freshS s)
  have f3 := turnK_ps (k0N u d s) (freshS (freshS s))
  refine FnX.enterZ (N := 20) Tryz.func56 rfl rfl rfl fun w_ => ?_
  refine XC.keep (kp 0 rfl (kp 1 rfl kn)) ?_
  refine XC.reg ?_
  refine XL.lo rfl (l_box rfl (by first | exact Cel.cel | rfl) rfl fun b3 => ?_)
  refine XL.q (q_assign rfl) rfl ?_
  refine XL.fin (kp 0 rfl (kp 3 rfl kn)) ?_
  refine XC.drawK (MP) (_) true [0, 1, 2, 3, 4, 5, 6, 7] [(0, 1), (1, 0), (3, 0), (2, 2), (4, 2), (5, 0), (6, 2), (7, 0)] (by kernel_rfl) (by kernel_rfl) PickC.perm fun hs K n0 hKm hKs hKn => ?_
  refine XK.r hs rfl (fun x hx => by rw [List.append_assoc]; exact List.mem_append_right _ hx) hKs (q_loadW (n := 2) rfl (by kernel_rfl) (by first | exact At.mem | exact mA (by assumption)) (by rfl)) rfl ?_
  refine XK.q hs rfl (q_move rfl) rfl ?_
  refine XK.q hs rfl (q_move rfl) rfl ?_
  refine XK.lo _ _ rfl rfl (List.Perm.refl _) hKm fun w0 => (l_call (Mc := MP) (R := _) (aS rfl (a0)) (by kernel_rfl) PickC.perm (fresh_spec pb s MP _ hP (by omega) (by omega) hG.up) rfl ?_)
  rintro v8 M8 J8 ⟨hP8, h8⟩ hKx8
  haveI := h8.cel
  refine XK.lo M8 _ rfl rfl PickC.perm (fun x hx => hKx8 (hKn rfl) x (by simpa using hx)) fun w0 => (l_call (Mc := M8) (R := _) (aS rfl (a0)) (by kernel_rfl) PickC.perm (fresh_spec pb (freshS s) M8 _ hP8 (by omega) (by omega) hG.up) rfl ?_)
  rintro v10 M10 J10 ⟨hP10, h10⟩ hKx10
  haveI := h10.cel
  refine XK.q hs rfl (q_build (place := fun x => #[(0, 2), (2, 1), (3, 1), (4, 1), (5, 1), (6, 1), (7, 1)][x]?) (z := [.int .i64 0, .int .i64 0, .slice none 0 0, .slice none 0 0, .slice none 0 0, .slice none 0 0, .int .u32 0, .slice none 0 0]) (fun _ => by kernel_rfl) (eS rfl (eS rfl (eS rfl (eS rfl e0)))) (bdS 0 2 rfl (by rfl) (bdS 2 1 rfl (by rfl) (bdS 3 1 rfl (by rfl) (bdS 6 1 rfl (by rfl) bd0))))) rfl ?_
  refine XK.lo [] _ rfl rfl (List.Perm.refl _) (fun _ h => by cases h) fun w0 => (l_box rfl (by first | exact Cel.cel | rfl) rfl fun b12 => fun hk12 => ?_)
  dsimp only [List.cons_append, List.nil_append, List.append_eq]
  refine XK.q hs rfl (q_assign rfl) rfl ?_
  refine XK.fin (kp 0 rfl (kp 5 rfl kn)) ?_
  refine XC.reg ?_
  refine XL.q (q_move rfl) rfl ?_
  refine XL.q (q_move rfl) rfl ?_
  refine XL.lo rfl (l_call (Mc := (b12, blk [.int .i64 u, .int .i64 d, v8, v10, .slice none 0 0, .slice none 0 0, .int .u32 ((1 : Nat) : Int), .slice none 0 0] 96) :: M10) (R := _) (aS rfl (aS rfl a0)) (by kernel_rfl) PickC.perm (turn_f b12 pb (k0N u d s) (freshS (freshS s)) [(b12, blk [.int .i64 u, .int .i64 d, v8, v10, .slice none 0 0, .slice none 0 0, .int .u32 ((1 : Nat) : Int), .slice none 0 0] 96)] M10 _ ⟨⟨v8, v10, _, _, _, [], [], [], [], [], [], rfl, h8.mono SubC.sub, h10.mono SubC.sub, Sl.nil, RwL.nil, Sl.nil, RwL.nil, Sl.nil, RwL.nil, show 1 < 4294967296 by decide, Nat.zero_le _, Nat.zero_le _, Nat.zero_le _⟩⟩ hP10 (by omega) (by omega) (show 1 + 100 < 4000000000 by decide) hG.up) rfl ?_)
  rintro v15 M15 J15 ⟨MK15, MP15, rfl, hK15, hP15⟩
  refine XL.fin (kp 0 rfl (kp 5 rfl kn)) ?_
  refine XC.reg ?_
  refine XL.q (q_move rfl) rfl ?_
  refine XL.q (q_move rfl) rfl ?_
  refine XL.lo rfl (l_call (Mc := MK15 ++ MP15) (R := _) (aS rfl (aS rfl a0)) (by kernel_rfl) PickC.perm (fill_f b12 pb _ _ MK15 MP15 _ (hK15.mono SubC.sub) hP15 (by omega) (by omega) (by rw [turnK_next]; show 1 + 1 + 100 < 4000000000; decide) hG.up) rfl ?_)
  rintro v18 M18 J18 ⟨rfl, MK18, MP18, rfl, hK18, hP18⟩
  refine XL.fin (kp 5 rfl kn) ?_
  refine XC.reg ?_
  refine XL.q (q_move rfl) rfl ?_
  refine XL.q (q_assign rfl) rfl ?_
  refine XL.fin (kp 4 rfl kn) ?_
  refine XC.ret ?_
  exact ⟨_, MK18 ++ MP18, [(b3, blk [.int .i64 u, .int .i64 d] 35)], res1 rfl rfl, Fit.pick (B := [_]) PickC.perm (Fit.last PickC.perm), _, MK18, MP18, rfl, rfl, hK18.mono SubC.sub, hP18⟩

set_option maxRecDepth 100000 in
theorem bundles_f (pb : Nat) (s : Ps) (kb : Nat) (k : Ks) (va vg vq vo vm : Value) (rs ro rm : List (List Value)) (x : Pr) (sl : List Pr) (MP A : Mem) (hK : KyR A kb k va vg vq vo vm rs ro rm) (hsg : k.signed = x :: sl) (hP : Prm pb s MP) (hn : s.ts.length + 100 ≤ 1048576) (hol : k.once.length ≤ 10) (hG : Glb A) : FnX Tryz.prog 23 [.pointer (some ⟨kb, 0, none⟩), .pointer (some ⟨pb, 0, none⟩)] MP A fun q M J => Prm pb (bunK k s).2 M ∧ ∃ rows, Rd J 10 q (bunK k s).1.length rows.flatten ∧ RwL bnR (J ++ A) rows (bunK k s).1 := by
  have hkb := hK.blk_
  haveI := hK.agree.cel
  haveI := hK.sign.cel
  haveI := hK.signed.cel
  haveI := hK.once.cel
  haveI := hK.met.cel
  have il := idS_len k s
  obtain ⟨r0, hr0, vs_, vg_, rfl, hs_, hg_, hxn⟩ := hK.signedR.get 0 x (by rw [hsg]; rfl)
  haveI := hs_.cel
  haveI := hg_.cel
  refine FnX.enterZ (N := 62) Tryz.func23 rfl rfl rfl fun w_ => ?_
  refine XC.keep (kp 0 rfl (kp 1 rfl kn)) ?_
  refine XC.reg ?_
  refine XL.q (q_assign rfl) rfl ?_
  refine XL.fin (kp 0 rfl (kp 1 rfl kn)) ?_
  refine XC.seq ?_
  refine XC.reg ?_
  refine XL.q (q_move rfl) rfl ?_
  refine XL.q (q_ptrEqNil (e := 96) rfl rfl (by kernel_rfl)) rfl ?_
  refine XL.fin (kp 0 rfl (kp 1 rfl (kp 12 rfl kn))) ?_
  refine XC.condF rfl ?_
  refine XC.skip ?_
  refine nx (kp 0 rfl (kp 1 rfl kn)) ?_
  refine XC.reg ?_
  refine XL.q (q_move rfl) rfl ?_
  refine XL.q (q_nil rfl) rfl ?_
  refine XL.q (q_fieldAddrN 4 (off := 4) rfl (by kernel_rfl) rfl) rfl ?_
  refine XL.q (q_load rfl (by kernel_rfl) (mA hkb) (by rfl)) rfl ?_
  refine XL.q (q_atV2 (sz := 3) (a := 0) rfl rfl (by kernel_rfl) rfl hK.signed (by rw [hsg]; simp)) rfl ?_
  refine XL.q (q_ldVR rfl (by kernel_rfl) (hK.signed.mono SubC.sub) (hK.signedR.lens prT) (by decide) hr0) rfl ?_
  refine XL.lo rfl (l_alloc (cs := [.int .u32 0, .slice none 0 0, .slice none 0 0]) (by kernel_rfl) rfl fun b5 => ?_)
  refine XL.lo rfl (l_storeW (vs := [.int .u32 ((x.n : Nat) : Int), vs_, vg_]) rfl rfl rfl (by kernel_rfl) (by rfl) (allS rfl (allS hs_.one (allS hg_.one all0))) UpC.upd ?_)
  refine XL.fin (kp 0 rfl (kp 1 rfl (kp 5 rfl kn))) ?_
  refine XC.drawK (MP) (_) true [0, 1, 2, 3, 4, 5, 6, 7, 8, 9, 10, 11, 12, 13, 14, 15, 16] [(0, 0), (1, 0), (2, 0), (3, 1), (4, 0), (5, 0), (7, 0), (8, 1), (9, 0), (10, 0), (11, 1), (13, 0), (14, 1), (6, 3), (12, 3), (15, 3), (16, 4), (17, 2)] (by kernel_rfl) (by kernel_rfl) PickC.perm fun hs K n0 hKm hKs hKn => ?_
  refine XK.q hs rfl (q_move rfl) rfl ?_
  refine XK.q hs rfl (q_nil rfl) rfl ?_
  refine XK.q hs rfl (q_fieldAddrN 0 (off := 0) rfl (by kernel_rfl) rfl) rfl ?_
  refine XK.r hs rfl (fun x hx => by rw [List.append_assoc]; exact List.mem_append_right _ hx) hKs (q_loadT (n := 2) rfl (by kernel_rfl) (mA hkb) TakeC.take) rfl ?_
  refine XK.q hs rfl (q_move rfl) rfl ?_
  refine XK.q hs rfl (q_move rfl) rfl ?_
  refine XK.q hs rfl (q_fieldAddrN 0 (off := 0) rfl (by kernel_rfl) rfl) rfl ?_
  refine XK.r hs rfl (fun x hx => by rw [List.append_assoc]; exact List.mem_append_right _ hx) hKs (q_load rfl (by kernel_rfl) (by first | exact At.mem | exact mA (by assumption)) (by rfl)) rfl ?_
  refine XK.q hs rfl (q_move rfl) rfl ?_
  refine XK.q hs rfl (q_fieldAddrN 1 (off := 1) rfl (by kernel_rfl) rfl) rfl ?_
  refine XK.r hs rfl (fun x hx => by rw [List.append_assoc]; exact List.mem_append_right _ hx) hKs (q_load rfl (by kernel_rfl) (by first | exact At.mem | exact mA (by assumption)) (by rfl)) rfl ?_
  refine XK.q hs rfl (q_fieldAddrN 2 (off := 2) rfl (by kernel_rfl) rfl) rfl ?_
  refine XK.r hs rfl (fun x hx => by rw [List.append_assoc]; exact List.mem_append_right _ hx) hKs (q_load rfl (by kernel_rfl) (by first | exact At.mem | exact mA (by assumption)) (by rfl)) rfl ?_
  refine XK.groupC [⟨6, 25, none, MP, fun v B R => Prm pb (idS k s) B ∧ ∃ p q, v = .agg #[p, q] ∧ By R p (idA k s) ∧ By R q (idG k s)⟩, ⟨12, 31, some 6, [], fun v B R => Prm pb (pubS2 (idS k s) x.sec) B ∧ By R v (pubK2 (idS k s) x.sec)⟩, ⟨15, 34, none, [], fun v B R => B = [] ∧ ∃ p q u, v = .agg #[.int .i64 k.user, .int .i64 k.dev, p, q, .int .u32 ((x.n : Nat) : Int), u, vg_, .bool false, .int .u32 ((0 : Nat) : Int), .slice none 0 0] ∧ By R p (idA k s) ∧ By R q (idG k s) ∧ By R u (pubK2 (idS k s) x.sec)⟩, ⟨16, 6, none, [], fun v B _ => ∃ b, v = .pointer (some ⟨b, 0, none⟩) ∧ B = [(b, blk [.int .i64 0, .int .i64 0, .slice none 0 0, .slice none 0 0, .int .u32 0, .slice none 0 0, .slice none 0 0, .bool false, .int .u32 0, .slice none 0 0] 46)]⟩] (_) (fun bs => [bs 12, bs 15, bs 16]) (hKn rfl) (List.Perm.refl _) (show ∀ m ∈ ([MP, [], []] : List Mem), ∀ x ∈ m, K x.1 from allS (hKm) (allS (fun _ h => by cases h) (allS (fun _ h => by cases h) (all0)))) (by kernel_rfl) (fun _ => by first | rfl | kernel_rfl)
    (allS (fun _ _ _ _ h ⟨p1, p, q, e, p2, p3⟩ => ⟨p1, p, q, e, p2.mono h, p3.mono h⟩) (allS (fun _ _ _ _ h ⟨p1, p2⟩ => ⟨p1, p2.mono h⟩) (allS (fun _ _ _ _ h ⟨p1, p, q, u, e, p2, p3, p4⟩ => ⟨p1, p, q, u, e, p2.mono h, p3.mono h, p4.mono h⟩) (allS (fun _ _ _ _ h hp => hp) (all0))))) (show List.Nodup [25, 31, 34, 6] by decide) (show List.Nodup [6, 12, 15, 16] by decide) (allS (blt_lt rfl) (allS (blt_lt rfl) (allS (blt_lt rfl) (allS (blt_lt rfl) (all0)))))
    (allS ⟨_, rfl, fun vs bs R Rj wG hb hj hjr ha => ⟨.inl rfl, ?_⟩⟩ (allS ⟨_, rfl, fun vs bs R Rj wG hb hj hjr ha => ⟨.inl rfl, ?_⟩⟩ (allS ⟨_, rfl, fun vs bs R Rj wG hb hj hjr ha => ⟨.inl rfl, ?_⟩⟩ (allS ⟨_, rfl, fun vs bs R Rj wG hb hj hjr ha => ⟨.inl rfl, ?_⟩⟩ (all0))))) ?_
  ·
    dsimp only [Gc.inp]
    refine l_call (Mc := MP) (R := []) (aS rfl (aS rfl (a0))) (by kernel_rfl) (by simp) (ident_f pb s kb k va vg vq vo vm rs ro rm MP _ (hK.mono (fun x hx => by have := hb x (by simp [hx]); simp [this])) hP (by omega) (hG.sub (fun x hx => by have := hb x (by simp [hx]); simp [this]))) rfl ?_
    rintro v25 M25 J25 ⟨hP25, p, q, rfl, hp, hq⟩
    exact ⟨_, rfl, by simpa using hP25, p, q, rfl, hp.mono fun x hx => by simp [hx], hq.mono fun x hx => by simp [hx]⟩
  ·
    dsimp only [Gc.inp]
    have g6 := ha _ (List.mem_of_getElem? (i := 0) rfl) (by kernel_rfl)
    replace g6 : (fun v B R => Prm pb (idS k s) B ∧ ∃ p q, v = .agg #[p, q] ∧ By R p (idA k s) ∧ By R q (idG k s)) (vs 6) (bs 6) Rj := g6
    dsimp only at g6
    obtain ⟨hP25, -⟩ := g6
    refine l_call (Mc := bs 6) (R := []) (aS rfl (aS rfl (a0))) (by kernel_rfl) (by simp) (public_b pb (idS k s) vs_ x.sec (bs 6) _ hP25 (by omega) (hs_.mono (fun x hx => by have := hb x (by simp [hx]); simp [this])) (hG.sub (fun x hx => by have := hb x (by simp [hx]); simp [this]))) rfl ?_
    rintro v31 M31 J31 ⟨hP31, h31⟩
    exact ⟨_, rfl, by simpa using hP31, h31.mono fun x hx => by simp [hx]⟩
  ·
    dsimp only [Gc.inp]
    have g6 := ha _ (List.mem_of_getElem? (i := 0) rfl) (by kernel_rfl)
    replace g6 : (fun v B R => Prm pb (idS k s) B ∧ ∃ p q, v = .agg #[p, q] ∧ By R p (idA k s) ∧ By R q (idG k s)) (vs 6) (bs 6) Rj := g6
    dsimp only at g6
    have g12 := ha _ (List.mem_of_getElem? (i := 1) rfl) (by kernel_rfl)
    replace g12 : (fun v B R => Prm pb (pubS2 (idS k s) x.sec) B ∧ By R v (pubK2 (idS k s) x.sec)) (vs 12) (bs 12) Rj := g12
    dsimp only at g12
    obtain ⟨-, h31⟩ := g12
    obtain ⟨-, p, q, e25, hp, hq⟩ := g6
    haveI := h31.cel
    haveI := hp.cel
    haveI := hq.cel
    dsimp only [gEnvC, List.map, List.cons_append, List.nil_append]
    rw [e25]
    exact OpQ.opL (q_build (place := fun x => #[(0, 2), (2, 2), (4, 1), (5, 1), (6, 1), (7, 1), (8, 1), (9, 1)][x]?) (z := [.int .i64 0, .int .i64 0, .slice none 0 0, .slice none 0 0, .int .u32 0, .slice none 0 0, .slice none 0 0, .bool false, .int .u32 0, .slice none 0 0]) (fun _ => by kernel_rfl) (eS rfl (eS rfl (eS rfl (eS rfl (eS rfl e0))))) (bdS 0 2 rfl (by rfl) (bdS 2 2 rfl (by rfl) (bdS 4 1 rfl (by rfl) (bdS 5 1 rfl (by rfl) (bdS 6 1 rfl (by rfl) bd0)))))) rfl ⟨_, rfl, rfl, p, q, _, rfl, hp, hq, h31⟩
  ·
    dsimp only [Gc.inp]
    exact l_alloc (cs := [.int .i64 0, .int .i64 0, .slice none 0 0, .slice none 0 0, .int .u32 0, .slice none 0 0, .slice none 0 0, .bool false, .int .u32 0, .slice none 0 0]) (by kernel_rfl) rfl fun b => ⟨_, rfl, b, rfl, rfl⟩
  intro vs bs Jn0 hφ hKK
  have kk6 := hKK _ (List.mem_of_getElem? (i := 0) rfl)
  dsimp only at kk6
  have kk12 := hKK _ (List.mem_of_getElem? (i := 1) rfl)
  dsimp only at kk12
  have kk15 := hKK _ (List.mem_of_getElem? (i := 2) rfl)
  dsimp only at kk15
  have kk16 := hKK _ (List.mem_of_getElem? (i := 3) rfl)
  dsimp only at kk16
  clear hKK
  have g6 := ofH hφ
  dsimp only at g6
  replace hφ := ofT hφ
  have g12 := ofH hφ
  dsimp only at g12
  replace hφ := ofT hφ
  have g15 := ofH hφ
  dsimp only at g15
  replace hφ := ofT hφ
  have g16 := ofH hφ
  dsimp only at g16
  clear hφ
  dsimp only [gEnvC, joinC, List.foldr, List.map, List.cons_append, List.nil_append]
  generalize bs 6 = B25 at *
  generalize bs 12 = B31 at *
  generalize bs 15 = B34 at *
  generalize bs 16 = B6 at *
  generalize vs 6 = u25 at *
  generalize vs 12 = u31 at *
  generalize vs 15 = u34 at *
  generalize vs 16 = u6 at *
  obtain ⟨hP31, h31⟩ := g12
  clear g6
  obtain ⟨b6, rfl, rfl⟩ := g16
  obtain ⟨rfl, p, q, u, rfl, hp, hq, hu⟩ := g15
  haveI := hp.cel
  haveI := hq.cel
  haveI := hu.cel
  obtain ⟨bb, hbb⟩ : ∃ bb, bunB k x s = bb := ⟨_, rfl⟩
  obtain ⟨s2, hs2⟩ : ∃ s2, pubS2 (idS k s) x.sec = s2 := ⟨_, rfl⟩
  rw [hs2] at hP31
  have hs2l : s2.ts.length ≤ s.ts.length + 6 := by have := pubS2_len (idS k s) x.sec; rw [hs2] at this; omega
  have hbun : bunK k s = bunI bb k.once s2 k.once.length := by unfold bunK; rw [hsg, ← hbb, ← hs2]
  rw [hbun]
  have hbr : ∀ R, (∀ y, y ∈ Jn0 ++ [] ++ A → y ∈ R) → bnR R bb [.int .i64 k.user, .int .i64 k.dev, p, q, .int .u32 ((x.n : Nat) : Int), u, vg_, .bool false, .int .u32 ((0 : Nat) : Int), .slice none 0 0] := fun R hR => ⟨p, q, u, vg_, _, by rw [← hbb]; rfl, by rw [← hbb]; exact hp.mono hR, by rw [← hbb]; exact hq.mono hR, by rw [← hbb]; exact hu.mono hR, by rw [← hbb]; exact hg_.mono fun y hy => hR y (List.mem_append_right _ hy), by rw [← hbb]; exact By.nil, by rw [← hbb]; exact hxn, by rw [← hbb]; show 0 < 4294967296; decide⟩
  refine XK.tl rfl rfl rfl (l_storeW (vs := [.int .i64 k.user, .int .i64 k.dev, p, q, .int .u32 ((x.n : Nat) : Int), u, vg_, .bool false, .int .u32 ((0 : Nat) : Int), .slice none 0 0]) rfl rfl rfl (by kernel_rfl) (by rfl) (allS rfl (allS rfl (allS hp.one (allS hq.one (allS rfl (allS hu.one (allS hg_.one (allS rfl (allS rfl (allS rfl all0)))))))))) UpC.upd ?_)
  refine XK.fin (kp 0 rfl (kp 1 rfl (kp 6 rfl kn))) ?_
  refine XC.frz (B := [(b6, blk [.int .i64 k.user, .int .i64 k.dev, p, q, .int .u32 ((x.n : Nat) : Int), u, vg_, .bool false, .int .u32 ((0 : Nat) : Int), .slice none 0 0] 46)]) PickC.perm ?_
  refine XC.reg ?_
  refine XL.q (q_loadW (n := 10) rfl (by kernel_rfl) (by first | exact At.mem | exact mA (by assumption)) (by rfl)) rfl ?_
  refine XL.lo rfl (l_buildSlice (e := 46) (sz := 10) (z := [.int .i64 0, .int .i64 0, .slice none 0 0, .slice none 0 0, .int .u32 0, .slice none 0 0, .slice none 0 0, .bool false, .int .u32 0, .slice none 0 0]) (by kernel_rfl) (eS rfl e0) (bdS 0 10 rfl (by rfl) bd0) rfl fun b36 => ?_)
  refine XL.q (q_assign rfl) rfl ?_
  refine XL.fin (kp 0 rfl (kp 1 rfl (kp 6 rfl (kp 7 rfl kn)))) ?_
  refine XC.seq ?_
  refine XC.reg ?_
  refine XL.q (q_move rfl) rfl ?_
  refine XL.q (q_nil rfl) rfl ?_
  refine XL.q (q_fieldAddrN 5 (off := 5) rfl (by kernel_rfl) rfl) rfl ?_
  refine XL.q (q_load rfl (by kernel_rfl) (mA hkb) (by rfl)) rfl ?_
  refine XL.q (q_lenV2 (sz := 3) rfl (by kernel_rfl) hK.once) rfl ?_
  refine XL.q (q_move rfl) rfl ?_
  refine XL.fin (kp 1 rfl (kp 6 rfl (kp 7 rfl (kp 40 rfl (kp 41 rfl (kp 42 rfl kn)))))) ?_
  refine XC.block ?_
  refine XC.loop (α := Nat × (Value × List (List Value) × Mem) × Mem × Mem) (fun y => [(1, .pointer (some ⟨pb, 0, none⟩)), (6, .pointer (some ⟨b6, 0, none⟩)), (7, y.2.1.1), (40, vo), (41, .int .i64 ((k.once.length : Nat) : Int)), (42, .int .i64 ((y.1 : Nat) : Int))]) (fun y => y.2.1.2.2 ++ y.2.2.1) (fun y => y.2.2.2) (fun y => y.1 ≤ k.once.length ∧ Sl 10 y.2.1.1 (y.1 + 1) y.2.1.2.1.flatten y.2.1.2.2 ∧ RwL bnR (y.2.2.2 ++ A) y.2.1.2.1 (bunI bb k.once s2 y.1).1 ∧ Prm pb (bunI bb k.once s2 y.1).2 y.2.2.1 ∧ (b6, blk [.int .i64 k.user, .int .i64 k.dev, p, q, .int .u32 ((x.n : Nat) : Int), u, vg_, .bool false, .int .u32 ((0 : Nat) : Int), .slice none 0 0] 46) ∈ y.2.2.2 ∧ ∀ z, z ∈ Jn0 ++ [] ++ A → z ∈ y.2.2.2 ++ A) (fun y => k.once.length - y.1) (0, (.slice (some ⟨b36, 0, none⟩) 1 1, [[.int .i64 k.user, .int .i64 k.dev, p, q, .int .u32 ((x.n : Nat) : Int), u, vg_, .bool false, .int .u32 ((0 : Nat) : Int), .slice none 0 0]], [(b36, _)]), B31, _) ⟨Nat.zero_le _, Sl.fresh (n := 1) (cs := [.int .i64 k.user, .int .i64 k.dev, p, q, .int .u32 ((x.n : Nat) : Int), u, vg_, .bool false, .int .u32 ((0 : Nat) : Int), .slice none 0 0]) (e := 46) rfl (by decide), RwL.cons (hbr _ SubC.sub) RwL.nil, hP31, by simp, SubC.sub⟩ (kp 1 rfl (kp 6 rfl (kp 7 rfl (kp 40 rfl (kp 41 rfl (kp 42 rfl kn)))))) (Fit.pick (B := [_]) PickC.perm (Fit.last PickC.perm)) (fun _ h => h) ?_
  rintro ⟨i, ⟨vi, ri, Bi⟩, MPi, Ji⟩ ⟨hi, hsi, hri, hPi, hJb, hJn⟩
  dsimp only at hi hsi hri hPi hJb hJn ⊢
  haveI := hsi.cel
  have hbl := bunI_len (b := bb) (s := s2) hi
  refine XC.reg ?_
  refine XL.q (q_bin rfl rfl rfl) rfl ?_
  refine XL.fin (kp 1 rfl (kp 6 rfl (kp 7 rfl (kp 40 rfl (kp 41 rfl (kp 42 rfl (kp 43 rfl kn))))))) ?_
  refine XC.seq ?_
  refine XC.cond rfl (fun hc => ?_) (fun hc => ?_)
  ·
    have hlt : i < k.once.length := by simp at hc; omega
    obtain ⟨o, ho⟩ : ∃ o, k.once[i]? = some o := ⟨_, List.getElem?_eq_getElem hlt⟩
    obtain ⟨r1, hr1, vo1, vo2, rfl, ho1, ho2, hon⟩ := hK.onceR.get i o ho
    haveI := ho1.cel
    haveI := ho2.cel
    have hbs := bunI_succ (b := bb) (s := s2) ho
    refine XC.skip ?_
    refine nx (kp 1 rfl (kp 6 rfl (kp 7 rfl (kp 40 rfl (kp 41 rfl (kp 42 rfl kn)))))) ?_
    refine XC.seq ?_
    refine XC.block ?_
    refine XC.reg ?_
    refine XL.q (q_atV2 (sz := 3) rfl rfl (by kernel_rfl) rfl hK.once hlt) rfl ?_
    refine XL.q (q_ldVR rfl (by kernel_rfl) (hK.once.mono SubC.sub) (hK.onceR.lens prT) (by decide) hr1) rfl ?_
    refine XL.lo rfl (l_alloc (cs := [.int .u32 0, .slice none 0 0, .slice none 0 0]) (by kernel_rfl) rfl fun b9 => ?_)
    refine XL.lo rfl (l_storeW (vs := [.int .u32 ((o.n : Nat) : Int), vo1, vo2]) rfl rfl rfl (by kernel_rfl) (by rfl) (allS rfl (allS ho1.one (allS ho2.one all0))) UpC.upd ?_)
    refine XL.fin (kp 1 rfl (kp 6 rfl (kp 7 rfl (kp 9 rfl (kp 40 rfl (kp 41 rfl (kp 42 rfl kn))))))) ?_
    refine XC.reg ?_
    refine XL.q (q_loadW (n := 10) rfl (by kernel_rfl) (List.mem_append_right _ (List.mem_append_left _ hJb)) (by rfl)) rfl ?_
    refine XL.lo rfl (l_alloc (cs := [.int .i64 0, .int .i64 0, .slice none 0 0, .slice none 0 0, .int .u32 0, .slice none 0 0, .slice none 0 0, .bool false, .int .u32 0, .slice none 0 0]) (by kernel_rfl) rfl fun b10 => ?_)
    refine XL.lo rfl (l_storeW (vs := [.int .i64 k.user, .int .i64 k.dev, p, q, .int .u32 ((x.n : Nat) : Int), u, vg_, .bool false, .int .u32 ((0 : Nat) : Int), .slice none 0 0]) rfl rfl rfl (by kernel_rfl) (by rfl) (allS rfl (allS rfl (allS hp.one (allS hq.one (allS rfl (allS hu.one (allS hg_.one (allS rfl (allS rfl (allS rfl all0)))))))))) UpC.upd ?_)
    refine XL.fin (kp 1 rfl (kp 6 rfl (kp 7 rfl (kp 9 rfl (kp 10 rfl (kp 40 rfl (kp 41 rfl (kp 42 rfl kn)))))))) ?_
    refine XC.drawK (MPi ++ [(b10, blk [.int .i64 k.user, .int .i64 k.dev, p, q, .int .u32 ((x.n : Nat) : Int), u, vg_, .bool false, .int .u32 ((0 : Nat) : Int), .slice none 0 0] 46)]) (_) true [0, 1, 2, 3, 4, 5, 6, 7, 8, 10] [(0, 0), (1, 1), (2, 0), (3, 0), (4, 1), (6, 0), (5, 2), (7, 2), (8, 0), (9, 2), (10, 0), (11, 2)] (by kernel_rfl) (by kernel_rfl) PickC.perm fun hs K n0 hKm hKs hKn => ?_
    refine XK.q hs rfl (q_fieldAddrN 0 (off := 0) rfl (by kernel_rfl) rfl) rfl ?_
    refine XK.r hs rfl (fun x hx => by rw [List.append_assoc]; exact List.mem_append_right _ hx) hKs (q_load rfl (by kernel_rfl) (by first | exact At.mem | exact mA (by assumption)) (by rfl)) rfl ?_
    refine XK.q hs rfl (q_move rfl) rfl ?_
    refine XK.q hs rfl (q_fieldAddrN 1 (off := 1) rfl (by kernel_rfl) rfl) rfl ?_
    refine XK.r hs rfl (fun x hx => by rw [List.append_assoc]; exact List.mem_append_right _ hx) hKs (q_load rfl (by kernel_rfl) (by first | exact At.mem | exact mA (by assumption)) (by rfl)) rfl ?_
    refine XK.q hs rfl (q_fieldAddrN 7 (off := 7) rfl (by kernel_rfl) rfl) rfl ?_
    refine XK.lo MPi _ rfl rfl PickC.perm (fun y hy => hKm y (by simp [hy])) fun w0 => (l_call (Mc := MPi) (R := _) (aS rfl (aS rfl (a0))) (by kernel_rfl) PickC.perm (public_b pb _ vo1 o.sec MPi _ hPi (by omega) (ho1.mono SubC.sub) hG.up) rfl ?_)
    rintro v52 M52 J52 ⟨hP52, h52⟩ hKx52
    haveI := h52.cel
    refine XK.lo [(b10, blk [.int .i64 k.user, .int .i64 k.dev, p, q, .int .u32 ((x.n : Nat) : Int), u, vg_, .bool false, .int .u32 ((0 : Nat) : Int), .slice none 0 0] 46)] _ rfl rfl PickC.perm (fun y hy => hKm y (by simp at hy; simp [hy])) fun w0 => (l_store rfl rfl rfl (by kernel_rfl) SetC.set UpC.upd ?_)
    intro hkS
    dsimp only [List.cons_append, List.nil_append, List.append_eq]
    refine XK.q hs rfl (q_fieldAddrN 8 (off := 8) rfl (by kernel_rfl) rfl) rfl ?_
    refine XK.tl rfl rfl rfl (l_store rfl rfl rfl (by kernel_rfl) SetC.set UpC.upd ?_)
    refine XK.q hs rfl (q_fieldAddrN 9 (off := 9) rfl (by kernel_rfl) rfl) rfl ?_
    refine XK.tl rfl rfl rfl (l_store rfl rfl h52.one (by kernel_rfl) SetC.set UpC.upd ?_)
    refine XK.fin (kp 1 rfl (kp 6 rfl (kp 7 rfl (kp 10 rfl (kp 40 rfl (kp 41 rfl (kp 42 rfl kn))))))) ?_
    refine XC.reg1 ?_
    refine XL.q (q_move rfl) rfl ?_
    refine XL.q (q_loadW (n := 10) rfl (by kernel_rfl) (by first | exact At.mem | exact mA (by assumption)) (by rfl)) rfl ?_
    refine XL.lo rfl (l_buildSlice (e := 46) (sz := 10) (z := [.int .i64 0, .int .i64 0, .slice none 0 0, .slice none 0 0, .int .u32 0, .slice none 0 0, .slice none 0 0, .bool false, .int .u32 0, .slice none 0 0]) (by kernel_rfl) (eS rfl e0) (bdS 0 10 rfl (by rfl) bd0) rfl fun b58 => ?_)
    refine XL.lo rfl (l_append2 (e := 46) (sz := 10) (by_ := 152) rfl rfl (by kernel_rfl) rfl hsi (Rd.whole (n := 1) At.mem (by rfl)) (allS rfl (allS rfl (allS hp.one (allS hq.one (allS rfl (allS hu.one (allS hg_.one (allS rfl (allS rfl (allS h52.one all0)))))))))) PickC.perm (by unfold maxLen; omega) (by omega) rfl fun v59 B59 hs59 => ?_)
    refine XL.q (q_assign rfl) rfl ?_
    refine XL.nil ?_
    refine nb ?_
    refine nx (kp 1 rfl (kp 6 rfl (kp 7 rfl (kp 40 rfl (kp 41 rfl (kp 42 rfl kn)))))) ?_
    refine XC.reg1 ?_
    refine XL.q (q_num ((i + 1 : Nat) : Int) rfl rfl (add64 (by omega) (by omega) (by omega))) rfl ?_
    refine XL.q (q_move rfl) rfl ?_
    refine XL.nil ?_
    exact rn (i + 1, (v59, ri ++ [[.int .i64 k.user, .int .i64 k.dev, p, q, .int .u32 ((x.n : Nat) : Int), u, vg_, .bool true, .int .u32 ((o.n : Nat) : Int), v52]], B59), M52, _) ⟨by dsimp only; omega, by simpa using hs59, by dsimp only; rw [hbs]; exact (hri.mono bnT SubC.sub).snoc ⟨p, q, u, vg_, v52, by rw [← hbb]; rfl, by rw [← hbb]; exact hp.mono fun z hz => SubC.sub z (hJn z hz), by rw [← hbb]; exact hq.mono fun z hz => SubC.sub z (hJn z hz), by rw [← hbb]; exact hu.mono fun z hz => SubC.sub z (hJn z hz), by rw [← hbb]; exact hg_.mono SubC.sub, h52.mono SubC.sub, by rw [← hbb]; exact hxn, hon⟩, by dsimp only; rw [hbs]; exact hP52, List.mem_append_right _ hJb, fun z hz => SubC.sub z (hJn z hz)⟩ (by dsimp only; omega) (kp 1 rfl (kp 6 rfl (kp 7 rfl (kp 40 rfl (kp 41 rfl (kp 42 rfl kn)))))) (Fit.pick PickC.perm (Fit.last PickC.perm)) (fun _ h => h)
  ·
    have hge : i = k.once.length := by simp at hc; omega
    subst hge
    refine XC.exit ?_
    refine te ?_
    refine re ?_
    refine be rfl ?_
    refine nx (kp 7 rfl kn) ?_
    refine XC.reg ?_
    refine XL.q (q_move rfl) rfl ?_
    refine XL.q (q_assign rfl) rfl ?_
    refine XL.fin (kp 4 rfl kn) ?_
    refine XC.ret ?_
    exact ⟨_, MPi, Bi, res1 rfl rfl, Fit.pick PickC.perm (Fit.last PickC.perm), hPi, ri, by rw [hbl.1]; exact hsi.rd fun x hx => by simp [hx], hri.mono bnT SubC.sub⟩

end Go.Proofs.YtphcaiplgpmnnaaGreatDoor
/-
  append(nil, make([]T, n)...) for a struct T (the translation hands over the number alone).
-/
set_option linter.unusedVariables false
set_option linter.unusedSimpArgs false
namespace Go.Px
/-- What it asks of the types: the element, its zero cells, how many, the bytes. -/
def appZ (P : Program) (t tn : TypeId) : Option (TypeId × List Value × Nat) :=
  match P.underlying tn with
  | some (.int _) => match P.underlying t with
    | some (.slice e) => match P.info? e with
      | some i => match i.zero with
        | some z => if i.size = z.cells.size ∧ 0 < i.size then some (e, z.cells.toList, i.bytes) else none
        | none => none
      | none => none
    | _ => none
  | _ => none
section z
variable {C : Cx} {l : Env} {M J : Mem} {K : Env → Mem → Mem → Prop} {d : Nat} {ty t tn e : TypeId} {pos : String} {af : Array Edge} {g : Option (Nat × Bool)} {x y : Operand}
end z
end Go.Px

/- The walks of Use, Meet, Secrets. -/
set_option linter.unusedVariables false
set_option linter.unusedSimpArgs false
namespace Go.Proofs.YtphcaiplgpmnnaaGreatDoor
open Go.Px
/-- Owned keys, taken apart; where all of it is known they are keys that are read. -/
theorem Kys.ex2 {R : Mem} {kb : Nat} {k : Ks} {M : Mem} (h : Kys R kb k M) : ∃ (va vg vs vo vm : Value) (rs ro rm : List (List Value)) (Bs Bo Bm : Mem), M = (kb, blk [.int .i64 k.user, .int .i64 k.dev, va, vg, vs, vo, .int .u32 ((k.next : Nat) : Int), vm] 96) :: (Bs ++ (Bo ++ Bm)) ∧
    (By R va k.agree ∧ By R vg k.sign ∧ Sl 3 vs k.signed.length rs.flatten Bs ∧ RwL prR R rs k.signed ∧ Sl 3 vo k.once.length ro.flatten Bo ∧ RwL prR R ro k.once ∧ Sl 2 vm k.met.length rm.flatten Bm ∧ RwL nmR R rm k.met ∧ k.next < 4294967296 ∧ k.signed.length ≤ 2 ∧ k.once.length ≤ 100 ∧ k.met.length ≤ 100000) ∧
    ∀ R', (∀ x, x ∈ R → x ∈ R') → (∀ x, x ∈ M → x ∈ R') → KyR R' kb k va vg vs vo vm rs ro rm := by
  obtain ⟨va, vg, vs, vo, vm, rs, ro, rm, Bs, Bo, Bm, h1, h2, h3, h4, h5, h6, h7, h8, h9, h10, h11, h12, h13⟩ := h.ex
  refine ⟨va, vg, vs, vo, vm, rs, ro, rm, Bs, Bo, Bm, h1, ⟨h2, h3, h4, h5, h6, h7, h8, h9, h10, h11, h12, h13⟩, fun R' hR hM => ?_⟩
  subst h1
  exact ⟨hM _ List.mem_cons_self, h2.mono hR, h3.mono hR, h4.rd fun x hx => hM x (by simp [hx]), h5.mono prT hR, h6.rd fun x hx => hM x (by simp [hx]), h7.mono prT hR, h8.rd fun x hx => hM x (by simp [hx]), h9.mono nmT hR, by omega, by omega, by omega, by omega⟩
def useK (k : Ks) (n : Nat) : Ks := { k with once := k.once.filter fun x => !tstP n x }
def meetK (k : Ks) (n : Nat) (w : List Nat) : Ks := if (getP k.signed n).isSome && !decide (0 ≤ fidxL (tstN n w) k.met) then { k with met := k.met ++ [⟨n, w⟩] } else k
theorem getP_mem {l : List Pr} {n : Nat} : (getP l n).isSome = decide (n ∈ l.map (·.n)) := by
  rcases fidxL_cases (tstP n) l with ⟨h1, h2⟩ | ⟨i, x, h1, h2, h3, h4⟩
  · rw [getP_no h1]
    symm
    refine decide_eq_false fun h => ?_
    obtain ⟨x, hx, e⟩ := List.mem_map.1 h
    have := h2 x hx
    simp [tstP, e] at this
  · rw [getP_yes h1 h2]
    symm
    have e : x.n = n := by simpa [tstP] using h3
    exact decide_eq_true (List.mem_map.2 ⟨x, List.mem_of_getElem? h2, e⟩)
theorem useK_no {k : Ks} {n : Nat} (h : (getP k.once n).isSome = false) : useK k n = k := by
  have h2 : k.once.filter (fun x => !tstP n x) = k.once := by
    refine List.filter_eq_self.2 fun x hx => ?_
    rw [getP_mem] at h
    have h3 := of_decide_eq_false h
    have : x.n ≠ n := fun e => h3 (List.mem_map.2 ⟨x, hx, e⟩)
    simp [tstP, this]
  unfold useK; rw [h2]
theorem use_cloP {l : List Pr} {rows : List (List Value)} {n b : Nat} {A : Mem} (hR : RwL prR A rows l) (hb : (b, blk [.int .u32 ((n : Nat) : Int)] 22) ∈ A) :
    ∀ (j : Nat) (r : List Value), rows[j]? = some r → FnV Tryz.prog 62 (.agg r.toArray :: [.pointer (some ⟨b, 0, none⟩)]) A (.bool ((fun j => (l[j]?.map (tstP n)).getD false) j)) := fun j r hr => by
  obtain ⟨x, hx, vs, vg, rfl, hs, hg, _⟩ := hR.of hr
  dsimp only
  rw [hx]
  exact usec_spec vs vg x n b _ hs hg hb
def secL (k : Ks) : List (List Nat) := k.agree :: k.sign :: (k.signed ++ k.once).map (·.sec)

set_option maxRecDepth 100000 in
theorem use_f (kb : Nat) (k : Ks) (n : Nat) (MK A : Mem) (hK : Kys A kb k MK) (hrise : Rise k.once) : FnX Tryz.prog 20 [.pointer (some ⟨kb, 0, none⟩), .int .u32 ((n : Nat) : Int)] MK A fun q M J => q = .bool (getP k.once n).isSome ∧ Kys (J ++ A) kb (useK k n) M := by
  obtain ⟨va, vg, vq, vo, vm, rs, ro, rm, Bs, Bo, Bm, rfl, ⟨hva, hvg, hss, hrs, hso, hro, hsm, hrm, hn1, hn2, hn3, hn4⟩, hr⟩ := hK.ex2
  haveI := hva.cel
  haveI := hvg.cel
  haveI := hss.cel
  haveI := hso.cel
  haveI := hsm.cel
  refine FnX.enterZ (N := 24) Tryz.func20 rfl rfl rfl fun w_ => ?_
  refine XC.keep (kp 0 rfl (kp 1 rfl kn)) ?_
  refine XC.reg ?_
  refine XL.lo rfl (l_box rfl (by first | exact Cel.cel | rfl) rfl fun b3 => ?_)
  refine XL.q (q_assign rfl) rfl ?_
  refine XL.fin (kp 0 rfl (kp 3 rfl kn)) ?_
  refine XC.seq ?_
  refine XC.reg ?_
  refine XL.q (q_move rfl) rfl ?_
  refine XL.q (q_load rfl (by kernel_rfl) (by first | exact At.mem | exact mA (by assumption)) (by rfl)) rfl ?_
  refine XL.call (aS rfl (aS rfl a0)) (by kernel_rfl) (once_f kb k va vg vq vo vm rs ro rm n _ (hr _ SubC.sub SubC.sub) hrise) rfl ?_
  rintro v10 M10 J10 ⟨rfl, q, rfl, hq⟩
  haveI := hq.cel
  refine XL.q (q_move rfl) rfl ?_
  refine XL.q (q_x0 rfl) rfl ?_
  refine XL.q (q_x1 rfl) rfl ?_
  refine XL.q (q_assign rfl) rfl ?_
  refine XL.q (q_assign rfl) rfl ?_
  refine XL.fin (kp 0 rfl (kp 3 rfl (kp 6 rfl kn))) ?_
  cases hg : (getP k.once n).isSome
  ·
    refine XC.reg ?_
    refine XL.q (q_move rfl) rfl ?_
    refine XL.q (q_not rfl) rfl ?_
    refine XL.fin (kp 0 rfl (kp 3 rfl (kp 14 rfl kn))) ?_
    refine XC.condT rfl ?_
    refine XC.reg ?_
    refine XL.q (q_assign rfl) rfl ?_
    refine XL.fin (kp 4 rfl kn) ?_
    refine XC.ret ?_
    refine tr ?_
    exact ⟨_, (kb, blk [.int .i64 k.user, .int .i64 k.dev, va, vg, vq, vo, .int .u32 ((k.next : Nat) : Int), vm] 96) :: (Bs ++ (Bo ++ Bm)), [], res1 rfl rfl, Fit.none (Fit.pick (B := [_]) PickC.perm (Fit.last PickC.perm)), rfl, by rw [useK_no hg]; exact ⟨⟨va, vg, vq, vo, vm, rs, ro, rm, Bs, Bo, Bm, rfl, hva.mono SubC.sub, hvg.mono SubC.sub, hss, hrs.mono prT SubC.sub, hso, hro.mono prT SubC.sub, hsm, hrm.mono nmT SubC.sub, hn1, hn2, hn3, hn4⟩⟩⟩
  ·
    refine XC.reg ?_
    refine XL.q (q_move rfl) rfl ?_
    refine XL.q (q_not rfl) rfl ?_
    refine XL.fin (kp 0 rfl (kp 3 rfl (kp 14 rfl kn))) ?_
    refine XC.condF rfl ?_
    refine XC.skip ?_
    refine nx (kp 0 rfl (kp 3 rfl kn)) ?_
    refine XC.reg ?_
    refine XL.q (q_move rfl) rfl ?_
    refine XL.q (q_move rfl) rfl ?_
    refine XL.q (q_nil rfl) rfl ?_
    refine XL.q (q_fieldAddrN 5 (off := 5) rfl (by kernel_rfl) rfl) rfl ?_
    refine XL.q (q_load rfl (by kernel_rfl) (by first | exact At.mem | exact mA (by assumption)) (by rfl)) rfl ?_
    refine XL.q (q_mkFunc (aS rfl a0)) rfl ?_
    refine XL.lo rfl (l_call (Mc := Bo) (R := _) (aS rfl (aS rfl a0)) (by kernel_rfl) PickC.perm (by rw [← hro.len] at hso; exact delfn_Pair vo ro 62 [.pointer (some ⟨b3, 0, none⟩)] (fun j => (k.once[j]?.map (tstP n)).getD false) Bo _ hso (hro.lens prT) (hro.ones prT) (by rw [hro.len]; omega) (by kernel_rfl) (use_cloP (hro.mono prT SubC.sub) At.mem)) rfl ?_)
    rintro v21 M21 J21 h21
    haveI := h21.cel
    refine XL.q (q_nil rfl) rfl ?_
    refine XL.q (q_fieldAddrN 5 (off := 5) rfl (by kernel_rfl) rfl) rfl ?_
    refine XL.lo rfl (l_store rfl rfl h21.one (by kernel_rfl) SetC.set UpC.upd ?_)
    refine XL.fin kn ?_
    refine XC.reg ?_
    refine XL.q (q_assign rfl) rfl ?_
    refine XL.fin (kp 4 rfl kn) ?_
    refine XC.ret ?_
    have hkm := hro.kpt (fun j => (k.once[j]?.map (tstP n)).getD false) ro.length
    rw [kpt_filter, hro.len, List.take_length] at hkm
    rw [hro.len] at h21
    have hkl : (k.once.filter fun x => !tstP n x).length ≤ 100 := Nat.le_trans (List.length_filter_le _ _) hn3
    refine ⟨_, (kb, blk [.int .i64 k.user, .int .i64 k.dev, va, vg, vq, v21, .int .u32 ((k.next : Nat) : Int), vm] 96) :: (Bs ++ (M21 ++ Bm)), [], res1 rfl rfl, Fit.none (Fit.pick (B := [_]) PickC.perm (Fit.pick PickC.perm (Fit.pick PickC.perm (Fit.last PickC.perm)))), rfl, ⟨⟨va, vg, vq, v21, vm, rs, _, rm, Bs, M21, Bm, rfl, hva.mono SubC.sub, hvg.mono SubC.sub, hss, hrs.mono prT SubC.sub, ?_, hkm.mono prT SubC.sub, hsm, hrm.mono nmT SubC.sub, hn1, hn2, hkl, hn4⟩⟩⟩
    rw [hkm.len] at h21
    exact h21

end Go.Proofs.YtphcaiplgpmnnaaGreatDoor
/- Numbers of keys; the walks of who, open, awake. -/
set_option linter.unusedVariables false
set_option linter.unusedSimpArgs false
namespace Go.Proofs.YtphcaiplgpmnnaaGreatDoor
open Go.Px
def snN (k : Ks) : List Nat := k.signed.map (·.n)
def onN (k : Ks) : List Nat := k.once.map (·.n)
theorem turn_sn (k : Ks) (s : Ps) : snN (turnK k s).1 = (k.next :: snN k).take 2 := by
  show List.map (fun x : Pr => x.n) ((turnP k s :: k.signed).take 2) = _
  rw [List.map_take]; rfl
theorem turn_on (k : Ks) (s : Ps) : onN (turnK k s).1 = onN k := rfl
theorem fillI_on (k : Ks) (s : Ps) : ∀ i, onN (fillI k s i).1 = onN k ++ (List.range i).map (k.next + ·)
  | 0 => by simp [fillI]
  | i + 1 => by
    have h := fillI_on k s i
    have hn := fillI_next k s i
    show List.map (fun x : Pr => x.n) ((fillI k s i).1.once ++ [_]) = _
    unfold onN at h ⊢
    rw [List.map_append, h, List.range_succ, List.map_append, ← List.append_assoc]
    simp [hn]
theorem fill_on (k : Ks) (s : Ps) : onN (fillK k s).1 = onN k ++ (List.range (4 - k.once.length)).map (k.next + ·) := fillI_on k s _
theorem fill_eq (k : Ks) (s : Ps) : (fillK k s).1 = { k with once := (fillK k s).1.once, next := k.next + (4 - k.once.length) } := fillI_eq k s _
theorem fill_sn (k : Ks) (s : Ps) : snN (fillK k s).1 = snN k := by rw [fill_eq]; rfl
theorem fill_next (k : Ks) (s : Ps) : (fillK k s).1.next = k.next + (4 - k.once.length) := by rw [fill_eq]
theorem use_on (k : Ks) (n : Nat) : onN (useK k n) = (onN k).filter fun m => !decide (m = n) := by
  show (k.once.filter _).map _ = _
  unfold onN tstP
  rw [List.filter_map]; rfl
theorem new_sn (u d : Int) (s : Ps) : snN (newK u d s).1 = [1] := by
  unfold newK; rw [fill_sn, turn_sn]; rfl
theorem new_on (u d : Int) (s : Ps) : onN (newK u d s).1 = [2, 3, 4, 5] := by
  unfold newK; rw [fill_on, turn_on]; rfl
theorem new_next (u d : Int) (s : Ps) : (newK u d s).1.next = 6 := by
  unfold newK; rw [fill_next]; rfl
theorem on_len (k : Ks) : (onN k).length = k.once.length := List.length_map ..
/-- Prekeys are in a rising row just if their numbers are. -/
theorem rise_of {l : List Pr} (h : (l.map (·.n)).Pairwise (· < ·)) : Rise l := by
  intro i j x y hij hx hy
  have h1 := List.pairwise_iff_getElem.1 h i j (by rw [List.length_map]; exact (List.getElem?_eq_some_iff.1 hx).1) (by rw [List.length_map]; exact (List.getElem?_eq_some_iff.1 hy).1) hij
  obtain ⟨hi, ei⟩ := List.getElem?_eq_some_iff.1 hx
  obtain ⟨hj, ej⟩ := List.getElem?_eq_some_iff.1 hy
  simp only [List.getElem_map, ei, ej] at h1
  exact h1
theorem bunI_get0 {b : Bn} {l : List Pr} {s : Ps} : ∀ {i : Nat}, i ≤ l.length → (bunI b l s i).1[0]? = some b
  | 0, _ => rfl
  | i + 1, h => by
    rw [bunI_succ (List.getElem?_eq_getElem (by omega))]
    have h1 := (bunI_len (b := b) (s := s) (l := l) (i := i) (by omega)).1
    show (_ ++ _)[0]? = _
    rw [List.getElem?_append_left (by omega)]
    exact bunI_get0 (by omega)
theorem bunI_get {b : Bn} {l : List Pr} {s : Ps} {j : Nat} {o : Pr} (ho : l[j]? = some o) : ∀ {i : Nat}, i ≤ l.length → j < i → (bunI b l s i).1[j + 1]? = some { b with has := true, once := o.n, oncek := pubK2 (bunI b l s j).2 o.sec }
  | 0, _, hj => by omega
  | i + 1, h, hj => by
    obtain ⟨x, hx⟩ : ∃ x, l[i]? = some x := ⟨_, List.getElem?_eq_getElem (by omega)⟩
    rw [bunI_succ hx]
    have h1 := (bunI_len (b := b) (s := s) (l := l) (i := i) (by omega)).1
    show (_ ++ _)[j + 1]? = _
    by_cases e : j = i
    · subst e
      rw [hx] at ho
      cases ho
      rw [List.getElem?_append_right (by omega), h1, Nat.sub_self]; rfl
    · rw [List.getElem?_append_left (by omega)]
      exact bunI_get ho (by omega) (by omega)
/-- What the bundles of some keys are. -/
theorem bunK_facts {k : Ks} {s : Ps} {x : Pr} {sl : List Pr} (h : k.signed = x :: sl) : (bunK k s).1.length = k.once.length + 1 ∧ (bunK k s).1[0]? = some (bunB k x s) ∧ (∀ (j : Nat) (o : Pr), k.once[j]? = some o → (bunK k s).1[j + 1]? = some { bunB k x s with has := true, once := o.n, oncek := pubK2 (bunI (bunB k x s) k.once (pubS2 (idS k s) x.sec) j).2 o.sec }) ∧ (bunK k s).2.ts.length ≤ s.ts.length + 6 + 2 * k.once.length := by
  have e : bunK k s = bunI (bunB k x s) k.once (pubS2 (idS k s) x.sec) k.once.length := by unfold bunK; rw [h]
  rw [e]
  have h1 := bunI_len (b := bunB k x s) (s := pubS2 (idS k s) x.sec) (l := k.once) (Nat.le_refl _)
  have h2 := idS_len k s
  have h3 := pubS2_len (idS k s) x.sec
  exact ⟨h1.1, bunI_get0 (Nat.le_refl _), fun j o ho => bunI_get ho (Nat.le_refl _) (List.getElem?_eq_some_iff.1 ho).1, by omega⟩
theorem md_mod (m : Nat) : ((m % 2 : Nat) : Int) = md (m % 2 == 0) := by
  rcases (by omega : m % 2 = 0 ∨ m % 2 = 1) with h | h <;> rw [h] <;> rfl
def opK (m : Nat) : Ps := ⟨m % 2 == 0, [107, 101, 121, 115], 0, []⟩

set_option maxRecDepth 100000 in
theorem who12_f (a b : Nat) (A : Mem) (ha : a < 256) (hb : b < 256) : FnV Tryz.prog 17 [.int .u8 ((a : Nat) : Int), .int .u8 ((b : Nat) : Int)] A (.agg #[.int .i64 ((a % 8 : Nat) : Int), .int .i64 ((b : Nat) : Int)]) := by
  refine FnX.enter (N := 11) Tryz.func17 rfl rfl rfl fun w => ?_
  refine XC.keep (kp 0 rfl (kp 1 rfl kn)) ?_
  refine XC.reg ?_
  refine XL.lo rfl (l_alloc (cs := [.int .i64 0, .int .i64 0]) (by kernel_rfl) rfl fun b4 => ?_)
  refine XL.fin (kp 0 rfl (kp 1 rfl (kp 4 rfl kn))) ?_
  refine XC.reg ?_
  refine XL.q (q_move rfl) rfl ?_
  refine XL.q (q_remI (a := a) (b := 8) rfl rfl rfl rfl (by decide)) rfl ?_
  refine XL.q (q_same (k' := .i64) rfl (by kernel_rfl) (by show _ < 9223372036854775808; omega)) rfl ?_
  refine XL.q (q_move rfl) rfl ?_
  refine XL.q (q_same (k' := .i64) rfl (by kernel_rfl) (by show _ < 9223372036854775808; omega)) rfl ?_
  refine XL.q (q_build (place := fun x => #[(0, 1), (1, 1)][x]?) (z := [.int .i64 0, .int .i64 0]) (fun _ => by kernel_rfl) (eS rfl (eS rfl e0)) (bdS 0 1 rfl (by rfl) (bdS 1 1 rfl (by rfl) bd0))) rfl ?_
  refine XL.lo rfl (l_storeW rfl rfl Cel.cel (by kernel_rfl) (lnS (lnS (ln0))) (allS rfl (allS rfl (all0))) UpC.upd ?_)
  refine XL.fin (kp 4 rfl kn) ?_
  refine XC.ret ?_
  exact ⟨_, [], [], resC rfl rfl (by kernel_rfl) At.mem (by rfl), List.nil_sublist _, by simp, rfl, rfl, rfl⟩

set_option maxRecDepth 100000 in
theorem open12_f (m : Nat) (u d : Int) (A : Mem) (hm : m < 256) (hG : Glb A) : FnX Tryz.prog 16 [.int .u8 ((m : Nat) : Int), .agg #[.int .i64 u, .int .i64 d]] [] A fun q M J => ∃ pb kb MK MP, q = .tuple #[.pointer (some ⟨pb, 0, none⟩), .pointer (some ⟨kb, 0, none⟩)] ∧ M = MK ++ MP ∧ Kys (J ++ A) kb (newK u d (opK m)).1 MK ∧ Prm pb (newK u d (opK m)).2 MP := by
  refine FnX.enterZ (N := 22) Tryz.func16 rfl rfl rfl fun w_ => ?_
  refine XC.keep (kp 0 rfl (kp 1 rfl kn)) ?_
  refine XC.reg ?_
  refine XL.lo rfl (l_box rfl (by first | exact Cel.cel | rfl) rfl fun b3 => ?_)
  refine XL.q (q_assign rfl) rfl ?_
  refine XL.q (q_assign rfl) rfl ?_
  refine XL.fin (kp 0 rfl (kp 3 rfl kn)) ?_
  refine XC.reg ?_
  refine XL.q (q_move rfl) rfl ?_
  refine XL.q (q_remI (a := m) (b := 2) rfl rfl rfl rfl (by decide)) rfl ?_
  rw [md_mod m]
  refine XL.lo rfl (l_buildSlice (e := 5) (sz := 1) (z := [.int .u8 0, .int .u8 0, .int .u8 0, .int .u8 0]) (by kernel_rfl) (eS rfl (eS rfl (eS rfl (eS rfl e0)))) (bdS 0 1 rfl (by rfl) (bdS 1 1 rfl (by rfl) (bdS 2 1 rfl (by rfl) (bdS 3 1 rfl (by rfl) bd0)))) rfl fun b11 => ?_)
  refine XL.lo rfl (l_mark rfl (by kernel_rfl) UpC.upd rfl ?_)
  refine XL.frz (B := [_]) (PickC.sing).perm ?_
  refine XL.call (aS rfl (aS rfl a0)) (by kernel_rfl) (pnew_spec (m % 2 == 0) _ [107, 101, 121, 115] _ ⟨Rd.whole (n := 4) (At.mem) (by rfl), by decide, by decide⟩) rfl ?_
  rintro v13 MP J13 ⟨pb, rfl, hP⟩
  refine XL.q (q_move rfl) rfl ?_
  refine XL.q (q_x0 rfl) rfl ?_
  refine XL.q (q_x1 rfl) rfl ?_
  refine XL.q (q_assign rfl) rfl ?_
  refine XL.q (q_assign rfl) rfl ?_
  refine XL.fin (kp 3 rfl (kp 6 rfl (kp 7 rfl kn))) ?_
  refine XC.seq ?_
  refine XC.reg ?_
  refine XL.q (q_move rfl) rfl ?_
  refine XL.q (q_cmp false rfl rfl (neF rfl)) rfl ?_
  refine XL.fin (kp 3 rfl (kp 6 rfl (kp 17 rfl kn))) ?_
  refine XC.condF rfl ?_
  refine XC.skip ?_
  refine nx (kp 3 rfl (kp 6 rfl kn)) ?_
  refine XC.reg ?_
  refine XL.q (q_move rfl) rfl ?_
  refine XL.q (q_move rfl) rfl ?_
  refine XL.q (q_loadW (n := 2) rfl (by kernel_rfl) (by first | exact At.mem | exact mA (by assumption)) (by rfl)) rfl ?_
  refine XL.lo rfl (l_call (Mc := MP) (R := _) (aS rfl (aS rfl a0)) (by kernel_rfl) PickC.perm (new_f u d pb (opK m) MP _ hP (show 0 + 200 ≤ 1048576 by decide) (show 0 + 100 < 1000000000 by decide) hG.up) rfl ?_)
  rintro v21 M21 J21 ⟨kb, MK, MP2, rfl, rfl, hK, hP2⟩
  refine XL.q (q_assign rfl) rfl ?_
  refine XL.q (q_assign rfl) rfl ?_
  refine XL.fin (kp 4 rfl (kp 5 rfl kn)) ?_
  refine XC.ret ?_
  exact ⟨_, MK ++ MP2, [(b3, blk [.int .i64 u, .int .i64 d] 35)], res2 rfl rfl rfl, Fit.pick (B := [_]) PickC.perm (Fit.last PickC.perm), pb, kb, MK, MP2, rfl, rfl, hK.mono SubC.sub, hP2⟩

set_option maxRecDepth 100000 in
theorem awake12_f (A : Mem) (hG : Glb A) : FnV Tryz.prog 12 [] A (.bool true) := by
  refine FnX.enter (N := 51) Tryz.func12 rfl rfl rfl fun w => ?_
  refine XC.keep kn ?_
  refine XC.reg ?_
  refine XL.q (q_assign rfl) rfl ?_
  refine XL.fin kn ?_
  refine XC.reg ?_
  refine XL.callV (aS rfl (aS rfl a0)) (by kernel_rfl) (who12_f 1 2 _ (by decide) (by decide)) rfl ?_
  refine XL.call (aS rfl (aS rfl a0)) (by kernel_rfl) (open12_f 1 _ _ _ (by decide) hG.up) rfl ?_
  rintro v6 M6 J6 ⟨pb, kb, MK, MP, rfl, rfl, hK, hP⟩
  have hns := newK_ps (((1 % 8 : Nat)) : Int) ((2 : Nat) : Int) (opK 1)
  have hnsn := new_sn (((1 % 8 : Nat)) : Int) ((2 : Nat) : Int) (opK 1)
  have hnon := new_on (((1 % 8 : Nat)) : Int) ((2 : Nat) : Int) (opK 1)
  have hop : (opK 1).ts.length = 0 := rfl
  generalize (newK (((1 % 8 : Nat)) : Int) ((2 : Nat) : Int) (opK 1)).1 = k at *
  generalize (newK (((1 % 8 : Nat)) : Int) ((2 : Nat) : Int) (opK 1)).2 = s at *
  obtain ⟨va, vg, vs_, vo, vm, rs, ro, rm, hr⟩ := hK.r
  have hol := on_len k
  rw [hnon] at hol
  obtain ⟨x, sl, hsg, hxn⟩ : ∃ x sl, k.signed = x :: sl ∧ x.n = 1 := by
    unfold snN at hnsn
    cases hs : k.signed with
    | nil => rw [hs] at hnsn; cases hnsn
    | cons x sl => rw [hs] at hnsn; exact ⟨x, sl, rfl, (List.cons.inj hnsn).1⟩
  refine XL.q (q_move rfl) rfl ?_
  refine XL.q (q_x0 rfl) rfl ?_
  refine XL.q (q_x1 rfl) rfl ?_
  refine XL.q (q_assign rfl) rfl ?_
  refine XL.q (q_assign rfl) rfl ?_
  refine XL.fin (kp 1 rfl (kp 2 rfl kn)) ?_
  refine XC.seq ?_
  refine XC.reg ?_
  refine XL.q (q_move rfl) rfl ?_
  refine XL.q (q_ptrEqNil (e := 96) rfl rfl (by kernel_rfl)) rfl ?_
  refine XL.fin (kp 1 rfl (kp 2 rfl (kp 10 rfl kn))) ?_
  refine XC.condF rfl ?_
  refine XC.skip ?_
  refine nx (kp 1 rfl (kp 2 rfl kn)) ?_
  refine XC.reg ?_
  refine XL.q (q_move rfl) rfl ?_
  refine XL.q (q_move rfl) rfl ?_
  refine XL.lo rfl (l_call (Mc := MP) (R := _) (aS rfl (aS rfl a0)) (by kernel_rfl) PickC.perm (bundles_f pb s kb k va vg vs_ vo vm rs ro rm x sl MP _ (hr _ SubC.sub SubC.sub) hsg hP (by omega) (by rw [← hol]; decide) hG.up) rfl ?_)
  rintro v13 M13 J13 ⟨hP13, rows, hrd, hrw⟩
  haveI := hrd.cel
  obtain ⟨hbl, hb0, hbj, -⟩ := bunK_facts (s := s) hsg
  rw [← hol] at hbl
  have hog : ∀ (j n : Nat), [2, 3, 4, 5][j]? = some n → ∃ o, k.once[j]? = some o ∧ o.n = n := fun j n h => by
    rw [← hnon] at h
    unfold onN at h
    rw [List.getElem?_map] at h
    cases ho : k.once[j]? with
    | none => rw [ho] at h; cases h
    | some o => rw [ho] at h; exact ⟨o, rfl, Option.some.inj h⟩
  obtain ⟨o0, ho0, hn0⟩ := hog 0 2 rfl
  obtain ⟨o3, ho3, hn3⟩ := hog 3 5 rfl
  have hb1 := hbj 0 o0 ho0
  have hb4 := hbj 3 o3 ho3
  obtain ⟨r0, hr0, a1, a2, a3, a4, a5, rfl, -⟩ := hrw.get 0 _ hb0
  obtain ⟨r1, hr1, c1, c2, c3, c4, c5, rfl, -⟩ := hrw.get 1 _ hb1
  obtain ⟨r4, hr4, d1, d2, d3, d4, d5, rfl, -⟩ := hrw.get 4 _ hb4
  dsimp only [bunB] at hr0 hr1 hr4
  rw [hxn] at hr0 hr1 hr4
  rw [hn0] at hr1
  rw [hn3] at hr4
  refine XL.q (q_assign rfl) rfl ?_
  refine XL.fin (kp 3 rfl kn) ?_
  refine XC.reg ?_
  refine XL.q (q_move rfl) rfl ?_
  refine XL.q (q_lenV2 (sz := 10) rfl (by kernel_rfl) hrd) rfl ?_
  rw [hbl]
  refine XL.q (q_cmp true rfl rfl (eqT rfl)) rfl ?_
  refine XL.q (q_move rfl) rfl ?_
  refine XL.gy rfl rfl (OpQ.opL (q_move rfl) rfl ?_)
  refine XL.gy rfl rfl (OpQ.opL (q_atV2 (sz := 10) (a := 0) rfl rfl (by kernel_rfl) rfl hrd (by rw [hbl]; decide)) rfl ?_)
  refine XL.gy rfl rfl (OpQ.opL (q_fldV (off := 4) rfl hrd (by rw [hbl]; decide) (by kernel_rfl)) rfl ?_)
  refine XL.gy rfl rfl (OpQ.opL (q_ldVF (u := .int .u32 ((1 : Nat) : Int)) rfl (hrd.mono SubC.sub) (by omega) (by kernel_rfl) (by rw [flat_get (hrw.lens bnT) hr0 4 (by decide)]; rfl)) rfl ?_)
  refine XL.gy rfl rfl (OpQ.opL (q_cmp true rfl rfl (eqT rfl)) rfl ?_)
  refine XL.q (q_pickT rfl rfl) rfl ?_
  refine XL.q (q_move rfl) rfl ?_
  refine XL.gy rfl rfl (OpQ.opL (q_move rfl) rfl ?_)
  refine XL.gy rfl rfl (OpQ.opL (q_atV2 (sz := 10) (a := 0) rfl rfl (by kernel_rfl) rfl hrd (by rw [hbl]; decide)) rfl ?_)
  refine XL.gy rfl rfl (OpQ.opL (q_fldV (off := 7) rfl hrd (by rw [hbl]; decide) (by kernel_rfl)) rfl ?_)
  refine XL.gy rfl rfl (OpQ.opL (q_ldVF (u := .bool false) rfl (hrd.mono SubC.sub) (by omega) (by kernel_rfl) (by rw [flat_get (hrw.lens bnT) hr0 7 (by decide)]; rfl)) rfl ?_)
  refine XL.gy rfl rfl (OpQ.opL (q_not rfl) rfl ?_)
  refine XL.q (q_pickT rfl rfl) rfl ?_
  refine XL.q (q_move rfl) rfl ?_
  refine XL.gy rfl rfl (OpQ.opL (q_move rfl) rfl ?_)
  refine XL.gy rfl rfl (OpQ.opL (q_atV2 (sz := 10) (a := 1) rfl rfl (by kernel_rfl) rfl hrd (by rw [hbl]; decide)) rfl ?_)
  refine XL.gy rfl rfl (OpQ.opL (q_fldV (off := 7) rfl hrd (by rw [hbl]; decide) (by kernel_rfl)) rfl ?_)
  refine XL.gy rfl rfl (OpQ.opL (q_ldVF (u := .bool true) rfl (hrd.mono SubC.sub) (by omega) (by kernel_rfl) (by rw [flat_get (hrw.lens bnT) hr1 7 (by decide)]; rfl)) rfl ?_)
  refine XL.q (q_pickT rfl rfl) rfl ?_
  refine XL.q (q_move rfl) rfl ?_
  refine XL.gy rfl rfl (OpQ.opL (q_move rfl) rfl ?_)
  refine XL.gy rfl rfl (OpQ.opL (q_atV2 (sz := 10) (a := 1) rfl rfl (by kernel_rfl) rfl hrd (by rw [hbl]; decide)) rfl ?_)
  refine XL.gy rfl rfl (OpQ.opL (q_fldV (off := 8) rfl hrd (by rw [hbl]; decide) (by kernel_rfl)) rfl ?_)
  refine XL.gy rfl rfl (OpQ.opL (q_ldVF (u := .int .u32 ((2 : Nat) : Int)) rfl (hrd.mono SubC.sub) (by omega) (by kernel_rfl) (by rw [flat_get (hrw.lens bnT) hr1 8 (by decide)]; rfl)) rfl ?_)
  refine XL.gy rfl rfl (OpQ.opL (q_cmp true rfl rfl (eqT rfl)) rfl ?_)
  refine XL.q (q_pickT rfl rfl) rfl ?_
  refine XL.q (q_move rfl) rfl ?_
  refine XL.gy rfl rfl (OpQ.opL (q_move rfl) rfl ?_)
  refine XL.gy rfl rfl (OpQ.opL (q_atV2 (sz := 10) (a := 4) rfl rfl (by kernel_rfl) rfl hrd (by rw [hbl]; decide)) rfl ?_)
  refine XL.gy rfl rfl (OpQ.opL (q_fldV (off := 8) rfl hrd (by rw [hbl]; decide) (by kernel_rfl)) rfl ?_)
  refine XL.gy rfl rfl (OpQ.opL (q_ldVF (u := .int .u32 ((5 : Nat) : Int)) rfl (hrd.mono SubC.sub) (by omega) (by kernel_rfl) (by rw [flat_get (hrw.lens bnT) hr4 8 (by decide)]; rfl)) rfl ?_)
  refine XL.gy rfl rfl (OpQ.opL (q_cmp true rfl rfl (eqT rfl)) rfl ?_)
  refine XL.q (q_pickT rfl rfl) rfl ?_
  refine XL.q (q_assign rfl) rfl ?_
  refine XL.fin (kp 0 rfl kn) ?_
  refine XC.ret ?_
  exact ⟨_, [], [], res1 rfl rfl, List.nil_sublist _, by simp, rfl, rfl, rfl⟩

end Go.Proofs.YtphcaiplgpmnnaaGreatDoor
/- What KeysTurns and KeysMeets keep. -/
set_option linter.unusedVariables false
set_option linter.unusedSimpArgs false
namespace Go.Proofs.YtphcaiplgpmnnaaGreatDoor
open Go.Px
/-- The last two of a row, the last first. -/
def last2 (l : List Nat) : List Nat := l.reverse.take 2
theorem last2_snoc (l : List Nat) (n : Nat) : last2 (l ++ [n]) = (n :: last2 l).take 2 := by
  unfold last2
  rw [List.reverse_append, List.reverse_cons, List.reverse_nil, List.nil_append, List.singleton_append, List.take_succ_cons, List.take_succ_cons, List.take_take]
  rfl
/-- Is a number one of the last two? -/
theorem last2_mem {l : List Nat} {m n x : Nat} (h : l.length = m + 1) (hx : l[m]? = some x) : (n ∈ last2 l) ↔ n = x ∨ (0 < m ∧ l[m - 1]? = some n) := by
  have hr : l.reverse[0]? = some x := by rw [List.getElem?_reverse (by omega), ← hx]; congr 1; omega
  unfold last2
  cases hc : l.reverse with
  | nil => rw [hc] at hr; cases hr
  | cons y t =>
    rw [hc] at hr
    cases hr
    cases t with
    | nil =>
      have : m = 0 := by have := congrArg List.length hc; rw [List.length_reverse] at this; simp at this; omega
      subst this; simp
    | cons z t =>
      have h1 : 0 < m := by have := congrArg List.length hc; rw [List.length_reverse] at this; simp at this; omega
      have h2 : l.reverse[1]? = l[m - 1]? := by rw [List.getElem?_reverse (by omega)]; congr 1; omega
      rw [hc] at h2
      rw [← h2]
      simp [h1, eq_comm]
/-- One taken out of a rising row. -/
theorem filter_out {l : List Nat} (h : l.Pairwise (· < ·)) {j x : Nat} (hx : l[j]? = some x) : (l.filter fun m => !decide (m = x)) = l.take j ++ l.drop (j + 1) := by
  obtain ⟨hj, e⟩ := List.getElem?_eq_some_iff.1 hx
  have hd : l = l.take j ++ x :: l.drop (j + 1) := by rw [← e, List.getElem_cons_drop hj, List.take_append_drop]
  have hp := h
  rw [hd] at hp
  have hq := List.pairwise_append.1 hp
  have e1 : (l.take j).filter (fun m => !decide (m = x)) = l.take j := List.filter_eq_self.2 fun a ha => by
    have := hq.2.2 a ha x (by simp)
    simp; omega
  have e2 : (l.drop (j + 1)).filter (fun m => !decide (m = x)) = l.drop (j + 1) := List.filter_eq_self.2 fun a ha => by
    have := (List.pairwise_cons.1 hq.2.1).1 a ha
    simp; omega
  conv => lhs; rw [hd]
  rw [List.filter_append, e1, List.filter_cons, e2]
  simp
theorem out_rise {l : List Nat} (h : l.Pairwise (· < ·)) (j : Nat) : (l.take j ++ l.drop (j + 1)).Pairwise (· < ·) := by
  rw [← List.eraseIdx_eq_take_drop_succ]
  exact h.sublist (List.eraseIdx_sublist _ _)
theorem out_mem {l : List Nat} {j x : Nat} (h : x ∈ l.take j ++ l.drop (j + 1)) : x ∈ l := by
  rw [← List.eraseIdx_eq_take_drop_succ] at h
  exact List.mem_of_mem_eraseIdx h
theorem more_rise {l : List Nat} {n : Nat} (h : l.Pairwise (· < ·)) (hl : ∀ x ∈ l, x < n) : ∀ i, (l ++ (List.range i).map (n + ·)).Pairwise (· < ·) ∧ ∀ x ∈ l ++ (List.range i).map (n + ·), x < n + i := by
  intro i
  refine ⟨List.pairwise_append.2 ⟨h, ?_, fun a ha b hb => ?_⟩, fun x hx => ?_⟩
  · rw [List.pairwise_map]
    exact List.pairwise_lt_range.imp fun hab => by omega
  · obtain ⟨c, _, rfl⟩ := List.mem_map.1 hb
    have := hl a ha; omega
  · rcases List.mem_append.1 hx with h1 | h1
    · have := hl x h1; omega
    · obtain ⟨c, hc, rfl⟩ := List.mem_map.1 h1
      have := List.mem_range.1 hc; omega
/-- Keys behind so many acts: which numbers there are. -/
structure TuI (i : Nat) (k : Ks) (s : Ps) (sg l : List Nat) : Prop where
  on : onN k = l
  sn : snN k = last2 sg
  ne : sg.length ≤ i + 1 ∧ 1 ≤ sg.length
  rise : l.Pairwise (· < ·)
  lt : ∀ x ∈ l, x < k.next
  slt : ∀ x ∈ sg, x < k.next
  ol : l.length ≤ 4
  nx : k.next ≤ 6 + 4 * i
  ts : s.ts.length ≤ 11 + 5 * i
  n : s.n ≤ 7 + 4 * i
theorem TuI.more {i : Nat} {k : Ks} {s : Ps} {sg l : List Nat} (h : TuI i k s sg l) : TuI (i + 1) k s sg l :=
  ⟨h.on, h.sn, ⟨by have := h.ne.1; omega, h.ne.2⟩, h.rise, h.lt, h.slt, h.ol, by have := h.nx; omega, by have := h.ts; omega, by have := h.n; omega⟩
theorem TuI.new {u d : Int} {m : Nat} : TuI 0 (newK u d (opK m)).1 (newK u d (opK m)).2 [1] [2, 3, 4, 5] := by
  have h := newK_ps u d (opK m)
  have hn := new_next u d (opK m)
  have e1 : (opK m).ts.length = 0 := rfl
  have e2 : (opK m).n = 0 := rfl
  exact ⟨new_on _ _ _, new_sn _ _ _, ⟨by decide, by decide⟩, by decide, by rw [hn]; decide, by rw [hn]; decide, by decide, by omega, by omega, by omega⟩
theorem TuI.turn {i : Nat} {k : Ks} {s : Ps} {sg l : List Nat} (h : TuI i k s sg l) : TuI (i + 1) (turnK k s).1 (turnK k s).2 (sg ++ [k.next]) l := by
  have hp := turnK_ps k s
  have hn := turnK_next k s
  have a := h.nx
  have b := h.ts
  have c := h.n
  have d := h.ne.1
  refine ⟨by rw [turn_on]; exact h.on, by rw [turn_sn, last2_snoc, h.sn], ⟨by simp; omega, by simp⟩, h.rise, fun x hx => by have := h.lt x hx; omega, fun x hx => ?_, h.ol, by omega, by omega, by omega⟩
  rw [hn]
  rcases List.mem_append.1 hx with h1 | h1
  · have := h.slt x h1; omega
  · rw [List.mem_singleton.1 h1]; omega
theorem TuI.olen {i : Nat} {k : Ks} {s : Ps} {sg l : List Nat} (h : TuI i k s sg l) : k.once.length = l.length := by rw [← h.on, on_len]
theorem TuI.fill {i : Nat} {k : Ks} {s : Ps} {sg l : List Nat} (h : TuI i k s sg l) : TuI (i + 1) (fillK k s).1 (fillK k s).2 sg (l ++ (List.range (4 - l.length)).map (k.next + ·)) := by
  have hp := fillK_ps k s
  have hn := fill_next k s
  have a := h.nx
  have b := h.ts
  have c := h.n
  have d := h.ne
  have e := h.ol
  have f := h.olen
  obtain ⟨m1, m2⟩ := more_rise h.rise h.lt (4 - l.length)
  refine ⟨by rw [fill_on, f, h.on], by rw [fill_sn]; exact h.sn, ⟨by omega, d.2⟩, m1, fun x hx => by have := m2 x hx; omega, fun x hx => by have := h.slt x hx; omega, by simp; omega, by omega, by omega, by omega⟩
theorem TuI.use {i : Nat} {k : Ks} {s : Ps} {sg l : List Nat} (h : TuI i k s sg l) {j x : Nat} (hx : l[j]? = some x) : TuI (i + 1) (useK k x) s sg (l.take j ++ l.drop (j + 1)) := by
  have hj := (List.getElem?_eq_some_iff.1 hx).1
  have e := h.ol
  have m := h.more
  exact ⟨by rw [use_on, h.on, filter_out h.rise hx], m.sn, m.ne, out_rise h.rise j, fun y hy => m.lt y (out_mem hy), m.slt, by simp; omega, m.nx, m.ts, m.n⟩
theorem TuI.riseK {i : Nat} {k : Ks} {s : Ps} {sg l : List Nat} (h : TuI i k s sg l) : Rise k.once := rise_of (by show (onN k).Pairwise _; rw [h.on]; exact h.rise)
theorem TuI.getO {i : Nat} {k : Ks} {s : Ps} {sg l : List Nat} (h : TuI i k s sg l) (n : Nat) : (getP k.once n).isSome = decide (n ∈ l) := by
  rw [getP_mem]; show decide (n ∈ onN k) = _; rw [h.on]
theorem TuI.getS {i : Nat} {k : Ks} {s : Ps} {sg l : List Nat} (h : TuI i k s sg l) (n : Nat) : (getP k.signed n).isSome = decide (n ∈ last2 sg) := by
  rw [getP_mem]; show decide (n ∈ snN k) = _; rw [h.sn]
theorem TuI.head {i : Nat} {k : Ks} {s : Ps} {sg l : List Nat} (h : TuI i k s sg l) {m x : Nat} (hl : sg.length = m + 1) (hx : sg[m]? = some x) : ∃ p sl, k.signed = p :: sl ∧ p.n = x := by
  have hs := h.sn
  unfold last2 snN at hs
  have hr : sg.reverse[0]? = some x := by rw [List.getElem?_reverse (by omega), ← hx]; congr 1; omega
  cases hc : sg.reverse with
  | nil => rw [hc] at hr; cases hr
  | cons y t =>
    rw [hc] at hr hs
    cases hr
    cases hk : k.signed with
    | nil => rw [hk] at hs; cases hs
    | cons p sl => rw [hk] at hs; exact ⟨p, sl, rfl, (List.cons.inj hs).1⟩
theorem mem_snoc_iff {l : List Nat} {j n x : Nat} (hx : l[j]? = some x) : (n ∈ l.take (j + 1)) ↔ (n ∈ l.take j ∨ n = x) := by
  rw [List.take_add_one, hx]; simp

end Go.Proofs.YtphcaiplgpmnnaaGreatDoor
/-
  A call answers the same where more stands still.
-/
set_option linter.unusedVariables false
namespace Go.Px
theorem FnX.amb {P : Program} {f : FuncId} {args : List Value} {M A A' : Mem} {post : Value → Mem → Mem → Prop} (hA : ∀ x, x ∈ A → x ∈ A') (h : FnX P f args M A post) : FnX P f args M A' post := by
  intro w hw
  have h1 : St ⟨P, w, M.map Prod.fst, A, 0⟩ M [] w := ⟨hw.os, hw.tape, hw.output, hw.size, hw.frame, fun b o hb => hw.mem b o (by
    rcases List.mem_append.1 hb with hb | hb
    · exact List.mem_append_left _ hb
    · exact List.mem_append_right _ (hA _ hb)), hw.nodup, hw.own, hw.sepJ, fun b o hb => hw.sepA b o (hA _ hb), hw.old⟩
  refine Calls.mono (h w h1) ?_
  rintro e w' ⟨r, M', J', rfl, hp, hs⟩
  refine ⟨r, M', J', rfl, hp, ⟨hs.os, hs.tape, hs.output, hs.size, hs.frame, fun b o hb => ?_, hs.nodup, hs.own, hs.sepJ, hw.sepA, hs.old⟩⟩
  rcases List.mem_append.1 hb with hb | hb
  · exact hs.mem b o (List.mem_append_left _ hb)
  · rcases List.mem_append.1 hb with hb | hb
    · exact hs.mem b o (List.mem_append_right _ (List.mem_append_left _ hb))
    · have h2 := hw.sepA b o hb
      rw [hs.frame b h2.2 h2.1]
      exact hw.mem b o (List.mem_append_right _ hb)
end Go.Px

