/- Part 18 of the texts of this claim, one behind the other. -/
import Derived.Test.YtphcaiplgpmnnaaGreatDoorB17
set_option linter.unusedVariables false
set_option linter.unusedSimpArgs false
set_option maxRecDepth 100000
namespace Go.Proofs.YtphcaiplgpmnnaaGreatDoor
open Go.Px
def preK (k : Ks) : Nat → List Nat
  | 0 => encH k
  | 1 => encH k ++ encL k.signed
  | _ => encH k ++ (encL k.signed ++ encL k.once)
def lisK (k : Ks) : Nat → List Pr
  | 0 => k.signed
  | _ => k.once
theorem preK_succ {k : Ks} {t : Nat} (h : t < 2) : preK k (t + 1) = preK k t ++ encL (lisK k t) := by
  rcases (by omega : t = 0 ∨ t = 1) with rfl | rfl
  · rfl
  · simp [preK, lisK]
theorem preK_len {k : Ks} {t : Nat} (h : t < 2) : (preK k t).length + (encL (lisK k t)).length ≤ (encK k).length := by
  rcases (by omega : t = 0 ∨ t = 1) with rfl | rfl <;> simp [preK, lisK, encK] <;> omega
theorem encL_len (l : List Pr) : (encL l).length = 2 + (encPs l).length := by simp [encL, beN_len]
theorem encPs_take_len {l : List Pr} {i : Nat} {x : Pr} (h : l[i]? = some x) : (encPs (l.take i)).length + x.sec.length + x.sig.length + 12 ≤ (encPs l).length := by
  have h1 := encPs_le l (i + 1)
  rw [encPs_take h, List.length_append, encPr_len] at h1
  omega
theorem encNs_take_len {l : List Nm} {i : Nat} {x : Nm} (h : l[i]? = some x) : (encNs (l.take i)).length + x.id.length + 8 ≤ (encNs l).length := by
  have h1 := encNs_le l (i + 1)
  rw [encNs_take h, List.length_append, encNm_len] at h1
  omega

theorem ltN {k : IntKind} (a b : Nat) : arith .lss k ((a : Nat) : Int) ((b : Nat) : Int) = some (.bool (decide (a < b))) := by
  by_cases h : a < b
  · rw [decide_eq_true h]; exact ltT (by omega)
  · rw [decide_eq_false h]; exact ltF (by omega)

theorem wdone_o (wb : Nat) (ws : List Nat) (M A : Mem) (hW : Wtr wb ws M) (hl : ws.length ≤ 16777216) : FnX Tryz.prog 55 [.pointer (some ⟨wb, 0, none⟩)] M A fun q M J => ∃ MW B, M = B ++ MW ∧ Wtr wb ws MW ∧ Sl 1 q ws.length (nums .u8 ws) B := by
 obtain ⟨⟨v, B, rfl, hsl⟩, hlt⟩ := hW
 haveI := hsl.cel
 refine FnX.enterZ (N := 8) Tryz.func55 rfl rfl rfl fun w_ => ?_
 refine XC.keep (kq 0 kn) ?_
 refine XC.reg ?_
 refine as_ ?_
 refine XL.fin (kq 0 kn) ?_
 refine XC.reg ?_
 refine mv_ ?_
 refine XL.q (q_nil rfl) rfl ?_
 refine XL.q (qf_ 0 0) rfl ?_
 refine XL.q ql_ rfl ?_
 refine XL.lo rfl (l_append2 (e := 5) (sz := 1) (by_ := 1) rfl rfl (by kernel_rfl) rfl Sl.nil (hsl.rd SubC.sub) nums_one PickC.perm (by unfold maxLen; omega) (by omega) rfl fun v7 B7 hs7 => ?_)
 refine as_ ?_
 refine XL.fin (kq 2 kn) ?_
 refine XC.ret ?_
 exact ⟨_, B7 ++ ((wb, blk [v] 89) :: B), [], res1 rfl rfl, Fit.none (Fit.last PickC.perm), _, B7, rfl, ⟨⟨v, B, rfl, hsl⟩, hlt⟩, by simpa using hs7⟩

theorem encode_o (kb : Nat) (k : Ks) (va vg vq vo vm : Value) (rs ro rm : List (List Value)) (A : Mem) (hK : KyR A kb k va vg vq vo vm rs ro rm) (hu : ∃ u : Nat, k.user = (u : Int) ∧ u < 4294967296) (hd : ∃ u : Nat, k.dev = (u : Int) ∧ u < 4294967296) (hl : (encK k).length ≤ 16777216) : FnX Tryz.prog 30 [.pointer (some ⟨kb, 0, none⟩)] [] A fun q M J => Sl 1 q (encK k).length (nums .u8 (encK k)) M ∧ ∀ x ∈ encK k, x < 256 := by
 have hkb := hK.blk_
 haveI := hK.agree.cel
 haveI := hK.sign.cel
 haveI := hK.signed.cel
 haveI := hK.once.cel
 haveI := hK.met.cel
 obtain ⟨u, hu, hu4⟩ := hu
 obtain ⟨d, hd, hd4⟩ := hd
 have hal := hK.agree.len
 have hgl := hK.sign.len
 have hel := encK_len k
 rw [hu, hd] at hkb
 refine FnX.enterZ (N := 113) Tryz.func30 rfl rfl rfl fun w_ => ?_
 refine XC.keep (kq 0 kn) ?_
 refine XC.reg ?_
 refine as_ ?_
 refine XL.fin (kq 0 kn) ?_
 refine XC.reg ?_
 refine XL.q (q_build (place := fun x => #[(0, 1)][x]?) (z := [.slice none 0 0]) (fun _ => by kernel_rfl) e0 bd0) rfl ?_
 refine XL.lo rfl (bx_ fun b11 => ?_)
 refine as_ ?_
 refine XL.fin (kq 0 (kq 3 kn)) ?_
 refine XC.seq ?_
 refine XC.reg ?_
 refine mv_ ?_
 refine XL.q (q_ptrEqNil (e := 96) rfl rfl (by kernel_rfl)) rfl ?_
 refine XL.fin (kq 0 (kq 3 (kq 13 kn))) ?_
 refine XC.condF rfl ?_
 refine XC.skip ?_
 refine nx (kq 0 (kq 3 kn)) ?_
 refine XC.drawK ([(b11, blk [.slice none 0 0] 89)]) (_) true [0, 1, 2, 3, 4, 5, 6, 7, 8, 9, 10, 11, 12, 13, 14, 15, 16, 17, 18, 19, 20, 21, 22, 23, 24, 25, 26, 27, 28, 29, 30] [(0, 0), (1, 0), (2, 0), (3, 0), (4, 0), (5, 1), (6, 0), (8, 0), (9, 0), (10, 0), (11, 0), (12, 1), (13, 0), (15, 0), (16, 0), (17, 0), (18, 1), (20, 0), (21, 0), (22, 0), (23, 1), (25, 0), (26, 0), (27, 0), (28, 1), (29, 0), (7, 2), (14, 2), (19, 2), (24, 2), (30, 2)] (by kernel_rfl) (by kernel_rfl) PickC.perm fun hs K n0 hKm hKs hKn => ?_
 refine XK.q hs rfl qm_ rfl ?_
 refine XK.q hs rfl qm_ rfl ?_
 refine XK.q hs rfl (q_nil rfl) rfl ?_
 refine XK.q hs rfl (qf_ 0 0) rfl ?_
 refine XK.q hs rfl (qf_ 0 0) rfl ?_
 refine XK.r hs rfl (by first | exact fun x hx => by rw [List.append_assoc]; exact List.mem_append_right _ hx | exact SubC.sub) hKs (q_load rfl (by kernel_rfl) (mA hkb) (by rfl)) rfl ?_
 refine XK.q hs rfl (q_convN (k' := .u64) u rfl (by kernel_rfl) (wrapU64 (by omega))) rfl ?_
 refine XK.q hs rfl qm_ rfl ?_
 refine XK.q hs rfl (q_nil rfl) rfl ?_
 refine XK.q hs rfl (qf_ 0 0) rfl ?_
 refine XK.q hs rfl (qf_ 1 1) rfl ?_
 refine XK.r hs rfl (by first | exact fun x hx => by rw [List.append_assoc]; exact List.mem_append_right _ hx | exact SubC.sub) hKs (q_load rfl (by kernel_rfl) (mA hkb) (by rfl)) rfl ?_
 refine XK.q hs rfl (q_convN (k' := .u64) d rfl (by kernel_rfl) (wrapU64 (by omega))) rfl ?_
 refine XK.q hs rfl qm_ rfl ?_
 refine XK.q hs rfl (q_nil rfl) rfl ?_
 refine XK.q hs rfl (qf_ 2 2) rfl ?_
 refine XK.r hs rfl (by first | exact fun x hx => by rw [List.append_assoc]; exact List.mem_append_right _ hx | exact SubC.sub) hKs (q_load rfl (by kernel_rfl) (mA hkb) (by rfl)) rfl ?_
 refine XK.q hs rfl qm_ rfl ?_
 refine XK.q hs rfl (q_nil rfl) rfl ?_
 refine XK.q hs rfl (qf_ 3 3) rfl ?_
 refine XK.r hs rfl (by first | exact fun x hx => by rw [List.append_assoc]; exact List.mem_append_right _ hx | exact SubC.sub) hKs (q_load rfl (by kernel_rfl) (mA hkb) (by rfl)) rfl ?_
 refine XK.q hs rfl qm_ rfl ?_
 refine XK.q hs rfl (q_nil rfl) rfl ?_
 refine XK.q hs rfl (qf_ 6 6) rfl ?_
 refine XK.r hs rfl (by first | exact fun x hx => by rw [List.append_assoc]; exact List.mem_append_right _ hx | exact SubC.sub) hKs (q_load rfl (by kernel_rfl) (mA hkb) (by rfl)) rfl ?_
 refine XK.q hs rfl (q_convN (k' := .u64) k.next rfl (by kernel_rfl) (wrapU64 (by have := hK.next; omega))) rfl ?_
 refine XK.lo _ _ rfl rfl (List.Perm.refl _) hKm fun w0 => (l_call (Mc := [(b11, blk [.slice none 0 0] 89)]) (R := _) (aS rfl (aS rfl (aS rfl (a0)))) (by kernel_rfl) PickC.perm (wnum_spec b11 (u) 4 _ _ _ Wtr.new (by omega) (by decide) (by decide)) rfl ?_)
 rintro v23 M23 J23 ⟨rfl, hW23⟩ hKx23
 refine XK.lo M23 _ rfl rfl PickC.perm (fun x hx => hKx23 (hKn rfl) x (by simpa using hx)) fun w0 => (l_call (Mc := M23) (R := _) (aS rfl (aS rfl (aS rfl (a0)))) (by kernel_rfl) PickC.perm (wnum_spec b11 (d) 4 _ _ _ hW23 (by omega) (by decide) (by first | (simp [beN_len]; done) | (simp [beN_len]; omega))) rfl ?_)
 rintro v30 M30 J30 ⟨rfl, hW30⟩ hKx30
 refine XK.lo M30 _ rfl rfl PickC.perm (fun x hx => hKx30 (hKn rfl) x (by simpa using hx)) fun w0 => (l_call (Mc := M30) (R := _) (aS rfl (aS rfl (a0))) (by kernel_rfl) PickC.perm (wbytes_spec b11 va k.agree _ _ _ hW30 (hK.agree.mono SubC.sub) (by first | (simp [beN_len]; done) | (simp [beN_len]; omega))) rfl ?_)
 rintro v35 M35 J35 ⟨rfl, hW35⟩ hKx35
 refine XK.lo M35 _ rfl rfl PickC.perm (fun x hx => hKx35 (hKn rfl) x (by simpa using hx)) fun w0 => (l_call (Mc := M35) (R := _) (aS rfl (aS rfl (a0))) (by kernel_rfl) PickC.perm (wbytes_spec b11 vg k.sign _ _ _ hW35 (hK.sign.mono SubC.sub) (by first | (simp [beN_len]; done) | (simp [beN_len]; omega))) rfl ?_)
 rintro v40 M40 J40 ⟨rfl, hW40⟩ hKx40
 refine XK.lo M40 _ rfl rfl PickC.perm (fun x hx => hKx40 (hKn rfl) x (by simpa using hx)) fun w0 => (l_call (Mc := M40) (R := _) (aS rfl (aS rfl (aS rfl (a0)))) (by kernel_rfl) PickC.perm (wnum_spec b11 (k.next) 4 _ _ _ hW40 (by have := hK.next; omega) (by decide) (by first | (simp [beN_len]; done) | (simp [beN_len]; omega))) rfl ?_)
 rintro v46 M46 J46 ⟨rfl, hW46⟩ hKx46
 refine XK.fin (kq 0 (kq 3 kn)) ?_
 refine XC.seq ?_
 dsimp only [List.nil_append, List.append_eq, List.append_nil]
 replace hW46 : Wtr b11 (preK k 0) M46 := hW46.eq (by simp [preK, encH, encB, hu, hd, List.append_assoc])
 refine XC.drawF [0, 1, 2, 3, 4, 5, 6, 7, 8, 9, 10] [(0, 0), (1, 0), (2, 0), (3, 1), (4, 0), (5, 0), (6, 0), (7, 1), (10, 0), (8, 2), (9, 0)] (by kernel_rfl) (by kernel_rfl) fun hs => ?_
 refine XF.q hs rfl qm_ rfl ?_
 refine XF.q hs rfl (q_nil rfl) rfl ?_
 refine XF.q hs rfl (qf_ 4 4) rfl ?_
 refine XF.r hs rfl (q_load rfl (by kernel_rfl) (mA hkb) (by rfl)) rfl ?_
 refine XF.q hs rfl qm_ rfl ?_
 refine XF.q hs rfl (q_nil rfl) rfl ?_
 refine XF.q hs rfl (qf_ 5 5) rfl ?_
 refine XF.r hs rfl (q_load rfl (by kernel_rfl) (mA hkb) (by rfl)) rfl ?_
 refine XF.q hs rfl qm_ rfl ?_
 refine XF.lo rfl rfl fun _ => (l_buildSlice (e := 93) (sz := 1) (z := [.slice none 0 0, .slice none 0 0]) (by kernel_rfl) (eS rfl (eS rfl e0)) (bdS 0 1 rfl (by rfl) (bdS 1 1 rfl (by rfl) bd0)) rfl fun b55 => ?_)
 refine XF.q hs rfl (q_lenS (e := 93) rfl (by kernel_rfl)) rfl ?_
 refine XF.fin (kq 0 (kq 3 (kq 55 (kq 56 (kq 57 kn))))) ?_
 refine XC.block ?_
 refine XC.frz (B := [(b55, blk [vq, vo] 93)]) PickC.perm ?_
 refine XC.loop (α := Nat × Mem) (fun y => [(0, .pointer (some ⟨kb, 0, none⟩)), (3, .pointer (some ⟨b11, 0, none⟩)), (55, .slice (some ⟨b55, 0, none⟩) 2 2), (56, .int .i64 2), (57, .int .i64 ((y.1 : Nat) : Int))]) (fun y => y.2) (fun _ => [(b55, blk [vq, vo] 93)]) (fun y => y.1 ≤ 2 ∧ Wtr b11 (preK k y.1) y.2) (fun y => 2 - y.1) (0, M46) ⟨Nat.zero_le _, hW46⟩ (kq 0 (kq 3 (kq 55 (kq 56 (kq 57 kn))))) (Fit.last PickC.perm) SubC.sub ?_
 rintro ⟨t, MW⟩ ⟨ht, hW⟩
 dsimp only at ht hW ⊢
 refine XC.reg ?_
 refine XL.q (q_cmp (decide (t < 2)) rfl rfl (ltN t 2)) rfl ?_
 refine XL.fin (kq 0 (kq 3 (kq 55 (kq 56 (kq 57 (kq 58 kn)))))) ?_
 refine XC.seq ?_
 refine XC.cond rfl (fun hc => ?_) (fun hc => ?_)
 ·
  have ht2 : t < 2 := of_decide_eq_true hc
  have hps := preK_succ (k := k) ht2
  have hpl := preK_len (k := k) ht2
  rw [encL_len] at hpl
  obtain ⟨vt, rt, hvt, hrd, hrw, hlt⟩ : ∃ vt rt, [vq, vo][t]? = some vt ∧ Rd A 3 vt (lisK k t).length rt.flatten ∧ RwL prR A rt (lisK k t) ∧ (lisK k t).length ≤ 1000000 := by
   rcases (by omega : t = 0 ∨ t = 1) with rfl | rfl
   · exact ⟨vq, rs, rfl, hK.signed, hK.signedR, hK.l1⟩
   · exact ⟨vo, ro, rfl, hK.once, hK.onceR, hK.l2⟩
  haveI := hrd.cel
  generalize lisK k t = lt at *
  refine XC.skip ?_
  refine nx (kq 0 (kq 3 (kq 55 (kq 56 (kq 57 kn))))) ?_
  refine XC.seq ?_
  refine XC.block ?_
  refine XC.reg ?_
  refine XL.q (q_atV2 (sz := 1) rfl rfl (by kernel_rfl) rfl (Rd.whole (n := 2) (R := [(b55, blk [vq, vo] 93)]) List.mem_cons_self (by rfl)) ht2) rfl ?_
  refine XL.q (q_ldV (u := vt) (Rd.whole (n := 2) (cs := [vq, vo]) At.mem (by rfl)) rfl (by kernel_rfl) hvt) rfl ?_
  refine as_ ?_
  refine XL.fin (kq 0 (kq 3 (kq 5 (kq 55 (kq 56 (kq 57 kn)))))) ?_
  refine XC.reg ?_
  refine mv_ (mv_ ?_)
  refine XL.q (q_lenV2 (sz := 3) rfl (by kernel_rfl) hrd) rfl ?_
  refine XL.q (q_convN (k' := .u64) lt.length rfl (by kernel_rfl) (wrapU64 (by omega))) rfl ?_
  refine XL.lo rfl (l_call (Mc := MW) (R := _) (aS rfl (aS rfl (aS rfl a0))) (by kernel_rfl) PickC.perm (wnum_spec b11 lt.length 2 _ _ _ hW (by omega) (by decide) (by omega)) rfl ?_)
  rintro v65 M65 J65 ⟨rfl, hW65⟩
  refine XL.fin (kq 0 (kq 3 (kq 5 (kq 55 (kq 56 (kq 57 kn)))))) ?_
  refine XC.reg ?_
  refine mv_ ?_
  refine XL.q (q_lenV2 (sz := 3) rfl (by kernel_rfl) hrd) rfl ?_
  refine mv_ ?_
  refine XL.fin (kq 0 (kq 3 (kq 55 (kq 56 (kq 57 (kq 66 (kq 67 (kq 68 kn)))))))) ?_
  refine XC.block ?_
  refine XC.loop (α := Nat × Mem) (fun y => [(0, .pointer (some ⟨kb, 0, none⟩)), (3, .pointer (some ⟨b11, 0, none⟩)), (55, .slice (some ⟨b55, 0, none⟩) 2 2), (56, .int .i64 2), (57, .int .i64 ((t : Nat) : Int)), (66, vt), (67, .int .i64 ((lt.length : Nat) : Int)), (68, .int .i64 ((y.1 : Nat) : Int))]) (fun y => y.2) (fun _ => [(b55, blk [vq, vo] 93)]) (fun y => y.1 ≤ lt.length ∧ Wtr b11 (preK k t ++ beN lt.length 2 ++ encPs (lt.take y.1)) y.2) (fun y => lt.length - y.1) (0, M65) ⟨Nat.zero_le _, hW65.eq (by simp [encPs])⟩ (kq 0 (kq 3 (kq 55 (kq 56 (kq 57 (kq 66 (kq 67 (kq 68 kn)))))))) (Fit.last PickC.perm) SubC.sub ?_
  rintro ⟨i, MI⟩ ⟨hi, hWi⟩
  dsimp only at hi hWi ⊢
  refine XC.reg ?_
  refine XL.q (q_cmp (decide (i < lt.length)) rfl rfl (ltN i lt.length)) rfl ?_
  refine XL.fin (kq 0 (kq 3 (kq 55 (kq 56 (kq 57 (kq 66 (kq 67 (kq 68 (kq 69 kn))))))))) ?_
  refine XC.seq ?_
  refine XC.cond rfl (fun hc => ?_) (fun hc => ?_)
  ·
   have hil : i < lt.length := of_decide_eq_true hc
   obtain ⟨o, ho⟩ : ∃ o, lt[i]? = some o := ⟨_, List.getElem?_eq_getElem hil⟩
   obtain ⟨r1, hr1, vo1, vo2, rfl, ho1, ho2, hon⟩ := hrw.get i o ho
   haveI := ho1.cel
   haveI := ho2.cel
   have hst := encPs_take ho
   have hsl := encPs_take_len ho
   refine XC.skip ?_
   refine nx (kq 0 (kq 3 (kq 55 (kq 56 (kq 57 (kq 66 (kq 67 (kq 68 kn)))))))) ?_
   refine XC.seq ?_
   refine XC.block ?_
   refine XC.reg ?_
   refine XL.q (q_atV2 (sz := 3) rfl rfl (by kernel_rfl) rfl hrd hil) rfl ?_
   refine XL.q (q_ldVR rfl (by kernel_rfl) (hrd.mono SubC.sub) (hrw.lens prT) (by decide) hr1) rfl ?_
   refine XL.lo rfl (l_alloc (cs := [.int .u32 0, .slice none 0 0, .slice none 0 0]) (by kernel_rfl) rfl fun b7 => ?_)
   refine XL.lo rfl (l_storeW (vs := [.int .u32 ((o.n : Nat) : Int), vo1, vo2]) rfl rfl rfl (by kernel_rfl) (by rfl) (allS rfl (allS ho1.one (allS ho2.one all0))) UpC.upd ?_)
   refine XL.fin (kq 0 (kq 3 (kq 7 (kq 55 (kq 56 (kq 57 (kq 66 (kq 67 (kq 68 kn))))))))) ?_
   refine XC.drawK1 (MI) (_) true [0, 1, 2, 3, 4, 5, 6, 7, 8, 9, 10] [(0, 0), (1, 0), (2, 1), (3, 0), (5, 0), (6, 1), (8, 0), (9, 1), (4, 2), (7, 2), (10, 2)] (by kernel_rfl) (by kernel_rfl) PickC.perm fun hs K n0 hKm hKs hKn => ?_
   refine XK.q hs rfl qm_ rfl ?_
   refine XK.q hs rfl (qf_ 0 0) rfl ?_
   refine XK.r hs rfl (by first | exact fun x hx => by rw [List.append_assoc]; exact List.mem_append_right _ hx | exact SubC.sub) hKs ql_ rfl ?_
   refine XK.q hs rfl (q_convN (k' := .u64) o.n rfl (by kernel_rfl) (wrapU64 (by omega))) rfl ?_
   refine XK.q hs rfl (qf_ 1 1) rfl ?_
   refine XK.r hs rfl (by first | exact fun x hx => by rw [List.append_assoc]; exact List.mem_append_right _ hx | exact SubC.sub) hKs ql_ rfl ?_
   refine XK.q hs rfl (qf_ 2 2) rfl ?_
   refine XK.r hs rfl (by first | exact fun x hx => by rw [List.append_assoc]; exact List.mem_append_right _ hx | exact SubC.sub) hKs ql_ rfl ?_
   refine XK.lo _ _ rfl rfl (List.Perm.refl _) hKm fun w0 => (l_call (Mc := MI) (R := _) (aS rfl (aS rfl (aS rfl (a0)))) (by kernel_rfl) PickC.perm (wnum_spec b11 (o.n) 4 _ _ _ hWi (by omega) (by decide) (by first | (simp [beN_len]; done) | (simp [beN_len]; omega))) rfl ?_)
   rintro v76 M76 J76 ⟨rfl, hW76⟩ hKx76
   refine XK.lo M76 _ rfl rfl PickC.perm (fun x hx => hKx76 (hKn rfl) x (by simpa using hx)) fun w0 => (l_call (Mc := M76) (R := _) (aS rfl (aS rfl (a0))) (by kernel_rfl) PickC.perm (wbytes_spec b11 vo1 o.sec _ _ _ hW76 (ho1.mono SubC.sub) (by first | (simp [beN_len]; done) | (simp [beN_len]; omega))) rfl ?_)
   rintro v79 M79 J79 ⟨rfl, hW79⟩ hKx79
   refine XK.lo M79 _ rfl rfl PickC.perm (fun x hx => hKx79 (hKn rfl) x (by simpa using hx)) fun w0 => (l_call (Mc := M79) (R := _) (aS rfl (aS rfl (a0))) (by kernel_rfl) PickC.perm (wbytes_spec b11 vo2 o.sig _ _ _ hW79 (ho2.mono SubC.sub) (by first | (simp [beN_len]; done) | (simp [beN_len]; omega))) rfl ?_)
   rintro v82 M82 J82 ⟨rfl, hW82⟩ hKx82
   refine XK.nil ?_
   refine nb ?_
   refine nx (kq 0 (kq 3 (kq 55 (kq 56 (kq 57 (kq 66 (kq 67 (kq 68 kn)))))))) ?_
   refine XC.reg1 ?_
   refine XL.q (q_num ((i + 1 : Nat) : Int) rfl rfl (add64 (by omega) (by omega) (by omega))) rfl ?_
   refine mv_ ?_
   refine XL.nil ?_
   exact rn (i + 1, M82) ⟨hil, hW82.eq (by rw [hst]; simp [encPr, encB, List.append_assoc])⟩ (by dsimp only; omega) (kq 0 (kq 3 (kq 55 (kq 56 (kq 57 (kq 66 (kq 67 (kq 68 kn)))))))) (Fit.last PickC.perm) SubC.sub
  ·
   have hil : i = lt.length := by have := of_decide_eq_false hc; omega
   subst hil
   rw [List.take_length] at hWi
   replace hWi : Wtr b11 (preK k (t + 1)) MI := hWi.eq (by rw [hps]; simp [encL, List.append_assoc])
   refine XC.exit ?_
   refine te ?_
   refine re ?_
   refine be rfl ?_
   refine nb ?_
   refine nx (kq 0 (kq 3 (kq 55 (kq 56 (kq 57 kn))))) ?_
   refine XC.reg1 ?_
   refine XL.q (q_num ((t + 1 : Nat) : Int) rfl rfl (add64 (by omega) (by omega) (by omega))) rfl ?_
   refine mv_ ?_
   refine XL.nil ?_
   exact rn (t + 1, MI) ⟨ht2, hWi⟩ (by dsimp only; omega) (kq 0 (kq 3 (kq 55 (kq 56 (kq 57 kn))))) (Fit.last PickC.perm) SubC.sub
 ·
  have ht2 : t = 2 := by have := of_decide_eq_false hc; omega
  subst ht2
  refine XC.exit ?_
  refine te ?_
  refine re ?_
  refine be rfl ?_
  refine nx (kq 0 (kq 3 kn)) ?_
  have hp2 : (preK k 2).length + 4 + (encNs k.met).length = (encK k).length := by simp [preK, encK, encM, beN_len]; omega
  have hl3 := hK.l3
  refine XC.reg ?_
  refine mv_ (mv_ ?_)
  refine XL.q (q_nil rfl) rfl ?_
  refine XL.q (qf_ 7 7) rfl ?_
  refine XL.q (q_load rfl (by kernel_rfl) (mA hkb) (by rfl)) rfl ?_
  refine XL.q (q_lenV2 (sz := 2) rfl (by kernel_rfl) hK.met) rfl ?_
  refine XL.q (q_convN (k' := .u64) k.met.length rfl (by kernel_rfl) (wrapU64 (by omega))) rfl ?_
  refine XL.lo rfl (l_call (Mc := MW) (R := _) (aS rfl (aS rfl (aS rfl a0))) (by kernel_rfl) PickC.perm (wnum_spec b11 k.met.length 4 _ _ _ hW (by omega) (by decide) (by omega)) rfl ?_)
  rintro v92 M92 J92 ⟨rfl, hW92⟩
  refine XL.fin (kq 0 (kq 3 kn)) ?_
  refine XC.seq ?_
  refine XC.reg ?_
  refine mv_ ?_
  refine XL.q (q_nil rfl) rfl ?_
  refine XL.q (qf_ 7 7) rfl ?_
  refine XL.q (q_load rfl (by kernel_rfl) (mA hkb) (by rfl)) rfl ?_
  refine XL.q (q_lenV2 (sz := 2) rfl (by kernel_rfl) hK.met) rfl ?_
  refine mv_ ?_
  refine XL.fin (kq 3 (kq 96 (kq 97 (kq 98 kn)))) ?_
  refine XC.block ?_
  refine XC.loop (α := Nat × Mem) (fun y => [(3, .pointer (some ⟨b11, 0, none⟩)), (96, vm), (97, .int .i64 ((k.met.length : Nat) : Int)), (98, .int .i64 ((y.1 : Nat) : Int))]) (fun y => y.2) (fun _ => []) (fun y => y.1 ≤ k.met.length ∧ Wtr b11 (preK k 2 ++ beN k.met.length 4 ++ encNs (k.met.take y.1)) y.2) (fun y => k.met.length - y.1) (0, M92) ⟨Nat.zero_le _, hW92.eq (by simp [encNs])⟩ (kq 3 (kq 96 (kq 97 (kq 98 kn)))) (Fit.last PickC.perm) SubC.sub ?_
  rintro ⟨i, MI⟩ ⟨hi, hWi⟩
  dsimp only at hi hWi ⊢
  refine XC.reg ?_
  refine XL.q (q_cmp (decide (i < k.met.length)) rfl rfl (ltN i k.met.length)) rfl ?_
  refine XL.fin (kq 3 (kq 96 (kq 97 (kq 98 (kq 99 kn))))) ?_
  refine XC.seq ?_
  refine XC.cond rfl (fun hc => ?_) (fun hc => ?_)
  ·
   have hil : i < k.met.length := of_decide_eq_true hc
   obtain ⟨o, ho⟩ : ∃ o, k.met[i]? = some o := ⟨_, List.getElem?_eq_getElem hil⟩
   obtain ⟨r1, hr1, vo1, rfl, ho1, hon⟩ := hK.metR.get i o ho
   haveI := ho1.cel
   have hst := encNs_take ho
   have hsl := encNs_take_len ho
   refine XC.skip ?_
   refine nx (kq 3 (kq 96 (kq 97 (kq 98 kn)))) ?_
   refine XC.seq ?_
   refine XC.block ?_
   refine XC.reg ?_
   refine XL.q (q_atV2 (sz := 2) rfl rfl (by kernel_rfl) rfl hK.met hil) rfl ?_
   refine XL.q (q_ldVR rfl (by kernel_rfl) (hK.met.mono SubC.sub) (hK.metR.lens nmT) (by decide) hr1) rfl ?_
   refine XL.lo rfl (l_alloc (cs := [.int .u32 0, .slice none 0 0]) (by kernel_rfl) rfl fun b9 => ?_)
   refine XL.lo rfl (l_storeW (vs := [.int .u32 ((o.n : Nat) : Int), vo1]) rfl rfl rfl (by kernel_rfl) (by rfl) (allS rfl (allS ho1.one all0)) UpC.upd ?_)
   refine XL.fin (kq 3 (kq 9 (kq 96 (kq 97 (kq 98 kn))))) ?_
   refine XC.drawK1 (MI) (_) true [0, 1, 2, 3, 4, 5, 6, 7] [(0, 0), (1, 0), (2, 1), (3, 0), (5, 0), (6, 1), (4, 2), (7, 2)] (by kernel_rfl) (by kernel_rfl) PickC.perm fun hs K n0 hKm hKs hKn => ?_
   refine XK.q hs rfl qm_ rfl ?_
   refine XK.q hs rfl (qf_ 0 0) rfl ?_
   refine XK.r hs rfl (by first | exact fun x hx => by rw [List.append_assoc]; exact List.mem_append_right _ hx | exact SubC.sub) hKs ql_ rfl ?_
   refine XK.q hs rfl (q_convN (k' := .u64) o.n rfl (by kernel_rfl) (wrapU64 (by omega))) rfl ?_
   refine XK.q hs rfl (qf_ 1 1) rfl ?_
   refine XK.r hs rfl (by first | exact fun x hx => by rw [List.append_assoc]; exact List.mem_append_right _ hx | exact SubC.sub) hKs ql_ rfl ?_
   refine XK.lo _ _ rfl rfl (List.Perm.refl _) hKm fun w0 => (l_call (Mc := MI) (R := _) (aS rfl (aS rfl (aS rfl (a0)))) (by kernel_rfl) PickC.perm (wnum_spec b11 (o.n) 4 _ _ _ hWi (by omega) (by decide) (by first | (simp [beN_len]; done) | (simp [beN_len]; omega))) rfl ?_)
   rintro v106 M106 J106 ⟨rfl, hW106⟩ hKx106
   refine XK.lo M106 _ rfl rfl PickC.perm (fun x hx => hKx106 (hKn rfl) x (by simpa using hx)) fun w0 => (l_call (Mc := M106) (R := _) (aS rfl (aS rfl (a0))) (by kernel_rfl) PickC.perm (wbytes_spec b11 vo1 o.id _ _ _ hW106 (ho1.mono SubC.sub) (by first | (simp [beN_len]; done) | (simp [beN_len]; omega))) rfl ?_)
   rintro v109 M109 J109 ⟨rfl, hW109⟩ hKx109
   refine XK.nil ?_
   refine nb ?_
   refine nx (kq 3 (kq 96 (kq 97 (kq 98 kn)))) ?_
   refine XC.reg1 ?_
   refine XL.q (q_num ((i + 1 : Nat) : Int) rfl rfl (add64 (by omega) (by omega) (by omega))) rfl ?_
   refine mv_ ?_
   refine XL.nil ?_
   exact rn (i + 1, M109) ⟨hil, hW109.eq (by rw [hst]; simp [encNm, encB, List.append_assoc])⟩ (by dsimp only; omega) (kq 3 (kq 96 (kq 97 (kq 98 kn)))) (Fit.last PickC.perm) SubC.sub
  ·
   have hil : i = k.met.length := by have := of_decide_eq_false hc; omega
   subst hil
   rw [List.take_length] at hWi
   replace hWi : Wtr b11 (encK k) MI := hWi.eq (by simp [preK, encK, encM, List.append_assoc])
   refine XC.exit ?_
   refine te ?_
   refine re ?_
   refine be rfl ?_
   refine nx (kq 3 kn) ?_
   refine XC.reg ?_
   refine mv_ ?_
   refine XL.lo rfl (l_call (Mc := MI) (R := _) (aS rfl a0) (by kernel_rfl) PickC.perm (wdone_o b11 _ _ _ hWi (by omega)) rfl ?_)
   rintro v112 M112 J112 ⟨MW2, B112, rfl, hW112, hb112⟩
   haveI := hb112.cel
   refine as_ ?_
   refine XL.fin (kq 2 kn) ?_
   refine XC.ret ?_
   exact ⟨_, B112, [], res1 rfl rfl, Fit.none (Fit.last PickC.perm), hb112, hW112.lt⟩

theorem encode_f (kb : Nat) (k : Ks) (va vg vq vo vm : Value) (rs ro rm : List (List Value)) (A : Mem) (hK : KyR A kb k va vg vq vo vm rs ro rm) (hu : ∃ u : Nat, k.user = (u : Int) ∧ u < 4294967296) (hd : ∃ u : Nat, k.dev = (u : Int) ∧ u < 4294967296) (hl : (encK k).length ≤ 16777216) : FnX Tryz.prog 30 [.pointer (some ⟨kb, 0, none⟩)] [] A fun q M J => M = [] ∧ By J q (encK k) := by
  refine (FnX.frz (post := fun q B M J => M = [] ∧ (Sl 1 q (encK k).length (nums .u8 (encK k)) B ∧ ∀ x ∈ encK k, x < 256)) ((encode_o kb k va vg vq vo vm rs ro rm A hK hu hd hl).mono fun q M J h => ⟨M, [], by simp, rfl, h⟩)).mono ?_
  rintro q M J ⟨B, J2, rfl, h1, h2, h3⟩
  exact ⟨h1, ⟨h2.rd fun x hx => List.mem_append_left _ hx, h3, hl⟩⟩

end Go.Proofs.YtphcaiplgpmnnaaGreatDoor
/- What KeysTurns and KeysMeets keep. -/
namespace Go.Proofs.YtphcaiplgpmnnaaGreatDoor
open Go.Px
/-- The last two of a row, the last first. -/
def last2 (l : List Nat) : List Nat := l.reverse.take 2
theorem last2_snoc (l : List Nat) (n : Nat) : last2 (l ++ [n]) = (n :: last2 l).take 2 := by
  unfold last2
  rw [List.reverse_append, List.reverse_cons, List.reverse_nil, List.nil_append, List.singleton_append, List.take_succ_cons, List.take_succ_cons, List.take_take]
  rfl
/-- Is a number one of the last two? -/
theorem last2_mem {l : List Nat} {m n x : Nat} (h : l.length = m + 1) (hx : l[m]? = some x) : (n ∈ last2 l) ↔ n = x ∨ (0 < m ∧ l[m - 1]? = some n) := by
  have hr : l.reverse[0]? = some x := by rw [List.getElem?_reverse (by omega), ← hx]; congr 1; omega
  unfold last2
  cases hc : l.reverse with
  | nil => rw [hc] at hr; cases hr
  | cons y t =>
    rw [hc] at hr
    cases hr
    cases t with
    | nil =>
      have : m = 0 := by have := congrArg List.length hc; rw [List.length_reverse] at this; simp at this; omega
      subst this; simp
    | cons z t =>
      have h1 : 0 < m := by have := congrArg List.length hc; rw [List.length_reverse] at this; simp at this; omega
      have h2 : l.reverse[1]? = l[m - 1]? := by rw [List.getElem?_reverse (by omega)]; congr 1; omega
      rw [hc] at h2
      rw [← h2]
      simp [h1, eq_comm]
/-- Keys behind so many acts: which numbers there are. -/
structure TuI (i : Nat) (k : Ks) (s : Ps) (sg l : List Nat) : Prop where
  on : onN k = l
  sn : snN k = last2 sg
  ne : sg.length ≤ i + 1 ∧ 1 ≤ sg.length
  rise : l.Pairwise (· < ·)
  lt : ∀ x ∈ l, x < k.next
  slt : ∀ x ∈ sg, x < k.next
  ol : l.length ≤ 4
  nx : k.next ≤ 6 + 4 * i
  ts : s.ts.length ≤ 11 + 5 * i
  n : s.n ≤ 7 + 4 * i
theorem TuI.more {i : Nat} {k : Ks} {s : Ps} {sg l : List Nat} (h : TuI i k s sg l) : TuI (i + 1) k s sg l :=
  ⟨h.on, h.sn, ⟨by have := h.ne.1; omega, h.ne.2⟩, h.rise, h.lt, h.slt, h.ol, by have := h.nx; omega, by have := h.ts; omega, by have := h.n; omega⟩
theorem TuI.new {u d : Int} {m : Nat} : TuI 0 (newK u d (opK m)).1 (newK u d (opK m)).2 [1] [2, 3, 4, 5] := by
  have h := newK_ps u d (opK m)
  have hn := new_next u d (opK m)
  have e1 : (opK m).ts.length = 0 := rfl
  have e2 : (opK m).n = 0 := rfl
  exact ⟨new_on _ _ _, new_sn _ _ _, ⟨by decide, by decide⟩, by decide, by rw [hn]; decide, by rw [hn]; decide, by decide, by omega, by omega, by omega⟩
theorem TuI.turn {i : Nat} {k : Ks} {s : Ps} {sg l : List Nat} (h : TuI i k s sg l) : TuI (i + 1) (turnK k s).1 (turnK k s).2 (sg ++ [k.next]) l := by
  have hp := turnK_ps k s
  have hn := turnK_next k s
  have a := h.nx
  have b := h.ts
  have c := h.n
  have d := h.ne.1
  refine ⟨by rw [turn_on]; exact h.on, by rw [turn_sn, last2_snoc, h.sn], ⟨by simp; omega, by simp⟩, h.rise, fun x hx => by have := h.lt x hx; omega, fun x hx => ?_, h.ol, by omega, by omega, by omega⟩
  rw [hn]
  rcases List.mem_append.1 hx with h1 | h1
  · have := h.slt x h1; omega
  · rw [List.mem_singleton.1 h1]; omega
theorem TuI.olen {i : Nat} {k : Ks} {s : Ps} {sg l : List Nat} (h : TuI i k s sg l) : k.once.length = l.length := by rw [← h.on, on_len]
theorem TuI.riseK {i : Nat} {k : Ks} {s : Ps} {sg l : List Nat} (h : TuI i k s sg l) : Rise k.once := rise_of (by show (onN k).Pairwise _; rw [h.on]; exact h.rise)
theorem TuI.getS {i : Nat} {k : Ks} {s : Ps} {sg l : List Nat} (h : TuI i k s sg l) (n : Nat) : (getP k.signed n).isSome = decide (n ∈ last2 sg) := by
  rw [getP_mem]; show decide (n ∈ snN k) = _; rw [h.sn]
end Go.Proofs.YtphcaiplgpmnnaaGreatDoor
/- The walk of KeysTurns. -/
namespace Go.Proofs.YtphcaiplgpmnnaaGreatDoor
open Go.Px
theorem last2_dec {l : List Nat} {n : Nat} (h : 1 ≤ l.length) : decide (n ∈ last2 l) = (decide (n = l.getD (l.length - 1) 0) || (decide (1 < l.length) && decide (n = l.getD (l.length - 2) 0))) := by
  have hx : l[l.length - 1]? = some (l.getD (l.length - 1) 0) := by
    rw [List.getD_eq_getElem?_getD, List.getElem?_eq_getElem (by omega)]; rfl
  have h1 := last2_mem (n := n) (m := l.length - 1) (by omega) hx
  rw [Bool.eq_iff_iff]
  simp only [decide_eq_true_iff, Bool.or_eq_true, Bool.and_eq_true]
  rw [h1]
  refine or_congr Iff.rfl ⟨fun ⟨a, b⟩ => ⟨by omega, ?_⟩, fun ⟨a, b⟩ => ⟨by omega, ?_⟩⟩
  · rw [List.getD_eq_getElem?_getD, show l.length - 2 = l.length - 1 - 1 by omega, b]; rfl
  · subst b
    rw [List.getD_eq_getElem?_getD, show l.length - 2 = l.length - 1 - 1 by omega, List.getElem?_eq_getElem (by omega)]; rfl
theorem eqN {k : IntKind} (a b : Nat) : arith .eql k ((a : Nat) : Int) ((b : Nat) : Int) = some (.bool (decide (a = b))) := by
  by_cases h : a = b
  · rw [decide_eq_true h]; exact eqT (by omega)
  · rw [decide_eq_false h]; exact eqF (by omega)
theorem gtN {k : IntKind} (a b : Nat) : arith .gtr k ((b : Nat) : Int) ((a : Nat) : Int) = some (.bool (decide (a < b))) := by
  by_cases h : a < b
  · rw [decide_eq_true h]; exact gtT (by omega)
  · rw [decide_eq_false h]; exact gtF (by omega)
structure TuS where
  i : Nat
  k : Ks
  s : Ps
  sg : List Nat
  l : List Nat
  vs : Value
  vo : Value
  Bs : Mem
  Bo : Mem
  MK : Mem
  MP : Mem
  J : Mem

end Go.Proofs.YtphcaiplgpmnnaaGreatDoor
/- The walks of wire's Count, of the test whether prekeys rise, of keys.Decode. -/
namespace Go.Proofs.YtphcaiplgpmnnaaGreatDoor
open Go.Px
theorem rnN_lk {st : Rst} (h : ∀ x ∈ st.1, x < 256) (k : Nat) : rnN st k < 256 ^ k := by
  unfold rnN
  split
  · exact Nat.pow_pos (by decide)
  · rename_i hc
    have h1 := bev_lt (ws := st.1.take k) fun x hx => h x (List.mem_of_mem_take hx)
    exact Nat.lt_of_lt_of_le h1 (Nat.pow_le_pow_right (by decide) (List.length_take_le _ _))
theorem Rdr.lt {rb : Nat} {st : Rst} {R M : Mem} (h : Rdr rb st R M) : ∀ x ∈ st.1, x < 256 := by
  obtain ⟨v, _, hb⟩ := h.ex; exact hb.lt
theorem Rdr.lt4 {rb : Nat} {st : Rst} {R M : Mem} (h : Rdr rb st R M) : rnN st 4 < 4294967296 := rnN_lk h.lt 4
theorem dPs_snoc : ∀ (i : Nat) (st : Rst), dPs (i + 1) st = ((dPs i st).1 ++ [dPr (dPs i st).2], dPrS (dPs i st).2)
  | 0, st => rfl
  | i + 1, st => by
    have h := dPs_snoc i (dPrS st)
    rw [dPs, h]
    rfl
theorem dPs_len (i : Nat) (st : Rst) : (dPs i st).1.length = i := (dPs_le i st).2

theorem rcount_spec (rb most : Nat) (st : Rst) (R M A : Mem) (hR : Rdr rb st R M) (hs : ∀ x, x ∈ R → x ∈ A) (hm : most ≤ 65535) : FnX Tryz.prog 75 [.pointer (some ⟨rb, 0, none⟩), .int .i64 ((most : Nat) : Int)] M A fun q M J => q = .int .i64 ((ctN st most : Nat) : Int) ∧ Rdr rb (ctS st most) R M := by
 refine FnX.enterZ (N := 20) Tryz.func75 rfl rfl rfl fun w_ => ?_
 refine XC.keep (kq 0 (kq 1 kn)) ?_
 refine XC.reg ?_
 refine as_ ?_
 refine XL.fin (kq 0 (kq 1 kn)) ?_
 refine XC.reg ?_
 refine mv_ ?_
 refine XL.lo rfl (l_call (Mc := M) (R := _) (aS rfl (aS rfl a0)) (by kernel_rfl) PickC.perm (rnum_spec rb 2 st R M _ hR (fun x hx => SubC.sub x (hs x hx)) (by decide)) rfl ?_)
 rintro v7 M7 J7 ⟨rfl, hR7⟩
 have hn2 : rnN st 2 < 65536 := rnN_lk hR.lt 2
 refine as_ ?_
 refine XL.fin (kq 0 (kq 1 (kq 5 kn))) ?_
 refine XC.seq ?_
 refine XC.reg ?_
 refine mv_ ?_
 refine XL.q (q_cmp false rfl rfl (ltF (by omega))) rfl ?_
 refine mv_ ?_
 refine XL.gy rfl rfl (OpQ.opL qm_ rfl ?_)
 refine XL.gy rfl rfl (OpQ.opL qm_ rfl ?_)
 refine XL.gy rfl rfl (OpQ.opL (q_convN (k' := .u64) most rfl (by kernel_rfl) (wrapU64 (by omega))) rfl ?_)
 refine XL.gy rfl rfl (OpQ.opL (q_cmp (decide (most < rnN st 2)) rfl rfl (gtN _ _)) rfl ?_)
 refine XL.q (q_pickF rfl rfl) rfl ?_
 refine XL.fin (kq 0 (kq 5 (kq 15 kn))) ?_
 refine XC.cond rfl (fun hc => ?_) (fun hc => ?_)
 ·
  have hc2 : rnN st 2 > most := of_decide_eq_true hc
  have e1 : ctN st most = 0 := if_pos hc2
  have e2 : ctS st most = ((rnS st 2).1, true) := if_pos hc2
  refine XC.reg ?_
  refine mv_ ?_
  refine XL.lo rfl (l_call (Mc := M7) (R := _) (aS rfl a0) (by kernel_rfl) PickC.perm (spoil_spec rb _ R M7 _ hR7) rfl ?_)
  rintro v17 M17 J17 hR17
  refine XL.fin kn ?_
  refine XC.reg ?_
  refine as_ ?_
  refine XL.fin (kq 4 kn) ?_
  refine XC.ret ?_
  refine tr ?_
  exact ⟨_, M17, [], res1 rfl rfl, Fit.none (Fit.last PickC.perm), by rw [e1]; rfl, by rw [e2]; exact hR17⟩
 ·
  have hc2 : ¬ rnN st 2 > most := of_decide_eq_false hc
  have e1 : ctN st most = rnN st 2 := if_neg hc2
  have e2 : ctS st most = rnS st 2 := if_neg hc2
  refine XC.skip ?_
  refine nx (kq 5 kn) ?_
  refine XC.reg ?_
  refine mv_ ?_
  refine XL.q (q_same (k' := .i64) rfl (by kernel_rfl) (by show _ < 9223372036854775808; omega)) rfl ?_
  refine as_ ?_
  refine XL.fin (kq 4 kn) ?_
  refine XC.ret ?_
  exact ⟨_, M7, [], res1 rfl rfl, Fit.none (Fit.last PickC.perm), by rw [e1], by rw [e2]; exact hR7⟩

theorem decc_f (vs vg vs2 vg2 : Value) (x y : Pr) (A : Mem) (h1 : By A vs x.sec) (h2 : By A vg x.sig) (h3 : By A vs2 y.sec) (h4 : By A vg2 y.sig) : FnV Tryz.prog 78 [.agg #[.int .u32 ((x.n : Nat) : Int), vs, vg], .agg #[.int .u32 ((y.n : Nat) : Int), vs2, vg2]] A (.int .i64 (cmpK x.n y.n)) := by
 haveI := h1.cel
 haveI := h2.cel
 haveI := h3.cel
 haveI := h4.cel
 refine FnX.enter (N := 10) Tryz.func78 rfl rfl rfl fun w_ => ?_
 refine XC.keep (kq 0 (kq 1 kn)) ?_
 refine XC.reg ?_
 refine XL.lo rfl (bx_ fun b2 => ?_)
 refine XL.lo rfl (bx_ fun b3 => ?_)
 refine as_ ?_
 refine XL.fin (kq 2 (kq 3 kn)) ?_
 refine XC.reg ?_
 refine XL.q (qf_ 0 0) rfl ?_
 refine XL.q ql_ rfl ?_
 refine XL.q (qf_ 0 0) rfl ?_
 refine XL.q ql_ rfl ?_
 refine XL.callV (aS rfl (aS rfl a0)) (by kernel_rfl) (compare32_f x.n y.n _) rfl ?_
 refine as_ ?_
 refine XL.fin (kq 4 kn) ?_
 refine XC.ret ?_
 exact ⟨_, [], [], res1 rfl rfl, List.nil_sublist _, by simp, rfl, rfl, rfl⟩

theorem sorted_f (v : Value) (rows : List (List Value)) (l : List Pr) (A : Mem) (hv : Rd A 3 v l.length rows.flatten) (hR : RwL prR A rows l) (hl : l.length ≤ 1000000) : FnV Tryz.prog 77 [v, .func (.func 78) #[] #[]] A (.bool (sortP l)) := by
 haveI := hv.cel
 refine FnX.enter (N := 25) Tryz.func77 rfl rfl rfl fun w => ?_
 refine XC.keep (kq 0 (kq 1 kn)) ?_
 refine XC.reg ?_
 refine as_ ?_
 refine XL.fin (kq 0 (kq 1 kn)) ?_
 refine XC.seq ?_
 refine XC.reg ?_
 refine mv_ ?_
 refine XL.q (q_lenV2 (sz := 3) rfl (by kernel_rfl) hv) rfl ?_
 refine XL.q (q_num (((l.length : Nat) : Int) - 1) rfl rfl (sub64 (by omega) (by omega) (by omega))) rfl ?_
 refine as_ ?_
 refine XL.fin (kq 0 (kq 1 (kq 5 kn))) ?_
 refine XC.block ?_
 refine XC.loop (α := Int) (fun i => [(0, v), (1, .func (.func 78) #[] #[]), (5, .int .i64 i)]) (fun _ => []) (fun _ => []) (fun i => -1 ≤ i ∧ i < ((l.length : Nat) : Int) ∧ sortP l = sortI l i.toNat) (fun i => i.toNat) (((l.length : Nat) : Int) - 1) ⟨by omega, by omega, by show sortI l (l.length - 1) = _; congr 1; omega⟩ (kq 0 (kq 1 (kq 5 kn))) .rfl (fun _ h => h) ?_
 rintro i ⟨hi1, hi2, hi3⟩
 refine XC.seq ?_
 refine XC.reg ?_
 refine mv_ ?_
 refine XL.q (q_cmp (decide (0 < i)) rfl rfl (by by_cases h : 0 < i; rw [decide_eq_true h]; exact gtT h; rw [decide_eq_false h]; exact gtF (by omega))) rfl ?_
 refine XL.fin (kq 0 (kq 1 (kq 5 (kq 10 kn)))) ?_
 refine XC.cond rfl (fun hc => ?_) (fun hc => ?_)
 ·
  have h0 : 0 < i := of_decide_eq_true hc
  obtain ⟨j, rfl⟩ : ∃ j : Nat, i = ((j + 1 : Nat) : Int) := ⟨i.toNat - 1, by omega⟩
  have hj1 : j + 1 < l.length := by omega
  obtain ⟨x, hx⟩ : ∃ x, l[j + 1]? = some x := ⟨_, List.getElem?_eq_getElem hj1⟩
  obtain ⟨y, hy⟩ : ∃ y, l[j]? = some y := ⟨_, List.getElem?_eq_getElem (by omega)⟩
  obtain ⟨r1, hr1, x1, x2, rfl, hx1, hx2, hxn⟩ := hR.get _ x hx
  obtain ⟨r2, hr2, y1, y2, rfl, hy1, hy2, hyn⟩ := hR.get _ y hy
  haveI := hx1.cel
  haveI := hx2.cel
  haveI := hy1.cel
  haveI := hy2.cel
  have hst := sortI_succ hx hy
  rw [Int.toNat_natCast] at hi3
  refine XC.skip ?_
  refine nx (kq 0 (kq 1 (kq 5 kn))) ?_
  refine XC.seq ?_
  refine XC.block ?_
  refine XC.drawF [0, 1, 2, 3, 4, 5, 6, 7, 8, 9, 11] [(0, 0), (1, 0), (2, 0), (3, 0), (4, 1), (5, 0), (6, 0), (7, 0), (8, 0), (9, 1), (10, 2), (11, 0)] (by kernel_rfl) (by kernel_rfl) fun hs => ?_
  refine XF.q hs rfl qm_ rfl ?_
  refine XF.q hs rfl qm_ rfl ?_
  refine XF.q hs rfl qm_ rfl ?_
  refine XF.q hs rfl (q_atV2 (sz := 3) (a := j + 1) rfl rfl (by kernel_rfl) rfl hv hj1) rfl ?_
  refine XF.r hs rfl (q_ldVR rfl (by kernel_rfl) (hv.mono SubC.sub) (hR.lens prT) (by decide) hr1) rfl ?_
  refine XF.q hs rfl qm_ rfl ?_
  refine XF.q hs rfl qm_ rfl ?_
  refine XF.q hs rfl (q_num ((j : Nat) : Int) rfl rfl (sub64 (by omega) (by omega) (by omega))) rfl ?_
  refine XF.q hs rfl (q_atV2 (sz := 3) (a := j) rfl rfl (by kernel_rfl) rfl hv (by omega)) rfl ?_
  refine XF.r hs rfl (q_ldVR rfl (by kernel_rfl) (hv.mono SubC.sub) (hR.lens prT) (by decide) hr2) rfl ?_
  refine XF.tl rfl rfl rfl (l_callFV rfl (aS rfl (aS rfl a0)) (by kernel_rfl) (decc_f x1 x2 y1 y2 x y _ (hx1.mono SubC.sub) (hx2.mono SubC.sub) (hy1.mono SubC.sub) (hy2.mono SubC.sub)) rfl ?_)
  refine XF.q hs rfl (q_cmp (decide (x.n < y.n)) rfl rfl (cmpK_lss _ _)) rfl ?_
  refine XF.fin (kq 0 (kq 1 (kq 5 (kq 24 kn)))) ?_
  refine XC.cond rfl (fun hc => ?_) (fun hc => ?_)
  ·
   have hf : sortP l = false := by rw [hi3, hst, if_pos (of_decide_eq_true hc)]
   refine XC.reg ?_
   refine as_ ?_
   refine XL.fin (kq 4 kn) ?_
   refine XC.ret ?_
   refine br ?_
   refine tr ?_
   refine rr ?_
   refine br ?_
   refine tr ?_
   exact ⟨_, [], [], res1 rfl rfl, List.nil_sublist _, by simp, by rw [hf], rfl, rfl⟩
  ·
   rw [hst, if_neg (of_decide_eq_false hc)] at hi3
   refine XC.skip ?_
   refine nb ?_
   refine nx (kq 0 (kq 1 (kq 5 kn))) ?_
   refine XC.reg1 ?_
   refine mv_ ?_
   refine XL.q (q_num ((j : Nat) : Int) rfl rfl (sub64 (by omega) (by omega) (by omega))) rfl ?_
   refine as_ ?_
   refine XL.nil ?_
   exact rn ((j : Nat) : Int) ⟨by omega, by omega, by rw [Int.toNat_natCast]; exact hi3⟩ (by omega) (kq 0 (kq 1 (kq 5 kn))) .rfl (fun _ h => h)
 ·
  have h0 : sortP l = true := by
   have h : ¬ 0 < i := of_decide_eq_false hc
   rw [hi3, show i.toNat = 0 by omega]; rfl
  refine XC.exit ?_
  refine te ?_
  refine re ?_
  refine be rfl ?_
  refine nx kn ?_
  refine XC.reg ?_
  refine as_ ?_
  refine XL.fin (kq 4 kn) ?_
  refine XC.ret ?_
  exact ⟨_, [], [], res1 rfl rfl, List.nil_sublist _, by simp, by rw [h0], rfl, rfl⟩

end Go.Proofs.YtphcaiplgpmnnaaGreatDoor
/- The walk of keys.Decode. -/
namespace Go.Proofs.YtphcaiplgpmnnaaGreatDoor
open Go.Px
theorem decOk_end {p : List Nat} (h : rEnd (dkM p).2 = false) : decOk p = false := by unfold decOk; rw [h]; simp
theorem decOk_emp {p : List Nat} (h : (dkS p).1.length = 0) : decOk p = false := by
  unfold decOk; rw [List.length_eq_zero_iff.1 h]; simp
theorem decOk_srt {p : List Nat} (h : sortP (dkO p).1 = false) : decOk p = false := by unfold decOk; rw [h]; simp
theorem decOk_enc {p : List Nat} (h : ¬ p = encK (decK p)) : decOk p = false := by
  unfold decOk; rw [decide_eq_false fun e => h e.symm]; simp
theorem decOk_all {p : List Nat} (h1 : rEnd (dkM p).2 = true) (h2 : ¬ (dkS p).1.length = 0) (h3 : sortP (dkO p).1 = true) (h4 : p = encK (decK p)) : decOk p = true := by
  unfold decOk
  have e : (dkS p).1.isEmpty = false := by
    cases hh : (dkS p).1 with
    | nil => rw [hh] at h2; exact absurd rfl h2
    | cons a l => rfl
  rw [h1, h3, e, decide_eq_true h4.symm]; rfl
/-- Keys in the making. -/
structure DeS where
  i : Nat
  vx : Value
  rx : List (List Value)
  Bx : Mem
  MR : Mem
  J : Mem

set_option maxHeartbeats 1600000 in
theorem decode_f (v : Value) (p : List Nat) (A : Mem) (hv : By A v p) (hpl : p.length ≤ 700000) : FnX Tryz.prog 29 [v] [] A fun q M J => (decOk p = true ∧ ∃ kb, q = .tuple #[.pointer (some ⟨kb, 0, none⟩), .int .i64 0] ∧ Kys J kb (decK p) M) ∨ (decOk p = false ∧ q = .tuple #[.pointer none, .int .i64 4] ∧ M = []) := by
 haveI := hv.cel
 refine FnX.enterZ (N := 120) Tryz.func29 rfl rfl rfl fun w_ => ?_
 refine XC.keep (kq 0 kn) ?_
 refine XC.reg ?_
 refine as_ (as_ ?_)
 refine XL.fin (kq 0 kn) ?_
 refine XC.reg ?_
 refine mv_ ?_
 refine XL.lo rfl (l_call0 (aS rfl a0) (by kernel_rfl) (wread_spec v p A _ hv) rfl ?_)
 rintro v11 M11 J11 ⟨rb, rfl, hR11⟩
 refine as_ ?_
 refine XL.fin (kq 0 (kq 4 kn)) ?_
 refine XC.reg ?_
 refine mv_ ?_
 refine XL.lo rfl (l_call (Mc := M11) (R := _) (aS rfl (aS rfl a0)) (by kernel_rfl) PickC.perm (rnum_spec rb 4 (p, false) A M11 _ hR11 SubC.sub (by decide)) rfl ?_)
 rintro v13 M13 J13 ⟨rfl, hR13⟩
 have hlt13 := hR11.lt4
 obtain ⟨n1, hn1⟩ : ∃ n, rnN (p, false) 4 = n := ⟨_, rfl⟩
 rw [hn1] at hlt13 ⊢
 change Rdr rb (dk1 p) A M13 at hR13
 refine XL.q (q_same (k' := .i64) rfl (by kernel_rfl) (by show _ < 9223372036854775808; omega)) rfl ?_
 refine mv_ ?_
 refine XL.lo rfl (l_call (Mc := M13) (R := _) (aS rfl (aS rfl a0)) (by kernel_rfl) PickC.perm (rnum_spec rb 4 (dk1 p) A M13 _ hR13 SubC.sub (by decide)) rfl ?_)
 rintro v16 M16 J16 ⟨rfl, hR16⟩
 have hlt16 := hR13.lt4
 obtain ⟨n2, hn2⟩ : ∃ n, rnN (dk1 p) 4 = n := ⟨_, rfl⟩
 rw [hn2] at hlt16 ⊢
 change Rdr rb (dk2 p) A M16 at hR16
 refine XL.q (q_same (k' := .i64) rfl (by kernel_rfl) (by show _ < 9223372036854775808; omega)) rfl ?_
 refine XL.q (q_build (place := fun x => #[(0, 1), (1, 1)][x]?) (z := [.int .i64 0, .int .i64 0]) (fun _ => by kernel_rfl) (eS rfl (eS rfl e0)) (bdS 0 1 rfl (by rfl) (bdS 1 1 rfl (by rfl) bd0))) rfl ?_
 refine mv_ ?_
 refine XL.lo rfl (l_call (Mc := M16) (R := _) (aS rfl (aS rfl a0)) (by kernel_rfl) PickC.perm (rbytes_spec rb 65536 (dk2 p) A M16 _ hR16 SubC.sub (by decide)) rfl ?_)
 rintro v20 M20 J20 ⟨h20, hR20⟩
 haveI := h20.cel
 change Rdr rb (dk3 p) A M20 at hR20
 refine mv_ ?_
 refine XL.lo rfl (l_call (Mc := M20) (R := _) (aS rfl (aS rfl a0)) (by kernel_rfl) PickC.perm (rbytes_spec rb 65536 (dk3 p) A M20 _ hR20 SubC.sub (by decide)) rfl ?_)
 rintro v22 M22 J22 ⟨h22, hR22⟩
 haveI := h22.cel
 change Rdr rb (dk4 p) A M22 at hR22
 refine mv_ ?_
 refine XL.lo rfl (l_call (Mc := M22) (R := _) (aS rfl (aS rfl a0)) (by kernel_rfl) PickC.perm (rnum_spec rb 4 (dk4 p) A M22 _ hR22 SubC.sub (by decide)) rfl ?_)
 rintro v24 M24 J24 ⟨rfl, hR24⟩
 have hlt24 := hR22.lt4
 obtain ⟨n5, hn5⟩ : ∃ n, rnN (dk4 p) 4 = n := ⟨_, rfl⟩
 rw [hn5] at hlt24 ⊢
 change Rdr rb (dk5 p) A M24 at hR24
 have hdk : decK p = ⟨((n1 : Nat) : Int), ((n2 : Nat) : Int), rbN (dk2 p) 65536, rbN (dk3 p) 65536, (dkS p).1, (dkO p).1, n5, (dkM p).1⟩ := by unfold decK; rw [hn1, hn2, hn5]
 obtain ⟨hz1, hz2, hz3, hz4⟩ := decK_sz p
 rw [hdk] at hz2 hz3 hz4
 dsimp only at hz2 hz3 hz4
 clear hn1 hn2 hn5
 refine XL.q (q_convN (k' := .u32) n5 rfl (by kernel_rfl) (wrapU32 (by omega))) rfl ?_
 refine XL.q (q_build (place := fun x => #[(0, 2), (2, 1), (3, 1), (4, 1), (5, 1), (6, 1), (7, 1)][x]?) (z := [.int .i64 0, .int .i64 0, .slice none 0 0, .slice none 0 0, .slice none 0 0, .slice none 0 0, .int .u32 0, .slice none 0 0]) (fun _ => by kernel_rfl) (eS rfl (eS rfl (eS rfl (eS rfl e0)))) (bdS 0 2 rfl (by rfl) (bdS 2 1 rfl (by rfl) (bdS 3 1 rfl (by rfl) (bdS 6 1 rfl (by rfl) bd0))))) rfl ?_
 refine XL.lo rfl (bx_ fun b27 => ?_)
 refine as_ ?_
 refine XL.fin (kq 0 (kq 4 (kq 5 kn))) ?_
 refine XC.seq ?_
 refine XC.drawF [0, 1, 2, 3, 4, 5, 6, 7, 8] [(0, 0), (1, 0), (2, 0), (3, 0), (4, 0), (5, 0), (8, 0), (6, 2), (7, 0)] (by kernel_rfl) (by kernel_rfl) fun hs => ?_
 refine XF.q hs rfl qm_ rfl ?_
 refine XF.q hs rfl (q_nil rfl) rfl ?_
 refine XF.q hs rfl (qf_ 4 4) rfl ?_
 refine XF.q hs rfl qm_ rfl ?_
 refine XF.q hs rfl (q_nil rfl) rfl ?_
 refine XF.q hs rfl (qf_ 5 5) rfl ?_
 refine XF.q hs rfl qm_ rfl ?_
 refine XF.lo rfl rfl fun _ => (l_buildSlice (e := 117) (sz := 1) (z := [.pointer none, .pointer none]) (by kernel_rfl) (eS rfl (eS rfl e0)) (bdS 0 1 rfl (by rfl) (bdS 1 1 rfl (by rfl) bd0)) rfl fun b34 => ?_)
 refine XF.q hs rfl (q_lenS (e := 117) rfl (by kernel_rfl)) rfl ?_
 refine XF.frz (B := [(b34, blk [.pointer (some ⟨b27, 4, none⟩), .pointer (some ⟨b27, 5, none⟩)] 117)]) PickC.perm ?_
 refine XF.fin (kq 0 (kq 4 (kq 5 (kq 34 (kq 35 (kq 36 kn)))))) ?_
 refine XC.block ?_
 refine XC.rounds 3 ?_
 refine XR.step ?_
 refine XC.reg ?_
 refine XL.q (q_cmp true rfl rfl (ltT (by decide))) rfl ?_
 refine XL.fin (kq 0 (kq 4 (kq 5 (kq 34 (kq 35 (kq 36 (kq 37 kn))))))) ?_
 refine XC.seq ?_
 refine XC.condT rfl ?_
 refine XC.skip ?_
 refine nx (kq 0 (kq 4 (kq 5 (kq 34 (kq 35 (kq 36 kn)))))) ?_
 refine XC.seq ?_
 refine XC.block ?_
 refine XC.reg ?_
 refine mv_ ?_
 refine XL.q (q_atV2 (sz := 1) (a := 0) rfl rfl (by kernel_rfl) rfl (Rd.whole (n := 2) (R := [(b34, blk [.pointer (some ⟨b27, 4, none⟩), .pointer (some ⟨b27, 5, none⟩)] 117)]) (cs := [.pointer (some ⟨b27, 4, none⟩), .pointer (some ⟨b27, 5, none⟩)]) List.mem_cons_self (by rfl)) (by decide)) rfl ?_
 refine XL.q (q_ldV (j := 0) (u := .pointer (some ⟨b27, 4, none⟩)) (Rd.whole (n := 2) (cs := [.pointer (some ⟨b27, 4, none⟩), .pointer (some ⟨b27, 5, none⟩)]) At.mem (by rfl)) rfl (by kernel_rfl) rfl) rfl ?_
 refine as_ (as_ ?_)
 refine XL.fin (kq 0 (kq 4 (kq 5 (kq 6 (kq 7 (kq 34 (kq 35 (kq 36 kn)))))))) ?_
 refine XC.reg ?_
 refine mv_ ?_
 refine XL.lo rfl (l_buildSlice (e := 3) (sz := 1) (z := [.int .i64 0, .int .i64 0]) (by kernel_rfl) (eS rfl (eS rfl e0)) (bdS 0 1 rfl (by rfl) (bdS 1 1 rfl (by rfl) bd0)) rfl fun b42 => ?_)
 refine mv_ ?_
 refine XL.q (q_atV2 (sz := 1) (a := 0) rfl rfl (by kernel_rfl) rfl (Rd.whole (n := 2) (R := [(b42, blk [.int .i64 ((2 : Nat) : Int), .int .i64 ((4 : Nat) : Int)] 3)]) (cs := [.int .i64 ((2 : Nat) : Int), .int .i64 ((4 : Nat) : Int)]) List.mem_cons_self (by rfl)) (by decide)) rfl ?_
 refine XL.q (q_ldV (j := 0) (u := .int .i64 ((2 : Nat) : Int)) (Rd.whole (n := 2) (cs := [.int .i64 ((2 : Nat) : Int), .int .i64 ((4 : Nat) : Int)]) At.mem (by rfl)) rfl (by kernel_rfl) rfl) rfl ?_
 refine XL.lo rfl (l_call (Mc := M24) (R := _) (aS rfl (aS rfl a0)) (by kernel_rfl) PickC.perm (rcount_spec rb 2 (dk5 p) A M24 _ hR24 SubC.sub (by decide)) rfl ?_)
 rintro v46 M46 J46 ⟨rfl, hR46⟩
 refine mv_ ?_
 refine XL.fin (kq 0 (kq 4 (kq 5 (kq 7 (kq 34 (kq 35 (kq 36 (kq 46 (kq 47 kn))))))))) ?_
 refine XC.block ?_
 obtain ⟨J1, hJ1⟩ : ∃ J1 : Mem, J1 = (b34, blk [.pointer (some ⟨b27, 4, none⟩), .pointer (some ⟨b27, 5, none⟩)] 117) :: (J22 ++ J20) := ⟨_, rfl⟩
 refine XC.loop (α := DeS) (fun y => [(0, v), (4, .pointer (some ⟨rb, 0, none⟩)), (5, .pointer (some ⟨b27, 0, none⟩)), (7, .pointer (some ⟨b27, 4, none⟩)), (34, .slice (some ⟨b34, 0, none⟩) 2 2), (35, .int .i64 2), (36, .int .i64 0), (46, .int .i64 (((ctN (dk5 p) 2) : Nat) : Int)), (47, .int .i64 ((y.i : Nat) : Int))]) (fun y => (b27, blk [.int .i64 ((n1 : Nat) : Int), .int .i64 ((n2 : Nat) : Int), v20, v22, y.vx, .slice none 0 0, .int .u32 ((n5 : Nat) : Int), .slice none 0 0] 96) :: (y.Bx ++ (y.MR))) (fun y => y.J) (fun y => y.i ≤ (ctN (dk5 p) 2) ∧ Sl 3 y.vx y.i y.rx.flatten y.Bx ∧ RwL prR y.J y.rx (dPs y.i (ctS (dk5 p) 2)).1 ∧ Rdr rb (dPs y.i (ctS (dk5 p) 2)).2 A y.MR ∧ ∀ z, z ∈ J1 → z ∈ y.J) (fun y => (ctN (dk5 p) 2) - y.i) ⟨0, .slice none 0 0, [], [], M46, J1⟩ ⟨Nat.zero_le _, Sl.nil, RwL.nil, hR46, fun z h => h⟩ (kq 0 (kq 4 (kq 5 (kq 7 (kq 34 (kq 35 (kq 36 (kq 46 (kq 47 kn))))))))) (Fit.pick (B := [_]) PickC.perm (Fit.none (Fit.last PickC.perm))) (by first | (rw [hJ1]; exact SubC.sub) | exact SubC.sub) ?_
 rintro ⟨i, vx, rx, Bx, MR, JX⟩ ⟨hi, hsx, hrx, hRx, hJX⟩
 dsimp only at hi hsx hrx hRx hJX ⊢
 haveI := hsx.cel
 have hsn := dPs_snoc i (ctS (dk5 p) 2)
 refine XC.reg ?_
 refine XL.q (q_cmp (decide (i < (ctN (dk5 p) 2))) rfl rfl (ltN i _)) rfl ?_
 refine XL.fin (kq 0 (kq 4 (kq 5 (kq 7 (kq 34 (kq 35 (kq 36 (kq 46 (kq 47 (kq 48 kn)))))))))) ?_
 refine XC.seq ?_
 refine XC.cond rfl (fun hc => ?_) (fun hc => ?_)
 ·
  have hil : i < (ctN (dk5 p) 2) := of_decide_eq_true hc
  have hct := ctN_le (dk5 p) 2
  refine XC.skip ?_
  refine nx (kq 0 (kq 4 (kq 5 (kq 7 (kq 34 (kq 35 (kq 36 (kq 46 (kq 47 kn))))))))) ?_
  refine XC.seq ?_
  refine XC.block ?_
  refine XC.drawK1 (MR) (_) true [0, 1, 2, 3, 4, 5, 6, 7, 8, 9, 10, 11, 12, 14] [(0, 0), (1, 0), (2, 0), (3, 1), (4, 0), (7, 0), (9, 0), (5, 2), (6, 0), (8, 2), (10, 2), (11, 0), (12, 2), (13, 2), (14, 0), (15, 2)] (by kernel_rfl) (by kernel_rfl) PickC.perm fun hs K n0 hKm hKs hKn => ?_
  refine XK.q hs rfl qm_ rfl ?_
  refine XK.q hs rfl qm_ rfl ?_
  refine XK.q hs rfl (q_nil rfl) rfl ?_
  refine XK.r hs rfl (by first | exact fun x hx => by rw [List.append_assoc]; exact List.mem_append_right _ hx | exact SubC.sub) hKs ql_ rfl ?_
  refine XK.q hs rfl qm_ rfl ?_
  refine XK.q hs rfl qm_ rfl ?_
  refine XK.q hs rfl qm_ rfl ?_
  refine XK.lo _ _ rfl rfl (List.Perm.refl _) hKm fun w0 => (l_call (Mc := MR) (R := _) (aS rfl (aS rfl a0)) (by kernel_rfl) PickC.perm (rnum_spec rb 4 (dPs i (ctS (dk5 p) 2)).2 A MR _ hRx SubC.sub (by decide)) rfl ?_)
  rintro v54 M54 J54 ⟨rfl, hR54⟩ hKx54
  have hxl := hRx.lt4
  refine XK.q hs rfl (q_convN (k' := .u32) (rnN (dPs i (ctS (dk5 p) 2)).2 4) rfl (by kernel_rfl) (wrapU32 (by omega))) rfl ?_
  refine XK.lo M54 _ rfl rfl PickC.perm (fun x hx => hKx54 (hKn rfl) x (by simpa using hx)) fun w0 => (l_call (Mc := M54) (R := _) (aS rfl (aS rfl a0)) (by kernel_rfl) PickC.perm (rbytes_spec rb 65536 (rnS (dPs i (ctS (dk5 p) 2)).2 4) A M54 _ hR54 SubC.sub (by decide)) rfl ?_)
  rintro v57 M57 J57 ⟨h57, hR57⟩ hKx57
  haveI := h57.cel
  refine XK.lo M57 _ rfl rfl PickC.perm (fun x hx => hKx57 (hKn rfl) x (by simpa using hx)) fun w0 => (l_call (Mc := M57) (R := _) (aS rfl (aS rfl a0)) (by kernel_rfl) PickC.perm (rbytes_spec rb 65536 (rbS (rnS (dPs i (ctS (dk5 p) 2)).2 4) 65536) A M57 _ hR57 SubC.sub (by decide)) rfl ?_)
  rintro v59 M59 J59 ⟨h59, hR59⟩ hKx59
  haveI := h59.cel
  change Rdr rb (dPrS (dPs i (ctS (dk5 p) 2)).2) A M59 at hR59
  refine XK.q hs rfl (q_build (place := fun x => #[(0, 1), (1, 1), (2, 1)][x]?) (z := [.int .u32 0, .slice none 0 0, .slice none 0 0]) (fun _ => by kernel_rfl) (eS rfl (eS rfl (eS rfl e0))) (bdS 0 1 rfl (by rfl) (bdS 1 1 rfl (by rfl) (bdS 2 1 rfl (by rfl) bd0)))) rfl ?_
  refine XK.lo [] _ rfl rfl (List.Perm.refl _) (fun _ h => by cases h) fun w0 => (l_buildSlice (e := 98) (sz := 3) (z := [.int .u32 0, .slice none 0 0, .slice none 0 0]) (by kernel_rfl) (eS rfl e0) (bdS 0 3 rfl (by rfl) bd0) rfl fun b61 => fun hk61 => ?_)
  dsimp only [List.cons_append, List.nil_append, List.append_eq]
  refine XK.tl rfl rfl rfl (l_append2 (e := 98) (sz := 3) (by_ := 56) rfl rfl (by kernel_rfl) rfl hsx (Rd.whole (n := 1) At.mem (by rfl)) (allS rfl (allS h57.one (allS h59.one all0))) PickC.perm (by unfold maxLen; omega) (by omega) rfl fun v62 B62 hs62 => ?_)
  haveI := hs62.cel
  refine XK.q hs rfl (q_nil rfl) rfl ?_
  refine XK.tl rfl rfl rfl (l_store rfl rfl hs62.one (by kernel_rfl) SetC.set UpC.upd ?_)
  refine XK.nil ?_
  refine nb ?_
  refine nx (kq 0 (kq 4 (kq 5 (kq 7 (kq 34 (kq 35 (kq 36 (kq 46 (kq 47 kn))))))))) ?_
  refine XC.reg1 ?_
  refine XL.q (q_num ((i + 1 : Nat) : Int) rfl rfl (add64 (by omega) (by omega) (by omega))) rfl ?_
  refine mv_ ?_
  refine XL.nil ?_
  exact rn ⟨i + 1, v62, rx ++ [[.int .u32 ((rnN (dPs i (ctS (dk5 p) 2)).2 4 : Nat) : Int), v57, v59]], B62, M59, _⟩ ⟨hil, by simpa using hs62, by dsimp only; rw [hsn]; exact (hrx.mono prT SubC.sub).snoc ⟨v57, v59, rfl, h57.mono SubC.sub, h59.mono SubC.sub, hxl⟩, by dsimp only; rw [hsn]; exact hR59, fun z hz => SubC.sub z (hJX z hz)⟩ (by dsimp only; omega) (kq 0 (kq 4 (kq 5 (kq 7 (kq 34 (kq 35 (kq 36 (kq 46 (kq 47 kn))))))))) (Fit.pick (B := [_]) PickC.perm (Fit.pick PickC.perm (Fit.last PickC.perm))) (fun _ h => h)
 ·
  have hge : i = (ctN (dk5 p) 2) := by have := of_decide_eq_false hc; omega
  subst hge
  change RwL prR _ rx (dkS p).1 at hrx
  change Rdr rb (dkS p).2 A MR at hRx
  have hsl : ctN (dk5 p) 2 = (dkS p).1.length := (dPs_len _ _).symm
  rw [hsl] at hsx
  obtain ⟨vs, hvs⟩ : ∃ z, z = vx := ⟨_, rfl⟩
  obtain ⟨Bs, hBs⟩ : ∃ z, z = Bx := ⟨_, rfl⟩
  obtain ⟨JS, hJS_⟩ : ∃ z, z = JX := ⟨_, rfl⟩
  obtain ⟨rs, hrs_⟩ : ∃ z, z = rx := ⟨_, rfl⟩
  subst hvs hBs hJS_ hrs_
  have hss := hsx
  have hrs := hrx
  have hJS := hJX
  clear hsx hrx hJX
  refine XC.exit ?_
  refine te ?_
  refine re ?_
  refine be rfl ?_
  refine nb ?_
  refine nx (kq 0 (kq 4 (kq 5 (kq 34 (kq 35 (kq 36 kn)))))) ?_
  refine XC.reg1 ?_
  refine XL.q (q_num (1 : Int) rfl rfl (add64 (by decide) (by decide) (by decide))) rfl ?_
  refine mv_ ?_
  refine XL.nil ?_
  refine un (kq 0 (kq 4 (kq 5 (kq 34 (kq 35 (kq 36 kn)))))) ?_
  refine XR.step ?_
  refine XC.reg ?_
  refine XL.q (q_cmp true rfl rfl (ltT (by decide))) rfl ?_
  refine XL.fin (kq 0 (kq 4 (kq 5 (kq 34 (kq 35 (kq 36 (kq 37 kn))))))) ?_
  refine XC.seq ?_
  refine XC.condT rfl ?_
  refine XC.skip ?_
  refine nx (kq 0 (kq 4 (kq 5 (kq 34 (kq 35 (kq 36 kn)))))) ?_
  refine XC.seq ?_
  refine XC.block ?_
  refine XC.reg ?_
  refine mv_ ?_
  refine XL.q (q_atV2 (sz := 1) (a := 1) rfl rfl (by kernel_rfl) rfl (Rd.whole (n := 2) (R := [(b34, blk [.pointer (some ⟨b27, 4, none⟩), .pointer (some ⟨b27, 5, none⟩)] 117)]) (cs := [.pointer (some ⟨b27, 4, none⟩), .pointer (some ⟨b27, 5, none⟩)]) List.mem_cons_self (by rfl)) (by decide)) rfl ?_
  refine XL.q (q_ldV (j := 1) (u := .pointer (some ⟨b27, 5, none⟩)) (Rd.whole (n := 2) (cs := [.pointer (some ⟨b27, 4, none⟩), .pointer (some ⟨b27, 5, none⟩)]) (SubC.sub (b34, blk [.pointer (some ⟨b27, 4, none⟩), .pointer (some ⟨b27, 5, none⟩)] 117) (hJS _ (by rw [hJ1]; exact List.mem_cons_self))) (by rfl)) rfl (by kernel_rfl) rfl) rfl ?_
  refine as_ (as_ ?_)
  refine XL.fin (kq 0 (kq 4 (kq 5 (kq 6 (kq 7 (kq 34 (kq 35 (kq 36 kn)))))))) ?_
  refine XC.reg ?_
  refine mv_ ?_
  refine XL.lo rfl (l_buildSlice (e := 3) (sz := 1) (z := [.int .i64 0, .int .i64 0]) (by kernel_rfl) (eS rfl (eS rfl e0)) (bdS 0 1 rfl (by rfl) (bdS 1 1 rfl (by rfl) bd0)) rfl fun b42 => ?_)
  refine mv_ ?_
  refine XL.q (q_atV2 (sz := 1) (a := 1) rfl rfl (by kernel_rfl) rfl (Rd.whole (n := 2) (R := [(b42, blk [.int .i64 ((2 : Nat) : Int), .int .i64 ((4 : Nat) : Int)] 3)]) (cs := [.int .i64 ((2 : Nat) : Int), .int .i64 ((4 : Nat) : Int)]) List.mem_cons_self (by rfl)) (by decide)) rfl ?_
  refine XL.q (q_ldV (j := 1) (u := .int .i64 ((4 : Nat) : Int)) (Rd.whole (n := 2) (cs := [.int .i64 ((2 : Nat) : Int), .int .i64 ((4 : Nat) : Int)]) At.mem (by rfl)) rfl (by kernel_rfl) rfl) rfl ?_
  refine XL.lo rfl (l_call (Mc := MR) (R := _) (aS rfl (aS rfl a0)) (by kernel_rfl) PickC.perm (rcount_spec rb 4 (dkS p).2 A MR _ hRx SubC.sub (by decide)) rfl ?_)
  rintro v46 M46 J46 ⟨rfl, hR46⟩
  refine mv_ ?_
  refine XL.fin (kq 0 (kq 4 (kq 5 (kq 7 (kq 34 (kq 35 (kq 36 (kq 46 (kq 47 kn))))))))) ?_
  refine XC.block ?_
  refine XC.loop (α := DeS) (fun y => [(0, v), (4, .pointer (some ⟨rb, 0, none⟩)), (5, .pointer (some ⟨b27, 0, none⟩)), (7, .pointer (some ⟨b27, 5, none⟩)), (34, .slice (some ⟨b34, 0, none⟩) 2 2), (35, .int .i64 2), (36, .int .i64 1), (46, .int .i64 (((ctN (dkS p).2 4) : Nat) : Int)), (47, .int .i64 ((y.i : Nat) : Int))]) (fun y => (b27, blk [.int .i64 ((n1 : Nat) : Int), .int .i64 ((n2 : Nat) : Int), v20, v22, vs, y.vx, .int .u32 ((n5 : Nat) : Int), .slice none 0 0] 96) :: (y.Bx ++ (y.MR ++ Bs))) (fun y => y.J) (fun y => y.i ≤ (ctN (dkS p).2 4) ∧ Sl 3 y.vx y.i y.rx.flatten y.Bx ∧ RwL prR y.J y.rx (dPs y.i (ctS (dkS p).2 4)).1 ∧ Rdr rb (dPs y.i (ctS (dkS p).2 4)).2 A y.MR ∧ ∀ z, z ∈ JS → z ∈ y.J) (fun y => (ctN (dkS p).2 4) - y.i) ⟨0, .slice none 0 0, [], [], M46, JS⟩ ⟨Nat.zero_le _, Sl.nil, RwL.nil, hR46, fun z h => h⟩ (kq 0 (kq 4 (kq 5 (kq 7 (kq 34 (kq 35 (kq 36 (kq 46 (kq 47 kn))))))))) (Fit.pick (B := [_]) PickC.perm (Fit.none (Fit.pick PickC.perm (Fit.last PickC.perm)))) (by first | (rw [hJ1]; exact SubC.sub) | exact SubC.sub) ?_
  rintro ⟨i, vx, rx, Bx, MR, JX⟩ ⟨hi, hsx, hrx, hRx, hJX⟩
  dsimp only at hi hsx hrx hRx hJX ⊢
  haveI := hsx.cel
  have hsn := dPs_snoc i (ctS (dkS p).2 4)
  refine XC.reg ?_
  refine XL.q (q_cmp (decide (i < (ctN (dkS p).2 4))) rfl rfl (ltN i _)) rfl ?_
  refine XL.fin (kq 0 (kq 4 (kq 5 (kq 7 (kq 34 (kq 35 (kq 36 (kq 46 (kq 47 (kq 48 kn)))))))))) ?_
  refine XC.seq ?_
  refine XC.cond rfl (fun hc => ?_) (fun hc => ?_)
  ·
   have hil : i < (ctN (dkS p).2 4) := of_decide_eq_true hc
   have hct := ctN_le (dkS p).2 4
   refine XC.skip ?_
   refine nx (kq 0 (kq 4 (kq 5 (kq 7 (kq 34 (kq 35 (kq 36 (kq 46 (kq 47 kn))))))))) ?_
   refine XC.seq ?_
   refine XC.block ?_
   refine XC.drawK1 (MR) (_) true [0, 1, 2, 3, 4, 5, 6, 7, 8, 9, 10, 11, 12, 14] [(0, 0), (1, 0), (2, 0), (3, 1), (4, 0), (7, 0), (9, 0), (5, 2), (6, 0), (8, 2), (10, 2), (11, 0), (12, 2), (13, 2), (14, 0), (15, 2)] (by kernel_rfl) (by kernel_rfl) PickC.perm fun hs K n0 hKm hKs hKn => ?_
   refine XK.q hs rfl qm_ rfl ?_
   refine XK.q hs rfl qm_ rfl ?_
   refine XK.q hs rfl (q_nil rfl) rfl ?_
   refine XK.r hs rfl (by first | exact fun x hx => by rw [List.append_assoc]; exact List.mem_append_right _ hx | exact SubC.sub) hKs ql_ rfl ?_
   refine XK.q hs rfl qm_ rfl ?_
   refine XK.q hs rfl qm_ rfl ?_
   refine XK.q hs rfl qm_ rfl ?_
   refine XK.lo _ _ rfl rfl (List.Perm.refl _) hKm fun w0 => (l_call (Mc := MR) (R := _) (aS rfl (aS rfl a0)) (by kernel_rfl) PickC.perm (rnum_spec rb 4 (dPs i (ctS (dkS p).2 4)).2 A MR _ hRx SubC.sub (by decide)) rfl ?_)
   rintro v54 M54 J54 ⟨rfl, hR54⟩ hKx54
   have hxl := hRx.lt4
   refine XK.q hs rfl (q_convN (k' := .u32) (rnN (dPs i (ctS (dkS p).2 4)).2 4) rfl (by kernel_rfl) (wrapU32 (by omega))) rfl ?_
   refine XK.lo M54 _ rfl rfl PickC.perm (fun x hx => hKx54 (hKn rfl) x (by simpa using hx)) fun w0 => (l_call (Mc := M54) (R := _) (aS rfl (aS rfl a0)) (by kernel_rfl) PickC.perm (rbytes_spec rb 65536 (rnS (dPs i (ctS (dkS p).2 4)).2 4) A M54 _ hR54 SubC.sub (by decide)) rfl ?_)
   rintro v57 M57 J57 ⟨h57, hR57⟩ hKx57
   haveI := h57.cel
   refine XK.lo M57 _ rfl rfl PickC.perm (fun x hx => hKx57 (hKn rfl) x (by simpa using hx)) fun w0 => (l_call (Mc := M57) (R := _) (aS rfl (aS rfl a0)) (by kernel_rfl) PickC.perm (rbytes_spec rb 65536 (rbS (rnS (dPs i (ctS (dkS p).2 4)).2 4) 65536) A M57 _ hR57 SubC.sub (by decide)) rfl ?_)
   rintro v59 M59 J59 ⟨h59, hR59⟩ hKx59
   haveI := h59.cel
   change Rdr rb (dPrS (dPs i (ctS (dkS p).2 4)).2) A M59 at hR59
   refine XK.q hs rfl (q_build (place := fun x => #[(0, 1), (1, 1), (2, 1)][x]?) (z := [.int .u32 0, .slice none 0 0, .slice none 0 0]) (fun _ => by kernel_rfl) (eS rfl (eS rfl (eS rfl e0))) (bdS 0 1 rfl (by rfl) (bdS 1 1 rfl (by rfl) (bdS 2 1 rfl (by rfl) bd0)))) rfl ?_
   refine XK.lo [] _ rfl rfl (List.Perm.refl _) (fun _ h => by cases h) fun w0 => (l_buildSlice (e := 98) (sz := 3) (z := [.int .u32 0, .slice none 0 0, .slice none 0 0]) (by kernel_rfl) (eS rfl e0) (bdS 0 3 rfl (by rfl) bd0) rfl fun b61 => fun hk61 => ?_)
   dsimp only [List.cons_append, List.nil_append, List.append_eq]
   refine XK.tl rfl rfl rfl (l_append2 (e := 98) (sz := 3) (by_ := 56) rfl rfl (by kernel_rfl) rfl hsx (Rd.whole (n := 1) At.mem (by rfl)) (allS rfl (allS h57.one (allS h59.one all0))) PickC.perm (by unfold maxLen; omega) (by omega) rfl fun v62 B62 hs62 => ?_)
   haveI := hs62.cel
   refine XK.q hs rfl (q_nil rfl) rfl ?_
   refine XK.tl rfl rfl rfl (l_store rfl rfl hs62.one (by kernel_rfl) SetC.set UpC.upd ?_)
   refine XK.nil ?_
   refine nb ?_
   refine nx (kq 0 (kq 4 (kq 5 (kq 7 (kq 34 (kq 35 (kq 36 (kq 46 (kq 47 kn))))))))) ?_
   refine XC.reg1 ?_
   refine XL.q (q_num ((i + 1 : Nat) : Int) rfl rfl (add64 (by omega) (by omega) (by omega))) rfl ?_
   refine mv_ ?_
   refine XL.nil ?_
   exact rn ⟨i + 1, v62, rx ++ [[.int .u32 ((rnN (dPs i (ctS (dkS p).2 4)).2 4 : Nat) : Int), v57, v59]], B62, M59, _⟩ ⟨hil, by simpa using hs62, by dsimp only; rw [hsn]; exact (hrx.mono prT SubC.sub).snoc ⟨v57, v59, rfl, h57.mono SubC.sub, h59.mono SubC.sub, hxl⟩, by dsimp only; rw [hsn]; exact hR59, fun z hz => SubC.sub z (hJX z hz)⟩ (by dsimp only; omega) (kq 0 (kq 4 (kq 5 (kq 7 (kq 34 (kq 35 (kq 36 (kq 46 (kq 47 kn))))))))) (Fit.pick (B := [_]) PickC.perm (Fit.pick PickC.perm (Fit.pick PickC.perm (Fit.last PickC.perm)))) (fun _ h => h)
  ·
   have hge : i = (ctN (dkS p).2 4) := by have := of_decide_eq_false hc; omega
   subst hge
   change RwL prR _ rx (dkO p).1 at hrx
   change Rdr rb (dkO p).2 A MR at hRx
   have hol : ctN (dkS p).2 4 = (dkO p).1.length := (dPs_len _ _).symm
   rw [hol] at hsx
   obtain ⟨vo, hvo⟩ : ∃ z, z = vx := ⟨_, rfl⟩
   obtain ⟨Bo, hBo⟩ : ∃ z, z = Bx := ⟨_, rfl⟩
   obtain ⟨ro, hro_⟩ : ∃ z, z = rx := ⟨_, rfl⟩
   obtain ⟨JM, hJM⟩ : ∃ z, z = JX := ⟨_, rfl⟩
   subst hvo hBo hro_ hJM
   have hso := hsx
   have hro := hrx
   clear hsx hrx
   refine XC.exit ?_
   refine te ?_
   refine re ?_
   refine be rfl ?_
   refine nb ?_
   refine nx (kq 0 (kq 4 (kq 5 (kq 34 (kq 35 (kq 36 kn)))))) ?_
   refine XC.reg1 ?_
   refine XL.q (q_num (2 : Int) rfl rfl (add64 (by decide) (by decide) (by decide))) rfl ?_
   refine mv_ ?_
   refine XL.nil ?_
   refine un (kq 0 (kq 4 (kq 5 (kq 34 (kq 35 (kq 36 kn)))))) ?_
   refine XR.step ?_
   refine XC.reg ?_
   refine XL.q (q_cmp false rfl rfl (ltF (by decide))) rfl ?_
   refine XL.fin (kq 0 (kq 4 (kq 5 (kq 34 (kq 35 (kq 36 (kq 37 kn))))))) ?_
   refine XC.seq ?_
   refine XC.condF rfl ?_
   refine XC.exit ?_
   refine te ?_
   refine ue ?_
   refine be rfl ?_
   refine nx (kq 0 (kq 4 (kq 5 kn))) ?_
   refine XC.join (α := List Nm × Rst × DeS) (fun y => [(0, v), (4, .pointer (some ⟨rb, 0, none⟩)), (5, .pointer (some ⟨b27, 0, none⟩))]) (fun y => (b27, blk [.int .i64 ((n1 : Nat) : Int), .int .i64 ((n2 : Nat) : Int), v20, v22, vs, vo, .int .u32 ((n5 : Nat) : Int), y.2.2.vx] 96) :: (y.2.2.Bx ++ (y.2.2.MR ++ (Bo ++ Bs)))) (fun y => y.2.2.J) (fun y => dkM p = (y.1, y.2.1) ∧ Sl 2 y.2.2.vx y.1.length y.2.2.rx.flatten y.2.2.Bx ∧ RwL nmR y.2.2.J y.2.2.rx y.1 ∧ Rdr rb y.2.1 A y.2.2.MR ∧ ∀ z, z ∈ JM → z ∈ y.2.2.J) ?_ ?_
   ·
    refine XC.reg ?_
    refine mv_ ?_
    refine XL.lo rfl (l_call (Mc := MR) (R := _) (aS rfl (aS rfl a0)) (by kernel_rfl) PickC.perm (rnum_spec rb 4 (dkO p).2 A MR _ hRx SubC.sub (by decide)) rfl ?_)
    rintro v67 M67 J67 ⟨rfl, hR67⟩
    have hlt67 := hRx.lt4
    obtain ⟨n8, hn8⟩ : ∃ n, rnN (dkO p).2 4 = n := ⟨_, rfl⟩
    rw [hn8] at hlt67 ⊢
    have hdm : dkM p = dNs n8 (rnS (dkO p).2 4) := by unfold dkM; rw [hn8]
    refine as_ ?_
    refine XL.fin (kq 0 (kq 4 (kq 5 (kq 8 kn)))) ?_
    refine XC.block ?_
    refine XC.loop (α := Nat × List Nm × Rst × DeS) (fun y => [(0, v), (4, .pointer (some ⟨rb, 0, none⟩)), (5, .pointer (some ⟨b27, 0, none⟩)), (8, .int .u64 ((y.1 : Nat) : Int))]) (fun y => (b27, blk [.int .i64 ((n1 : Nat) : Int), .int .i64 ((n2 : Nat) : Int), v20, v22, vs, vo, .int .u32 ((n5 : Nat) : Int), y.2.2.2.vx] 96) :: (y.2.2.2.Bx ++ (y.2.2.2.MR ++ (Bo ++ Bs)))) (fun y => y.2.2.2.J) (fun y => y.1 < 4294967296 ∧ dkM p = (y.2.1 ++ (dNs y.1 y.2.2.1).1, (dNs y.1 y.2.2.1).2) ∧ Sl 2 y.2.2.2.vx y.2.1.length y.2.2.2.rx.flatten y.2.2.2.Bx ∧ RwL nmR y.2.2.2.J y.2.2.2.rx y.2.1 ∧ Rdr rb y.2.2.1 A y.2.2.2.MR ∧ ∀ z, z ∈ JM → z ∈ y.2.2.2.J) (fun y => y.1) (n8, [], rnS (dkO p).2 4, ⟨0, .slice none 0 0, [], [], M67, JM⟩) ⟨by dsimp only; omega, by dsimp only; rw [hdm]; simp, Sl.nil, RwL.nil, hR67, fun z h => h⟩ (kq 0 (kq 4 (kq 5 (kq 8 kn)))) (Fit.pick (B := [_]) PickC.perm (Fit.none (Fit.pick PickC.perm (Fit.pick PickC.perm (Fit.last PickC.perm))))) SubC.sub ?_
    rintro ⟨n, acc, st, ⟨_, vm, rm, Bm, MN, JN⟩⟩ ⟨hn32, hacc, hsm, hrm, hRn, hJN⟩
    dsimp only at hn32 hacc hsm hrm hRn hJN ⊢
    haveI := hsm.cel
    have hal : acc.length ≤ 200000 := by rw [hacc, List.length_append] at hz4; omega
    refine XC.seq ?_
    refine XC.reg ?_
    refine mv_ ?_
    refine XL.q (q_cmp (decide (0 < n)) rfl rfl (gtN 0 n)) rfl ?_
    refine mv_ ?_
    refine XL.split (t := 70) rfl (fun hb => ?_) (fun hb => ?_)
    ·
     have hn0 : 0 < n := of_decide_eq_true hb
     refine XL.gy rfl rfl (OpQ.opL qm_ rfl ?_)
     refine XL.callVg rfl rfl (aS rfl a0) (by kernel_rfl) (rbad_spec rb st A _ (hRn.rd SubC.sub)) rfl ?_
     refine XL.gy rfl rfl (OpQ.opL (q_not rfl) rfl ?_)
     refine XL.q (q_pickT rfl rfl) rfl ?_
     refine XL.fin (kq 0 (kq 4 (kq 5 (kq 8 (kq 74 kn))))) ?_
     refine XC.cond rfl (fun hc => ?_) (fun hc => ?_)
     ·
      have hst : st.2 = false := by simpa using hc
      obtain ⟨m, rfl⟩ : ∃ m, n = m + 1 := ⟨n - 1, by omega⟩
      rw [dNs_go hst] at hacc
      refine XC.skip ?_
      refine nx (kq 0 (kq 4 (kq 5 (kq 8 kn)))) ?_
      refine XC.seq ?_
      refine XC.block ?_
      refine XC.drawK1 (MN) (_) true [0, 1, 2, 3, 4, 5, 6, 7, 8, 9, 10, 11, 13, 14] [(0, 0), (1, 0), (2, 0), (3, 0), (4, 1), (5, 0), (8, 0), (6, 2), (7, 0), (9, 2), (10, 0), (11, 2), (12, 2), (13, 0), (14, 0), (15, 2)] (by kernel_rfl) (by kernel_rfl) PickC.perm fun hs K n0 hKm hKs hKn => ?_
      refine XK.q hs rfl qm_ rfl ?_
      refine XK.q hs rfl qm_ rfl ?_
      refine XK.q hs rfl (q_nil rfl) rfl ?_
      refine XK.q hs rfl (qf_ 7 7) rfl ?_
      refine XK.r hs rfl (by first | exact fun x hx => by rw [List.append_assoc]; exact List.mem_append_right _ hx | exact SubC.sub) hKs ql_ rfl ?_
      refine XK.q hs rfl qm_ rfl ?_
      refine XK.q hs rfl qm_ rfl ?_
      refine XK.lo _ _ rfl rfl (List.Perm.refl _) hKm fun w0 => (l_call (Mc := MN) (R := _) (aS rfl (aS rfl a0)) (by kernel_rfl) PickC.perm (rnum_spec rb 4 st A MN _ hRn SubC.sub (by decide)) rfl ?_)
      rintro v83 M83 J83 ⟨rfl, hR83⟩ hKx83
      have hxl := hRn.lt4
      refine XK.q hs rfl (q_convN (k' := .u32) (rnN st 4) rfl (by kernel_rfl) (wrapU32 (by omega))) rfl ?_
      refine XK.lo M83 _ rfl rfl PickC.perm (fun x hx => hKx83 (hKn rfl) x (by simpa using hx)) fun w0 => (l_call (Mc := M83) (R := _) (aS rfl (aS rfl a0)) (by kernel_rfl) PickC.perm (rbytes_spec rb 65536 (rnS st 4) A M83 _ hR83 SubC.sub (by decide)) rfl ?_)
      rintro v86 M86 J86 ⟨h86, hR86⟩ hKx86
      haveI := h86.cel
      change Rdr rb (dNmS st) A M86 at hR86
      refine XK.q hs rfl (q_build (place := fun x => #[(0, 1), (1, 1)][x]?) (z := [.int .u32 0, .slice none 0 0]) (fun _ => by kernel_rfl) (eS rfl (eS rfl e0)) (bdS 0 1 rfl (by rfl) (bdS 1 1 rfl (by rfl) bd0))) rfl ?_
      refine XK.lo [] _ rfl rfl (List.Perm.refl _) (fun _ h => by cases h) fun w0 => (l_buildSlice (e := 101) (sz := 2) (z := [.int .u32 0, .slice none 0 0]) (by kernel_rfl) (eS rfl e0) (bdS 0 2 rfl (by rfl) bd0) rfl fun b88 => fun hk88 => ?_)
      dsimp only [List.cons_append, List.nil_append, List.append_eq]
      refine XK.tl rfl rfl rfl (l_append2 (e := 101) (sz := 2) (by_ := 32) rfl rfl (by kernel_rfl) rfl hsm (Rd.whole (n := 1) At.mem (by rfl)) (allS rfl (allS h86.one all0)) PickC.perm (by unfold maxLen; omega) (by omega) rfl fun v89 B89 hs89 => ?_)
      haveI := hs89.cel
      refine XK.q hs rfl (q_nil rfl) rfl ?_
      refine XK.q hs rfl (qf_ 7 7) rfl ?_
      refine XK.tl rfl rfl rfl (l_store rfl rfl hs89.one (by kernel_rfl) SetC.set UpC.upd ?_)
      refine XK.nil ?_
      refine nb ?_
      refine nx (kq 0 (kq 4 (kq 5 (kq 8 kn)))) ?_
      refine XC.reg1 ?_
      refine mv_ ?_
      refine XL.q (q_subS 18446744073709551616 (a := m + 1) (b := 1) rfl rfl rfl rfl rfl rfl (by omega) (by omega)) rfl ?_
      rw [Nat.add_sub_cancel]
      refine as_ ?_
      refine XL.nil ?_
      exact rn (m, acc ++ [dNm st], dNmS st, ⟨0, v89, rm ++ [[.int .u32 ((rnN st 4 : Nat) : Int), v86]], B89, M86, _⟩) ⟨by dsimp only; omega, by dsimp only; rw [hacc]; simp, by simpa using hs89, (hrm.mono nmT SubC.sub).snoc ⟨v86, rfl, h86.mono SubC.sub, hxl⟩, hR86, fun z hz => SubC.sub z (hJN z hz)⟩ (by dsimp only; omega) (kq 0 (kq 4 (kq 5 (kq 8 kn)))) (show Fit _ ((b27, blk [.int .i64 ((n1 : Nat) : Int), .int .i64 ((n2 : Nat) : Int), v20, v22, vs, vo, .int .u32 ((n5 : Nat) : Int), v89] 96) :: (B89 ++ (M86 ++ (Bo ++ Bs)))) from Fit.pick (B := [_]) PickC.perm (Fit.pick PickC.perm (Fit.pick PickC.perm (Fit.last PickC.perm)))) (fun _ h => h)
     ·
      have hst : st.2 = true := by simpa using hc
      rw [dNs_stop (.inl hst)] at hacc
      refine XC.exit ?_
      refine te ?_
      refine re ?_
      refine be rfl ?_
      exact jn (acc, st, ⟨0, vm, rm, Bm, MN, JN⟩) ⟨by simpa using hacc, hsm, hrm, hRn, hJN⟩ (kq 0 (kq 4 (kq 5 kn))) (Fit.pick (B := [_]) PickC.perm (Fit.pick PickC.perm (Fit.pick PickC.perm (Fit.last PickC.perm)))) (fun _ h => h)
    ·
     have hn0 : n = 0 := by have := of_decide_eq_false hb; omega
     rw [dNs_stop (.inr hn0)] at hacc
     refine XL.gn rfl rfl rfl rfl ?_
     refine XL.gn rfl rfl rfl rfl ?_
     refine XL.gn rfl rfl rfl rfl ?_
     refine XL.q (q_pickF rfl rfl) rfl ?_
     refine XL.fin (kq 0 (kq 4 (kq 5 (kq 8 (kq 74 kn))))) ?_
     refine XC.condF rfl ?_
     refine XC.exit ?_
     refine te ?_
     refine re ?_
     refine be rfl ?_
     exact jn (acc, st, ⟨0, vm, rm, Bm, MN, JN⟩) ⟨by simpa using hacc, hsm, hrm, hRn, hJN⟩ (kq 0 (kq 4 (kq 5 kn))) (Fit.pick (B := [_]) PickC.perm (Fit.pick PickC.perm (Fit.pick PickC.perm (Fit.last PickC.perm)))) (fun _ h => h)
   ·
    rintro ⟨acc, st, ⟨_, vm, rm, Bm, MN, JN⟩⟩ ⟨hdm2, hsm, hrm, hRn, hJN⟩
    dsimp only at hdm2 hsm hrm hRn hJN ⊢
    haveI := hsm.cel
    rw [hdm2] at hdk hz4
    dsimp only at hdk hz4
    have hup : ∀ z, z ∈ JM → z ∈ JN := hJN
    have hup2 : ∀ z, z ∈ JS → z ∈ JN := fun z hz => hJN z (hJX z hz)
    have hup1 : ∀ z, z ∈ J22 ++ J20 → z ∈ JN := fun z hz => hJN z (hJX z (hJS z (by rw [hJ1]; exact List.mem_cons_of_mem _ hz)))
    have hKy : Kys JN b27 (decK p) ((b27, blk [.int .i64 ((n1 : Nat) : Int), .int .i64 ((n2 : Nat) : Int), v20, v22, vs, vo, .int .u32 ((n5 : Nat) : Int), vm] 96) :: (Bs ++ (Bo ++ Bm))) := by
     rw [hdk]
     exact ⟨⟨v20, v22, vs, vo, vm, rs, ro, rm, Bs, Bo, Bm, rfl, h20.mono fun z hz => hup1 z (List.mem_append_right _ hz), h22.mono fun z hz => hup1 z (List.mem_append_left _ hz), hss, hrs.mono prT hup2, hso, hro.mono prT hup, hsm, hrm, by dsimp only; omega, by dsimp only; omega, by dsimp only; omega, by dsimp only; omega⟩⟩
    refine XC.reg ?_
    refine mv_ ?_
    refine XL.q (q_nil rfl) rfl ?_
    refine XL.q (qf_ 5 5) rfl ?_
    refine XL.q ql_ rfl ?_
    refine XL.callV (aS rfl (aS rfl a0)) (by kernel_rfl) (sorted_f vo ro (dkO p).1 _ (hso.rd SubC.sub) (hro.mono prT fun z hz => SubC.sub z (hup z hz)) (by omega)) rfl ?_
    refine as_ ?_
    refine XL.fin (kq 0 (kq 4 (kq 5 (kq 9 kn)))) ?_
    refine XC.seq ?_
    refine XC.reg ?_
    refine mv_ ?_
    refine XL.callV (aS rfl a0) (by kernel_rfl) (rend_spec rb st A _ (hRn.rd SubC.sub)) rfl ?_
    refine XL.q (q_not rfl) rfl ?_
    refine mv_ ?_
    refine XL.split (t := 100) rfl (fun hb => ?_) (fun hb => ?_)
    ·
     have hcv := decOk_end (p := p) (by rw [hdm2]; simpa using hb)
     refine XL.gn rfl rfl rfl rfl ?_
     refine XL.gn rfl rfl rfl rfl ?_
     refine XL.gn rfl rfl rfl rfl ?_
     refine XL.gn rfl rfl rfl rfl ?_
     refine XL.gn rfl rfl rfl rfl ?_
     refine XL.gn rfl rfl rfl rfl ?_
     refine XL.q (q_pickT rfl rfl) rfl ?_
     refine mv_ ?_
     refine XL.gn rfl rfl rfl rfl ?_
     refine XL.gn rfl rfl rfl rfl ?_
     refine XL.q (q_pickT rfl rfl) rfl ?_
     refine mv_ ?_
     refine XL.gn rfl rfl rfl rfl ?_
     refine XL.gn rfl rfl rfl rfl ?_
     refine XL.gn rfl rfl rfl rfl ?_
     refine XL.gn rfl rfl rfl rfl ?_
     refine XL.gn rfl rfl rfl rfl ?_
     refine XL.q (q_pickT rfl rfl) rfl ?_
     refine XL.fin (kq 5 (kq 118 kn)) ?_
     refine XC.condT rfl ?_
     refine XC.reg ?_
     refine as_ (as_ ?_)
     refine XL.fin (kq 2 (kq 3 kn)) ?_
     refine XC.ret ?_
     refine tr ?_
     exact ⟨_, [], [], res2 rfl rfl rfl, Fit.sub (List.nil_sublist _), .inr ⟨hcv, rfl, rfl⟩⟩
    ·
     have he : rEnd (dkM p).2 = true := by rw [hdm2]; simpa using hb
     refine XL.gy rfl rfl (OpQ.opL qm_ rfl ?_)
     refine XL.gy rfl rfl (OpQ.opL (q_nil rfl) rfl ?_)
     refine XL.gy rfl rfl (OpQ.opL (qf_ 4 4) rfl ?_)
     refine XL.gy rfl rfl (OpQ.opL ql_ rfl ?_)
     refine XL.gy rfl rfl (OpQ.opL (q_lenV2 (sz := 3) rfl (by kernel_rfl) (hss.rd (R := Bs) fun _ h => h)) rfl ?_)
     refine XL.gy rfl rfl (OpQ.opL (q_cmp (decide ((dkS p).1.length = 0)) rfl rfl (eqN _ 0)) rfl ?_)
     refine XL.q (q_pickF rfl rfl) rfl ?_
     refine mv_ ?_
     refine XL.split (t := 108) rfl (fun hb => ?_) (fun hb => ?_)
     ·
      have hcv := decOk_emp (of_decide_eq_true hb)
      refine XL.gn rfl rfl rfl rfl ?_
      refine XL.gn rfl rfl rfl rfl ?_
      refine XL.q (q_pickT rfl rfl) rfl ?_
      refine mv_ ?_
      refine XL.gn rfl rfl rfl rfl ?_
      refine XL.gn rfl rfl rfl rfl ?_
      refine XL.gn rfl rfl rfl rfl ?_
      refine XL.gn rfl rfl rfl rfl ?_
      refine XL.gn rfl rfl rfl rfl ?_
      refine XL.q (q_pickT rfl rfl) rfl ?_
      refine XL.fin (kq 5 (kq 118 kn)) ?_
      refine XC.condT rfl ?_
      refine XC.reg ?_
      refine as_ (as_ ?_)
      refine XL.fin (kq 2 (kq 3 kn)) ?_
      refine XC.ret ?_
      refine tr ?_
      exact ⟨_, [], [], res2 rfl rfl rfl, Fit.sub (List.nil_sublist _), .inr ⟨hcv, rfl, rfl⟩⟩
     ·
      have hs0 : ¬ (dkS p).1.length = 0 := of_decide_eq_false hb
      refine XL.gy rfl rfl (OpQ.opL qm_ rfl ?_)
      refine XL.gy rfl rfl (OpQ.opL (q_not rfl) rfl ?_)
      refine XL.q (q_pickF rfl rfl) rfl ?_
      refine mv_ ?_
      refine XL.split (t := 112) rfl (fun hb => ?_) (fun hb => ?_)
      ·
       have hcv := decOk_srt (p := p) (by simpa using hb)
       refine XL.gn rfl rfl rfl rfl ?_
       refine XL.gn rfl rfl rfl rfl ?_
       refine XL.gn rfl rfl rfl rfl ?_
       refine XL.gn rfl rfl rfl rfl ?_
       refine XL.gn rfl rfl rfl rfl ?_
       refine XL.q (q_pickT rfl rfl) rfl ?_
       refine XL.fin (kq 5 (kq 118 kn)) ?_
       refine XC.condT rfl ?_
       refine XC.reg ?_
       refine as_ (as_ ?_)
       refine XL.fin (kq 2 (kq 3 kn)) ?_
       refine XC.ret ?_
       refine tr ?_
       exact ⟨_, [], [], res2 rfl rfl rfl, Fit.sub (List.nil_sublist _), .inr ⟨hcv, rfl, rfl⟩⟩
      ·
       have hsrt : sortP (dkO p).1 = true := by simpa using hb
       obtain ⟨wa, wg, ws, wo, wm, qs, qo, qm, hr⟩ := hKy.r
       refine XL.gy rfl rfl (OpQ.opL qm_ rfl ?_)
       refine XL.callg rfl rfl (aS rfl a0) (by kernel_rfl) (encode_f b27 (decK p) wa wg ws wo wm qs qo qm _ (hr _ SubC.sub SubC.sub) ⟨n1, by rw [hdk], hlt13⟩ ⟨n2, by rw [hdk], hlt16⟩ (by omega)) rfl ?_
       rintro v114 M114 J114 ⟨rfl, h114⟩
       obtain ⟨we, hwe⟩ : ∃ w, encK (decK p) = w := ⟨_, rfl⟩
       rw [hwe] at h114
       haveI := h114.cel
       refine XL.gy rfl rfl (OpQ.opL qm_ rfl ?_)
       refine XL.callVg rfl rfl (aS rfl (aS rfl a0)) (by kernel_rfl) (bEqual_spec v114 v we p _ (h114.mono SubC.sub) (hv.mono SubC.sub)) rfl ?_
       refine XL.gy rfl rfl (OpQ.opL (q_not rfl) rfl ?_)
       refine XL.q (q_pickF rfl rfl) rfl ?_
       refine XL.fin (kq 5 (kq 118 kn)) ?_
       refine XC.cond rfl (fun hc => ?_) (fun hc => ?_)
       ·
        have hcv := decOk_enc (p := p) (by rw [hwe]; exact fun e => (show ¬ we = p by simpa using hc) e.symm)
        refine XC.reg ?_
        refine as_ (as_ ?_)
        refine XL.fin (kq 2 (kq 3 kn)) ?_
        refine XC.ret ?_
        refine tr ?_
        exact ⟨_, [], [], res2 rfl rfl rfl, Fit.sub (List.nil_sublist _), .inr ⟨hcv, rfl, rfl⟩⟩
       ·
        have hcv := decOk_all he hs0 hsrt (by rw [hwe]; exact (show we = p by simpa using hc).symm)
        refine XC.skip ?_
        refine nx (kq 5 kn) ?_
        refine XC.reg ?_
        refine mv_ (as_ (as_ ?_))
        refine XL.fin (kq 2 (kq 3 kn)) ?_
        refine XC.ret ?_
        exact ⟨_, (b27, blk [.int .i64 ((n1 : Nat) : Int), .int .i64 ((n2 : Nat) : Int), v20, v22, vs, vo, .int .u32 ((n5 : Nat) : Int), vm] 96) :: (Bs ++ (Bo ++ Bm)), [], res2 rfl rfl rfl, Fit.none (Fit.pick (B := [_]) PickC.perm (Fit.pick PickC.perm (Fit.pick PickC.perm (Fit.last PickC.perm)))), .inl ⟨hcv, b27, rfl, hKy.mono SubC.sub⟩⟩

end Go.Proofs.YtphcaiplgpmnnaaGreatDoor
