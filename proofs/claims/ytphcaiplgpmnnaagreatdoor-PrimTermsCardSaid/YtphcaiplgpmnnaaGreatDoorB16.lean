/- Part 16 of the texts of this claim, one behind the other. -/
import Derived.Test.YtphcaiplgpmnnaaGreatDoorB15
set_option linter.unusedVariables false
set_option linter.unusedSimpArgs false
set_option maxRecDepth 100000
namespace Go.Proofs.YtphcaiplgpmnnaaGreatDoor
open Go.Px
theorem Glb.s {A : Mem} (h : Glb A) : GlS A := ⟨h.first, h.round⟩
def pubS2 (s : Ps) (w : List Nat) : Ps := if s.real then s else pubS s w
noncomputable def pubK2 (s : Ps) (w : List Nat) : List Nat := if s.real then base25 (fitN w 32) else pubK s w
noncomputable def skK2 (s : Ps) (w : List Nat) : List Nat := if s.real then pubB (fitN w 32) else pubK s w
def agrS2 (s : Ps) (w u : List Nat) : Ps := if s.real then s else agrS s w u
noncomputable def agrK2 (s : Ps) (w u : List Nat) : List Nat := if s.real then x25 (fitN w 32) (fitN u 32) else agrK s w u
def sgS2 (s : Ps) (w m : List Nat) : Ps := if s.real then s else one1 s w fun x => sigT x m
noncomputable def sgK2 (s : Ps) (w m : List Nat) : List Nat := if s.real then sigB (fitN w 32) m else fitN (oneK s w fun x => sigT x m) 64
theorem sig_lt (s m : List Nat) : ∀ x ∈ sigB s m, x < 256 := by
  intro x hx
  rcases List.mem_append.1 hx with h | h
  · exact pB_lt _ x h
  · exact digs_lt _ _ x h
theorem sign_j (v vm : Value) (ws wm : List Nat) (A : Mem) (hv : By A v ws) (hm : By A vm wm) (hG : GlS A) : FnX Tryz.prog 94 [v, vm] [] A fun r M J => M = [] ∧ By J r (sigB ws wm) :=
  ((sign_f v vm ws wm A hv hm hG).frz0).mono fun r M J ⟨h1, h2⟩ => ⟨h1, sl_by h2 (sigB_len _ _).symm (sig_lt _ _) (by rw [sigB_len]; decide) fun _ h => h⟩

theorem public_r (pb : Nat) (s : Ps) (hr : s.real = true) (v : Value) (w : List Nat) (MP A : Mem) (hP : Prm pb s MP) (hv : By A v w) : FnX Tryz.prog 34 [.pointer (some ⟨pb, 0, none⟩), v] MP A fun q M J => Prm pb s M ∧ By J q (base25 (fitN w 32)) := by
 obtain ⟨sv, bt, bm, B, MT, rfl, hby, hT⟩ := hP.ex
 haveI := hv.cel
 haveI := hby.cel
 have hvl := hv.len
 refine FnX.enterZ (N := 26) Tryz.func34 rfl rfl rfl fun w_ => ?_
 refine XC.keep (kq 0 (kq 1 kn)) ?_
 refine XC.reg ?_
 refine as_ ?_
 refine XL.fin (kq 0 (kq 1 kn)) ?_
 refine XC.seq ?_
 refine XC.reg ?_
 refine mv_ ?_
 refine XL.q (q_ptrEqNil (e := 124) rfl rfl (by kernel_rfl)) rfl ?_
 refine XL.fin (kq 0 (kq 1 (kq 6 kn))) ?_
 refine XC.condF rfl ?_
 refine XC.skip ?_
 refine nx (kq 0 (kq 1 kn)) ?_
 refine XC.seq ?_
 refine XC.reg ?_
 refine mv_ ?_
 refine XL.q (q_nil rfl) rfl ?_
 refine XL.q (qf_ 0 0) rfl ?_
 refine XL.q ql_ rfl ?_
 refine XL.q (q_cmp true rfl rfl (eqT (by rw [hr]; rfl))) rfl ?_
 refine XL.fin (kq 0 (kq 1 (kq 11 kn))) ?_
 refine XC.condT rfl ?_
 refine XC.reg ?_
 refine mv_ ?_
 refine XL.call (aS rfl (aS rfl a0)) (by kernel_rfl) (fit_spec v w 32 _ (hv.mono SubC.sub) (by decide)) rfl ?_
 rintro r13 M13 J13 ⟨rfl, h13⟩
 haveI := h13.cel
 refine XL.call (aS rfl a0) (by kernel_rfl) (base_f _ _ _ (h13.mono SubC.sub)) rfl ?_
 rintro r14 M14 J14 ⟨rfl, h14⟩
 haveI := h14.cel
 refine as_ ?_
 refine XL.fin (kq 4 kn) ?_
 refine XC.ret ?_
 refine tr ?_
 exact ⟨_, (pb, blk [.int .u8 (md s.real), sv, .int .i64 (((s.n : Nat) : Int)), .pointer (some ⟨bt, 0, none⟩)] 124) :: (B ++ MT), [], res1 rfl rfl, (Fit.none (Fit.pick (B := [_]) PickC.perm (Fit.pick PickC.perm (Fit.last PickC.perm)))), ⟨sv, bt, bm, B, MT, rfl, hby, hT⟩, h14.mono SubC.sub⟩

theorem agree_r (pb : Nat) (s : Ps) (hr : s.real = true) (v v2 : Value) (w u : List Nat) (MP A : Mem) (hP : Prm pb s MP) (hv : By A v w) (hu : By A v2 u) : FnX Tryz.prog 52 [.pointer (some ⟨pb, 0, none⟩), v, v2] MP A fun q M J => Prm pb s M ∧ By J q (x25 (fitN w 32) (fitN u 32)) := by
 obtain ⟨sv, bt, bm, B, MT, rfl, hby, hT⟩ := hP.ex
 haveI := hv.cel
 haveI := hby.cel
 have hvl := hv.len
 haveI := hu.cel
 refine FnX.enterZ (N := 31) Tryz.func52 rfl rfl rfl fun w_ => ?_
 refine XC.keep (kq 0 (kq 1 (kq 2 kn))) ?_
 refine XC.reg ?_
 refine as_ ?_
 refine XL.fin (kq 0 (kq 1 (kq 2 kn))) ?_
 refine XC.seq ?_
 refine XC.reg ?_
 refine mv_ ?_
 refine XL.q (q_ptrEqNil (e := 124) rfl rfl (by kernel_rfl)) rfl ?_
 refine XL.fin (kq 0 (kq 1 (kq 2 (kq 8 kn)))) ?_
 refine XC.condF rfl ?_
 refine XC.skip ?_
 refine nx (kq 0 (kq 1 (kq 2 kn))) ?_
 refine XC.seq ?_
 refine XC.reg ?_
 refine mv_ ?_
 refine XL.q (q_nil rfl) rfl ?_
 refine XL.q (qf_ 0 0) rfl ?_
 refine XL.q ql_ rfl ?_
 refine XL.q (q_cmp true rfl rfl (eqT (by rw [hr]; rfl))) rfl ?_
 refine XL.fin (kq 0 (kq 1 (kq 2 (kq 13 kn)))) ?_
 refine XC.condT rfl ?_
 refine XC.reg ?_
 refine mv_ ?_
 refine XL.call (aS rfl (aS rfl a0)) (by kernel_rfl) (fit_spec v w 32 _ (hv.mono SubC.sub) (by decide)) rfl ?_
 rintro r15 M15 J15 ⟨rfl, h15⟩
 haveI := h15.cel
 refine mv_ ?_
 refine XL.call (aS rfl (aS rfl a0)) (by kernel_rfl) (fit_spec v2 u 32 _ (hu.mono SubC.sub) (by decide)) rfl ?_
 rintro r17 M17 J17 ⟨rfl, h17⟩
 haveI := h17.cel
 refine XL.call (aS rfl (aS rfl a0)) (by kernel_rfl) (cmul_f _ _ _ _ _ (h15.mono SubC.sub) (h17.mono SubC.sub)) rfl ?_
 rintro r18 M18 J18 ⟨rfl, h18⟩
 haveI := h18.cel
 refine as_ ?_
 refine XL.fin (kq 6 kn) ?_
 refine XC.ret ?_
 refine tr ?_
 exact ⟨_, (pb, blk [.int .u8 (md s.real), sv, .int .i64 (((s.n : Nat) : Int)), .pointer (some ⟨bt, 0, none⟩)] 124) :: (B ++ MT), [], res1 rfl rfl, (Fit.none (Fit.pick (B := [_]) PickC.perm (Fit.pick PickC.perm (Fit.last PickC.perm)))), ⟨sv, bt, bm, B, MT, rfl, hby, hT⟩, h18.mono SubC.sub⟩

theorem psign_r (pb : Nat) (s : Ps) (hr : s.real = true) (v v2 : Value) (w u : List Nat) (MP A : Mem) (hP : Prm pb s MP) (hv : By A v w) (hu : By A v2 u) (hG : Glb A) : FnX Tryz.prog 46 [.pointer (some ⟨pb, 0, none⟩), v, v2] MP A fun q M J => Prm pb s M ∧ By J q (sigB (fitN w 32) u) := by
 obtain ⟨sv, bt, bm, B, MT, rfl, hby, hT⟩ := hP.ex
 haveI := hv.cel
 haveI := hby.cel
 have hvl := hv.len
 haveI := hu.cel
 refine FnX.enterZ (N := 32) Tryz.func46 rfl rfl rfl fun w_ => ?_
 refine XC.keep (kq 0 (kq 1 (kq 2 kn))) ?_
 refine XC.reg ?_
 refine as_ ?_
 refine XL.fin (kq 0 (kq 1 (kq 2 kn))) ?_
 refine XC.seq ?_
 refine XC.reg ?_
 refine mv_ ?_
 refine XL.q (q_ptrEqNil (e := 124) rfl rfl (by kernel_rfl)) rfl ?_
 refine XL.fin (kq 0 (kq 1 (kq 2 (kq 8 kn)))) ?_
 refine XC.condF rfl ?_
 refine XC.skip ?_
 refine nx (kq 0 (kq 1 (kq 2 kn))) ?_
 refine XC.seq ?_
 refine XC.reg ?_
 refine mv_ ?_
 refine XL.q (q_nil rfl) rfl ?_
 refine XL.q (qf_ 0 0) rfl ?_
 refine XL.q ql_ rfl ?_
 refine XL.q (q_cmp true rfl rfl (eqT (by rw [hr]; rfl))) rfl ?_
 refine XL.fin (kq 0 (kq 1 (kq 2 (kq 13 kn)))) ?_
 refine XC.condT rfl ?_
 refine XC.reg ?_
 refine mv_ ?_
 refine XL.call (aS rfl (aS rfl a0)) (by kernel_rfl) (fit_spec v w 32 _ (hv.mono SubC.sub) (by decide)) rfl ?_
 rintro r15 M15 J15 ⟨rfl, h15⟩
 haveI := h15.cel
 refine mv_ ?_
 refine XL.call (aS rfl (aS rfl a0)) (by kernel_rfl) (sign_j _ _ _ _ _ (h15.mono SubC.sub) (hu.mono SubC.sub) hG.s.up) rfl ?_
 rintro r17 M17 J17 ⟨rfl, h17⟩
 haveI := h17.cel
 refine as_ ?_
 refine XL.fin (kq 6 kn) ?_
 refine XC.ret ?_
 refine tr ?_
 exact ⟨_, (pb, blk [.int .u8 (md s.real), sv, .int .i64 (((s.n : Nat) : Int)), .pointer (some ⟨bt, 0, none⟩)] 124) :: (B ++ MT), [], res1 rfl rfl, (Fit.none (Fit.pick (B := [_]) PickC.perm (Fit.pick PickC.perm (Fit.last PickC.perm)))), ⟨sv, bt, bm, B, MT, rfl, hby, hT⟩, h17.mono SubC.sub⟩

theorem signKey_p (pb : Nat) (s : Ps) (hr : s.real = false) (v : Value) (w : List Nat) (MP A : Mem) (hP : Prm pb s MP) (hv : By A v w) (hn : s.ts.length < 1048576) (hG : Glb A) : FnX Tryz.prog 35 [.pointer (some ⟨pb, 0, none⟩), v] MP A fun q M J => Prm pb (pubS s w) M ∧ By J q (pubK s w) := by
 obtain ⟨sv, bt, bm, B, MT, rfl, hby, hT⟩ := hP.ex
 haveI := hv.cel
 haveI := hby.cel
 have hvl := hv.len
 refine FnX.enterZ (N := 18) Tryz.func35 rfl rfl rfl fun w_ => ?_
 refine XC.keep (kq 0 (kq 1 kn)) ?_
 refine XC.reg ?_
 refine as_ ?_
 refine XL.fin (kq 0 (kq 1 kn)) ?_
 refine XC.seq ?_
 refine XC.reg ?_
 refine mv_ ?_
 refine XL.q (q_ptrEqNil (e := 124) rfl rfl (by kernel_rfl)) rfl ?_
 refine XL.fin (kq 0 (kq 1 (kq 6 kn))) ?_
 refine XC.condF rfl ?_
 refine XC.skip ?_
 refine nx (kq 0 (kq 1 kn)) ?_
 refine XC.seq ?_
 refine XC.reg ?_
 refine mv_ ?_
 refine XL.q (q_nil rfl) rfl ?_
 refine XL.q (qf_ 0 0) rfl ?_
 refine XL.q ql_ rfl ?_
 refine XL.q (q_cmp false rfl rfl (eqF (by rw [hr]; decide))) rfl ?_
 refine XL.fin (kq 0 (kq 1 (kq 11 kn))) ?_
 refine XC.condF rfl ?_
 refine XC.skip ?_
 refine nx (kq 0 (kq 1 kn)) ?_
 refine XC.reg ?_
 refine mv_ (mv_ ?_)
 refine XL.lo rfl (l_call (Mc := (pb, blk [.int .u8 (md s.real), sv, .int .i64 (((s.n : Nat) : Int)), .pointer (some ⟨bt, 0, none⟩)] 124) :: (B ++ MT)) (R := _) (aS rfl (aS rfl a0)) (by kernel_rfl) PickC.perm (public_p pb s hr v w _ _ ⟨sv, bt, bm, B, MT, rfl, hby, hT⟩ hn (hv.mono SubC.sub) hG.up) rfl ?_)
 rintro v17 M17 J17 ⟨hP17, h17⟩
 haveI := h17.cel
 refine as_ ?_
 refine XL.fin (kq 4 kn) ?_
 refine XC.ret ?_
 exact ⟨_, M17, [], res1 rfl rfl, Fit.none (Fit.last PickC.perm), hP17, h17.mono SubC.sub⟩

theorem public_b (pb : Nat) (s : Ps) (v : Value) (w : List Nat) (MP A : Mem) (hP : Prm pb s MP) (hn : s.ts.length < 1048576) (hv : By A v w) (hG : Glb A) : FnX Tryz.prog 34 [.pointer (some ⟨pb, 0, none⟩), v] MP A fun q M J => Prm pb (pubS2 s w) M ∧ By J q (pubK2 s w) := by
  cases hr : s.real with
  | true => unfold pubS2 pubK2; rw [hr]; exact public_r pb s hr v w MP A hP hv
  | false => unfold pubS2 pubK2; rw [hr]; exact public_p pb s hr v w MP A hP hn hv hG
theorem agree_b (pb : Nat) (s : Ps) (v v2 : Value) (w u : List Nat) (MP A : Mem) (hP : Prm pb s MP) (hn : s.ts.length + 1 < 1048576) (hv : By A v w) (hu : By A v2 u) (hG : Glb A) : FnX Tryz.prog 52 [.pointer (some ⟨pb, 0, none⟩), v, v2] MP A fun q M J => Prm pb (agrS2 s w u) M ∧ By J q (agrK2 s w u) := by
  cases hr : s.real with
  | true => unfold agrS2 agrK2; rw [hr]; exact agree_r pb s hr v v2 w u MP A hP hv hu
  | false => unfold agrS2 agrK2; rw [hr]; exact pagree_p pb s hr v v2 w u MP A hP hn hv hu hG
theorem psign_b (pb : Nat) (s : Ps) (v v2 : Value) (w m : List Nat) (MP A : Mem) (hP : Prm pb s MP) (hn : s.ts.length < 1048576) (hv : By A v w) (hm : By A v2 m) (hG : Glb A) : FnX Tryz.prog 46 [.pointer (some ⟨pb, 0, none⟩), v, v2] MP A fun q M J => Prm pb (sgS2 s w m) M ∧ By J q (sgK2 s w m) := by
  cases hr : s.real with
  | true => unfold sgS2 sgK2; rw [hr]; exact psign_r pb s hr v v2 w m MP A hP hv hm hG
  | false =>
    unfold sgS2 sgK2; rw [hr]
    obtain ⟨bt, bm, h⟩ := hP.t
    exact (sign_spec pb bt bm s hr v v2 w m MP A h hn hv hm hG).mono fun q M J ⟨h1, h2⟩ => ⟨h1.p, h2⟩

end Go.Proofs.YtphcaiplgpmnnaaGreatDoor
/- What was made of keys is made of them again, in both modes: what a state behind it answers. -/
namespace Go.Proofs.YtphcaiplgpmnnaaGreatDoor
open Go.Px
/-- A state behind another one: of the same seed, too. -/
structure Ext (s s' : Ps) : Prop where
  p : Pext s s'
  seed : s'.seed = s.seed
  n : s.n ≤ s'.n
theorem Ext.refl (s : Ps) : Ext s s := ⟨Pext.refl s, rfl, Nat.le_refl _⟩
theorem Ext.trans {a b c : Ps} (h : Ext a b) (h' : Ext b c) : Ext a c := ⟨h.p.trans h'.p, h'.seed.trans h.seed, Nat.le_trans h.n h'.n⟩
theorem add_pre (ts : List Tm) (t : Tm) : ∃ l, add ts t = ts ++ l := by
  unfold add
  split
  · exact ⟨[], by simp⟩
  · exact ⟨_, rfl⟩
theorem rdT_pre (ts : List Tm) (w : List Nat) : ∃ l, rdT ts w = ts ++ l := by
  cases hp : plc w ts.length with
  | some j => exact ⟨[], by rw [(rdT_some hp).1]; simp⟩
  | none => rw [(rdT_none hp).1]; exact add_pre _ _
theorem radd_pre (ts : List Tm) (w : List Nat) (t : Tm) : ∃ l, add (rdT ts w) t = ts ++ l := by
  obtain ⟨l1, e1⟩ := rdT_pre ts w
  obtain ⟨l2, e2⟩ := add_pre (rdT ts w) t
  exact ⟨l1 ++ l2, by rw [e2, e1, List.append_assoc]⟩
theorem pub_ex (s : Ps) (w : List Nat) : Ext s (pubS2 s w) := by
  unfold pubS2
  split
  · exact Ext.refl s
  · exact ⟨⟨rfl, radd_pre _ _ _⟩, rfl, Nat.le_refl _⟩
theorem pub_t {s : Ps} {i : Nat} (hi : i < s.ts.length) (hl : s.ts.length ≤ 1048576) : pubS s (bts ((i : Nat) : Int)) = { s with ts := add s.ts (pubT ((i : Nat) : Int)) } ∧ pubK s (bts ((i : Nat) : Int)) = bts ((at_ s.ts (pubT ((i : Nat) : Int)) : Nat) : Int) := by
  obtain ⟨h1, h2⟩ := good_rd hi hl
  unfold pubS pubK
  rw [h1, h2]
  exact ⟨rfl, rfl⟩
theorem one_t {s : Ps} {i : Nat} (hi : i < s.ts.length) (hl : s.ts.length ≤ 1048576) (f : Int → Tm) : one1 s (bts ((i : Nat) : Int)) f = { s with ts := add s.ts (f ((i : Nat) : Int)) } ∧ oneK s (bts ((i : Nat) : Int)) f = bts ((at_ s.ts (f ((i : Nat) : Int)) : Nat) : Int) := by
  obtain ⟨h1, h2⟩ := good_rd hi hl
  unfold one1 oneK
  rw [h1, h2]
  exact ⟨rfl, rfl⟩
theorem i64_nat {i : Nat} (h : i ≤ 1048576) : i64 ((i : Nat) : Int) := by unfold i64; omega
/-- Of a secret key this is public. -/
def PubT (s : Ps) (w p : List Nat) : Prop := ∃ i j : Nat, i < s.ts.length ∧ w = bts ((i : Nat) : Int) ∧ s.ts[j]? = some (pubT ((i : Nat) : Int)) ∧ p = bts ((j : Nat) : Int)
def PubAt (s : Ps) (w p : List Nat) : Prop := if s.real then p = base25 (fitN w 32) else PubT s w p
def SkAt (s : Ps) (w p : List Nat) : Prop := if s.real then p = pubB (fitN w 32) else PubT s w p
def SigAt (s : Ps) (w m g : List Nat) : Prop := if s.real then g = sigB (fitN w 32) m else ∃ i j : Nat, i < s.ts.length ∧ w = bts ((i : Nat) : Int) ∧ s.ts[j]? = some (sigT ((i : Nat) : Int) m) ∧ g = fitN (bts ((j : Nat) : Int)) 64
theorem PubT.ext {s s' : Ps} {w p : List Nat} (h : PubT s w p) (he : Pext s s') : PubT s' w p := by
  obtain ⟨l, e⟩ := he.ts
  obtain ⟨i, j, h1, h2, h3, h4⟩ := h
  exact ⟨i, j, by rw [e, List.length_append]; omega, h2, by rw [e]; exact ext_at h3, h4⟩
theorem PubAt.ext {s s' : Ps} {w p : List Nat} (h : PubAt s w p) (he : Pext s s') : PubAt s' w p := by
  unfold PubAt at *
  rw [he.real]
  split
  · rename_i hr; rwa [if_pos hr] at h
  · rename_i hr; rw [if_neg hr] at h; exact h.ext he
theorem SkAt.ext {s s' : Ps} {w p : List Nat} (h : SkAt s w p) (he : Pext s s') : SkAt s' w p := by
  unfold SkAt at *
  rw [he.real]
  split
  · rename_i hr; rwa [if_pos hr] at h
  · rename_i hr; rw [if_neg hr] at h; exact h.ext he
theorem SigAt.ext {s s' : Ps} {w m g : List Nat} (h : SigAt s w m g) (he : Pext s s') : SigAt s' w m g := by
  unfold SigAt at *
  rw [he.real]
  split
  · rename_i hr; rwa [if_pos hr] at h
  · rename_i hr
    rw [if_neg hr] at h
    obtain ⟨l, e⟩ := he.ts
    obtain ⟨i, j, h1, h2, h3, h4⟩ := h
    exact ⟨i, j, by rw [e, List.length_append]; omega, h2, by rw [e]; exact ext_at h3, h4⟩
theorem pubT_at {s : Ps} {w : List Nat} (h : Good s.ts w) (ht : Tok s.ts) (hl : s.ts.length ≤ 1048576) : PubT (pubS s w) w (pubK s w) ∧ Tok (pubS s w).ts := by
  obtain ⟨i, hi, rfl⟩ := h
  obtain ⟨e1, e2⟩ := pub_t hi hl
  obtain ⟨l, g1, g2, g3, g4⟩ := pfact (pub_ok (i64_nat (show i ≤ 1048576 by omega))) ht
  rw [e1, e2]
  exact ⟨⟨i, _, by show i < (add s.ts _).length; rw [g1, List.length_append]; omega, rfl, g3, rfl⟩, g4⟩
theorem pub_at {s : Ps} {w : List Nat} (h : Kok s w) (ht : Tok s.ts) (hl : s.ts.length ≤ 1048576) : PubAt (pubS2 s w) w (pubK2 s w) ∧ SkAt (pubS2 s w) w (skK2 s w) ∧ Tok (pubS2 s w).ts := by
  unfold PubAt SkAt pubS2 pubK2 skK2
  cases hr : s.real with
  | true => simp [hr, ht]
  | false =>
    obtain ⟨h1, h2⟩ := pubT_at (h hr) ht hl
    have h3 : (pubS s w).real = false := hr
    simp only [Bool.false_eq_true, if_false, h3]
    exact ⟨h1, h1, h2⟩
theorem PubT.eq {s : Ps} {w p : List Nat} (h : PubT s w p) (ht : Tok s.ts) (hl : s.ts.length ≤ 1048576) : pubS s w = s ∧ pubK s w = p := by
  obtain ⟨i, j, h1, rfl, h3, rfl⟩ := h
  obtain ⟨e1, e2⟩ := pub_t h1 hl
  obtain ⟨e3, e4⟩ := again ht h3
  rw [e1, e2, e3, e4]
  exact ⟨rfl, rfl⟩
theorem SigAt.f {s : Ps} (h : s.real = false) {w m g : List Nat} : SigAt s w m g ↔ ∃ i j : Nat, i < s.ts.length ∧ w = bts ((i : Nat) : Int) ∧ s.ts[j]? = some (sigT ((i : Nat) : Int) m) ∧ g = fitN (bts ((j : Nat) : Int)) 64 := by unfold SigAt; rw [if_neg (by rw [h]; decide)]
theorem sgS2_f {s : Ps} (h : s.real = false) (w m : List Nat) : sgS2 s w m = one1 s w fun x => sigT x m := by unfold sgS2; rw [if_neg (by rw [h]; decide)]
theorem sgK2_f {s : Ps} (h : s.real = false) (w m : List Nat) : sgK2 s w m = fitN (oneK s w fun x => sigT x m) 64 := by unfold sgK2; rw [if_neg (by rw [h]; decide)]
/-- What Check answers of terms. -/
def chkT (ts : List Tm) (p m g : List Nat) : Bool := decide (g.length = 64) && match plc g ts.length, plc p ts.length with
  | some i, some k => decide (p.length = 32) && match ts[i]?, ts[k]? with
    | some t, some u => decide (t.kind = 7) && decide (t.text = m) && decide (u.kind = 3) && decide (u.of.getD 0 0 = t.of.getD 0 0)
    | _, _ => false
  | _, _ => false
noncomputable def chkK (s : Ps) (p m g : List Nat) : Bool := if s.real then chkB p m g else chkT s.ts p m g
/-- Terms that are made of something are. -/
def Ar (ts : List Tm) : Prop := ∀ t ∈ ts, (t.kind = 3 ∨ t.kind = 6 ∨ t.kind = 7) → 0 < t.of.length
theorem Ar.nil : Ar [] := fun t h => by cases h
theorem Ar.add {ts : List Tm} (h : Ar ts) {t : Tm} (ht : (t.kind = 3 ∨ t.kind = 6 ∨ t.kind = 7) → 0 < t.of.length) : Ar (add ts t) := by
  unfold Go.Proofs.YtphcaiplgpmnnaaGreatDoor.add
  split
  · exact h
  · intro u hu
    rcases List.mem_append.1 hu with h1 | h1
    · exact h u h1
    · rw [List.mem_singleton.1 h1]; exact ht
theorem Ar.rd {ts : List Tm} (h : Ar ts) (w : List Nat) : Ar (rdT ts w) := by
  cases hp : plc w ts.length with
  | some j => rw [(rdT_some hp).1]; exact h
  | none => rw [(rdT_none hp).1]; exact h.add (by intro h; rcases h with h | h | h <;> cases h)
end Go.Proofs.YtphcaiplgpmnnaaGreatDoor
/- The walk of prim's Check, in both modes. -/
namespace Go.Proofs.YtphcaiplgpmnnaaGreatDoor
open Go.Px
end Go.Proofs.YtphcaiplgpmnnaaGreatDoor
/-
  The twisted curve and the ladder on the other curve: fractions of first coordinates. No program in sight.
-/
set_option maxRecDepth 10000
namespace Go.Ed
variable {n : Nat} [NeZero n]
theorem xx_law {x y d : Fin n} (h : y*y - x*x = 1 + d*x*x*y*y) : x*x*(1 + d*(y*y)) = y*y - 1 := by grind
theorem lad_l (x2 y2 x3 y3 d : Fin n) (h2 : y2*y2 - x2*x2 = 1 + d*x2*x2*y2*y2) (h3 : y3*y3 - x3*x3 = 1 + d*x3*x3*y3*y3) :
    (1 + d*(y2*y2))*(1 + d*(y3*y3))*((1 - y2*y3 - (d*x2*x3*y2*y3 + x2*x3))*(1 - y2*y3 + (d*x2*x3*y2*y3 + x2*x3))) = (y2 - y3)*(y2 - y3)*((1 + d)*(1 + d*(y2*y3)*(y2*y3))) := by
  have e2 := xx_law h2
  have e3 := xx_law h3
  have e : (1 + d*(y2*y2))*(1 + d*(y3*y3))*((1 - y2*y3 - (d*x2*x3*y2*y3 + x2*x3))*(1 - y2*y3 + (d*x2*x3*y2*y3 + x2*x3))) = (1 + d*(y2*y2))*(1 + d*(y3*y3))*((1 - y2*y3)*(1 - y2*y3)) - (x2*x2*(1 + d*(y2*y2)))*(x3*x3*(1 + d*(y3*y3)))*((1 + d*(y2*y3))*(1 + d*(y2*y3))) := by clear h2 h3 e2 e3; grind
  rw [e, e2, e3]
  clear h2 h3 e2 e3 e
  grind
theorem lad_r (x2 y2 x3 y3 d : Fin n) (h2 : y2*y2 - x2*x2 = 1 + d*x2*x2*y2*y2) (h3 : y3*y3 - x3*x3 = 1 + d*x3*x3*y3*y3) :
    (1 + d*(y2*y2))*(1 + d*(y3*y3))*((1 + y2*y3 + (x2*x3 - d*x2*x3*y2*y3))*(1 + y2*y3 - (x2*x3 - d*x2*x3*y2*y3))) = (y2 + y3)*(y2 + y3)*((1 + d)*(1 + d*(y2*y3)*(y2*y3))) := by
  have e2 := xx_law h2
  have e3 := xx_law h3
  have e : (1 + d*(y2*y2))*(1 + d*(y3*y3))*((1 + y2*y3 + (x2*x3 - d*x2*x3*y2*y3))*(1 + y2*y3 - (x2*x3 - d*x2*x3*y2*y3))) = (1 + d*(y2*y2))*(1 + d*(y3*y3))*((1 + y2*y3)*(1 + y2*y3)) - (x2*x2*(1 + d*(y2*y2)))*(x3*x3*(1 + d*(y3*y3)))*((1 - d*(y2*y3))*(1 - d*(y2*y3))) := by clear h2 h3 e2 e3; grind
  rw [e, e2, e3]
  clear h2 h3 e2 e3 e
  grind
theorem pf1 {m k t S t2 : Fin n} (h : 1 - t = t2) (s : S*t2 = m + k) : 1 - m - (t + k) = (1 - S)*t2 := by grind
theorem pf2 {m k t y t1 : Fin n} (h : 1 + t = t1) (s : y*t1 = m - k) : 1 - m + (t + k) = (1 - y)*t1 := by grind
theorem pf3 {m k t S t2 : Fin n} (h : 1 - t = t2) (s : S*t2 = m + k) : 1 + m + (k - t) = (1 + S)*t2 := by grind
theorem pf4 {m k t y t1 : Fin n} (h : 1 + t = t1) (s : y*t1 = m - k) : 1 + m - (k - t) = (1 + y)*t1 := by grind
theorem pf5 {a b y z : Fin n} : (b*(1 + z) - b*(1 - z))*(a*(1 + y) + a*(1 - y)) + (b*(1 + z) + b*(1 - z))*(a*(1 + y) - a*(1 - y)) = 4*(a*b)*(y + z) := by grind
theorem pf6 {a b y z : Fin n} : (b*(1 + z) - b*(1 - z))*(a*(1 + y) + a*(1 - y)) - (b*(1 + z) + b*(1 - z))*(a*(1 + y) - a*(1 - y)) = 4*(a*b)*(z - y) := by grind
theorem pf7 {Y L M I : Fin n} (h : L = Y*M) (hi : M*I = 1) : Y = L*I := by grind
theorem pf8 {c y a2 a3 S t2 t1 v I : Fin n} (h : y*y = a2*a3*((1 + S)*t2*((1 + v)*t1))*I) : 4*c*y*(4*c*y) = 16*(c*c)*(t1*t2)*(a2*a3)*I*(1 + v)*(1 + S) := by
  have : 4*c*y*(4*c*y) = 16*(c*c)*(y*y) := by grind
  rw [this, h]; clear this h; grind
theorem pf9 {c y a2 a3 S t2 t1 v I u : Fin n} (h : y*y = a2*a3*((1 - S)*t2*((1 - v)*t1))*I) (hu : u*(1 - v) = 1 + v) : u*(4*c*y*(4*c*y)) = 16*(c*c)*(t1*t2)*(a2*a3)*I*(1 + v)*(1 - S) := by
  have e : u*(4*c*y*(4*c*y)) = u*(16*(c*c)*(y*y)) := by clear h hu; grind
  have e2 : u*(16*(c*c)*(a2*a3*((1 - S)*t2*((1 - v)*t1))*I)) = (u*(1 - v))*(16*(c*c)*(a2*a3*((1 - S)*t2*t1)*I)) := by clear h hu e; grind
  rw [e, h, e2, hu]; clear h hu e e2; grind
theorem pg1 {a y : Fin n} : (a*(1 + y) + a*(1 - y))*(a*(1 + y) + a*(1 - y)) = 4*(a*a) := by grind
theorem pg2 {a y : Fin n} : (a*(1 + y) - a*(1 - y))*(a*(1 + y) - a*(1 - y)) = 4*(a*a)*(y*y) := by grind
theorem pg3 {d k y : Fin n} (h : d*(k + 1) = -k) : (1 + d)*(1 + k*(1 - y*y)) = 1 + d*(y*y) := by grind
theorem pg4 {d w x y : Fin n} (h : (1 + d)*w = 1 + d*(y*y)) (hx : x*x*(1 + d*(y*y)) = y*y - 1) : (1 + d)*((1 + x*x)*w) = (1 + d)*(y*y) := by
  have : (1 + d)*((1 + x*x)*w) = (1 + x*x)*((1 + d)*w) := by clear h hx; grind
  rw [this, h]; clear this h; grind
theorem pg5 {d x y D S : Fin n} (he : y*y - x*x = 1 + d*x*x*y*y) (hD : 1 - d*x*x*y*y = D) (s : S*D = y*y + x*x) : D*(1 + S) = 2 + 2*(x*x) ∧ D*(1 - S) = 2 - 2*(y*y) := by
  have : D = 2 - y*y + x*x := by grind
  constructor
  · have : D*(1 + S) = D + S*D := by clear s he hD this; grind
    rw [this, s]; clear this s; grind
  · have : D*(1 - S) = D - S*D := by clear s he hD this; grind
    rw [this, s]; clear this s; grind
theorem pg6 {a w D S x y : Fin n} (g : D*(1 + S) = 2 + 2*(x*x)) (h : (1 + x*x)*w = y*y) : 4*(a*a)*(4*(a*a)*(y*y)) = 8*(a*a*(a*a))*w*D*(1 + S) := by
  have e : 8*(a*a*(a*a))*w*D*(1 + S) = 8*(a*a*(a*a))*w*(D*(1 + S)) := by clear g h; grind
  have e2 : 8*(a*a*(a*a))*w*(2 + 2*(x*x)) = 16*(a*a*(a*a))*((1 + x*x)*w) := by clear g h e; grind
  rw [e, g, e2, h]; clear g h e e2; grind
theorem pg7 {a k D S y : Fin n} (g : D*(1 - S) = 2 - 2*(y*y)) : (4*(a*a) - 4*(a*a)*(y*y))*(4*(a*a) + k*(4*(a*a) - 4*(a*a)*(y*y))) = 8*(a*a*(a*a))*(1 + k*(1 - y*y))*D*(1 - S) := by
  have e : 8*(a*a*(a*a))*(1 + k*(1 - y*y))*D*(1 - S) = 8*(a*a*(a*a))*(1 + k*(1 - y*y))*(D*(1 - S)) := by clear g; grind
  rw [e, g]; clear g e; grind
variable {d : Fin n} (F : Fld n d)
/-- The first coordinate of a point on the other curve, as a fraction. -/
structure RepU (X Z : Fin n) (P : Fin n × Fin n) : Prop where
  ex : ∃ c, c ≠ 0 ∧ X = c * (1 + P.2) ∧ Z = c * (1 - P.2)
include F
theorem Fld.four : (4 : Fin n) ≠ 0 := fun h => F.two ((F.mul0 2 2 (by grind)).elim id id)
theorem Fld.a_ne (y : Fin n) : 1 + d*(y*y) ≠ 0 := fun h => F.dy_ne (y := y) (by grind)
theorem Fld.rep_dif {A B C D u yD : Fin n} {P Q : Fin n × Fin n} (hP : On d P) (hQ : On d Q) (h1 : RepU A B P) (h2 : RepU C D Q) (hD : yD*(1 + d*P.1*Q.1*P.2*Q.2) = P.2*Q.2 - P.1*Q.1) (hu : u*(1 - yD) = 1 + yD) (hy : 1 + yD ≠ 0) {p q da cb : Fin n} (hp : p = A + B) (hq : q = A - B) (hda : da = (C - D)*p) (hcb : cb = (C + D)*q) :
    RepU ((da + cb)*(da + cb)) (u*((da - cb)*(da - cb))) (F.add P Q) := by
  obtain ⟨a, ha, rfl, rfl⟩ := h1
  obtain ⟨b, hb, rfl, rfl⟩ := h2
  obtain ⟨k1, k2⟩ := F.complete hP hQ
  obtain ⟨-, s2⟩ := F.add_spec hP hQ
  have hL := lad_l P.1 P.2 Q.1 Q.2 d hP.eq hQ.eq
  have hR := lad_r P.1 P.2 Q.1 Q.2 d hP.eq hQ.eq
  have n2 := F.a_ne P.2
  have n3 := F.a_ne Q.2
  have n4 : (1 + d) ≠ 0 := by have := F.a_ne 1; rwa [show d * ((1 : Fin n) * 1) = d by grind] at this
  have n5 : 1 + d*(P.2*Q.2)*(P.2*Q.2) ≠ 0 := by have := F.a_ne (P.2*Q.2); rwa [← show d*(P.2*Q.2)*(P.2*Q.2) = d*((P.2*Q.2)*(P.2*Q.2)) by grind] at this
  have n6 := F.mul_ne n4 n5
  have hi := F.hinv _ n6
  generalize F.add P Q = S at *
  have hI : F.inv ((1 + d)*(1 + d*(P.2*Q.2)*(P.2*Q.2))) ≠ 0 := fun h => by rw [h] at hi; exact F.one (by rw [← hi]; grind)
  rw [pf1 (S := S.2) rfl s2, pf2 rfl hD] at hL
  rw [pf3 (S := S.2) rfl s2, pf4 rfl hD] at hR
  have g : (16 : Fin n) ≠ 0 := fun h => F.four ((F.mul0 4 4 (by grind)).elim id id)
  refine ⟨16*(a*b*(a*b))*((1 + d*P.1*Q.1*P.2*Q.2)*(1 - d*P.1*Q.1*P.2*Q.2))*((1 + d*(P.2*P.2))*(1 + d*(Q.2*Q.2)))*F.inv ((1 + d)*(1 + d*(P.2*Q.2)*(P.2*Q.2)))*(1 + yD), ?_, ?_, ?_⟩
  · exact F.mul_ne (F.mul_ne (F.mul_ne (F.mul_ne (F.mul_ne g (F.mul_ne (F.mul_ne ha hb) (F.mul_ne ha hb))) (F.mul_ne k1 k2)) (F.mul_ne n2 n3)) hI) hy
  · subst hp hq hda hcb
    rw [pf5]
    exact pf8 (pf7 hR hi)
  · subst hp hq hda hcb
    rw [pf6]
    have e : (Q.2 - P.2)*(Q.2 - P.2) = (P.2 - Q.2)*(P.2 - Q.2) := by clear hL hR hi s2 hD hu; grind
    exact pf9 (e.trans (pf7 hL hi)) hu
theorem Fld.rep_dbl {A B k : Fin n} {P : Fin n × Fin n} (hP : On d P) (h1 : RepU A B P) (hk : d*(k + 1) = -k) {ss tt : Fin n} (hs : ss = (A + B)*(A + B)) (ht : tt = (A - B)*(A - B)) :
    RepU (ss*tt) ((ss - tt)*(ss + k*(ss - tt))) (F.add P P) := by
  obtain ⟨a, ha, rfl, rfl⟩ := h1
  obtain ⟨k1, k2⟩ := F.complete hP hP
  obtain ⟨-, s2⟩ := F.add_spec hP hP
  have n2 := F.a_ne P.2
  have n4 : (1 + d) ≠ 0 := by have := F.a_ne 1; rwa [show d * ((1 : Fin n) * 1) = d by grind] at this
  have hk1 := pg3 (y := P.2) hk
  have hw : 1 + k*(1 - P.2*P.2) ≠ 0 := fun h => by rw [h] at hk1; exact n2 (by rw [← hk1]; grind)
  have hx1 := F.cancel n4 (pg4 hk1 (xx_law hP.eq))
  obtain ⟨g1, g2⟩ := pg5 hP.eq rfl s2
  rw [pg1] at hs
  rw [pg2] at ht
  subst hs ht
  have g : (8 : Fin n) ≠ 0 := fun h => F.two ((F.mul0 2 4 (by grind)).elim id fun h => absurd h F.four)
  exact ⟨8*(a*a*(a*a))*(1 + k*(1 - P.2*P.2))*(1 - d*P.1*P.1*P.2*P.2), F.mul_ne (F.mul_ne (F.mul_ne g (F.mul_ne (F.mul_ne ha ha) (F.mul_ne ha ha))) hw) k2, pg6 g1 hx1, pg7 g2⟩
/-- A point's own other one. -/
theorem Fld.add_neg {P : Fin n × Fin n} (hP : On d P) : On d (-P.1, P.2) ∧ F.add P (-P.1, P.2) = ((0 : Fin n), (1 : Fin n)) := by
  have he := hP.eq
  have ho : On d (-P.1, P.2) := ⟨by show P.2*P.2 - -P.1 * -P.1 = 1 + d * -P.1 * -P.1 * P.2 * P.2; grind⟩
  refine ⟨ho, F.add_eq hP ho ?_ ?_⟩
  · show 0 * (1 + d*P.1* -P.1*P.2*P.2) = P.1*P.2 + -P.1*P.2; grind
  · show 1 * (1 - d*P.1* -P.1*P.2*P.2) = P.2*P.2 + P.1* -P.1; grind
/-- The difference of a sum and the first of its two is the second. -/
theorem Fld.dif {P Q : Fin n × Fin n} (hP : On d P) (hQ : On d Q) : Q.2*(1 + d*P.1*(F.add P Q).1*P.2*(F.add P Q).2) = P.2*(F.add P Q).2 - P.1*(F.add P Q).1 := by
  obtain ⟨o, e⟩ := F.add_neg hP
  have hS := F.add_on hP hQ
  have e2 : F.add (F.add P Q) (-P.1, P.2) = Q := by
    rw [F.add_comm P Q, F.add_assoc hQ hP o, e, F.add_o]
  have h := (F.add_spec hS o).2
  rw [e2] at h
  dsimp only at h
  generalize F.add P Q = S at *
  clear e2 e hS
  grind
end Go.Ed

/- Both ways round a third one's secret is the same: X25519 commutes. -/
namespace Go.Proofs.YtphcaiplgpmnnaaGreatDoor
open Go.Px Go.Ed
theorem pr531581 : Go.Px.IsPr 531581 := small 730 (by decide) (by decide) (by decide +kernel)
theorem pr1224481 : Go.Px.IsPr 1224481 := small 1107 (by decide) (by decide) (by decide +kernel)
theorem prL1 : Go.Px.IsPr 1257559732178653 := pock (F := 531581 * 1224481) (by decide) (by decide) fun s hs hd => cop_mul_dvd pr531581 pr1224481 (by decide) (ptest_spec (a := 2) (by decide) (by decide) pr531581 (by decide +kernel) s hs hd) (ptest_spec (a := 2) (by decide) (by decide) pr1224481 (by decide +kernel) s hs hd)
theorem prL2 : Go.Px.IsPr 4434155615661930479 := pock (F := 1257559732178653) (by decide) (by decide) (ptest_spec (a := 2) (by decide) (by decide) prL1 (by decide +kernel))
theorem prL3 : Go.Px.IsPr 172054593956031949258510691 := pock (F := 4434155615661930479) (by decide) (by decide) (ptest_spec (a := 2) (by decide) (by decide) prL2 (by decide +kernel))
theorem prL4 : Go.Px.IsPr 19757330305831588566944191468367130476339 := pock (F := 172054593956031949258510691) (by decide) (by decide) (ptest_spec (a := 2) (by decide) (by decide) prL3 (by decide +kernel))
theorem prL5 : Go.Px.IsPr 276602624281642239937218680557139826668747 := pock (F := 19757330305831588566944191468367130476339) (by decide) (by decide) (ptest_spec (a := 2) (by decide) (by decide) prL4 (by decide +kernel))
theorem prL : Go.Px.IsPr lN := pock (F := 276602624281642239937218680557139826668747) (by decide) (by decide) (ptest_spec (a := 2) (by decide) (by decide) prL5 (by decide +kernel))
/-- Two points' fractions, of two multiples of one point. -/
structure LR (P : Fin p25 × Fin p25) (s : Lad) (m1 m2 : Nat) : Prop where
  r1 : RepU (fF s.a) (fF s.b) (FF.nsm m1 P)
  r2 : RepU (fF s.c) (fF s.d) (FF.nsm m2 P)
  la : s.a < p25
  lb : s.b < p25
  lc : s.c < p25
  ld : s.d < p25
theorem LR.sw {P : Fin p25 × Fin p25} {s : Lad} {m1 m2 : Nat} (h : LR P s m1 m2) : LR P ⟨s.c, s.d, s.a, s.b⟩ m2 m1 := ⟨h.r2, h.r1, h.lc, h.ld, h.la, h.lb⟩
theorem k_law : fF dN * (fF 121665 + 1) = -fF 121665 := by decide +kernel
theorem LR.step {P : Fin p25 × Fin p25} {u : Nat} {s : Lad} {m1 m2 : Nat} (hP : On (fF dN) P) (hU : fF u * (1 - P.2) = 1 + P.2) (h2 : 1 + P.2 ≠ 0) (h : LR P s m1 m2) (hm : m2 = m1 + 1 ∨ m1 = m2 + 1) : LR P (stepL u s) (m1 + m1) (m1 + m2) := by
  have o1 := FF.nsm_on hP m1
  have o2 := FF.nsm_on hP m2
  have hD : P.2*(1 + fF dN*(FF.nsm m1 P).1*(FF.nsm m2 P).1*(FF.nsm m1 P).2*(FF.nsm m2 P).2) = (FF.nsm m1 P).2*(FF.nsm m2 P).2 - (FF.nsm m1 P).1*(FF.nsm m2 P).1 := by
    rcases hm with rfl | rfl
    · exact FF.dif o1 hP
    · have h1 := FF.dif o2 hP
      rw [← FF.nsm_succ] at h1
      generalize FF.nsm m2 P = Q at *
      generalize FF.nsm (m2 + 1) P = R at *
      have e1 : fF dN*R.1*Q.1*R.2*Q.2 = fF dN*Q.1*R.1*Q.2*R.2 := by clear h1 h hU; grind
      have e2 : R.2*Q.2 - R.1*Q.1 = Q.2*R.2 - Q.1*R.1 := by clear h1 h hU; grind
      rw [e1, e2]; exact h1
  refine ⟨?_, ?_, fM_lt _ _, fM_lt _ _, fM_lt _ _, fM_lt _ _⟩
  · rw [FF.nsm_add hP]
    show RepU (fF (fM (fM (fA s.a s.b) (fA s.a s.b)) (fM (fS s.a s.b) (fS s.a s.b)))) (fF (fM (fS (fM (fA s.a s.b) (fA s.a s.b)) (fM (fS s.a s.b) (fS s.a s.b))) (fA (fM (fA s.a s.b) (fA s.a s.b)) (fM 121665 (fS (fM (fA s.a s.b) (fA s.a s.b)) (fM (fS s.a s.b) (fS s.a s.b))))))) _
    rw [fF_M, fF_M (fS _ _) (fA _ _), fF_A, fF_M 121665, fF_S (fM_lt _ _)]
    exact FF.rep_dbl o1 h.r1 k_law (by rw [fF_M, fF_A]) (by rw [fF_M, fF_S h.lb])
  · rw [FF.nsm_add hP]
    show RepU (fF (fM (fA (fM (fS s.c s.d) (fA s.a s.b)) (fM (fA s.c s.d) (fS s.a s.b))) (fA (fM (fS s.c s.d) (fA s.a s.b)) (fM (fA s.c s.d) (fS s.a s.b))))) (fF (fM u (fM (fS (fM (fS s.c s.d) (fA s.a s.b)) (fM (fA s.c s.d) (fS s.a s.b))) (fS (fM (fS s.c s.d) (fA s.a s.b)) (fM (fA s.c s.d) (fS s.a s.b)))))) _
    rw [fF_M (fA _ _), fF_M u, fF_M (fS _ _) (fS _ _), fF_A (fM _ _), fF_S (fM_lt _ _)]
    exact FF.rep_dif o1 o2 h.r1 h.r2 hD hU h2 (p := fF s.a + fF s.b) (q := fF s.a - fF s.b) rfl rfl (by rw [fF_M, fF_S h.ld, fF_A]) (by rw [fF_M, fF_A, fF_S h.lb])
theorem lad_rep {P : Fin p25 × Fin p25} {u : Nat} (hP : On (fF dN) P) (hu : u < p25) (hU : fF u * (1 - P.2) = 1 + P.2) (h1 : 1 - P.2 ≠ 0) (h2 : 1 + P.2 ≠ 0) {n : Nat} (hn : n < 2 ^ 255) : ∀ k, k ≤ 255 → LR P (ladN u n k) (n / 2 ^ (255 - k)) (n / 2 ^ (255 - k) + 1)
  | 0, _ => by
    rw [Nat.div_eq_of_lt hn]
    have i2 := FF.hinv _ FF.two
    have i1 := FF.hinv _ h1
    have ne : ∀ {a : Fin p25}, a ≠ 0 → FF.inv a ≠ 0 := fun {a} ha h => by
      have := FF.hinv _ ha
      rw [h] at this
      exact FF.one (by rw [← this]; grind)
    refine ⟨⟨FF.inv 2, ne FF.two, ?_, ?_⟩, ⟨FF.inv (1 - P.2), ne h1, ?_, ?_⟩, by show 1 < p25; decide, by show 0 < p25; decide, hu, by show 1 < p25; decide⟩
    · show fF 1 = FF.inv 2 * (1 + 1)
      rw [show (1 : Fin p25) + 1 = 2 from rfl, ← show (2 : Fin p25) * FF.inv 2 = FF.inv 2 * 2 by grind, i2]; rfl
    · show fF 0 = FF.inv 2 * (1 - 1)
      rw [show (1 : Fin p25) - 1 = 0 from rfl, show FF.inv 2 * (0 : Fin p25) = 0 by grind]; rfl
    · show fF u = FF.inv (1 - P.2) * (1 + (FF.add ((0 : Fin p25), (1 : Fin p25)) P).2)
      rw [FF.add_comm, FF.add_o, ← hU]
      have : FF.inv (1 - P.2) * (fF u * (1 - P.2)) = fF u * ((1 - P.2) * FF.inv (1 - P.2)) := by clear i1 i2 hU; grind
      rw [this, i1]; grind
    · show fF 1 = FF.inv (1 - P.2) * (1 - (FF.add ((0 : Fin p25), (1 : Fin p25)) P).2)
      rw [FF.add_comm, FF.add_o]
      have : FF.inv (1 - P.2) * (1 - P.2) = (1 - P.2) * FF.inv (1 - P.2) := by clear i1 i2 hU; grind
      rw [this, i1]; rfl
  | k + 1, hk => by
    have ih := lad_rep hP hu hU h1 h2 hn k (by omega)
    have e1 : 255 - (k + 1) = 254 - k := by omega
    have e2 : n / 2 ^ (254 - k) = 2 * (n / 2 ^ (255 - k)) + n / 2 ^ (254 - k) % 2 := by
      have e3 : n / 2 ^ (255 - k) = n / 2 ^ (254 - k) / 2 := by rw [Nat.div_div_eq_div_mul, ← Nat.pow_succ]; congr 2; omega
      rw [e3]; omega
    rw [e1, e2]
    generalize n / 2 ^ (255 - k) = m at *
    show LR P (swL (decide (n / 2 ^ (254 - k) % 2 = 1)) (stepL u (swL (decide (n / 2 ^ (254 - k) % 2 = 1)) (ladN u n k)))) _ _
    by_cases hb : n / 2 ^ (254 - k) % 2 = 1
    · rw [hb]
      have h3 := (ih.sw.step hP hU h2 (.inr rfl)).sw
      rw [show m + 1 + m = 2 * m + 1 by omega, show m + 1 + (m + 1) = 2 * m + 1 + 1 by omega] at h3
      exact h3
    · rw [show n / 2 ^ (254 - k) % 2 = 0 by omega]
      have h3 := ih.step hP hU h2 (.inl rfl)
      rw [show m + m = 2 * m + 0 by omega, show m + (m + 1) = 2 * m + 0 + 1 by omega] at h3
      exact h3
/-- A point's coordinate on the other curve. -/
noncomputable def uOf (P : Fin p25 × Fin p25) : Fin p25 := (1 + P.2) * FF.inv (1 - P.2)
theorem inv_zero : FF.inv 0 = 0 := by
  show fF (fI (0 : Fin p25).val) = 0
  rw [fI_eq, rtp_pm (by decide)]
  decide +kernel
theorem lad_u {P : Fin p25 × Fin p25} {u : Nat} (hP : On (fF dN) P) (hu : u < p25) (hU : fF u * (1 - P.2) = 1 + P.2) (h1 : 1 - P.2 ≠ 0) (h2 : 1 + P.2 ≠ 0) {n : Nat} (hn : n < 2 ^ 255) : fM (ladN u n 255).a (fI (ladN u n 255).b) = (uOf (FF.nsm n P)).val := by
  have h := lad_rep hP hu hU h1 h2 hn 255 (Nat.le_refl _)
  rw [show 255 - 255 = 0 from rfl, Nat.pow_zero, Nat.div_one] at h
  obtain ⟨c, hc, e1, e2⟩ := h.r1
  have hb := h.lb
  generalize ladN u n 255 = s at *
  have e3 : fF (fM s.a (fI s.b)) = uOf (FF.nsm n P) := by
    rw [fF_M, e1]
    have e4 : fF (fI s.b) = FF.inv (fF s.b) := by
      show _ = fF (fI (fF s.b).val)
      rw [fF_val, Nat.mod_eq_of_lt hb]
    rw [e4, e2]
    unfold uOf
    generalize (FF.nsm n P).2 = y
    by_cases hy : 1 - y = 0
    · rw [hy, show c * (0 : Fin p25) = 0 by grind, inv_zero]; grind
    · have i1 := FF.hinv _ hy
      have i2 := FF.hinv _ (FF.mul_ne hc hy)
      have i3 : c * FF.inv (c * (1 - y)) = FF.inv (1 - y) := by
        refine FF.cancel hy ?_
        have e : (1 - y) * (c * FF.inv (c * (1 - y))) = c * (1 - y) * FF.inv (c * (1 - y)) := by
          generalize FF.inv (c * (1 - y)) = z
          clear i1 i2 e1 e2 e4
          grind
        rw [e, i2, i1]
      have : c * (1 + y) * FF.inv (c * (1 - y)) = (1 + y) * (c * FF.inv (c * (1 - y))) := by clear i1 i2 i3 e1 e2 e4; grind
      rw [this, i3]
  have := congrArg Fin.val e3
  rw [fF_val, Nat.mod_eq_of_lt (fM_lt _ _)] at this
  exact this
/-- A multiple that is nothing is one of the order's. -/
theorem nsm_dvd {B : Fin p25 × Fin p25} (hB : On (fF dN) B) (hne : B ≠ ((0 : Fin p25), (1 : Fin p25))) (hL : FF.nsm lN B = ((0 : Fin p25), (1 : Fin p25))) {j : Nat} (h : FF.nsm j B = ((0 : Fin p25), (1 : Fin p25))) : lN ∣ j := by
  apply Decidable.byContradiction
  intro hd
  have hc := prL.cop hd
  -- gcd: some a * j = 1 + b * lN
  have key : ∀ a b : Nat, FF.nsm a B = ((0 : Fin p25), (1 : Fin p25)) → FF.nsm b B = ((0 : Fin p25), (1 : Fin p25)) → FF.nsm (Nat.gcd a b) B = ((0 : Fin p25), (1 : Fin p25)) := by
    intro a b
    induction a, b using Nat.gcd.induction with
    | H0 b => intro _ h; rwa [Nat.gcd_zero_left]
    | H1 a b ha ih =>
      intro h1 h2
      rw [Nat.gcd_rec]
      refine ih ?_ h1
      rw [FF.nsm_mod hB h1]; exact h2
  have h1 := key lN j hL h
  rw [hc] at h1
  apply hne
  have : FF.nsm 1 B = FF.add ((0 : Fin p25), (1 : Fin p25)) B := rfl
  rw [this, FF.add_comm, FF.add_o] at h1
  exact h1
/-- A point whose second coordinate is 1 or -1 is of order one or two. -/
theorem y_one {P : Fin p25 × Fin p25} (hP : On (fF dN) P) (h : P.2 * P.2 = 1) : FF.add P P = ((0 : Fin p25), (1 : Fin p25)) := by
  have hx := xx_law hP.eq
  rw [h] at hx
  have hx0 : P.1 * P.1 * (1 + fF dN * 1) = 0 := by rw [hx]; grind
  have hn := FF.a_ne 1
  rw [show (1 : Fin p25) * 1 = 1 from rfl] at hn
  have h1 : P.1 * P.1 = 0 := (FF.mul0 _ _ hx0).resolve_right hn
  have h2 : P.1 = 0 := (FF.mul0 _ _ h1).elim id id
  obtain ⟨x, y⟩ := P
  dsimp only at h h2
  subst h2
  refine FF.add_eq hP hP ?_ ?_
  · show 0 * _ = 0 * y + 0 * y; grind
  · show 1 * (1 - fF dN * 0 * 0 * y * y) = y * y + 0 * 0
    rw [h]; grind
theorem y_ok {B : Fin p25 × Fin p25} (hB : On (fF dN) B) (hne : B ≠ ((0 : Fin p25), (1 : Fin p25))) (hL : FF.nsm lN B = ((0 : Fin p25), (1 : Fin p25))) {j : Nat} (hj : ¬ lN ∣ j + j) : 1 - (FF.nsm j B).2 ≠ 0 ∧ 1 + (FF.nsm j B).2 ≠ 0 := by
  have key : (FF.nsm j B).2 * (FF.nsm j B).2 ≠ 1 := fun h => hj (nsm_dvd hB hne hL (by rw [FF.nsm_add hB]; exact y_one (FF.nsm_on hB j) h))
  exact ⟨fun h => key (by grind), fun h => key (by grind)⟩
/-- The two ways round to a third one's secret. -/
theorem lad_comm {B : Fin p25 × Fin p25} {b : Nat} (hB : On (fF dN) B) (hne : B ≠ ((0 : Fin p25), (1 : Fin p25))) (hL : FF.nsm lN B = ((0 : Fin p25), (1 : Fin p25))) (hb : b < p25) (hU : fF b * (1 - B.2) = 1 + B.2) (h1 : 1 - B.2 ≠ 0) (h2 : 1 + B.2 ≠ 0) {m k : Nat} (hm : m < 2 ^ 255) (hk : k < 2 ^ 255) (jm : ¬ lN ∣ m + m) (jk : ¬ lN ∣ k + k) {um uk : Nat} (em : um = fM (ladN b m 255).a (fI (ladN b m 255).b)) (ek : uk = fM (ladN b k 255).a (fI (ladN b k 255).b)) :
    fM (ladN um k 255).a (fI (ladN um k 255).b) = fM (ladN uk m 255).a (fI (ladN uk m 255).b) := by
  have go : ∀ {m k um : Nat}, m < 2 ^ 255 → k < 2 ^ 255 → ¬ lN ∣ m + m → um = fM (ladN b m 255).a (fI (ladN b m 255).b) → fM (ladN um k 255).a (fI (ladN um k 255).b) = (uOf (FF.nsm (k * m) B)).val := by
    intro m k um hm hk jm em
    rw [lad_u hB hb hU h1 h2 hm] at em
    obtain ⟨y1, y2⟩ := y_ok hB hne hL jm
    rw [FF.nsm_mul hB]
    refine lad_u (FF.nsm_on hB m) (by rw [em]; exact (uOf _).isLt) ?_ y1 y2 hk
    rw [em, fF_of]
    unfold uOf
    have i1 := FF.hinv _ y1
    generalize (FF.nsm m B).2 = y at *
    have : (1 + y) * FF.inv (1 - y) * (1 - y) = (1 + y) * ((1 - y) * FF.inv (1 - y)) := by clear i1 hU; grind
    rw [this, i1]; grind
  rw [go hm hk jm em, go hk hm jk ek, Nat.mul_comm]
theorem rd32 {v : Nat} (h : v < p25) : rdN (prts 8 32 v 255) = v := by
  unfold rdN
  rw [if_pos (prts_len _ _ _ _), bv_prts, show (57896044618658097711785492504343953926634992332820282019728792003956564819968 : Nat) = 2 ^ 255 from rfl, Nat.mod_mod, Nat.mod_eq_of_lt (a := v) (b := 2 ^ 255) (Nat.lt_trans h (by decide)), Nat.mod_eq_of_lt h]
theorem and248_8 (x : Nat) : (x &&& 248) % 8 = 0 := by
  have := Nat.and_mod_two_pow (a := x) (b := 248) (n := 3)
  rw [show (2 : Nat) ^ 3 = 8 from rfl] at this
  rw [this]; simp
/-- What a secret's bytes stand for. -/
theorem clamp_bv {w : List Nat} (h : ∀ x ∈ w, x < 256) : ∃ m, bv (clampN w) = 8 * m ∧ 2 ^ 251 ≤ m ∧ m < 2 ^ 252 := by
  have hl := clampN_len w
  have hlt := clampN_lt h
  have hb := bv_lt hlt
  rw [hl] at hb
  have b0 := bv_byte hlt 0
  have b31 := bv_byte hlt 31
  have hf := fitN_len w 32
  have e0 : (clampN w).getD 0 0 = (fitN w 32).getD 0 0 &&& 248 := by
    unfold clampN
    dsimp only
    rw [List.getD_eq_getElem?_getD, List.getElem?_set_ne (by decide), List.getElem?_set_self (by omega)]
    rfl
  have e31 : ∃ z, (clampN w).getD 31 0 = z % 128 ||| 64 := by
    refine ⟨((fitN w 32).set 0 ((fitN w 32).getD 0 0 &&& 248)).getD 31 0, ?_⟩
    unfold clampN
    dsimp only
    rw [List.getD_eq_getElem?_getD, List.getElem?_set_self (by rw [List.length_set]; omega)]
    rfl
  obtain ⟨z, e31⟩ := e31
  rw [e0] at b0
  rw [e31] at b31
  have z1 : 64 ≤ z % 128 ||| 64 := Nat.right_le_or
  have z2 : z % 128 ||| 64 < 2 ^ 7 := Nat.or_lt_two_pow (Nat.mod_lt _ (by decide)) (by decide)
  have c8 := and248_8 ((fitN w 32).getD 0 0)
  generalize (fitN w 32).getD 0 0 &&& 248 = c at *
  generalize z % 128 ||| 64 = y at *
  generalize bv (clampN w) = b at *
  clear e0 e31 hl hlt hf
  rw [Nat.pow_zero, Nat.div_one] at b0
  have d31 : b / 256 ^ 31 < 256 := Nat.div_lt_of_lt_mul (by rw [← Nat.pow_succ]; exact hb)
  rw [Nat.mod_eq_of_lt d31] at b31
  have l1 : 64 * 256 ^ 31 ≤ b := by have := (Nat.le_div_iff_mul_le (show 0 < 256 ^ 31 by decide)).1 (show 64 ≤ b / 256 ^ 31 by omega); exact this
  have l2 : b < 128 * 256 ^ 31 := by have := (Nat.div_lt_iff_lt_mul (show 0 < 256 ^ 31 by decide)).1 (show b / 256 ^ 31 < 128 by omega); exact this
  have h8 : b % 8 = 0 := by omega
  refine ⟨b / 8, by omega, ?_, ?_⟩
  · have : (64 : Nat) * 256 ^ 31 = 8 * 2 ^ 251 := by decide
    omega
  · have : (128 : Nat) * 256 ^ 31 = 8 * 2 ^ 252 := by decide
    omega
theorem lN_clamp {w : List Nat} (h : ∀ x ∈ w, x < 256) : bv (clampN w) < 2 ^ 255 ∧ ¬ lN ∣ bv (clampN w) + bv (clampN w) := by
  obtain ⟨m, e, h1, h2⟩ := clamp_bv h
  rw [e]
  refine ⟨by have : (2 : Nat) ^ 255 = 8 * 2 ^ 252 := by decide
             omega, fun hd => ?_⟩
  rw [show 8 * m + 8 * m = 16 * m by omega] at hd
  rcases prL.mul hd with h3 | h3
  · exact absurd (Nat.le_of_dvd (by decide) h3) (by decide)
  · have := Nat.le_of_dvd (by have : (0 : Nat) < 2 ^ 251 := by decide
                              omega) h3
    have : (2 : Nat) ^ 252 < lN := by decide
    omega
theorem b_u : fF 9 * (1 - bPt.2) = 1 + bPt.2 := by decide +kernel
theorem b_ne : 1 - bPt.2 ≠ 0 ∧ 1 + bPt.2 ≠ 0 := by decide +kernel
theorem b_no : bPt ≠ ((0 : Fin p25), (1 : Fin p25)) := fun h => b_ne.1 (by rw [h]; rfl)
theorem nine_rd : rdN nineW = 9 := by decide +kernel
theorem base25_rd {t : List Nat} : rdN (base25 t) = fM (ladN 9 (bv (clampN t)) 255).a (fI (ladN 9 (bv (clampN t)) 255).b) := by
  unfold base25 x25
  rw [nine_rd]
  exact rd32 (fM_lt _ _)
/-- Two secrets, two ways: one value. -/
theorem x25_comm {s t : List Nat} (hs : ∀ x ∈ s, x < 256) (ht : ∀ x ∈ t, x < 256) : x25 s (base25 t) = x25 t (base25 s) := by
  obtain ⟨s1, s2⟩ := lN_clamp hs
  obtain ⟨t1, t2⟩ := lN_clamp ht
  unfold x25
  rw [lad_comm b_on b_no order_o (b := 9) (by decide) b_u b_ne.1 b_ne.2 t1 s1 t2 s2 (um := rdN (base25 t)) (uk := rdN (base25 s)) base25_rd base25_rd]

end Go.Proofs.YtphcaiplgpmnnaaGreatDoor
/- What two agree on, in both modes: the same for both; the law's example. -/
namespace Go.Proofs.YtphcaiplgpmnnaaGreatDoor
open Go.Px
theorem fitN_id {w : List Nat} {n : Nat} (h : w.length = n) : fitN w n = w := by
  unfold fitN; rw [List.take_of_length_le (by omega), h, Nat.sub_self]; simp
theorem b25_len (w : List Nat) : (base25 w).length = 32 := x25_len _ _
theorem srt_comm (x y : Int) : srt x y = srt y x := by
  unfold srt
  rcases Int.lt_trichotomy x y with h | h | h
  · rw [if_neg (by omega), if_pos h]
  · subst h; rfl
  · rw [if_pos h, if_neg (by omega)]
def agOf (i j : Nat) : Tm := ⟨4, srt ((i : Nat) : Int) ((j : Nat) : Int), [], 0⟩
theorem agOf_ok {i j : Nat} (hi : i ≤ 1048576) (hj : j ≤ 1048576) : Tmo (agOf i j) := ag_ok (s := 0) (o := 0) (srt_len _ _) (fun z hz => (srt_mem hz).elim (fun e => e ▸ i64_nat hi) (fun e => e ▸ i64_nat hj)) (.inl rfl)
/-- What a secret key and another one's are agreed on. -/
def AgrT (s : Ps) (a b k : List Nat) : Prop := ∃ i j m : Nat, i < s.ts.length ∧ j < s.ts.length ∧ a = bts ((i : Nat) : Int) ∧ b = bts ((j : Nat) : Int) ∧ s.ts[m]? = some (agOf i j) ∧ k = bts ((m : Nat) : Int)
def AgrAt (s : Ps) (a b k : List Nat) : Prop := if s.real then k = x25 (fitN a 32) (base25 (fitN b 32)) ∧ (∀ x ∈ a, x < 256) ∧ ∀ x ∈ b, x < 256 else AgrT s a b k
theorem AgrAt.t {s : Ps} (h : s.real = true) {a b k : List Nat} : AgrAt s a b k ↔ k = x25 (fitN a 32) (base25 (fitN b 32)) ∧ (∀ x ∈ a, x < 256) ∧ ∀ x ∈ b, x < 256 := by unfold AgrAt; rw [if_pos h]
theorem AgrAt.f {s : Ps} (h : s.real = false) {a b k : List Nat} : AgrAt s a b k ↔ AgrT s a b k := by unfold AgrAt; rw [if_neg (by rw [h]; decide)]
theorem AgrT.ext {s s' : Ps} {a b k : List Nat} (h : AgrT s a b k) (he : Pext s s') : AgrT s' a b k := by
  obtain ⟨l, e⟩ := he.ts
  obtain ⟨i, j, m, h1, h2, h3, h4, h5, h6⟩ := h
  exact ⟨i, j, m, by rw [e, List.length_append]; omega, by rw [e, List.length_append]; omega, h3, h4, by rw [e]; exact ext_at h5, h6⟩
theorem AgrAt.ext {s s' : Ps} {a b k : List Nat} (h : AgrAt s a b k) (he : Pext s s') : AgrAt s' a b k := by
  cases hr : s.real with
  | true => rw [AgrAt.t hr] at h; rw [AgrAt.t (he.real.trans hr)]; exact h
  | false => rw [AgrAt.f hr] at h; rw [AgrAt.f (he.real.trans hr)]; exact h.ext he
theorem AgrAt.comm {s : Ps} {a b k : List Nat} (h : AgrAt s a b k) : AgrAt s b a k := by
  cases hr : s.real with
  | true =>
    rw [AgrAt.t hr] at h ⊢
    refine ⟨?_, h.2.2, h.2.1⟩
    rw [h.1]
    exact x25_comm (fitN_lt h.2.1 32) (fitN_lt h.2.2 32)
  | false =>
    rw [AgrAt.f hr] at h ⊢
    obtain ⟨i, j, m, h1, h2, h3, h4, h5, h6⟩ := h
    exact ⟨j, i, m, h2, h1, h4, h3, by rw [h5]; unfold agOf; rw [srt_comm], h6⟩
theorem agT_pub {ts : List Tm} {i j p : Nat} (hp : ts[p]? = some (pubT ((j : Nat) : Int))) : agT ts ((i : Nat) : Int) ((p : Nat) : Int) = agOf i j := by
  rw [agT_yes (t := pubT ((j : Nat) : Int)) (by omega) (by rw [Int.toNat_natCast]; exact hp) ⟨rfl, rfl⟩]
  rfl
theorem agrT_eq {s : Ps} {i j p : Nat} (hi : i < s.ts.length) (hp : s.ts[p]? = some (pubT ((j : Nat) : Int))) (hl : s.ts.length ≤ 1048576) :
    agrS s (bts ((i : Nat) : Int)) (bts ((p : Nat) : Int)) = { s with ts := add s.ts (agOf i j) } ∧ agrK s (bts ((i : Nat) : Int)) (bts ((p : Nat) : Int)) = bts ((at_ s.ts (agOf i j) : Nat) : Int) := by
  have hpl := (List.getElem?_eq_some_iff.1 hp).1
  obtain ⟨a1, a2⟩ := good_rd hi hl
  obtain ⟨b1, b2⟩ := good_rd hpl hl
  unfold agrS agrK
  rw [a1, a2, b1, b2, agT_pub hp]
  exact ⟨rfl, rfl⟩
theorem agrS2_t {s : Ps} (h : s.real = true) (a B : List Nat) : agrS2 s a B = s ∧ agrK2 s a B = x25 (fitN a 32) (fitN B 32) := by unfold agrS2 agrK2; rw [if_pos h, if_pos h]; exact ⟨rfl, rfl⟩
theorem agrS2_f {s : Ps} (h : s.real = false) (a B : List Nat) : agrS2 s a B = agrS s a B ∧ agrK2 s a B = agrK s a B := by unfold agrS2 agrK2; rw [if_neg (by rw [h]; decide), if_neg (by rw [h]; decide)]; exact ⟨rfl, rfl⟩
theorem agr_ex (s : Ps) (a B : List Nat) : Ext s (agrS2 s a B) := by
  cases hr : s.real with
  | true => rw [(agrS2_t hr a B).1]; exact Ext.refl s
  | false =>
    rw [(agrS2_f hr a B).1]
    obtain ⟨l1, e1⟩ := rdT_pre s.ts a
    obtain ⟨l2, e2⟩ := rdT_pre (rdT s.ts a) B
    obtain ⟨l3, e3⟩ := add_pre (rdT (rdT s.ts a) B) (agT (rdT (rdT s.ts a) B) ((rdI s.ts a : Nat) : Int) ((rdI (rdT s.ts a) B : Nat) : Int))
    refine ⟨⟨rfl, l1 ++ (l2 ++ l3), ?_⟩, rfl, Nat.le_refl _⟩
    show add _ _ = _
    rw [e3, e2, e1]; simp
theorem agrS2_len (s : Ps) (a B : List Nat) : (agrS2 s a B).ts.length ≤ s.ts.length + 3 := by
  cases hr : s.real with
  | true => rw [(agrS2_t hr a B).1]; omega
  | false =>
    rw [(agrS2_f hr a B).1]
    have h1 := rdT_len (ts := s.ts) (ws := a)
    have h2 := rdT_len (ts := rdT s.ts a) (ws := B)
    have h3 := add_len (ts := rdT (rdT s.ts a) B) (t := agT (rdT (rdT s.ts a) B) ((rdI s.ts a : Nat) : Int) ((rdI (rdT s.ts a) B : Nat) : Int))
    show (add _ _).length ≤ _
    omega
theorem agrS2_n (s : Ps) (a B : List Nat) : (agrS2 s a B).n = s.n := by unfold agrS2; split <;> rfl
theorem agr_at {s : Ps} {a b B : List Nat} (ha : Kok s a) (hB : PubAt s b B) (ht : Tok s.ts) (hl : s.ts.length ≤ 1048576) (h1 : ∀ x ∈ a, x < 256) (h2 : ∀ x ∈ b, x < 256) : AgrAt (agrS2 s a B) a b (agrK2 s a B) ∧ Tok (agrS2 s a B).ts := by
  cases hr : s.real with
  | true =>
    rw [(agrS2_t hr a B).1, (agrS2_t hr a B).2, AgrAt.t hr]
    unfold PubAt at hB
    rw [if_pos hr] at hB
    rw [hB, fitN_id (b25_len _)]
    exact ⟨⟨rfl, h1, h2⟩, ht⟩
  | false =>
    unfold PubAt at hB
    rw [if_neg (by rw [hr]; decide)] at hB
    obtain ⟨i, hi, rfl⟩ := ha hr
    obtain ⟨j, p, hj, rfl, hp, rfl⟩ := hB
    obtain ⟨e1, e2⟩ := agrT_eq hi hp hl
    rw [(agrS2_f hr _ _).1, (agrS2_f hr _ _).2, e1, e2]
    obtain ⟨l, g1, g2, g3, g4⟩ := pfact (agOf_ok (show i ≤ 1048576 by omega) (show j ≤ 1048576 by omega)) ht
    exact ⟨(AgrAt.f (s := { s with ts := add s.ts (agOf i j) }) hr).2 ⟨i, j, _, by show i < (add s.ts _).length; rw [g1, List.length_append]; omega, by show j < (add s.ts _).length; rw [g1, List.length_append]; omega, rfl, rfl, g3, rfl⟩, g4⟩
theorem AgrAt.eq {s : Ps} {a b B k : List Nat} (h : AgrAt s a b k) (hB : PubAt s b B) (ht : Tok s.ts) (hl : s.ts.length ≤ 1048576) : agrS2 s a B = s ∧ agrK2 s a B = k := by
  cases hr : s.real with
  | true =>
    rw [AgrAt.t hr] at h
    unfold PubAt at hB
    rw [if_pos hr] at hB
    rw [(agrS2_t hr a B).1, (agrS2_t hr a B).2, hB, fitN_id (b25_len _), h.1]
    exact ⟨rfl, rfl⟩
  | false =>
    rw [AgrAt.f hr] at h
    unfold PubAt at hB
    rw [if_neg (by rw [hr]; decide)] at hB
    obtain ⟨i, j, m, g1, g2, rfl, rfl, g3, rfl⟩ := h
    obtain ⟨j', p, hj, e, hp, rfl⟩ := hB
    have := bts_inj (by omega) (by omega) e
    subst this
    obtain ⟨e1, e2⟩ := agrT_eq g1 hp hl
    obtain ⟨e3, e4⟩ := again ht g3
    rw [(agrS2_f hr _ _).1, (agrS2_f hr _ _).2, e1, e2, e3, e4]
    exact ⟨rfl, rfl⟩
theorem keyR_F8 (seed : List Nat) (i : Nat) : keyR seed i = hmacF (hmacF [] seed) (([107, 101, 121] ++ le8n i) ++ [1]) := by
  unfold keyR
  rw [← hmacF_eq]
  exact expand32 _ _
theorem awL : (hmacF (hmacF [] [115]) (([107, 101, 121] ++ le8n 1) ++ [1])).length = 32 := by decide +kernel
theorem awN : hmacF (hmacF [] [115]) (([107, 101, 121] ++ le8n 1) ++ [1]) ≠ hmacF (hmacF [] [115]) (([107, 101, 121] ++ le8n 2) ++ [1]) := by decide +kernel
def aw0 (r : Bool) : Ps := ⟨r, [115], 0, []⟩
noncomputable def aw2 (r : Bool) : Ps := freshS (freshS (aw0 r))
theorem aw_len (r : Bool) : (freshK (aw0 r)).length = 32 := by
  cases r with
  | false => rw [freshK_f rfl]; exact btk_len _ (by decide)
  | true =>
    rw [freshK_t rfl, keyR_F8]
    exact awL
theorem aw_ne (r : Bool) : freshK (aw0 r) ≠ freshK (freshS (aw0 r)) := by
  cases r with
  | false => decide +kernel
  | true =>
    rw [freshK_t rfl, freshK_t (s := freshS (aw0 true)) rfl, keyR_F8, keyR_F8]
    exact awN

end Go.Proofs.YtphcaiplgpmnnaaGreatDoor
/-
  Groups of operations of a drawn region that come up in any order; each works on blocks of its own (m), which it may change, and makes new ones.
-/
namespace Go.Px
structure Gv where
  i : Nat
  d : Nat
  m : Mem
  φ : Value → Mem → Mem → Prop
def gEnvM (G : List Gv) (vs : Nat → Value) : Env := G.map fun g => (g.d, vs g.i)
def toGM (G : List Gv) : List Gm := G.map fun g => ⟨g.i, g.d, fun _ _ => True⟩
/-- The blocks of a group, of which X have come up. -/
def curM (X : List Nat) (bs : Nat → Mem) (G : List Gv) : Mem := (G.map fun g => if g.i ∈ X then bs g.i else g.m).flatten
def doneM (X : List Nat) (bs : Nat → Mem) (G : List Gv) : Mem := (G.map fun g => if g.i ∈ X then bs g.i else []).flatten
def allM (bs : Nat → Mem) (G : List Gv) : Mem := (G.map fun g => bs g.i).flatten
/-- Facts of more blocks may be added to what a call came to. -/
theorem St.widen {P : Program} {w w' : World} {F : List Nat} {A A' Mc M' J' : Mem} {n : Nat} (h : St ⟨P, w, F, A', n⟩ Mc [] w) (hs : St ⟨P, w, F, A, n⟩ M' J' w') : St ⟨P, w, F, A', n⟩ M' J' w' := by
  refine ⟨hs.os, hs.tape, hs.output, hs.size, hs.frame, fun b o hb => ?_, hs.nodup, hs.own, hs.sepJ, h.sepA, hs.old⟩
  simp only [List.mem_append] at hb
  rcases hb with hb | hb | hb
  · exact hs.mem b o (by simp [hb])
  · exact hs.mem b o (by simp [hb])
  · have h1 := h.sepA b o hb
    have h2 := hs.frame b h1.2 h1.1
    rw [h2]
    exact h.mem b o (by simp; exact .inr hb)
theorem St.less {P : Program} {w : World} {F : List Nat} {A A' Mc : Mem} {n : Nat} (h : St ⟨P, w, F, A', n⟩ Mc [] w) (hA : ∀ x ∈ A, x ∈ A') : St ⟨P, w, F, A, n⟩ Mc [] w :=
  ⟨h.os, h.tape, h.output, h.size, h.frame, fun b o hb => h.mem b o (by simp at hb ⊢; exact hb.imp id (hA _)), h.nodup, h.own, h.sepJ, fun b o hb => h.sepA b o (hA _ hb), h.old⟩
section group
variable {C : Cx} {Q : XQ} {l : Env} {M M0 J : Mem} {os : List Oper} {K : Nat → Prop} {n0 : Nat} {nd : List Nat} {plan : List (Nat × Nat)}
def OwesM (C : Cx) (os : List Oper) (l : Env) (M0 J : Mem) (G : List Gv) (g : Gv) : Prop :=
  ∃ o, nth os g.i = some o ∧ ∀ (vs : Nat → Value) (bs : Nat → Mem) (R Rj : Mem) (w : World), (∀ x ∈ M0 ++ (J ++ C.A), x ∈ R) → (∀ x ∈ J ++ C.A, x ∈ Rj) → (∀ x ∈ Rj, x ∈ R) → (∀ g' ∈ G, anc os.toArray os.toArray.size g.i g'.i = true → g'.φ (vs g'.i) (bs g'.i) Rj) →
    Asked os (gEnvM G vs ++ l) o ∧ OpL ⟨C.P, w, g.m.map Prod.fst, R, C.N⟩ o (gEnvM G vs ++ l) g.m [] (fun l' M' J' => ∃ v, l' = (g.d, v) :: (gEnvM G vs ++ l) ∧ g.φ v M' (J' ++ Rj))
end group
end Go.Px

