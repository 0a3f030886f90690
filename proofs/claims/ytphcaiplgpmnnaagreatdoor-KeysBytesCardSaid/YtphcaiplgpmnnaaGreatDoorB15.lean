/- Part 15 of the texts of this claim, one behind the other. -/
import Derived.Test.YtphcaiplgpmnnaaGreatDoorB14
set_option linter.unusedVariables false
set_option linter.unusedSimpArgs false
set_option maxRecDepth 100000
namespace Go.Proofs.YtphcaiplgpmnnaaGreatDoor
open Go.Px
theorem Glb.s {A : Mem} (h : Glb A) : GlS A := ⟨h.first, h.round⟩
def pubS2 (s : Ps) (w : List Nat) : Ps := if s.real then s else pubS s w
noncomputable def pubK2 (s : Ps) (w : List Nat) : List Nat := if s.real then base25 (fitN w 32) else pubK s w
noncomputable def skK2 (s : Ps) (w : List Nat) : List Nat := if s.real then pubB (fitN w 32) else pubK s w
def agrS2 (s : Ps) (w u : List Nat) : Ps := if s.real then s else agrS s w u
noncomputable def agrK2 (s : Ps) (w u : List Nat) : List Nat := if s.real then x25 (fitN w 32) (fitN u 32) else agrK s w u
def sgS2 (s : Ps) (w m : List Nat) : Ps := if s.real then s else one1 s w fun x => sigT x m
noncomputable def sgK2 (s : Ps) (w m : List Nat) : List Nat := if s.real then sigB (fitN w 32) m else fitN (oneK s w fun x => sigT x m) 64
theorem sig_lt (s m : List Nat) : ∀ x ∈ sigB s m, x < 256 := by
  intro x hx
  rcases List.mem_append.1 hx with h | h
  · exact pB_lt _ x h
  · exact digs_lt _ _ x h
theorem sign_j (v vm : Value) (ws wm : List Nat) (A : Mem) (hv : By A v ws) (hm : By A vm wm) (hG : GlS A) : FnX Tryz.prog 94 [v, vm] [] A fun r M J => M = [] ∧ By J r (sigB ws wm) :=
  ((sign_f v vm ws wm A hv hm hG).frz0).mono fun r M J ⟨h1, h2⟩ => ⟨h1, sl_by h2 (sigB_len _ _).symm (sig_lt _ _) (by rw [sigB_len]; decide) fun _ h => h⟩

theorem public_r (pb : Nat) (s : Ps) (hr : s.real = true) (v : Value) (w : List Nat) (MP A : Mem) (hP : Prm pb s MP) (hv : By A v w) : FnX Tryz.prog 34 [.pointer (some ⟨pb, 0, none⟩), v] MP A fun q M J => Prm pb s M ∧ By J q (base25 (fitN w 32)) := by
 obtain ⟨sv, bt, bm, B, MT, rfl, hby, hT⟩ := hP.ex
 haveI := hv.cel
 haveI := hby.cel
 have hvl := hv.len
 refine FnX.enterZ (N := 26) Tryz.func34 rfl rfl rfl fun w_ => ?_
 refine XC.keep (kq 0 (kq 1 kn)) ?_
 refine XC.reg ?_
 refine as_ ?_
 refine XL.fin (kq 0 (kq 1 kn)) ?_
 refine XC.seq ?_
 refine XC.reg ?_
 refine mv_ ?_
 refine XL.q (q_ptrEqNil (e := 124) rfl rfl (by kernel_rfl)) rfl ?_
 refine XL.fin (kq 0 (kq 1 (kq 6 kn))) ?_
 refine XC.condF rfl ?_
 refine XC.skip ?_
 refine nx (kq 0 (kq 1 kn)) ?_
 refine XC.seq ?_
 refine XC.reg ?_
 refine mv_ ?_
 refine XL.q (q_nil rfl) rfl ?_
 refine XL.q (qf_ 0 0) rfl ?_
 refine XL.q ql_ rfl ?_
 refine XL.q (q_cmp true rfl rfl (eqT (by rw [hr]; rfl))) rfl ?_
 refine XL.fin (kq 0 (kq 1 (kq 11 kn))) ?_
 refine XC.condT rfl ?_
 refine XC.reg ?_
 refine mv_ ?_
 refine XL.call (aS rfl (aS rfl a0)) (by kernel_rfl) (fit_spec v w 32 _ (hv.mono SubC.sub) (by decide)) rfl ?_
 rintro r13 M13 J13 ⟨rfl, h13⟩
 haveI := h13.cel
 refine XL.call (aS rfl a0) (by kernel_rfl) (base_f _ _ _ (h13.mono SubC.sub)) rfl ?_
 rintro r14 M14 J14 ⟨rfl, h14⟩
 haveI := h14.cel
 refine as_ ?_
 refine XL.fin (kq 4 kn) ?_
 refine XC.ret ?_
 refine tr ?_
 exact ⟨_, (pb, blk [.int .u8 (md s.real), sv, .int .i64 (((s.n : Nat) : Int)), .pointer (some ⟨bt, 0, none⟩)] 124) :: (B ++ MT), [], res1 rfl rfl, (Fit.none (Fit.pick (B := [_]) PickC.perm (Fit.pick PickC.perm (Fit.last PickC.perm)))), ⟨sv, bt, bm, B, MT, rfl, hby, hT⟩, h14.mono SubC.sub⟩

theorem signKey_r (pb : Nat) (s : Ps) (hr : s.real = true) (v : Value) (w : List Nat) (MP A : Mem) (hP : Prm pb s MP) (hv : By A v w) (hG : Glb A) : FnX Tryz.prog 35 [.pointer (some ⟨pb, 0, none⟩), v] MP A fun q M J => Prm pb s M ∧ By J q (pubB (fitN w 32)) := by
 obtain ⟨sv, bt, bm, B, MT, rfl, hby, hT⟩ := hP.ex
 haveI := hv.cel
 haveI := hby.cel
 have hvl := hv.len
 refine FnX.enterZ (N := 18) Tryz.func35 rfl rfl rfl fun w_ => ?_
 refine XC.keep (kq 0 (kq 1 kn)) ?_
 refine XC.reg ?_
 refine as_ ?_
 refine XL.fin (kq 0 (kq 1 kn)) ?_
 refine XC.seq ?_
 refine XC.reg ?_
 refine mv_ ?_
 refine XL.q (q_ptrEqNil (e := 124) rfl rfl (by kernel_rfl)) rfl ?_
 refine XL.fin (kq 0 (kq 1 (kq 6 kn))) ?_
 refine XC.condF rfl ?_
 refine XC.skip ?_
 refine nx (kq 0 (kq 1 kn)) ?_
 refine XC.seq ?_
 refine XC.reg ?_
 refine mv_ ?_
 refine XL.q (q_nil rfl) rfl ?_
 refine XL.q (qf_ 0 0) rfl ?_
 refine XL.q ql_ rfl ?_
 refine XL.q (q_cmp true rfl rfl (eqT (by rw [hr]; rfl))) rfl ?_
 refine XL.fin (kq 0 (kq 1 (kq 11 kn))) ?_
 refine XC.condT rfl ?_
 refine XC.reg ?_
 refine mv_ ?_
 refine XL.call (aS rfl (aS rfl a0)) (by kernel_rfl) (fit_spec v w 32 _ (hv.mono SubC.sub) (by decide)) rfl ?_
 rintro r13 M13 J13 ⟨rfl, h13⟩
 haveI := h13.cel
 refine XL.call (aS rfl a0) (by kernel_rfl) (public_f _ _ _ (h13.mono SubC.sub) hG.s.up) rfl ?_
 rintro r14 M14 J14 ⟨rfl, h14⟩
 haveI := h14.cel
 refine as_ ?_
 refine XL.fin (kq 4 kn) ?_
 refine XC.ret ?_
 refine tr ?_
 exact ⟨_, (pb, blk [.int .u8 (md s.real), sv, .int .i64 (((s.n : Nat) : Int)), .pointer (some ⟨bt, 0, none⟩)] 124) :: (B ++ MT), [], res1 rfl rfl, (Fit.none (Fit.pick (B := [_]) PickC.perm (Fit.pick PickC.perm (Fit.last PickC.perm)))), ⟨sv, bt, bm, B, MT, rfl, hby, hT⟩, h14.mono SubC.sub⟩

theorem psign_r (pb : Nat) (s : Ps) (hr : s.real = true) (v v2 : Value) (w u : List Nat) (MP A : Mem) (hP : Prm pb s MP) (hv : By A v w) (hu : By A v2 u) (hG : Glb A) : FnX Tryz.prog 46 [.pointer (some ⟨pb, 0, none⟩), v, v2] MP A fun q M J => Prm pb s M ∧ By J q (sigB (fitN w 32) u) := by
 obtain ⟨sv, bt, bm, B, MT, rfl, hby, hT⟩ := hP.ex
 haveI := hv.cel
 haveI := hby.cel
 have hvl := hv.len
 haveI := hu.cel
 refine FnX.enterZ (N := 32) Tryz.func46 rfl rfl rfl fun w_ => ?_
 refine XC.keep (kq 0 (kq 1 (kq 2 kn))) ?_
 refine XC.reg ?_
 refine as_ ?_
 refine XL.fin (kq 0 (kq 1 (kq 2 kn))) ?_
 refine XC.seq ?_
 refine XC.reg ?_
 refine mv_ ?_
 refine XL.q (q_ptrEqNil (e := 124) rfl rfl (by kernel_rfl)) rfl ?_
 refine XL.fin (kq 0 (kq 1 (kq 2 (kq 8 kn)))) ?_
 refine XC.condF rfl ?_
 refine XC.skip ?_
 refine nx (kq 0 (kq 1 (kq 2 kn))) ?_
 refine XC.seq ?_
 refine XC.reg ?_
 refine mv_ ?_
 refine XL.q (q_nil rfl) rfl ?_
 refine XL.q (qf_ 0 0) rfl ?_
 refine XL.q ql_ rfl ?_
 refine XL.q (q_cmp true rfl rfl (eqT (by rw [hr]; rfl))) rfl ?_
 refine XL.fin (kq 0 (kq 1 (kq 2 (kq 13 kn)))) ?_
 refine XC.condT rfl ?_
 refine XC.reg ?_
 refine mv_ ?_
 refine XL.call (aS rfl (aS rfl a0)) (by kernel_rfl) (fit_spec v w 32 _ (hv.mono SubC.sub) (by decide)) rfl ?_
 rintro r15 M15 J15 ⟨rfl, h15⟩
 haveI := h15.cel
 refine mv_ ?_
 refine XL.call (aS rfl (aS rfl a0)) (by kernel_rfl) (sign_j _ _ _ _ _ (h15.mono SubC.sub) (hu.mono SubC.sub) hG.s.up) rfl ?_
 rintro r17 M17 J17 ⟨rfl, h17⟩
 haveI := h17.cel
 refine as_ ?_
 refine XL.fin (kq 6 kn) ?_
 refine XC.ret ?_
 refine tr ?_
 exact ⟨_, (pb, blk [.int .u8 (md s.real), sv, .int .i64 (((s.n : Nat) : Int)), .pointer (some ⟨bt, 0, none⟩)] 124) :: (B ++ MT), [], res1 rfl rfl, (Fit.none (Fit.pick (B := [_]) PickC.perm (Fit.pick PickC.perm (Fit.last PickC.perm)))), ⟨sv, bt, bm, B, MT, rfl, hby, hT⟩, h17.mono SubC.sub⟩

theorem signKey_p (pb : Nat) (s : Ps) (hr : s.real = false) (v : Value) (w : List Nat) (MP A : Mem) (hP : Prm pb s MP) (hv : By A v w) (hn : s.ts.length < 1048576) (hG : Glb A) : FnX Tryz.prog 35 [.pointer (some ⟨pb, 0, none⟩), v] MP A fun q M J => Prm pb (pubS s w) M ∧ By J q (pubK s w) := by
 obtain ⟨sv, bt, bm, B, MT, rfl, hby, hT⟩ := hP.ex
 haveI := hv.cel
 haveI := hby.cel
 have hvl := hv.len
 refine FnX.enterZ (N := 18) Tryz.func35 rfl rfl rfl fun w_ => ?_
 refine XC.keep (kq 0 (kq 1 kn)) ?_
 refine XC.reg ?_
 refine as_ ?_
 refine XL.fin (kq 0 (kq 1 kn)) ?_
 refine XC.seq ?_
 refine XC.reg ?_
 refine mv_ ?_
 refine XL.q (q_ptrEqNil (e := 124) rfl rfl (by kernel_rfl)) rfl ?_
 refine XL.fin (kq 0 (kq 1 (kq 6 kn))) ?_
 refine XC.condF rfl ?_
 refine XC.skip ?_
 refine nx (kq 0 (kq 1 kn)) ?_
 refine XC.seq ?_
 refine XC.reg ?_
 refine mv_ ?_
 refine XL.q (q_nil rfl) rfl ?_
 refine XL.q (qf_ 0 0) rfl ?_
 refine XL.q ql_ rfl ?_
 refine XL.q (q_cmp false rfl rfl (eqF (by rw [hr]; decide))) rfl ?_
 refine XL.fin (kq 0 (kq 1 (kq 11 kn))) ?_
 refine XC.condF rfl ?_
 refine XC.skip ?_
 refine nx (kq 0 (kq 1 kn)) ?_
 refine XC.reg ?_
 refine mv_ (mv_ ?_)
 refine XL.lo rfl (l_call (Mc := (pb, blk [.int .u8 (md s.real), sv, .int .i64 (((s.n : Nat) : Int)), .pointer (some ⟨bt, 0, none⟩)] 124) :: (B ++ MT)) (R := _) (aS rfl (aS rfl a0)) (by kernel_rfl) PickC.perm (public_p pb s hr v w _ _ ⟨sv, bt, bm, B, MT, rfl, hby, hT⟩ hn (hv.mono SubC.sub) hG.up) rfl ?_)
 rintro v17 M17 J17 ⟨hP17, h17⟩
 haveI := h17.cel
 refine as_ ?_
 refine XL.fin (kq 4 kn) ?_
 refine XC.ret ?_
 exact ⟨_, M17, [], res1 rfl rfl, Fit.none (Fit.last PickC.perm), hP17, h17.mono SubC.sub⟩

theorem public_b (pb : Nat) (s : Ps) (v : Value) (w : List Nat) (MP A : Mem) (hP : Prm pb s MP) (hn : s.ts.length < 1048576) (hv : By A v w) (hG : Glb A) : FnX Tryz.prog 34 [.pointer (some ⟨pb, 0, none⟩), v] MP A fun q M J => Prm pb (pubS2 s w) M ∧ By J q (pubK2 s w) := by
  cases hr : s.real with
  | true => unfold pubS2 pubK2; rw [hr]; exact public_r pb s hr v w MP A hP hv
  | false => unfold pubS2 pubK2; rw [hr]; exact public_p pb s hr v w MP A hP hn hv hG
theorem signKey_b (pb : Nat) (s : Ps) (v : Value) (w : List Nat) (MP A : Mem) (hP : Prm pb s MP) (hn : s.ts.length < 1048576) (hv : By A v w) (hG : Glb A) : FnX Tryz.prog 35 [.pointer (some ⟨pb, 0, none⟩), v] MP A fun q M J => Prm pb (pubS2 s w) M ∧ By J q (skK2 s w) := by
  cases hr : s.real with
  | true => unfold pubS2 skK2; rw [hr]; exact signKey_r pb s hr v w MP A hP hv hG
  | false => unfold pubS2 skK2; rw [hr]; exact signKey_p pb s hr v w MP A hP hv hn hG
theorem psign_b (pb : Nat) (s : Ps) (v v2 : Value) (w m : List Nat) (MP A : Mem) (hP : Prm pb s MP) (hn : s.ts.length < 1048576) (hv : By A v w) (hm : By A v2 m) (hG : Glb A) : FnX Tryz.prog 46 [.pointer (some ⟨pb, 0, none⟩), v, v2] MP A fun q M J => Prm pb (sgS2 s w m) M ∧ By J q (sgK2 s w m) := by
  cases hr : s.real with
  | true => unfold sgS2 sgK2; rw [hr]; exact psign_r pb s hr v v2 w m MP A hP hv hm hG
  | false =>
    unfold sgS2 sgK2; rw [hr]
    obtain ⟨bt, bm, h⟩ := hP.t
    exact (sign_spec pb bt bm s hr v v2 w m MP A h hn hv hm hG).mono fun q M J ⟨h1, h2⟩ => ⟨h1.p, h2⟩

end Go.Proofs.YtphcaiplgpmnnaaGreatDoor
/- The walk of keys.Message; the plain keys. -/
namespace Go.Proofs.YtphcaiplgpmnnaaGreatDoor
open Go.Px
/-- What is signed of a prekey. -/
def msgN (n : Nat) (w : List Nat) : List Nat := beN 6 4 ++ [112, 114, 101, 107, 101, 121] ++ beN n 4 ++ (beN w.length 4 ++ w)
theorem wrapK64 {n : Nat} (h : n < 4294967296) : IntKind.u64.wrap (n : Int) = (n : Int) := wrap_u64 (by omega) (by omega)
theorem lit_byk {R : Mem} {b n : Nat} {w : List Nat} {e : TypeId} {fr : Nat × Nat} (hm : (b, Obj.cells (nums .u8 w).toArray e fr) ∈ R) (hn : w.length = n) (hlt : ∀ x ∈ w, x < 256) (hl : w.length ≤ 16777216) : By R (.slice (some ⟨b, 0, none⟩) n n) w := by
  subst hn
  exact ⟨Rd.whole (n := w.length) hm (by simp), hlt, hl⟩

theorem message_f (n : Nat) (v : Value) (w : List Nat) (A : Mem) (hn : n < 4294967296) (hv : By A v w) (hl : w.length ≤ 1000000) : FnX Tryz.prog 13 [.int .u32 ((n : Nat) : Int), v] [] A fun q M J => M = [] ∧ By J q (msgN n w) := by
 haveI := hv.cel
 refine FnX.enterZ (N := 18) Tryz.func13 rfl rfl rfl fun w_ => ?_
 refine XC.keep (kq 0 (kq 1 kn)) ?_
 refine XC.reg ?_
 refine as_ ?_
 refine XL.fin (kq 0 (kq 1 kn)) ?_
 refine XC.reg ?_
 refine XL.q (q_build (place := fun x => #[(0, 1)][x]?) (z := [.slice none 0 0]) (fun _ => by kernel_rfl) e0 bd0) rfl ?_
 refine XL.lo rfl (bx_ fun b7 => ?_)
 refine as_ ?_
 refine XL.fin (kq 0 (kq 1 (kq 5 kn))) ?_
 refine XC.reg ?_
 refine mv_ ?_
 refine XL.lo rfl (l_buildSlice (e := 5) (sz := 1) (z := [.int .u8 0, .int .u8 0, .int .u8 0, .int .u8 0, .int .u8 0, .int .u8 0]) (by kernel_rfl) (eS rfl (eS rfl (eS rfl (eS rfl (eS rfl (eS rfl e0)))))) (bdS 0 1 rfl (by rfl) (bdS 1 1 rfl (by rfl) (bdS 2 1 rfl (by rfl) (bdS 3 1 rfl (by rfl) (bdS 4 1 rfl (by rfl) (bdS 5 1 rfl (by rfl) bd0)))))) rfl fun b9 => ?_)
 refine XL.lo rfl (l_mark rfl (by kernel_rfl) UpC.upd rfl ?_)
 refine XL.lo rfl (l_call (Mc := [(b7, blk [.slice none 0 0] 89)]) (R := _) (aS rfl (aS rfl (a0))) (by kernel_rfl) PickC.perm (wbytes_spec b7 _ [112, 114, 101, 107, 101, 121] [] _ _ Wtr.new (lit_byk At.mem (by rfl) (by decide) (by decide)) (by decide)) rfl ?_)
 rintro v11 M11 J11 ⟨rfl, hW11⟩
 refine mv_ ?_
 refine XL.q (q_convN (k' := .u64) n rfl (by kernel_rfl) (wrapK64 (by omega))) rfl ?_
 refine XL.lo rfl (l_call (Mc := M11) (R := _) (aS rfl (aS rfl (aS rfl (a0)))) (by kernel_rfl) PickC.perm (wnum_spec b7 n 4 _ _ _ hW11 (by omega) (by decide) (by simp [beN_len])) rfl ?_)
 rintro v14 M14 J14 ⟨rfl, hW14⟩
 refine mv_ ?_
 refine XL.lo rfl (l_call (Mc := M14) (R := _) (aS rfl (aS rfl (a0))) (by kernel_rfl) PickC.perm (wbytes_spec b7 v w _ _ _ hW14 (hv.mono SubC.sub) (by simp [beN_len])) rfl ?_)
 rintro v16 M16 J16 ⟨rfl, hW16⟩
 refine XL.lo rfl (l_call (Mc := M16) (R := _) (aS rfl (a0)) (by kernel_rfl) PickC.perm (wdone_spec b7 _ _ _ hW16 (by simp [beN_len]; omega)) rfl ?_)
 rintro v17 M17 J17 ⟨hW17, hb17⟩
 haveI := hb17.cel
 refine as_ ?_
 refine XL.fin (kq 4 kn) ?_
 refine XC.ret ?_
 exact ⟨_, [], [], res1 rfl rfl, Fit.sub (List.nil_sublist _), rfl, by simpa [msgN, List.append_assoc] using hb17.mono SubC.sub⟩

end Go.Proofs.YtphcaiplgpmnnaaGreatDoor
/- Rows of prekeys and of names; the walks of slices' functions over them, of the closures of keys, of find. -/
namespace Go.Proofs.YtphcaiplgpmnnaaGreatDoor
open Go.Px
/-- What only computes does so where more is known. -/
theorem fnv_up {P : Program} {f : FuncId} {args : List Value} {A A' : Mem} {v : Value} (h : FnV P f args A v) (hs : ∀ x, x ∈ A → x ∈ A') : FnV P f args A' v := by
  intro w hw
  refine Calls.mono (h w ⟨hw.os, hw.tape, hw.output, hw.size, hw.frame, fun b o hb => hw.mem b o (by simpa using hs _ (by simpa using hb)), hw.nodup, hw.own, hw.sepJ, fun b o hb => hw.sepA b o (hs _ hb), hw.old⟩) ?_
  rintro e w' ⟨r, M', J', rfl, ⟨rfl, rfl, rfl⟩, h2⟩
  refine ⟨_, [], [], rfl, ⟨rfl, rfl, rfl⟩, ⟨h2.os, h2.tape, h2.output, h2.size, h2.frame, fun b o hb => ?_, h2.nodup, h2.own, h2.sepJ, fun b o hb => hw.sepA b o hb, h2.old⟩⟩
  have hb' : (b, o) ∈ A' := by simpa using hb
  have h3 := h2.frame b (hw.sepA b o hb').2 (by simp)
  rw [h3]
  exact hw.mem b o (by simpa using hb')
structure Pr where
  n : Nat
  sec : List Nat
  sig : List Nat
structure Nm where
  n : Nat
  id : List Nat
def prR (R : Mem) (x : Pr) (r : List Value) : Prop := ∃ vs vg, r = [.int .u32 ((x.n : Nat) : Int), vs, vg] ∧ By R vs x.sec ∧ By R vg x.sig ∧ x.n < 4294967296
theorem prT : RowT 3 prR := ⟨fun R R' x r hR ⟨vo, vk, h1, h2, h3, h4⟩ => ⟨vo, vk, h1, h2.mono hR, h3.mono hR, h4⟩, fun R x r ⟨vo, vk, h1, _⟩ => by rw [h1]; rfl, fun R x r ⟨vo, vk, h1, h2, h3, _⟩ c hc => by
  rw [h1] at hc
  simp only [List.mem_cons, List.not_mem_nil, or_false] at hc
  rcases hc with rfl | rfl | rfl
  · rfl
  · exact h2.one
  · exact h3.one⟩
def nmR (R : Mem) (x : Nm) (r : List Value) : Prop := ∃ vi, r = [.int .u32 ((x.n : Nat) : Int), vi] ∧ By R vi x.id ∧ x.n < 4294967296
theorem nmT : RowT 2 nmR := ⟨fun R R' x r hR ⟨vi, h1, h2, h4⟩ => ⟨vi, h1, h2.mono hR, h4⟩, fun R x r ⟨vi, h1, _⟩ => by rw [h1]; rfl, fun R x r ⟨vi, h1, h2, _⟩ c hc => by
  rw [h1] at hc
  simp only [List.mem_cons, List.not_mem_nil, or_false] at hc
  rcases hc with rfl | rfl
  · rfl
  · exact h2.one⟩
theorem eq32 (a b : Nat) : arith .eql .u32 ((a : Nat) : Int) ((b : Nat) : Int) = some (.bool (decide (a = b))) := by
  by_cases h : a = b
  · rw [decide_eq_true h]; exact eqT (by omega)
  · rw [decide_eq_false h]; exact eqF (by omega)

theorem index_Pair (v : Value) (rows : List (List Value)) (f : FuncId) (cs : List Value) (p : Nat → Bool) (A : Mem) (hv : Rd A 3 v rows.length rows.flatten) (hl : ∀ r ∈ rows, r.length = 3) (hn : rows.length ≤ 1099511627776) (hc_ : callable Tryz.prog f = true) (hf : ∀ (j : Nat) (r : List Value), rows[j]? = some r → FnV Tryz.prog f (.agg r.toArray :: cs) A (.bool (p j))) : FnV Tryz.prog 102 [v, .func (.func f) #[] cs.toArray] A (.int .i64 (fidx p rows.length)) := by
 haveI := hv.cel
 refine FnX.enter (N := 19) Tryz.func102 rfl rfl rfl fun w => ?_
 refine XC.keep (kq 0 (kq 1 kn)) ?_
 refine XC.reg ?_
 refine as_ ?_
 refine XL.fin (kq 0 (kq 1 kn)) ?_
 refine XC.seq ?_
 refine XC.reg ?_
 refine mv_ ?_
 refine XL.q (q_lenV2 (sz := 3) rfl (by kernel_rfl) hv) rfl ?_
 refine mv_ ?_
 refine XL.fin (kq 0 (kq 1 (kq 7 (kq 8 kn)))) ?_
 refine XC.block ?_
 refine XC.loop (α := Nat) (fun i => [(0, v), (1, .func (.func f) #[] cs.toArray), (7, .int .i64 ((rows.length : Nat) : Int)), (8, .int .i64 (i : Int))]) (fun _ => []) (fun _ => []) (fun i => i ≤ rows.length ∧ ∀ j, j < i → p j = false) (fun i => rows.length - i) 0 ⟨Nat.zero_le _, fun j h => absurd h (Nat.not_lt_zero j)⟩ (kq 0 (kq 1 (kq 7 (kq 8 kn)))) .rfl (fun _ h => h) ?_
 rintro i ⟨hi, hp⟩
 refine XC.reg ?_
 refine XL.q (q_bin rfl rfl rfl) rfl ?_
 refine XL.fin (kq 0 (kq 1 (kq 7 (kq 8 (kq 9 kn))))) ?_
 refine XC.seq ?_
 refine XC.cond rfl (fun hc => ?_) (fun hc => ?_)
 ·
  have hlt : i < rows.length := by simp at hc; omega
  obtain ⟨r, hr⟩ : ∃ r, rows[i]? = some r := ⟨_, List.getElem?_eq_getElem hlt⟩
  refine XC.skip ?_
  refine nx (kq 0 (kq 1 (kq 7 (kq 8 kn)))) ?_
  refine XC.seq ?_
  refine XC.block ?_
  refine XC.reg ?_
  refine mv_ (as_ ?_)
  refine XL.fin (kq 0 (kq 1 (kq 5 (kq 7 (kq 8 kn))))) ?_
  refine XC.reg ?_
  refine mv_ (mv_ (mv_ ?_))
  refine XL.q (q_atV2 (sz := 3) rfl rfl (by kernel_rfl) rfl hv hlt) rfl ?_
  refine XL.q (q_ldVR rfl (by kernel_rfl) (hv.mono SubC.sub) hl (by decide) hr) rfl ?_
  refine XL.lo rfl (l_callFV rfl (aS rfl a0) hc_ (hf i r hr) rfl ?_)
  refine XL.fin (kq 0 (kq 1 (kq 5 (kq 7 (kq 8 (kq 16 kn)))))) ?_
  refine XC.cond rfl (fun hc => ?_) (fun hc => ?_)
  ·
   refine XC.reg ?_
   refine mv_ (as_ ?_)
   refine XL.fin (kq 4 kn) ?_
   refine XC.ret ?_
   refine br ?_
   refine tr ?_
   refine rr ?_
   refine br ?_
   refine tr ?_
   exact ⟨_, [], [], res1 rfl rfl, List.nil_sublist _, by simp, by rw [fidx_some hlt hp hc], rfl, rfl⟩
  ·
   refine XC.skip ?_
   refine nb ?_
   refine nx (kq 0 (kq 1 (kq 7 (kq 8 kn)))) ?_
   refine XC.reg1 ?_
   refine XL.q (q_addI (b := 1) rfl rfl rfl rfl (by omega)) rfl ?_
   refine mv_ ?_
   refine XL.nil ?_
   exact rn (i + 1) ⟨hlt, fun j hj => by rcases Nat.lt_succ_iff_lt_or_eq.1 hj with h | h; exact hp j h; rw [h]; exact hc⟩ (by omega) (kq 0 (kq 1 (kq 7 (kq 8 kn)))) .rfl (fun _ h => h)
 ·
  have hge : i = rows.length := by simp at hc; omega
  subst hge
  refine XC.exit ?_
  refine te ?_
  refine re ?_
  refine be rfl ?_
  refine nx kn ?_
  refine XC.reg ?_
  refine as_ ?_
  refine XL.fin (kq 4 kn) ?_
  refine XC.ret ?_
  exact ⟨_, [], [], res1 rfl rfl, List.nil_sublist _, by simp, by rw [fidx_none hp], rfl, rfl⟩

theorem index_Name (v : Value) (rows : List (List Value)) (f : FuncId) (cs : List Value) (p : Nat → Bool) (A : Mem) (hv : Rd A 2 v rows.length rows.flatten) (hl : ∀ r ∈ rows, r.length = 2) (hn : rows.length ≤ 1099511627776) (hc_ : callable Tryz.prog f = true) (hf : ∀ (j : Nat) (r : List Value), rows[j]? = some r → FnV Tryz.prog f (.agg r.toArray :: cs) A (.bool (p j))) : FnV Tryz.prog 101 [v, .func (.func f) #[] cs.toArray] A (.int .i64 (fidx p rows.length)) := by
 haveI := hv.cel
 refine FnX.enter (N := 19) Tryz.func101 rfl rfl rfl fun w => ?_
 refine XC.keep (kq 0 (kq 1 kn)) ?_
 refine XC.reg ?_
 refine as_ ?_
 refine XL.fin (kq 0 (kq 1 kn)) ?_
 refine XC.seq ?_
 refine XC.reg ?_
 refine mv_ ?_
 refine XL.q (q_lenV2 (sz := 2) rfl (by kernel_rfl) hv) rfl ?_
 refine mv_ ?_
 refine XL.fin (kq 0 (kq 1 (kq 7 (kq 8 kn)))) ?_
 refine XC.block ?_
 refine XC.loop (α := Nat) (fun i => [(0, v), (1, .func (.func f) #[] cs.toArray), (7, .int .i64 ((rows.length : Nat) : Int)), (8, .int .i64 (i : Int))]) (fun _ => []) (fun _ => []) (fun i => i ≤ rows.length ∧ ∀ j, j < i → p j = false) (fun i => rows.length - i) 0 ⟨Nat.zero_le _, fun j h => absurd h (Nat.not_lt_zero j)⟩ (kq 0 (kq 1 (kq 7 (kq 8 kn)))) .rfl (fun _ h => h) ?_
 rintro i ⟨hi, hp⟩
 refine XC.reg ?_
 refine XL.q (q_bin rfl rfl rfl) rfl ?_
 refine XL.fin (kq 0 (kq 1 (kq 7 (kq 8 (kq 9 kn))))) ?_
 refine XC.seq ?_
 refine XC.cond rfl (fun hc => ?_) (fun hc => ?_)
 ·
  have hlt : i < rows.length := by simp at hc; omega
  obtain ⟨r, hr⟩ : ∃ r, rows[i]? = some r := ⟨_, List.getElem?_eq_getElem hlt⟩
  refine XC.skip ?_
  refine nx (kq 0 (kq 1 (kq 7 (kq 8 kn)))) ?_
  refine XC.seq ?_
  refine XC.block ?_
  refine XC.reg ?_
  refine mv_ (as_ ?_)
  refine XL.fin (kq 0 (kq 1 (kq 5 (kq 7 (kq 8 kn))))) ?_
  refine XC.reg ?_
  refine mv_ (mv_ (mv_ ?_))
  refine XL.q (q_atV2 (sz := 2) rfl rfl (by kernel_rfl) rfl hv hlt) rfl ?_
  refine XL.q (q_ldVR rfl (by kernel_rfl) (hv.mono SubC.sub) hl (by decide) hr) rfl ?_
  refine XL.lo rfl (l_callFV rfl (aS rfl a0) hc_ (hf i r hr) rfl ?_)
  refine XL.fin (kq 0 (kq 1 (kq 5 (kq 7 (kq 8 (kq 16 kn)))))) ?_
  refine XC.cond rfl (fun hc => ?_) (fun hc => ?_)
  ·
   refine XC.reg ?_
   refine mv_ (as_ ?_)
   refine XL.fin (kq 4 kn) ?_
   refine XC.ret ?_
   refine br ?_
   refine tr ?_
   refine rr ?_
   refine br ?_
   refine tr ?_
   exact ⟨_, [], [], res1 rfl rfl, List.nil_sublist _, by simp, by rw [fidx_some hlt hp hc], rfl, rfl⟩
  ·
   refine XC.skip ?_
   refine nb ?_
   refine nx (kq 0 (kq 1 (kq 7 (kq 8 kn)))) ?_
   refine XC.reg1 ?_
   refine XL.q (q_addI (b := 1) rfl rfl rfl rfl (by omega)) rfl ?_
   refine mv_ ?_
   refine XL.nil ?_
   exact rn (i + 1) ⟨hlt, fun j hj => by rcases Nat.lt_succ_iff_lt_or_eq.1 hj with h | h; exact hp j h; rw [h]; exact hc⟩ (by omega) (kq 0 (kq 1 (kq 7 (kq 8 kn)))) .rfl (fun _ h => h)
 ·
  have hge : i = rows.length := by simp at hc; omega
  subst hge
  refine XC.exit ?_
  refine te ?_
  refine re ?_
  refine be rfl ?_
  refine nx kn ?_
  refine XC.reg ?_
  refine as_ ?_
  refine XL.fin (kq 4 kn) ?_
  refine XC.ret ?_
  exact ⟨_, [], [], res1 rfl rfl, List.nil_sublist _, by simp, by rw [fidx_none hp], rfl, rfl⟩

theorem bclone_spec (v : Value) (w : List Nat) (A : Mem) (h : By A v w) : FnX Tryz.prog 67 [v] [] A fun r M J => M = [] ∧ By J r w := by
 haveI := h.cel
 have hwl := h.len
 refine FnX.enterZ (N := 8) Tryz.func67 rfl rfl rfl fun w_ => ?_
 refine XC.keep (kq 0 kn) ?_
 refine XC.reg ?_
 refine as_ ?_
 refine XL.fin (kq 0 kn) ?_
 refine XC.seq ?_
 refine XC.reg ?_
 refine mv_ ?_
 refine XL.q (q_slEqNil (e := 5) rfl (by kernel_rfl) (by first | assumption | exact Sl.rd (by assumption) (fun _ h => h) | exact By.rd (by assumption))) rfl ?_
 refine XL.fin (kq 0 (kq 4 kn)) ?_
 refine XC.cond rfl (fun hc => ?_) (fun hc => ?_)
 ·
  have h0 := h.rd.isNil hc
  obtain rfl : w = [] := List.eq_nil_of_length_eq_zero h0
  refine XC.reg ?_
  refine as_ ?_
  refine XL.fin (kq 2 kn) ?_
  refine XC.ret ?_
  refine tr ?_
  exact ⟨_, [], [], res1 rfl rfl, Fit.sub (List.nil_sublist _), rfl, By.nil⟩
 ·
  refine XC.skip ?_
  refine nx (kq 0 kn) ?_
  refine XC.reg ?_
  refine XL.lo rfl (l_buildSlice (e := 5) (sz := 1) (z := []) (by kernel_rfl) e0 bd0 rfl fun b5 => ?_)
  refine mv_ ?_
  refine XL.lo rfl (l_append2 (e := 5) (sz := 1) (by_ := 1) rfl rfl (by kernel_rfl) rfl (Sl.fresh (n := 0) (cs := []) (e := 5) rfl (by decide)) (h.rd.mono SubC.sub) nums_one PickC.perm (by unfold maxLen; omega) (by omega) rfl fun v7 B7 hs7 => ?_)
  refine as_ ?_
  refine XL.fin (kq 2 kn) ?_
  refine XC.ret ?_
  exact ⟨_, [], B7, res1 rfl rfl, Fit.pick PickC.perm (Fit.sub (List.nil_sublist _)), rfl, ⟨rd_eq (hs7.rd fun x hx => by simp [hx]) (by omega) (by simp), h.lt, h.len⟩⟩

theorem bEqual_spec (va vb : Value) (a b : List Nat) (A : Mem) (ha : By A va a) (hb : By A vb b) : FnV Tryz.prog 71 [va, vb] A (.bool (decide (a = b))) := by
 haveI := ha.cel
 haveI := hb.cel
 refine FnX.enter (N := 10) Tryz.func71 rfl rfl rfl fun w => ?_
 refine XC.keep (kq 0 (kq 1 kn)) ?_
 refine XC.reg ?_
 refine as_ ?_
 refine XL.fin (kq 0 (kq 1 kn)) ?_
 refine XC.reg ?_
 refine mv_ ?_
 refine XL.q (q_toStr2 rfl (by kernel_rfl) (ha.rd.mono SubC.sub)) rfl ?_
 refine mv_ ?_
 refine XL.q (q_toStr2 rfl (by kernel_rfl) (hb.rd.mono SubC.sub)) rfl ?_
 refine XL.q (q_sEq rfl rfl rfl rfl ha.lt hb.lt) rfl ?_
 refine as_ ?_
 refine XL.fin (kq 4 kn) ?_
 refine XC.ret ?_
 exact ⟨_, [], [], res1 rfl rfl, List.nil_sublist _, by simp, rfl, rfl, rfl⟩

theorem cmp_ge0k {k : IntKind} (c : Int) : arith .geq k c 0 = some (.bool (decide (0 ≤ c))) := by
  by_cases h : 0 ≤ c
  · rw [decide_eq_true h]; exact geT h
  · rw [decide_eq_false h]; exact geF (by omega)

theorem contains_Pair (v : Value) (rows : List (List Value)) (f : FuncId) (cs : List Value) (p : Nat → Bool) (A : Mem) (hv : Rd A 3 v rows.length rows.flatten) (hl : ∀ r ∈ rows, r.length = 3) (hn : rows.length ≤ 1099511627776) (hc_ : callable Tryz.prog f = true) (hf : ∀ (j : Nat) (r : List Value), rows[j]? = some r → FnV Tryz.prog f (.agg r.toArray :: cs) A (.bool (p j))) : FnV Tryz.prog 59 [v, .func (.func f) #[] cs.toArray] A (.bool (decide (0 ≤ fidx p rows.length))) := by
 haveI := hv.cel
 refine FnX.enter (N := 9) Tryz.func59 rfl rfl rfl fun w => ?_
 refine XC.keep (kq 0 (kq 1 kn)) ?_
 refine XC.reg ?_
 refine as_ ?_
 refine XL.fin (kq 0 (kq 1 kn)) ?_
 refine XC.reg ?_
 refine mv_ (mv_ ?_)
 refine XL.callV (aS rfl (aS rfl a0)) (by kernel_rfl) (index_Pair v rows f cs p _ (hv.mono SubC.sub) hl hn hc_ (fun j r hr => fnv_up (hf j r hr) SubC.sub)) rfl ?_
 refine XL.q (q_cmp (decide (0 ≤ fidx p rows.length)) rfl rfl (cmp_ge0k _)) rfl ?_
 refine as_ ?_
 refine XL.fin (kq 4 kn) ?_
 refine XC.ret ?_
 exact ⟨_, [], [], res1 rfl rfl, List.nil_sublist _, by simp, rfl, rfl, rfl⟩

theorem usec_spec (vs vg : Value) (x : Pr) (n b : Nat) (A : Mem) (hs : By A vs x.sec) (hg : By A vg x.sig) (hb : (b, blk [.int .u32 ((n : Nat) : Int)] 22) ∈ A) : FnV Tryz.prog 62 [.agg #[.int .u32 ((x.n : Nat) : Int), vs, vg], .pointer (some ⟨b, 0, none⟩)] A (.bool (decide (x.n = n))) := by
 haveI := hs.cel
 haveI := hg.cel
 refine FnX.enter (N := 8) Tryz.func62 rfl rfl rfl fun w => ?_
 refine XC.keep (kq 0 (kq 1 kn)) ?_
 refine XC.reg ?_
 refine XL.lo rfl (bx_ fun b2 => ?_)
 refine as_ ?_
 refine XL.fin (kq 1 (kq 2 kn)) ?_
 refine XC.reg ?_
 refine XL.q (qf_ 0 0) rfl ?_
 refine XL.q ql_ rfl ?_
 refine XL.q (q_load rfl (by kernel_rfl) (mA hb) (by rfl)) rfl ?_
 refine XL.q (q_cmp (decide (x.n = n)) rfl rfl (eq32 _ _)) rfl ?_
 refine as_ ?_
 refine XL.fin (kq 3 kn) ?_
 refine XC.ret ?_
 exact ⟨_, [], [], res1 rfl rfl, List.nil_sublist _, by simp, rfl, rfl, rfl⟩

theorem turnc1_spec (vs vg vi : Value) (x : Pr) (n b : Nat) (A : Mem) (hs : By A vs x.sec) (hg : By A vg x.sig) (hvi : Cel vi [vi]) (hb : (b, blk [.int .u32 ((n : Nat) : Int), vi] 101) ∈ A) : FnV Tryz.prog 60 [.agg #[.int .u32 ((x.n : Nat) : Int), vs, vg], .pointer (some ⟨b, 0, none⟩)] A (.bool (decide (x.n = n))) := by
 haveI := hs.cel
 haveI := hg.cel
 refine FnX.enter (N := 9) Tryz.func60 rfl rfl rfl fun w => ?_
 refine XC.keep (kq 0 (kq 1 kn)) ?_
 refine XC.reg ?_
 refine XL.lo rfl (bx_ fun b2 => ?_)
 refine as_ ?_
 refine XL.fin (kq 1 (kq 2 kn)) ?_
 refine XC.reg ?_
 refine XL.q (qf_ 0 0) rfl ?_
 refine XL.q ql_ rfl ?_
 refine XL.q (qf_ 0 0) rfl ?_
 refine XL.q (q_load rfl (by kernel_rfl) (mA hb) (by rfl)) rfl ?_
 refine XL.q (q_cmp (decide (x.n = n)) rfl rfl (eq32 _ _)) rfl ?_
 refine as_ ?_
 refine XL.fin (kq 3 kn) ?_
 refine XC.ret ?_
 exact ⟨_, [], [], res1 rfl rfl, List.nil_sublist _, by simp, rfl, rfl, rfl⟩

end Go.Proofs.YtphcaiplgpmnnaaGreatDoor
/- Keys, as they lie; the walks of find, and of the readers. -/
namespace Go.Proofs.YtphcaiplgpmnnaaGreatDoor
open Go.Px
structure Ks where
  user : Int
  dev : Int
  agree : List Nat
  sign : List Nat
  signed : List Pr
  once : List Pr
  next : Nat
  met : List Nm
def tstP (n : Nat) (x : Pr) : Bool := decide (x.n = n)
def tstN (n : Nat) (w : List Nat) (x : Nm) : Bool := decide (x.n = n) && decide (x.id = w)
def getP (l : List Pr) (n : Nat) : Option (List Nat) := if fidxL (tstP n) l < 0 then none else (l[(fidxL (tstP n) l).toNat]?).map (·.sec)
theorem getP_no {l : List Pr} {n : Nat} (h : fidxL (tstP n) l = -1) : getP l n = none := if_pos (by rw [h]; decide)
theorem getP_yes {l : List Pr} {n i : Nat} {x : Pr} (h : fidxL (tstP n) l = (i : Int)) (hx : l[i]? = some x) : getP l n = some x.sec := by
  unfold getP; rw [h, if_neg (by omega), Int.toNat_natCast, hx]; rfl
def kyC (k : Ks) (va vg vs vo vm : Value) : List Value := [.int .i64 k.user, .int .i64 k.dev, va, vg, vs, vo, .int .u32 ((k.next : Nat) : Int), vm]
/-- Keys that are read. -/
structure KyR (R : Mem) (kb : Nat) (k : Ks) (va vg vs vo vm : Value) (rs ro rm : List (List Value)) : Prop where
  blk_ : (kb, blk [.int .i64 k.user, .int .i64 k.dev, va, vg, vs, vo, .int .u32 ((k.next : Nat) : Int), vm] 96) ∈ R
  agree : By R va k.agree
  sign : By R vg k.sign
  signed : Rd R 3 vs k.signed.length rs.flatten
  signedR : RwL prR R rs k.signed
  once : Rd R 3 vo k.once.length ro.flatten
  onceR : RwL prR R ro k.once
  met : Rd R 2 vm k.met.length rm.flatten
  metR : RwL nmR R rm k.met
  next : k.next < 4294967296
  l1 : k.signed.length ≤ 1000000
  l2 : k.once.length ≤ 1000000
  l3 : k.met.length ≤ 1000000
theorem KyR.mono {R R' : Mem} {kb : Nat} {k : Ks} {va vg vs vo vm : Value} {rs ro rm : List (List Value)} (h : KyR R kb k va vg vs vo vm rs ro rm) (hR : ∀ x, x ∈ R → x ∈ R') : KyR R' kb k va vg vs vo vm rs ro rm :=
  ⟨hR _ h.blk_, h.agree.mono hR, h.sign.mono hR, h.signed.mono hR, h.signedR.mono prT hR, h.once.mono hR, h.onceR.mono prT hR, h.met.mono hR, h.metR.mono nmT hR, h.next, h.l1, h.l2, h.l3⟩
theorem klen_f (kb : Nat) (k : Ks) (va vg vs vo vm : Value) (rs ro rm : List (List Value)) (A : Mem) (hK : KyR A kb k va vg vs vo vm rs ro rm) : FnV Tryz.prog 32 [.pointer (some ⟨kb, 0, none⟩)] A (.int .i64 ((k.once.length : Nat) : Int)) := by
 have hkb := hK.blk_
 haveI := hK.agree.cel
 haveI := hK.sign.cel
 haveI := hK.signed.cel
 haveI := hK.once.cel
 haveI := hK.met.cel
 refine FnX.enter (N := 10) Tryz.func32 rfl rfl rfl fun w => ?_
 refine XC.keep (kq 0 kn) ?_
 refine XC.reg ?_
 refine as_ ?_
 refine XL.fin (kq 0 kn) ?_
 refine XC.seq ?_
 refine XC.reg ?_
 refine mv_ ?_
 refine XL.q (q_ptrEqNil (e := 96) rfl rfl (by kernel_rfl)) rfl ?_
 refine XL.fin (kq 0 (kq 4 kn)) ?_
 refine XC.condF rfl ?_
 refine XC.skip ?_
 refine nx (kq 0 kn) ?_
 refine XC.reg ?_
 refine mv_ ?_
 refine XL.q (q_nil rfl) rfl ?_
 refine XL.q (qf_ 5 5) rfl ?_
 refine XL.q (q_load rfl (by kernel_rfl) (mA hkb) (by rfl)) rfl ?_
 refine XL.q (q_lenV2 (sz := 3) rfl (by kernel_rfl) hK.once) rfl ?_
 refine as_ ?_
 refine XL.fin (kq 2 kn) ?_
 refine XC.ret ?_
 exact ⟨_, [], [], res1 rfl rfl, List.nil_sublist _, by simp, rfl, rfl, rfl⟩

theorem who_f (kb : Nat) (k : Ks) (va vg vs vo vm : Value) (rs ro rm : List (List Value)) (A : Mem) (hK : KyR A kb k va vg vs vo vm rs ro rm) : FnV Tryz.prog 33 [.pointer (some ⟨kb, 0, none⟩)] A (.agg #[.int .i64 k.user, .int .i64 k.dev]) := by
 have hkb := hK.blk_
 haveI := hK.agree.cel
 haveI := hK.sign.cel
 haveI := hK.signed.cel
 haveI := hK.once.cel
 haveI := hK.met.cel
 refine FnX.enter (N := 10) Tryz.func33 rfl rfl rfl fun w => ?_
 refine XC.keep (kq 0 kn) ?_
 refine XC.reg ?_
 refine XL.lo rfl (l_alloc (cs := [.int .i64 0, .int .i64 0]) (by kernel_rfl) rfl fun b2 => ?_)
 refine XL.fin (kq 0 (kq 2 kn)) ?_
 refine XC.seq ?_
 refine XC.reg ?_
 refine mv_ ?_
 refine XL.q (q_ptrEqNil (e := 96) rfl rfl (by kernel_rfl)) rfl ?_
 refine XL.fin (kq 0 (kq 2 (kq 4 kn))) ?_
 refine XC.condF rfl ?_
 refine XC.skip ?_
 refine nx (kq 0 (kq 2 kn)) ?_
 refine XC.reg ?_
 refine mv_ ?_
 refine XL.q (q_nil rfl) rfl ?_
 refine XL.q (qf_ 0 0) rfl ?_
 refine XL.q (q_loadT (n := 2) rfl (by kernel_rfl) (mA hkb) TakeC.take) rfl ?_
 refine XL.lo rfl (l_storeW rfl rfl Cel.cel (by kernel_rfl) (lnS (lnS (ln0))) (allS rfl (allS rfl (all0))) UpC.upd ?_)
 refine XL.fin (kq 2 kn) ?_
 refine XC.ret ?_
 exact ⟨_, [], [], resC rfl rfl (by kernel_rfl) At.mem (by rfl), List.nil_sublist _, by simp, rfl, rfl, rfl⟩

theorem kagree_f (kb : Nat) (k : Ks) (va vg vs vo vm : Value) (rs ro rm : List (List Value)) (A : Mem) (hK : KyR A kb k va vg vs vo vm rs ro rm) : FnX Tryz.prog 25 [.pointer (some ⟨kb, 0, none⟩)] [] A fun r M J => M = [] ∧ By J r k.agree := by
 have hkb := hK.blk_
 haveI := hK.agree.cel
 haveI := hK.sign.cel
 haveI := hK.signed.cel
 haveI := hK.once.cel
 haveI := hK.met.cel
 refine FnX.enterZ (N := 10) Tryz.func25 rfl rfl rfl fun w_ => ?_
 refine XC.keep (kq 0 kn) ?_
 refine XC.reg ?_
 refine as_ ?_
 refine XL.fin (kq 0 kn) ?_
 refine XC.seq ?_
 refine XC.reg ?_
 refine mv_ ?_
 refine XL.q (q_ptrEqNil (e := 96) rfl rfl (by kernel_rfl)) rfl ?_
 refine XL.fin (kq 0 (kq 4 kn)) ?_
 refine XC.condF rfl ?_
 refine XC.skip ?_
 refine nx (kq 0 kn) ?_
 refine XC.reg ?_
 refine mv_ ?_
 refine XL.q (q_nil rfl) rfl ?_
 refine XL.q (qf_ 2 2) rfl ?_
 refine XL.q (q_load rfl (by kernel_rfl) (mA hkb) (by rfl)) rfl ?_
 refine XL.call (aS rfl a0) (by kernel_rfl) (bclone_spec va k.agree _ (hK.agree.mono SubC.sub)) rfl ?_
 rintro r9 M9 J9 ⟨rfl, h9⟩
 haveI := h9.cel
 refine as_ ?_
 refine XL.fin (kq 2 kn) ?_
 refine XC.ret ?_
 exact ⟨_, [], [], res1 rfl rfl, Fit.sub (List.nil_sublist _), rfl, h9.mono SubC.sub⟩

theorem ksign_f (kb : Nat) (k : Ks) (va vg vs vo vm : Value) (rs ro rm : List (List Value)) (A : Mem) (hK : KyR A kb k va vg vs vo vm rs ro rm) : FnX Tryz.prog 26 [.pointer (some ⟨kb, 0, none⟩)] [] A fun r M J => M = [] ∧ By J r k.sign := by
 have hkb := hK.blk_
 haveI := hK.agree.cel
 haveI := hK.sign.cel
 haveI := hK.signed.cel
 haveI := hK.once.cel
 haveI := hK.met.cel
 refine FnX.enterZ (N := 10) Tryz.func26 rfl rfl rfl fun w_ => ?_
 refine XC.keep (kq 0 kn) ?_
 refine XC.reg ?_
 refine as_ ?_
 refine XL.fin (kq 0 kn) ?_
 refine XC.seq ?_
 refine XC.reg ?_
 refine mv_ ?_
 refine XL.q (q_ptrEqNil (e := 96) rfl rfl (by kernel_rfl)) rfl ?_
 refine XL.fin (kq 0 (kq 4 kn)) ?_
 refine XC.condF rfl ?_
 refine XC.skip ?_
 refine nx (kq 0 kn) ?_
 refine XC.reg ?_
 refine mv_ ?_
 refine XL.q (q_nil rfl) rfl ?_
 refine XL.q (qf_ 3 3) rfl ?_
 refine XL.q (q_load rfl (by kernel_rfl) (mA hkb) (by rfl)) rfl ?_
 refine XL.call (aS rfl a0) (by kernel_rfl) (bclone_spec vg k.sign _ (hK.sign.mono SubC.sub)) rfl ?_
 rintro r9 M9 J9 ⟨rfl, h9⟩
 haveI := h9.cel
 refine as_ ?_
 refine XL.fin (kq 2 kn) ?_
 refine XC.ret ?_
 exact ⟨_, [], [], res1 rfl rfl, Fit.sub (List.nil_sublist _), rfl, h9.mono SubC.sub⟩

end Go.Proofs.YtphcaiplgpmnnaaGreatDoor
/- The walks of cmp.Compare, of the search among rising prekeys, of Once. -/
namespace Go.Proofs.YtphcaiplgpmnnaaGreatDoor
open Go.Px
def cmpK (a b : Nat) : Int := if a < b then -1 else if b < a then 1 else 0
theorem cmpK_lt {a b : Nat} (h : a < b) : cmpK a b = -1 := if_pos h
theorem cmpK_gt {a b : Nat} (h : b < a) : cmpK a b = 1 := by unfold cmpK; rw [if_neg (by omega), if_pos h]
theorem cmpK_eq {a b : Nat} (h : a = b) : cmpK a b = 0 := by unfold cmpK; rw [if_neg (by omega), if_neg (by omega)]
theorem cmpK_lss (a b : Nat) : arith .lss .i64 (cmpK a b) 0 = some (.bool (decide (a < b))) := by
  rcases Nat.lt_trichotomy a b with h | h | h
  · rw [cmpK_lt h, decide_eq_true h]; rfl
  · rw [cmpK_eq h, decide_eq_false (by omega)]; rfl
  · rw [cmpK_gt h, decide_eq_false (by omega)]; rfl
theorem cmpK_eql (a b : Nat) : arith .eql .i64 (cmpK a b) 0 = some (.bool (decide (a = b))) := by
  rcases Nat.lt_trichotomy a b with h | h | h
  · rw [cmpK_lt h, decide_eq_false (by omega)]; rfl
  · rw [cmpK_eq h, decide_eq_true h]; rfl
  · rw [cmpK_gt h, decide_eq_false (by omega)]; rfl
theorem lt32 (a b : Nat) : arith .lss .u32 ((a : Nat) : Int) ((b : Nat) : Int) = some (.bool (decide (a < b))) := by
  by_cases h : a < b
  · rw [decide_eq_true h]; exact ltT (by omega)
  · rw [decide_eq_false h]; exact ltF (by omega)
theorem gt32 (a b : Nat) : arith .gtr .u32 ((a : Nat) : Int) ((b : Nat) : Int) = some (.bool (decide (b < a))) := by
  by_cases h : b < a
  · rw [decide_eq_true h]; exact gtT (by omega)
  · rw [decide_eq_false h]; exact gtF (by omega)
/-- Prekeys in a rising row. -/
def Rise (l : List Pr) : Prop := ∀ (i j : Nat) (x y : Pr), i < j → l[i]? = some x → l[j]? = some y → x.n < y.n
theorem fidxL_at {l : List Pr} {n i : Nat} {x : Pr} (hx : l[i]? = some x) (hn : x.n = n) (h : ∀ (j : Nat) (y : Pr), j < i → l[j]? = some y → y.n < n) : fidxL (tstP n) l = (i : Int) := by
  have hil := (List.getElem?_eq_some_iff.1 hx).1
  refine fidx_some hil (fun j hj => ?_) (by rw [hx]; simp [tstP, hn])
  have hjl : j < l.length := by omega
  rw [List.getElem?_eq_getElem hjl]
  have := h j _ hj (List.getElem?_eq_getElem hjl)
  simp [tstP]; omega
theorem fidxL_none {l : List Pr} {n : Nat} (h : ∀ (j : Nat) (y : Pr), l[j]? = some y → y.n ≠ n) : fidxL (tstP n) l = -1 := by
  refine fidx_none fun j hj => ?_
  rw [List.getElem?_eq_getElem hj]
  have := h j _ (List.getElem?_eq_getElem hj)
  simp [tstP, this]
/-- What the search answers. -/
structure BsR (l : List Pr) (n i : Nat) (b : Bool) : Prop where
  le : i ≤ l.length
  lt : ∀ (j : Nat) (y : Pr), j < i → l[j]? = some y → y.n < n
  ge : ∀ (j : Nat) (y : Pr), i ≤ j → l[j]? = some y → n ≤ y.n
  at_ : b = true ↔ ∃ x, l[i]? = some x ∧ x.n = n
theorem BsR.yes {l : List Pr} {n i : Nat} (h : BsR l n i true) : ∃ x, l[i]? = some x ∧ fidxL (tstP n) l = (i : Int) := by
  obtain ⟨x, hx, hn⟩ := h.at_.1 rfl
  exact ⟨x, hx, fidxL_at hx hn h.lt⟩
theorem BsR.no {l : List Pr} {n i : Nat} (hr : Rise l) (h : BsR l n i false) : fidxL (tstP n) l = -1 := by
  refine fidxL_none fun j y hy hn => ?_
  rcases Nat.lt_trichotomy j i with hj | hj | hj
  · have := h.lt j y hj hy; omega
  · subst hj
    have := h.at_.2 ⟨y, hy, hn⟩
    cases this
  · have hjl := (List.getElem?_eq_some_iff.1 hy).1
    have hil : i < l.length := by omega
    have h1 := h.ge i _ (Nat.le_refl _) (List.getElem?_eq_getElem hil)
    have h2 := hr i j _ y hj (List.getElem?_eq_getElem hil) hy
    omega

theorem isNaN32_f (x : Int) (A : Mem) : FnV Tryz.prog 104 [.int .u32 x] A (.bool false) := by
 refine FnX.enter (N := 6) Tryz.func104 rfl rfl rfl fun w => ?_
 refine XC.keep (kq 0 kn) ?_
 refine XC.reg ?_
 refine as_ ?_
 refine XL.fin (kq 0 kn) ?_
 refine XC.reg ?_
 refine mv_ (mv_ ?_)
 refine XL.q (q_cmp false rfl rfl (neF rfl)) rfl ?_
 refine as_ ?_
 refine XL.fin (kq 2 kn) ?_
 refine XC.ret ?_
 exact ⟨_, [], [], res1 rfl rfl, List.nil_sublist _, by simp, rfl, rfl, rfl⟩

theorem compare32_f (a b : Nat) (A : Mem) : FnV Tryz.prog 66 [.int .u32 ((a : Nat) : Int), .int .u32 ((b : Nat) : Int)] A (.int .i64 (cmpK a b)) := by
 refine FnX.enter (N := 20) Tryz.func66 rfl rfl rfl fun w => ?_
 refine XC.keep (kq 0 (kq 1 kn)) ?_
 refine XC.reg ?_
 refine as_ ?_
 refine XL.fin (kq 0 (kq 1 kn)) ?_
 refine XC.reg ?_
 refine mv_ ?_
 refine XL.callV (aS rfl a0) (by kernel_rfl) (isNaN32_f _ _) rfl ?_
 refine as_ ?_
 refine XL.fin (kq 0 (kq 1 (kq 5 kn))) ?_
 refine XC.reg ?_
 refine mv_ ?_
 refine XL.callV (aS rfl a0) (by kernel_rfl) (isNaN32_f _ _) rfl ?_
 refine as_ ?_
 refine XL.fin (kq 0 (kq 1 (kq 5 (kq 6 kn)))) ?_
 refine XC.seq ?_
 refine XC.reg ?_
 refine mv_ ?_
 refine XL.fin (kq 0 (kq 1 (kq 6 (kq 11 kn)))) ?_
 refine XC.condF rfl ?_
 refine XC.skip ?_
 refine nx (kq 0 (kq 1 (kq 6 kn))) ?_
 refine XC.seq ?_
 refine XC.reg ?_
 refine mv_ ?_
 refine XL.fin (kq 0 (kq 1 (kq 13 kn))) ?_
 refine XC.condF rfl ?_
 refine XC.skip ?_
 refine nx (kq 0 (kq 1 kn)) ?_
 refine XC.seq ?_
 refine XC.reg ?_
 refine mv_ (mv_ ?_)
 refine XL.q (q_cmp (decide (a < b)) rfl rfl (lt32 _ _)) rfl ?_
 refine XL.fin (kq 0 (kq 1 (kq 16 kn))) ?_
 refine XC.cond rfl (fun hc => ?_) (fun hc => ?_)
 ·
  have hab : a < b := of_decide_eq_true hc
  refine XC.reg ?_
  refine as_ ?_
  refine XL.fin (kq 4 kn) ?_
  refine XC.ret ?_
  refine tr ?_
  exact ⟨_, [], [], res1 rfl rfl, List.nil_sublist _, by simp, by rw [cmpK_lt hab], rfl, rfl⟩
 ·
  have hab : ¬ a < b := of_decide_eq_false hc
  refine XC.skip ?_
  refine nx (kq 0 (kq 1 kn)) ?_
  refine XC.seq ?_
  refine XC.reg ?_
  refine mv_ (mv_ ?_)
  refine XL.q (q_cmp (decide (b < a)) rfl rfl (gt32 _ _)) rfl ?_
  refine XL.fin (kq 19 kn) ?_
  refine XC.cond rfl (fun hc => ?_) (fun hc => ?_)
  ·
   have hba : b < a := of_decide_eq_true hc
   refine XC.reg ?_
   refine as_ ?_
   refine XL.fin (kq 4 kn) ?_
   refine XC.ret ?_
   refine tr ?_
   exact ⟨_, [], [], res1 rfl rfl, List.nil_sublist _, by simp, by rw [cmpK_gt hba], rfl, rfl⟩
  ·
   have hba : ¬ b < a := of_decide_eq_false hc
   refine XC.skip ?_
   refine nx kn ?_
   refine XC.reg ?_
   refine as_ ?_
   refine XL.fin (kq 4 kn) ?_
   refine XC.ret ?_
   exact ⟨_, [], [], res1 rfl rfl, List.nil_sublist _, by simp, by rw [cmpK_eq (by omega)], rfl, rfl⟩

theorem oncec_spec (vs vg : Value) (x : Pr) (n : Nat) (A : Mem) (hs : By A vs x.sec) (hg : By A vg x.sig) : FnV Tryz.prog 65 [.agg #[.int .u32 ((x.n : Nat) : Int), vs, vg], .int .u32 ((n : Nat) : Int)] A (.int .i64 (cmpK x.n n)) := by
 haveI := hs.cel
 haveI := hg.cel
 refine FnX.enter (N := 9) Tryz.func65 rfl rfl rfl fun w => ?_
 refine XC.keep (kq 0 (kq 1 kn)) ?_
 refine XC.reg ?_
 refine XL.lo rfl (bx_ fun b2 => ?_)
 refine as_ ?_
 refine XL.fin (kq 1 (kq 2 kn)) ?_
 refine XC.reg ?_
 refine XL.q (qf_ 0 0) rfl ?_
 refine XL.q ql_ rfl ?_
 refine mv_ ?_
 refine XL.callV (aS rfl (aS rfl a0)) (by kernel_rfl) (compare32_f x.n n _) rfl ?_
 refine as_ ?_
 refine XL.fin (kq 4 kn) ?_
 refine XC.ret ?_
 exact ⟨_, [], [], res1 rfl rfl, List.nil_sublist _, by simp, rfl, rfl, rfl⟩

theorem bsearch_f (v : Value) (rows : List (List Value)) (l : List Pr) (n : Nat) (A : Mem) (hv : Rd A 3 v l.length rows.flatten) (hR : RwL prR A rows l) (hrise : Rise l) (hl : l.length ≤ 1000000) : FnX Tryz.prog 64 [v, .int .u32 ((n : Nat) : Int), .func (.func 65) #[] #[]] [] A fun r M J => M = [] ∧ J = [] ∧ ∃ i b, r = .tuple #[.int .i64 ((i : Nat) : Int), .bool b] ∧ BsR l n i b := by
  haveI := hv.cel
  refine FnX.enter (N := 49) Tryz.func64 rfl rfl rfl fun w => ?_
  refine XC.keep (kq 0 (kq 1 (kq 2 kn))) ?_
  refine XC.reg ?_
  refine as_ (as_ ?_)
  refine XL.fin (kq 0 (kq 1 (kq 2 kn))) ?_
  refine XC.reg ?_
  refine mv_ ?_
  refine XL.q (q_lenV2 (sz := 3) rfl (by kernel_rfl) hv) rfl ?_
  refine as_ ?_
  refine XL.fin (kq 0 (kq 1 (kq 2 (kq 8 kn)))) ?_
  refine XC.reg ?_
  refine mv_ (as_ (as_ ?_))
  refine XL.fin (kq 0 (kq 1 (kq 2 (kq 8 (kq 9 (kq 10 kn)))))) ?_
  refine XC.seq ?_
  refine XC.block ?_
  refine XC.loop (α := Nat × Nat) (fun y => [(0, v), (1, .int .u32 ((n : Nat) : Int)), (2, .func (.func 65) #[] #[]), (8, .int .i64 ((l.length : Nat) : Int)), (9, .int .i64 ((y.1 : Nat) : Int)), (10, .int .i64 ((y.2 : Nat) : Int))]) (fun _ => []) (fun _ => []) (fun y => y.1 ≤ y.2 ∧ y.2 ≤ l.length ∧ (∀ (j : Nat) (z : Pr), j < y.1 → l[j]? = some z → z.n < n) ∧ (∀ (j : Nat) (z : Pr), y.2 ≤ j → l[j]? = some z → n ≤ z.n)) (fun y => y.2 - y.1) (0, l.length) ⟨Nat.zero_le _, Nat.le_refl _, fun j z h => by omega, fun j z h1 h2 => by have := (List.getElem?_eq_some_iff.1 h2).1; omega⟩ (kq 0 (kq 1 (kq 2 (kq 8 (kq 9 (kq 10 kn)))))) .rfl (fun _ h => h) ?_
  rintro ⟨lo, hi⟩ ⟨h1, h2, h3, h4⟩
  dsimp only at h1 h2 h3 h4 ⊢
  refine XC.seq ?_
  refine XC.reg ?_
  refine mv_ (mv_ ?_)
  refine XL.q (q_bin rfl rfl rfl) rfl ?_
  refine XL.fin (kq 0 (kq 1 (kq 2 (kq 8 (kq 9 (kq 10 (kq 17 kn))))))) ?_
  refine XC.cond rfl (fun hc => ?_) (fun hc => ?_)
  ·
    have hlt : lo < hi := by simp at hc; omega
    obtain ⟨h, hh⟩ : ∃ h, (lo + hi) / 2 ^ 1 = h := ⟨_, rfl⟩
    have hh1 : lo ≤ h ∧ h < hi := by omega
    obtain ⟨x, hx⟩ : ∃ x, l[h]? = some x := ⟨_, List.getElem?_eq_getElem (by omega)⟩
    obtain ⟨r, hr, vs, vg, rfl, hs_, hg_, hxn⟩ := hR.get h x hx
    haveI := hs_.cel
    haveI := hg_.cel
    refine XC.skip ?_
    refine nx (kq 0 (kq 1 (kq 2 (kq 8 (kq 9 (kq 10 kn)))))) ?_
    refine XC.block ?_
    refine XC.reg ?_
    refine mv_ (mv_ ?_)
    refine XL.q (q_num ((lo + hi : Nat) : Int) rfl rfl (add64 (by omega) (by omega) (by omega))) rfl ?_
    refine XL.q (q_convN (k' := .u64) (lo + hi) rfl (by kernel_rfl) (wrap_u64 (by omega) (by omega))) rfl ?_
    refine XL.q (hh ▸ q_shrI (a := lo + hi) (b := 1) rfl rfl rfl rfl (by decide)) rfl ?_
    refine XL.q (q_convN (k' := .i64) h rfl (by kernel_rfl) (wrapI (by omega))) rfl ?_
    refine as_ ?_
    refine XL.fin (kq 0 (kq 1 (kq 2 (kq 8 (kq 9 (kq 10 (kq 11 kn))))))) ?_
    refine XC.reg ?_
    refine mv_ (mv_ (mv_ ?_))
    refine XL.q (q_atV2 (sz := 3) rfl rfl (by kernel_rfl) rfl hv (show h < l.length by omega)) rfl ?_
    refine XL.q (q_ldVR rfl (by kernel_rfl) (hv.mono SubC.sub) (hR.lens prT) (by decide) hr) rfl ?_
    refine mv_ ?_
    refine XL.lo rfl (l_callFV rfl (aS rfl (aS rfl a0)) (by kernel_rfl) (oncec_spec vs vg x n _ (hs_.mono SubC.sub) (hg_.mono SubC.sub)) rfl ?_)
    refine XL.q (q_cmp (decide (x.n < n)) rfl rfl (cmpK_lss _ _)) rfl ?_
    refine XL.fin (kq 0 (kq 1 (kq 2 (kq 8 (kq 9 (kq 10 (kq 11 (kq 31 kn)))))))) ?_
    refine XC.cond rfl (fun hc => ?_) (fun hc => ?_)
    ·
      have hxl : x.n < n := of_decide_eq_true hc
      refine XC.reg1 ?_
      refine mv_ ?_
      refine XL.q (q_num ((h + 1 : Nat) : Int) rfl rfl (add64 (by omega) (by omega) (by omega))) rfl ?_
      refine as_ ?_
      refine XL.nil ?_
      refine nb ?_
      exact rn (h + 1, hi) ⟨by dsimp only; omega, h2, fun j z hj hz => by
        dsimp only at hj
        rcases Nat.lt_or_ge j h with hjh | hjh
        · have := hrise j h z x hjh hz hx; omega
        · obtain rfl : j = h := by omega
          rw [hx] at hz; cases hz; exact hxl, h4⟩ (by dsimp only; omega) (kq 0 (kq 1 (kq 2 (kq 8 (kq 9 (kq 10 kn)))))) .rfl (fun _ h => h)
    ·
      have hxl : ¬ x.n < n := of_decide_eq_false hc
      refine XC.reg1 ?_
      refine mv_ (as_ ?_)
      refine XL.nil ?_
      refine nb ?_
      exact rn (lo, h) ⟨by dsimp only; omega, by dsimp only; omega, h3, fun j z hj hz => by
        dsimp only at hj
        rcases Nat.lt_or_ge h j with hjh | hjh
        · have := hrise h j x z hjh hx hz; omega
        · obtain rfl : j = h := by omega
          rw [hx] at hz; cases hz; omega⟩ (by dsimp only; omega) (kq 0 (kq 1 (kq 2 (kq 8 (kq 9 (kq 10 kn)))))) .rfl (fun _ h => h)
  ·
    have hlt : lo = hi := by simp at hc; omega
    subst hlt
    refine XC.exit ?_
    refine te ?_
    refine re ?_
    refine be rfl ?_
    refine nx (kq 0 (kq 1 (kq 2 (kq 8 (kq 9 kn))))) ?_
    refine XC.reg ?_
    refine mv_ (mv_ (mv_ ?_))
    refine XL.q (q_bin rfl rfl rfl) rfl ?_
    refine mv_ ?_
    refine XL.split (t := 39) rfl (fun hb => ?_) (fun hb => ?_)
    ·
      have hlo : lo < l.length := by simp at hb; omega
      obtain ⟨x, hx⟩ : ∃ x, l[lo]? = some x := ⟨_, List.getElem?_eq_getElem hlo⟩
      obtain ⟨r, hr, vs, vg, rfl, hs_, hg_, hxn⟩ := hR.get lo x hx
      haveI := hs_.cel
      haveI := hg_.cel
      refine XL.gy rfl rfl (OpQ.opL qm_ rfl ?_)
      refine XL.gy rfl rfl (OpQ.opL qm_ rfl ?_)
      refine XL.gy rfl rfl (OpQ.opL qm_ rfl ?_)
      refine XL.gy rfl rfl (OpQ.opL (q_atV2 (sz := 3) rfl rfl (by kernel_rfl) rfl hv hlo) rfl ?_)
      refine XL.gy rfl rfl (OpQ.opL (q_ldVR rfl (by kernel_rfl) (hv.mono SubC.sub) (hR.lens prT) (by decide) hr) rfl ?_)
      refine XL.gy rfl rfl (OpQ.opL qm_ rfl ?_)
      refine XL.gy rfl rfl (l_callFV rfl (aS rfl (aS rfl a0)) (by kernel_rfl) (oncec_spec vs vg x n _ (hs_.mono SubC.sub) (hg_.mono SubC.sub)) rfl ?_)
      refine XL.gy rfl rfl (OpQ.opL (q_cmp (decide (x.n = n)) rfl rfl (cmpK_eql _ _)) rfl ?_)
      refine XL.q (q_pickT rfl rfl) rfl ?_
      refine as_ (as_ ?_)
      refine XL.fin (kq 6 (kq 7 kn)) ?_
      refine XC.ret ?_
      exact ⟨_, [], [], res2 rfl rfl rfl, List.nil_sublist _, by simp, rfl, rfl, lo, _, rfl, h2, h3, h4, by rw [hx]; simp⟩
    ·
      have hlo : ¬ lo < l.length := by simp at hb; omega
      refine XL.gn rfl rfl rfl rfl ?_
      refine XL.gn rfl rfl rfl rfl ?_
      refine XL.gn rfl rfl rfl rfl ?_
      refine XL.gn rfl rfl rfl rfl ?_
      refine XL.gn rfl rfl rfl rfl ?_
      refine XL.gn rfl rfl rfl rfl ?_
      refine XL.gn rfl rfl rfl rfl ?_
      refine XL.gn rfl rfl rfl rfl ?_
      refine XL.q (q_pickF rfl rfl) rfl ?_
      refine as_ (as_ ?_)
      refine XL.fin (kq 6 (kq 7 kn)) ?_
      refine XC.ret ?_
      exact ⟨_, [], [], res2 rfl rfl rfl, List.nil_sublist _, by simp, rfl, rfl, lo, _, rfl, h2, h3, h4, by rw [List.getElem?_eq_none (by omega)]; simp⟩

theorem once_f (kb : Nat) (k : Ks) (va vg vs vo vm : Value) (rs ro rm : List (List Value)) (n : Nat) (A : Mem) (hK : KyR A kb k va vg vs vo vm rs ro rm) (hrise : Rise k.once) : FnX Tryz.prog 22 [.pointer (some ⟨kb, 0, none⟩), .int .u32 ((n : Nat) : Int)] [] A fun r M J => M = [] ∧ ∃ q, r = .tuple #[q, .bool (getP k.once n).isSome] ∧ By J q ((getP k.once n).getD []) := by
 have hkb := hK.blk_
 haveI := hK.agree.cel
 haveI := hK.sign.cel
 haveI := hK.signed.cel
 haveI := hK.once.cel
 haveI := hK.met.cel
 refine FnX.enterZ (N := 30) Tryz.func22 rfl rfl rfl fun w_ => ?_
 refine XC.keep (kq 0 (kq 1 kn)) ?_
 refine XC.reg ?_
 refine as_ (as_ ?_)
 refine XL.fin (kq 0 (kq 1 kn)) ?_
 refine XC.seq ?_
 refine XC.reg ?_
 refine mv_ ?_
 refine XL.q (q_ptrEqNil (e := 96) rfl rfl (by kernel_rfl)) rfl ?_
 refine XL.fin (kq 0 (kq 1 (kq 9 kn))) ?_
 refine XC.condF rfl ?_
 refine XC.skip ?_
 refine nx (kq 0 (kq 1 kn)) ?_
 refine XC.reg ?_
 refine mv_ ?_
 refine XL.q (q_nil rfl) rfl ?_
 refine XL.q (qf_ 5 5) rfl ?_
 refine XL.q (q_load rfl (by kernel_rfl) (mA hkb) (by rfl)) rfl ?_
 refine mv_ ?_
 refine XL.call (aS rfl (aS rfl (aS rfl a0))) (by kernel_rfl) (bsearch_f vo ro k.once n _ (hK.once.mono SubC.sub) (hK.onceR.mono prT SubC.sub) hrise hK.l2) rfl ?_
 rintro r16 M16 J16 ⟨rfl, rfl, i, b, rfl, hb⟩
 refine mv_ ?_
 refine XL.q (q_x0 rfl) rfl ?_
 refine XL.q (q_x1 rfl) rfl ?_
 refine as_ (as_ ?_)
 refine XL.fin (kq 0 (kq 6 (kq 7 kn))) ?_
 refine XC.seq ?_
 cases b
 ·
  have hf := hb.no hrise
  refine XC.reg ?_
  refine mv_ ?_
  refine XL.q (q_not rfl) rfl ?_
  refine XL.fin (kq 0 (kq 6 (kq 20 kn))) ?_
  refine XC.condT rfl ?_
  refine XC.reg ?_
  refine as_ (as_ ?_)
  refine XL.fin (kq 4 (kq 5 kn)) ?_
  refine XC.ret ?_
  refine tr ?_
  exact ⟨_, [], [], res2 rfl rfl rfl, Fit.sub (List.nil_sublist _), rfl, _, by rw [getP_no hf]; rfl, by rw [getP_no hf]; exact By.nil⟩
 ·
  obtain ⟨x, hx, hf⟩ := hb.yes
  have hil := (List.getElem?_eq_some_iff.1 hx).1
  obtain ⟨r, hr, vs_, vg_, rfl, hs_, hg_, hxn⟩ := hK.onceR.get i x hx
  haveI := hs_.cel
  refine XC.reg ?_
  refine mv_ ?_
  refine XL.q (q_not rfl) rfl ?_
  refine XL.fin (kq 0 (kq 6 (kq 20 kn))) ?_
  refine XC.condF rfl ?_
  refine XC.skip ?_
  refine nx (kq 0 (kq 6 kn)) ?_
  refine XC.reg ?_
  refine mv_ ?_
  refine XL.q (q_nil rfl) rfl ?_
  refine XL.q (qf_ 5 5) rfl ?_
  refine XL.q (q_load rfl (by kernel_rfl) (mA hkb) (by rfl)) rfl ?_
  refine mv_ ?_
  refine XL.q (q_atV2 (sz := 3) rfl rfl (by kernel_rfl) rfl hK.once hil) rfl ?_
  refine XL.q (q_fldV (off := 1) rfl hK.once hil (by kernel_rfl)) rfl ?_
  refine XL.q (q_ldVF (u := vs_) rfl (hK.once.mono SubC.sub) (by omega) (by kernel_rfl) (by rw [flat_get (hK.onceR.lens prT) hr 1 (by decide)]; rfl)) rfl ?_
  refine XL.call (aS rfl a0) (by kernel_rfl) (bclone_spec vs_ x.sec _ (hs_.mono SubC.sub)) rfl ?_
  rintro r29 M29 J29 ⟨rfl, h29⟩
  haveI := h29.cel
  refine as_ (as_ ?_)
  refine XL.fin (kq 4 (kq 5 kn)) ?_
  refine XC.ret ?_
  exact ⟨_, [], [], res2 rfl rfl rfl, Fit.sub (List.nil_sublist _), rfl, _, by rw [getP_yes hf hx]; rfl, by rw [getP_yes hf hx]; exact h29.mono SubC.sub⟩

end Go.Proofs.YtphcaiplgpmnnaaGreatDoor
/- Keys as bytes, and back: no program in sight. -/
namespace Go.Proofs.YtphcaiplgpmnnaaGreatDoor
open Go.Px
/-- Bytes with their number ahead. -/
def encB (w : List Nat) : List Nat := beN w.length 4 ++ w
theorem encB_len (w : List Nat) : (encB w).length = w.length + 4 := by simp [encB, beN_len]; omega
def encPr (x : Pr) : List Nat := beN x.n 4 ++ (encB x.sec ++ encB x.sig)
theorem encPr_len (x : Pr) : (encPr x).length = x.sec.length + x.sig.length + 12 := by simp [encPr, beN_len, encB_len]; omega
def encPs : List Pr → List Nat
  | [] => []
  | x :: l => encPr x ++ encPs l
theorem encPs_cons (x : Pr) (l : List Pr) : encPs (x :: l) = encPr x ++ encPs l := rfl
theorem encPs_app (a b : List Pr) : encPs (a ++ b) = encPs a ++ encPs b := by
  induction a with
  | nil => rfl
  | cons x a ih => rw [List.cons_append, encPs_cons, encPs_cons, ih, List.append_assoc]
theorem encPs_snoc (a : List Pr) (x : Pr) : encPs (a ++ [x]) = encPs a ++ encPr x := by
  rw [encPs_app]; simp [encPs]
theorem encPs_take {l : List Pr} {i : Nat} {x : Pr} (h : l[i]? = some x) : encPs (l.take (i + 1)) = encPs (l.take i) ++ encPr x := by
  rw [List.take_add_one, h]; exact encPs_snoc _ _
theorem encPs_le (l : List Pr) (i : Nat) : (encPs (l.take i)).length ≤ (encPs l).length := by
  have h := encPs_app (l.take i) (l.drop i)
  rw [List.take_append_drop] at h
  rw [h, List.length_append]; omega
def encNm (x : Nm) : List Nat := beN x.n 4 ++ encB x.id
theorem encNm_len (x : Nm) : (encNm x).length = x.id.length + 8 := by simp [encNm, beN_len, encB_len]; omega
def encNs : List Nm → List Nat
  | [] => []
  | x :: l => encNm x ++ encNs l
theorem encNs_cons (x : Nm) (l : List Nm) : encNs (x :: l) = encNm x ++ encNs l := rfl
theorem encNs_app (a b : List Nm) : encNs (a ++ b) = encNs a ++ encNs b := by
  induction a with
  | nil => rfl
  | cons x a ih => rw [List.cons_append, encNs_cons, encNs_cons, ih, List.append_assoc]
theorem encNs_snoc (a : List Nm) (x : Nm) : encNs (a ++ [x]) = encNs a ++ encNm x := by
  rw [encNs_app]; simp [encNs]
theorem encNs_take {l : List Nm} {i : Nat} {x : Nm} (h : l[i]? = some x) : encNs (l.take (i + 1)) = encNs (l.take i) ++ encNm x := by
  rw [List.take_add_one, h]; exact encNs_snoc _ _
theorem encNs_le (l : List Nm) (i : Nat) : (encNs (l.take i)).length ≤ (encNs l).length := by
  have h := encNs_app (l.take i) (l.drop i)
  rw [List.take_append_drop] at h
  rw [h, List.length_append]; omega
theorem encNs_ge (l : List Nm) : 8 * l.length ≤ (encNs l).length := by
  induction l with
  | nil => simp
  | cons x l ih => unfold encNs; rw [List.length_append, encNm_len, List.length_cons]; omega
def encH (k : Ks) : List Nat := beN k.user.toNat 4 ++ (beN k.dev.toNat 4 ++ (encB k.agree ++ (encB k.sign ++ beN k.next 4)))
def encL (l : List Pr) : List Nat := beN l.length 2 ++ encPs l
def encM (l : List Nm) : List Nat := beN l.length 4 ++ encNs l
/-- Keys as bytes. -/
def encK (k : Ks) : List Nat := encH k ++ (encL k.signed ++ (encL k.once ++ encM k.met))
theorem encK_len (k : Ks) : (encK k).length = k.agree.length + k.sign.length + (encPs k.signed).length + (encPs k.once).length + (encNs k.met).length + 28 := by
  simp [encK, encH, encL, encM, beN_len, encB_len]; omega
def dPr (st : Rst) : Pr := ⟨rnN st 4, rbN (rnS st 4) 65536, rbN (rbS (rnS st 4) 65536) 65536⟩
def dPrS (st : Rst) : Rst := rbS (rbS (rnS st 4) 65536) 65536
def dPs : Nat → Rst → List Pr × Rst
  | 0, st => ([], st)
  | n + 1, st => (dPr st :: (dPs n (dPrS st)).1, (dPs n (dPrS st)).2)
def dNm (st : Rst) : Nm := ⟨rnN st 4, rbN (rnS st 4) 65536⟩
def dNmS (st : Rst) : Rst := rbS (rnS st 4) 65536
/-- Names are read until there was a fault. -/
def dNs : Nat → Rst → List Nm × Rst
  | 0, st => ([], st)
  | n + 1, st => if st.2 then ([], st) else (dNm st :: (dNs n (dNmS st)).1, (dNs n (dNmS st)).2)
theorem dNs_stop {n : Nat} {st : Rst} (h : st.2 = true ∨ n = 0) : dNs n st = ([], st) := by
  cases n with
  | zero => rfl
  | succ n => rcases h with h | h; · unfold dNs; rw [if_pos h]
              · cases h
theorem dNs_go {n : Nat} {st : Rst} (h : st.2 = false) : dNs (n + 1) st = (dNm st :: (dNs n (dNmS st)).1, (dNs n (dNmS st)).2) := by
  rw [dNs, if_neg (by rw [h]; decide)]
def dk1 (p : List Nat) : Rst := rnS (p, false) 4
def dk2 (p : List Nat) : Rst := rnS (dk1 p) 4
def dk3 (p : List Nat) : Rst := rbS (dk2 p) 65536
def dk4 (p : List Nat) : Rst := rbS (dk3 p) 65536
def dk5 (p : List Nat) : Rst := rnS (dk4 p) 4
def dkS (p : List Nat) : List Pr × Rst := dPs (ctN (dk5 p) 2) (ctS (dk5 p) 2)
def dkO (p : List Nat) : List Pr × Rst := dPs (ctN (dkS p).2 4) (ctS (dkS p).2 4)
def dkM (p : List Nat) : List Nm × Rst := dNs (rnN (dkO p).2 4) (rnS (dkO p).2 4)
/-- What bytes are read as. -/
def decK (p : List Nat) : Ks := ⟨((rnN (p, false) 4 : Nat) : Int), ((rnN (dk1 p) 4 : Nat) : Int), rbN (dk2 p) 65536, rbN (dk3 p) 65536, (dkS p).1, (dkO p).1, rnN (dk4 p) 4, (dkM p).1⟩
def sortI (l : List Pr) : Nat → Bool
  | 0 => true
  | i + 1 => match l[i + 1]?, l[i]? with
    | some x, some y => if x.n < y.n then false else sortI l i
    | _, _ => true
def sortP (l : List Pr) : Bool := sortI l (l.length - 1)
theorem sortI_succ {l : List Pr} {i : Nat} {x y : Pr} (hx : l[i + 1]? = some x) (hy : l[i]? = some y) : sortI l (i + 1) = if x.n < y.n then false else sortI l i := by
  rw [sortI, hx, hy]
theorem sortP_of {l : List Pr} (h : Rise l) : sortP l = true := by
  have key : ∀ i, i ≤ l.length - 1 → sortI l i = true := by
    intro i
    induction i with
    | zero => intro _; rfl
    | succ i ih =>
      intro hi
      have hx := List.getElem?_eq_getElem (l := l) (i := i + 1) (by omega)
      have hy := List.getElem?_eq_getElem (l := l) (i := i) (by omega)
      have := h i (i + 1) _ _ (by omega) hy hx
      rw [sortI_succ hx hy, if_neg (by omega)]
      exact ih (by omega)
  exact key _ (Nat.le_refl _)
/-- Decode answers keys. -/
def decOk (p : List Nat) : Bool := rEnd (dkM p).2 && !(dkS p).1.isEmpty && sortP (dkO p).1 && decide (encK (decK p) = p)
/-- Keys that can be read again. -/
structure PrOk (x : Pr) : Prop where
  n : x.n < 4294967296
  sec : x.sec.length ≤ 65536
  sig : x.sig.length ≤ 65536
structure KsOk (k : Ks) : Prop where
  user : ∃ u : Nat, k.user = (u : Int) ∧ u < 4294967296
  dev : ∃ u : Nat, k.dev = (u : Int) ∧ u < 4294967296
  agree : k.agree.length ≤ 65536
  sign : k.sign.length ≤ 65536
  signed : k.signed.length ≤ 2 ∧ ∀ x ∈ k.signed, PrOk x
  once : k.once.length ≤ 4 ∧ ∀ x ∈ k.once, PrOk x
  next : k.next < 4294967296
  met : k.met.length < 4294967296 ∧ ∀ x ∈ k.met, x.n < 4294967296 ∧ x.id.length ≤ 65536
theorem dPr_enc {x : Pr} (h : PrOk x) (r : List Nat) : dPr (encPr x ++ r, false) = x ∧ dPrS (encPr x ++ r, false) = (r, false) := by
  have e : encPr x ++ r = beN x.n 4 ++ (beN x.sec.length 4 ++ x.sec ++ (beN x.sig.length 4 ++ x.sig ++ r)) := by
    simp [encPr, encB, List.append_assoc]
  rw [e]
  have h1 := rn_app (n := x.n) (k := 4) (r := beN x.sec.length 4 ++ x.sec ++ (beN x.sig.length 4 ++ x.sig ++ r)) h.n
  have hs := h.sec
  have hg := h.sig
  have h2 := rb_app (w := x.sec) (most := 65536) (r := beN x.sig.length 4 ++ x.sig ++ r) hs (by omega)
  have h3 := rb_app (w := x.sig) (most := 65536) (r := r) hg (by omega)
  unfold dPr dPrS
  rw [h1.1, h1.2, h2.1, h2.2, h3.1, h3.2]
  exact ⟨rfl, rfl⟩
theorem dPs_enc {l : List Pr} (h : ∀ x ∈ l, PrOk x) (r : List Nat) : dPs l.length (encPs l ++ r, false) = (l, (r, false)) := by
  induction l with
  | nil => rfl
  | cons x l ih =>
    have h1 := dPr_enc (h x (by simp)) (encPs l ++ r)
    have e : encPs (x :: l) ++ r = encPr x ++ (encPs l ++ r) := by rw [encPs_cons, List.append_assoc]
    rw [e, List.length_cons]
    unfold dPs
    rw [h1.1, h1.2, ih fun y hy => h y (by simp [hy])]
theorem dNm_enc {x : Nm} (h : x.n < 4294967296 ∧ x.id.length ≤ 65536) (r : List Nat) : dNm (encNm x ++ r, false) = x ∧ dNmS (encNm x ++ r, false) = (r, false) := by
  have e : encNm x ++ r = beN x.n 4 ++ (beN x.id.length 4 ++ x.id ++ r) := by
    simp [encNm, encB, List.append_assoc]
  rw [e]
  have h1 := rn_app (n := x.n) (k := 4) (r := beN x.id.length 4 ++ x.id ++ r) h.1
  have hs := h.2
  have h2 := rb_app (w := x.id) (most := 65536) (r := r) hs (by omega)
  unfold dNm dNmS
  rw [h1.1, h1.2, h2.1, h2.2]
  exact ⟨rfl, rfl⟩
theorem dNs_enc {l : List Nm} (h : ∀ x ∈ l, x.n < 4294967296 ∧ x.id.length ≤ 65536) (r : List Nat) : dNs l.length (encNs l ++ r, false) = (l, (r, false)) := by
  induction l with
  | nil => rfl
  | cons x l ih =>
    have h1 := dNm_enc (h x (by simp)) (encNs l ++ r)
    have e : encNs (x :: l) ++ r = encNm x ++ (encNs l ++ r) := by rw [encNs_cons, List.append_assoc]
    rw [e, List.length_cons, dNs_go rfl, h1.1, h1.2, ih fun y hy => h y (by simp [hy])]
theorem ct_enc {n most : Nat} (hn : n ≤ most) (hm : most < 65536) (r : List Nat) : ctN (beN n 2 ++ r, false) most = n ∧ ctS (beN n 2 ++ r, false) most = (r, false) := by
  have h1 := rn_app (n := n) (k := 2) (r := r) (show n < 65536 by omega)
  unfold ctN ctS
  rw [h1.1, h1.2, if_neg (by omega), if_neg (by omega)]
  exact ⟨rfl, rfl⟩
/-- What was made is read again. -/
theorem dec_encK {k : Ks} (h : KsOk k) (hs : k.signed ≠ []) (hr : Rise k.once) : decK (encK k) = k ∧ decOk (encK k) = true := by
  obtain ⟨u, hu, hu'⟩ := h.user
  obtain ⟨d, hd, hd'⟩ := h.dev
  have ha := h.agree
  have hg := h.sign
  obtain ⟨r0, e0⟩ : ∃ r, encM k.met = r := ⟨_, rfl⟩
  obtain ⟨r1, e1⟩ : ∃ r, encL k.once ++ encM k.met = r := ⟨_, rfl⟩
  obtain ⟨r2, e2⟩ : ∃ r, encL k.signed ++ (encL k.once ++ encM k.met) = r := ⟨_, rfl⟩
  have e : encK k = beN u 4 ++ (beN d 4 ++ (beN k.agree.length 4 ++ k.agree ++ (beN k.sign.length 4 ++ k.sign ++ (beN k.next 4 ++ r2)))) := by
    unfold encK encH encB
    rw [e2, hu, hd]
    simp [List.append_assoc]
  have a1 := rn_app (n := u) (k := 4) (r := beN d 4 ++ (beN k.agree.length 4 ++ k.agree ++ (beN k.sign.length 4 ++ k.sign ++ (beN k.next 4 ++ r2)))) hu'
  have a2 := rn_app (n := d) (k := 4) (r := beN k.agree.length 4 ++ k.agree ++ (beN k.sign.length 4 ++ k.sign ++ (beN k.next 4 ++ r2))) hd'
  have a3 := rb_app (w := k.agree) (most := 65536) (r := beN k.sign.length 4 ++ k.sign ++ (beN k.next 4 ++ r2)) ha (by omega)
  have a4 := rb_app (w := k.sign) (most := 65536) (r := beN k.next 4 ++ r2) hg (by omega)
  have a5 := rn_app (n := k.next) (k := 4) (r := r2) h.next
  rw [← e] at a1
  have f1 : dk1 (encK k) = _ := a1.2
  have f2 : dk2 (encK k) = _ := (congrArg (fun z => rnS z 4) f1).trans a2.2
  have f3 : dk3 (encK k) = _ := (congrArg (fun z => rbS z 65536) f2).trans a3.2
  have f4 : dk4 (encK k) = _ := (congrArg (fun z => rbS z 65536) f3).trans a4.2
  have f5 : dk5 (encK k) = _ := (congrArg (fun z => rnS z 4) f4).trans a5.2
  have g2 : r2 = beN k.signed.length 2 ++ (encPs k.signed ++ r1) := by rw [← e2, ← e1]; unfold encL; simp [List.append_assoc]
  have g1 : r1 = beN k.once.length 2 ++ (encPs k.once ++ r0) := by rw [← e1, ← e0]; unfold encL; simp [List.append_assoc]
  have g0 : r0 = beN k.met.length 4 ++ (encNs k.met ++ []) := by rw [← e0]; unfold encM; simp
  have b1 := ct_enc h.signed.1 (by decide) (encPs k.signed ++ r1)
  rw [← g2] at b1
  have f6 : dkS (encK k) = (k.signed, (r1, false)) := by
    unfold dkS
    rw [f5, b1.1, b1.2]
    exact dPs_enc h.signed.2 r1
  have b2 := ct_enc h.once.1 (by decide) (encPs k.once ++ r0)
  rw [← g1] at b2
  have f7 : dkO (encK k) = (k.once, (r0, false)) := by
    unfold dkO
    rw [f6, b2.1, b2.2]
    exact dPs_enc h.once.2 r0
  have b3 := rn_app (n := k.met.length) (k := 4) (r := encNs k.met ++ []) h.met.1
  rw [← g0] at b3
  have f8 : dkM (encK k) = (k.met, ([], false)) := by
    unfold dkM
    rw [f7, b3.1, b3.2]
    exact dNs_enc h.met.2 []
  have hk : decK (encK k) = k := by
    unfold decK
    rw [a1.1, (congrArg (fun z => rnN z 4) f1).trans a2.1, (congrArg (fun z => rbN z 65536) f2).trans a3.1, (congrArg (fun z => rbN z 65536) f3).trans a4.1, (congrArg (fun z => rnN z 4) f4).trans a5.1, f6, f7, f8, ← hu, ← hd]
  refine ⟨hk, ?_⟩
  unfold decOk
  rw [hk, f6, f7, f8, sortP_of hr]
  cases hss : k.signed with
  | nil => exact absurd hss hs
  | cons x l => simp [rEnd]
/-- A reader takes no more than there is. -/
theorem rnS_le (st : Rst) (k : Nat) : (rnS st k).1.length ≤ st.1.length := by
  unfold rnS; split <;> simp
theorem rnS_ok {st : Rst} {k : Nat} (h : (rnS st k).2 = false) : (rnS st k).1.length + k = st.1.length := by
  unfold rnS at h ⊢
  split at h
  · cases h
  · rename_i hc
    rw [if_neg hc]
    simp at hc
    show (st.1.drop k).length + k = _
    rw [List.length_drop]; omega
theorem rbS_le (st : Rst) (m : Nat) : (rbN st m).length + (rbS st m).1.length ≤ st.1.length := by
  have h := rnS_le st 4
  unfold rbN rbS
  split
  · show 0 + (rnS st 4).1.length ≤ _; omega
  · show ((rnS st 4).1.take _).length + ((rnS st 4).1.drop _).length ≤ _
    rw [List.length_take, List.length_drop]; omega
theorem rbS_ok {st : Rst} {m : Nat} (h : (rbS st m).2 = false) : (rbN st m).length + (rbS st m).1.length + 4 = st.1.length := by
  unfold rbN rbS at *
  split at h
  · cases h
  · rename_i hc
    rw [if_neg hc, if_neg hc]
    have h2 : (rnS st 4).2 = false := by
      cases hh : (rnS st 4).2 with
      | false => rfl
      | true => exact absurd (by rw [hh]; rfl) hc
    have h1 := rnS_ok h2
    simp at hc
    show ((rnS st 4).1.take _).length + ((rnS st 4).1.drop _).length + 4 = _
    rw [List.length_take, List.length_drop]; omega
theorem rbS_bad {st : Rst} {m : Nat} (h : st.2 = true) : (rbS st m).2 = true := by
  have h1 := (rn_bad (st := st) (k := 4) (.inl h)).2
  exact congrArg Prod.snd (rb_bad (st := st) (most := m) (.inl (by rw [h1]))).2
theorem dPr_le (st : Rst) : (encPr (dPr st)).length + (dPrS st).1.length ≤ st.1.length + 12 := by
  rw [encPr_len]
  have h1 := rnS_le st 4
  have h2 := rbS_le (rnS st 4) 65536
  have h3 := rbS_le (rbS (rnS st 4) 65536) 65536
  show (rbN (rnS st 4) 65536).length + (rbN (rbS (rnS st 4) 65536) 65536).length + 12 + (rbS (rbS (rnS st 4) 65536) 65536).1.length ≤ _
  omega
theorem dPs_le : ∀ (n : Nat) (st : Rst), (encPs (dPs n st).1).length + (dPs n st).2.1.length ≤ st.1.length + 12 * n ∧ (dPs n st).1.length = n
  | 0, st => ⟨by simp [dPs, encPs], rfl⟩
  | n + 1, st => by
    have h1 := dPr_le st
    obtain ⟨h2, h3⟩ := dPs_le n (dPrS st)
    refine ⟨?_, by unfold dPs; rw [List.length_cons, h3]⟩
    show (encPr (dPr st) ++ encPs (dPs n (dPrS st)).1).length + (dPs n (dPrS st)).2.1.length ≤ _
    rw [List.length_append]; omega
theorem dNm_le (st : Rst) : (encNm (dNm st)).length + (dNmS st).1.length ≤ st.1.length + 8 := by
  rw [encNm_len]
  have h1 := rnS_le st 4
  have h2 := rbS_le (rnS st 4) 65536
  show (rbN (rnS st 4) 65536).length + 8 + (rbS (rnS st 4) 65536).1.length ≤ _
  omega
theorem dNm_ok {st : Rst} (h : (dNmS st).2 = false) : (encNm (dNm st)).length + (dNmS st).1.length = st.1.length := by
  rw [encNm_len]
  have h0 : (rnS st 4).2 = false := by
    cases hh : (rnS st 4).2 with
    | false => rfl
    | true => have := rbS_bad (m := 65536) hh; unfold dNmS at h; rw [h] at this; cases this
  have h1 := rnS_ok h0
  have h2 := rbS_ok (st := rnS st 4) (m := 65536) h
  show (rbN (rnS st 4) 65536).length + 8 + (rbS (rnS st 4) 65536).1.length = _
  omega
theorem dNs_le : ∀ (n : Nat) (st : Rst), (encNs (dNs n st).1).length + (dNs n st).2.1.length ≤ st.1.length + 8
  | 0, st => by simp [dNs, encNs]
  | n + 1, st => by
    cases hb : st.2 with
    | true => rw [dNs_stop (.inl hb)]; simp [encNs]
    | false =>
      rw [dNs_go hb]
      show (encNm (dNm st) ++ encNs (dNs n (dNmS st)).1).length + (dNs n (dNmS st)).2.1.length ≤ _
      rw [List.length_append]
      cases hb2 : (dNmS st).2 with
      | true =>
        rw [dNs_stop (.inl hb2)]
        have := dNm_le st
        simp [encNs] at *; omega
      | false =>
        have h1 := dNm_ok hb2
        have h2 := dNs_le n (dNmS st)
        omega
theorem ctS_le (st : Rst) (m : Nat) : (ctS st m).1.length ≤ st.1.length := by
  have := rnS_le st 2
  unfold ctS; split <;> exact this
/-- What was read is no longer than what it was read from, but for what was made up of faults. -/
theorem decK_sz (p : List Nat) : (encK (decK p)).length ≤ p.length + 108 ∧ (decK p).signed.length ≤ 2 ∧ (decK p).once.length ≤ 4 ∧ 8 * (decK p).met.length ≤ p.length + 108 := by
  have h1 : (dk1 p).1.length ≤ p.length := rnS_le (p, false) 4
  have h2 : (dk2 p).1.length ≤ (dk1 p).1.length := rnS_le _ _
  have h3 := rbS_le (dk2 p) 65536
  change _ + (dk3 p).1.length ≤ _ at h3
  have h4 := rbS_le (dk3 p) 65536
  change _ + (dk4 p).1.length ≤ _ at h4
  have h5 : (dk5 p).1.length ≤ (dk4 p).1.length := rnS_le _ _
  have h6 := ctS_le (dk5 p) 2
  obtain ⟨h7, h7'⟩ := dPs_le (ctN (dk5 p) 2) (ctS (dk5 p) 2)
  have c1 := ctN_le (dk5 p) 2
  change (encPs (dkS p).1).length + (dkS p).2.1.length ≤ _ at h7
  change (dkS p).1.length = _ at h7'
  have h8 := ctS_le (dkS p).2 4
  obtain ⟨h9, h9'⟩ := dPs_le (ctN (dkS p).2 4) (ctS (dkS p).2 4)
  have c2 := ctN_le (dkS p).2 4
  change (encPs (dkO p).1).length + (dkO p).2.1.length ≤ _ at h9
  change (dkO p).1.length = _ at h9'
  have h10 := rnS_le (dkO p).2 4
  have h11 := dNs_le (rnN (dkO p).2 4) (rnS (dkO p).2 4)
  change (encNs (dkM p).1).length + (dkM p).2.1.length ≤ _ at h11
  have h12 := encNs_ge (dkM p).1
  have e := encK_len (decK p)
  change _ = (rbN (dk2 p) 65536).length + (rbN (dk3 p) 65536).length + (encPs (dkS p).1).length + (encPs (dkO p).1).length + (encNs (dkM p).1).length + 28 at e
  refine ⟨by omega, ?_, ?_, ?_⟩
  · show (dkS p).1.length ≤ 2; omega
  · show (dkO p).1.length ≤ 4; omega
  · show 8 * (dkM p).1.length ≤ _; omega

end Go.Proofs.YtphcaiplgpmnnaaGreatDoor
