/- Part 14 of the texts of this claim, one behind the other. -/
import Derived.Test.YtphcaiplgpmnnaaGreatDoorB13
set_option linter.unusedVariables false
set_option linter.unusedSimpArgs false
set_option maxRecDepth 100000
namespace Go.Proofs.YtphcaiplgpmnnaaGreatDoor
open Go.Px
theorem Glb.s {A : Mem} (h : Glb A) : GlS A := ⟨h.first, h.round⟩
def pubS2 (s : Ps) (w : List Nat) : Ps := if s.real then s else pubS s w
noncomputable def pubK2 (s : Ps) (w : List Nat) : List Nat := if s.real then base25 (fitN w 32) else pubK s w
noncomputable def skK2 (s : Ps) (w : List Nat) : List Nat := if s.real then pubB (fitN w 32) else pubK s w
def agrS2 (s : Ps) (w u : List Nat) : Ps := if s.real then s else agrS s w u
noncomputable def agrK2 (s : Ps) (w u : List Nat) : List Nat := if s.real then x25 (fitN w 32) (fitN u 32) else agrK s w u
def sgS2 (s : Ps) (w m : List Nat) : Ps := if s.real then s else one1 s w fun x => sigT x m
noncomputable def sgK2 (s : Ps) (w m : List Nat) : List Nat := if s.real then sigB (fitN w 32) m else fitN (oneK s w fun x => sigT x m) 64
theorem sig_lt (s m : List Nat) : ∀ x ∈ sigB s m, x < 256 := by
  intro x hx
  rcases List.mem_append.1 hx with h | h
  · exact pB_lt _ x h
  · exact digs_lt _ _ x h
theorem sign_j (v vm : Value) (ws wm : List Nat) (A : Mem) (hv : By A v ws) (hm : By A vm wm) (hG : GlS A) : FnX Tryz.prog 94 [v, vm] [] A fun r M J => M = [] ∧ By J r (sigB ws wm) :=
  ((sign_f v vm ws wm A hv hm hG).frz0).mono fun r M J ⟨h1, h2⟩ => ⟨h1, sl_by h2 (sigB_len _ _).symm (sig_lt _ _) (by rw [sigB_len]; decide) fun _ h => h⟩

theorem public_r (pb : Nat) (s : Ps) (hr : s.real = true) (v : Value) (w : List Nat) (MP A : Mem) (hP : Prm pb s MP) (hv : By A v w) : FnX Tryz.prog 34 [.pointer (some ⟨pb, 0, none⟩), v] MP A fun q M J => Prm pb s M ∧ By J q (base25 (fitN w 32)) := by
 obtain ⟨sv, bt, bm, B, MT, rfl, hby, hT⟩ := hP.ex
 haveI := hv.cel
 haveI := hby.cel
 have hvl := hv.len
 refine FnX.enterZ (N := 26) Tryz.func34 rfl rfl rfl fun w_ => ?_
 refine XC.keep (kq 0 (kq 1 kn)) ?_
 refine XC.reg ?_
 refine as_ ?_
 refine XL.fin (kq 0 (kq 1 kn)) ?_
 refine XC.seq ?_
 refine XC.reg ?_
 refine mv_ ?_
 refine XL.q (q_ptrEqNil (e := 124) rfl rfl (by kernel_rfl)) rfl ?_
 refine XL.fin (kq 0 (kq 1 (kq 6 kn))) ?_
 refine XC.condF rfl ?_
 refine XC.skip ?_
 refine nx (kq 0 (kq 1 kn)) ?_
 refine XC.seq ?_
 refine XC.reg ?_
 refine mv_ ?_
 refine XL.q (q_nil rfl) rfl ?_
 refine XL.q (qf_ 0 0) rfl ?_
 refine XL.q ql_ rfl ?_
 refine XL.q (q_cmp true rfl rfl (eqT (by rw [hr]; rfl))) rfl ?_
 refine XL.fin (kq 0 (kq 1 (kq 11 kn))) ?_
 refine XC.condT rfl ?_
 refine XC.reg ?_
 refine mv_ ?_
 refine XL.call (aS rfl (aS rfl a0)) (by kernel_rfl) (fit_spec v w 32 _ (hv.mono SubC.sub) (by decide)) rfl ?_
 rintro r13 M13 J13 ⟨rfl, h13⟩
 haveI := h13.cel
 refine XL.call (aS rfl a0) (by kernel_rfl) (base_f _ _ _ (h13.mono SubC.sub)) rfl ?_
 rintro r14 M14 J14 ⟨rfl, h14⟩
 haveI := h14.cel
 refine as_ ?_
 refine XL.fin (kq 4 kn) ?_
 refine XC.ret ?_
 refine tr ?_
 exact ⟨_, (pb, blk [.int .u8 (md s.real), sv, .int .i64 (((s.n : Nat) : Int)), .pointer (some ⟨bt, 0, none⟩)] 124) :: (B ++ MT), [], res1 rfl rfl, (Fit.none (Fit.pick (B := [_]) PickC.perm (Fit.pick PickC.perm (Fit.last PickC.perm)))), ⟨sv, bt, bm, B, MT, rfl, hby, hT⟩, h14.mono SubC.sub⟩

theorem signKey_r (pb : Nat) (s : Ps) (hr : s.real = true) (v : Value) (w : List Nat) (MP A : Mem) (hP : Prm pb s MP) (hv : By A v w) (hG : Glb A) : FnX Tryz.prog 35 [.pointer (some ⟨pb, 0, none⟩), v] MP A fun q M J => Prm pb s M ∧ By J q (pubB (fitN w 32)) := by
 obtain ⟨sv, bt, bm, B, MT, rfl, hby, hT⟩ := hP.ex
 haveI := hv.cel
 haveI := hby.cel
 have hvl := hv.len
 refine FnX.enterZ (N := 18) Tryz.func35 rfl rfl rfl fun w_ => ?_
 refine XC.keep (kq 0 (kq 1 kn)) ?_
 refine XC.reg ?_
 refine as_ ?_
 refine XL.fin (kq 0 (kq 1 kn)) ?_
 refine XC.seq ?_
 refine XC.reg ?_
 refine mv_ ?_
 refine XL.q (q_ptrEqNil (e := 124) rfl rfl (by kernel_rfl)) rfl ?_
 refine XL.fin (kq 0 (kq 1 (kq 6 kn))) ?_
 refine XC.condF rfl ?_
 refine XC.skip ?_
 refine nx (kq 0 (kq 1 kn)) ?_
 refine XC.seq ?_
 refine XC.reg ?_
 refine mv_ ?_
 refine XL.q (q_nil rfl) rfl ?_
 refine XL.q (qf_ 0 0) rfl ?_
 refine XL.q ql_ rfl ?_
 refine XL.q (q_cmp true rfl rfl (eqT (by rw [hr]; rfl))) rfl ?_
 refine XL.fin (kq 0 (kq 1 (kq 11 kn))) ?_
 refine XC.condT rfl ?_
 refine XC.reg ?_
 refine mv_ ?_
 refine XL.call (aS rfl (aS rfl a0)) (by kernel_rfl) (fit_spec v w 32 _ (hv.mono SubC.sub) (by decide)) rfl ?_
 rintro r13 M13 J13 ⟨rfl, h13⟩
 haveI := h13.cel
 refine XL.call (aS rfl a0) (by kernel_rfl) (public_f _ _ _ (h13.mono SubC.sub) hG.s.up) rfl ?_
 rintro r14 M14 J14 ⟨rfl, h14⟩
 haveI := h14.cel
 refine as_ ?_
 refine XL.fin (kq 4 kn) ?_
 refine XC.ret ?_
 refine tr ?_
 exact ⟨_, (pb, blk [.int .u8 (md s.real), sv, .int .i64 (((s.n : Nat) : Int)), .pointer (some ⟨bt, 0, none⟩)] 124) :: (B ++ MT), [], res1 rfl rfl, (Fit.none (Fit.pick (B := [_]) PickC.perm (Fit.pick PickC.perm (Fit.last PickC.perm)))), ⟨sv, bt, bm, B, MT, rfl, hby, hT⟩, h14.mono SubC.sub⟩

theorem psign_r (pb : Nat) (s : Ps) (hr : s.real = true) (v v2 : Value) (w u : List Nat) (MP A : Mem) (hP : Prm pb s MP) (hv : By A v w) (hu : By A v2 u) (hG : Glb A) : FnX Tryz.prog 46 [.pointer (some ⟨pb, 0, none⟩), v, v2] MP A fun q M J => Prm pb s M ∧ By J q (sigB (fitN w 32) u) := by
 obtain ⟨sv, bt, bm, B, MT, rfl, hby, hT⟩ := hP.ex
 haveI := hv.cel
 haveI := hby.cel
 have hvl := hv.len
 haveI := hu.cel
 refine FnX.enterZ (N := 32) Tryz.func46 rfl rfl rfl fun w_ => ?_
 refine XC.keep (kq 0 (kq 1 (kq 2 kn))) ?_
 refine XC.reg ?_
 refine as_ ?_
 refine XL.fin (kq 0 (kq 1 (kq 2 kn))) ?_
 refine XC.seq ?_
 refine XC.reg ?_
 refine mv_ ?_
 refine XL.q (q_ptrEqNil (e := 124) rfl rfl (by kernel_rfl)) rfl ?_
 refine XL.fin (kq 0 (kq 1 (kq 2 (kq 8 kn)))) ?_
 refine XC.condF rfl ?_
 refine XC.skip ?_
 refine nx (kq 0 (kq 1 (kq 2 kn))) ?_
 refine XC.seq ?_
 refine XC.reg ?_
 refine mv_ ?_
 refine XL.q (q_nil rfl) rfl ?_
 refine XL.q (qf_ 0 0) rfl ?_
 refine XL.q ql_ rfl ?_
 refine XL.q (q_cmp true rfl rfl (eqT (by rw [hr]; rfl))) rfl ?_
 refine XL.fin (kq 0 (kq 1 (kq 2 (kq 13 kn)))) ?_
 refine XC.condT rfl ?_
 refine XC.reg ?_
 refine mv_ ?_
 refine XL.call (aS rfl (aS rfl a0)) (by kernel_rfl) (fit_spec v w 32 _ (hv.mono SubC.sub) (by decide)) rfl ?_
 rintro r15 M15 J15 ⟨rfl, h15⟩
 haveI := h15.cel
 refine mv_ ?_
 refine XL.call (aS rfl (aS rfl a0)) (by kernel_rfl) (sign_j _ _ _ _ _ (h15.mono SubC.sub) (hu.mono SubC.sub) hG.s.up) rfl ?_
 rintro r17 M17 J17 ⟨rfl, h17⟩
 haveI := h17.cel
 refine as_ ?_
 refine XL.fin (kq 6 kn) ?_
 refine XC.ret ?_
 refine tr ?_
 exact ⟨_, (pb, blk [.int .u8 (md s.real), sv, .int .i64 (((s.n : Nat) : Int)), .pointer (some ⟨bt, 0, none⟩)] 124) :: (B ++ MT), [], res1 rfl rfl, (Fit.none (Fit.pick (B := [_]) PickC.perm (Fit.pick PickC.perm (Fit.last PickC.perm)))), ⟨sv, bt, bm, B, MT, rfl, hby, hT⟩, h17.mono SubC.sub⟩

theorem signKey_p (pb : Nat) (s : Ps) (hr : s.real = false) (v : Value) (w : List Nat) (MP A : Mem) (hP : Prm pb s MP) (hv : By A v w) (hn : s.ts.length < 1048576) (hG : Glb A) : FnX Tryz.prog 35 [.pointer (some ⟨pb, 0, none⟩), v] MP A fun q M J => Prm pb (pubS s w) M ∧ By J q (pubK s w) := by
 obtain ⟨sv, bt, bm, B, MT, rfl, hby, hT⟩ := hP.ex
 haveI := hv.cel
 haveI := hby.cel
 have hvl := hv.len
 refine FnX.enterZ (N := 18) Tryz.func35 rfl rfl rfl fun w_ => ?_
 refine XC.keep (kq 0 (kq 1 kn)) ?_
 refine XC.reg ?_
 refine as_ ?_
 refine XL.fin (kq 0 (kq 1 kn)) ?_
 refine XC.seq ?_
 refine XC.reg ?_
 refine mv_ ?_
 refine XL.q (q_ptrEqNil (e := 124) rfl rfl (by kernel_rfl)) rfl ?_
 refine XL.fin (kq 0 (kq 1 (kq 6 kn))) ?_
 refine XC.condF rfl ?_
 refine XC.skip ?_
 refine nx (kq 0 (kq 1 kn)) ?_
 refine XC.seq ?_
 refine XC.reg ?_
 refine mv_ ?_
 refine XL.q (q_nil rfl) rfl ?_
 refine XL.q (qf_ 0 0) rfl ?_
 refine XL.q ql_ rfl ?_
 refine XL.q (q_cmp false rfl rfl (eqF (by rw [hr]; decide))) rfl ?_
 refine XL.fin (kq 0 (kq 1 (kq 11 kn))) ?_
 refine XC.condF rfl ?_
 refine XC.skip ?_
 refine nx (kq 0 (kq 1 kn)) ?_
 refine XC.reg ?_
 refine mv_ (mv_ ?_)
 refine XL.lo rfl (l_call (Mc := (pb, blk [.int .u8 (md s.real), sv, .int .i64 (((s.n : Nat) : Int)), .pointer (some ⟨bt, 0, none⟩)] 124) :: (B ++ MT)) (R := _) (aS rfl (aS rfl a0)) (by kernel_rfl) PickC.perm (public_p pb s hr v w _ _ ⟨sv, bt, bm, B, MT, rfl, hby, hT⟩ hn (hv.mono SubC.sub) hG.up) rfl ?_)
 rintro v17 M17 J17 ⟨hP17, h17⟩
 haveI := h17.cel
 refine as_ ?_
 refine XL.fin (kq 4 kn) ?_
 refine XC.ret ?_
 exact ⟨_, M17, [], res1 rfl rfl, Fit.none (Fit.last PickC.perm), hP17, h17.mono SubC.sub⟩

theorem public_b (pb : Nat) (s : Ps) (v : Value) (w : List Nat) (MP A : Mem) (hP : Prm pb s MP) (hn : s.ts.length < 1048576) (hv : By A v w) (hG : Glb A) : FnX Tryz.prog 34 [.pointer (some ⟨pb, 0, none⟩), v] MP A fun q M J => Prm pb (pubS2 s w) M ∧ By J q (pubK2 s w) := by
  cases hr : s.real with
  | true => unfold pubS2 pubK2; rw [hr]; exact public_r pb s hr v w MP A hP hv
  | false => unfold pubS2 pubK2; rw [hr]; exact public_p pb s hr v w MP A hP hn hv hG
theorem signKey_b (pb : Nat) (s : Ps) (v : Value) (w : List Nat) (MP A : Mem) (hP : Prm pb s MP) (hn : s.ts.length < 1048576) (hv : By A v w) (hG : Glb A) : FnX Tryz.prog 35 [.pointer (some ⟨pb, 0, none⟩), v] MP A fun q M J => Prm pb (pubS2 s w) M ∧ By J q (skK2 s w) := by
  cases hr : s.real with
  | true => unfold pubS2 skK2; rw [hr]; exact signKey_r pb s hr v w MP A hP hv hG
  | false => unfold pubS2 skK2; rw [hr]; exact signKey_p pb s hr v w MP A hP hv hn hG
theorem psign_b (pb : Nat) (s : Ps) (v v2 : Value) (w m : List Nat) (MP A : Mem) (hP : Prm pb s MP) (hn : s.ts.length < 1048576) (hv : By A v w) (hm : By A v2 m) (hG : Glb A) : FnX Tryz.prog 46 [.pointer (some ⟨pb, 0, none⟩), v, v2] MP A fun q M J => Prm pb (sgS2 s w m) M ∧ By J q (sgK2 s w m) := by
  cases hr : s.real with
  | true => unfold sgS2 sgK2; rw [hr]; exact psign_r pb s hr v v2 w m MP A hP hv hm hG
  | false =>
    unfold sgS2 sgK2; rw [hr]
    obtain ⟨bt, bm, h⟩ := hP.t
    exact (sign_spec pb bt bm s hr v v2 w m MP A h hn hv hm hG).mono fun q M J ⟨h1, h2⟩ => ⟨h1.p, h2⟩

end Go.Proofs.YtphcaiplgpmnnaaGreatDoor
/- The walk of keys.Message; the plain keys. -/
namespace Go.Proofs.YtphcaiplgpmnnaaGreatDoor
open Go.Px
/-- What is signed of a prekey. -/
def msgN (n : Nat) (w : List Nat) : List Nat := beN 6 4 ++ [112, 114, 101, 107, 101, 121] ++ beN n 4 ++ (beN w.length 4 ++ w)
theorem wrapK64 {n : Nat} (h : n < 4294967296) : IntKind.u64.wrap (n : Int) = (n : Int) := wrap_u64 (by omega) (by omega)
theorem lit_byk {R : Mem} {b n : Nat} {w : List Nat} {e : TypeId} {fr : Nat × Nat} (hm : (b, Obj.cells (nums .u8 w).toArray e fr) ∈ R) (hn : w.length = n) (hlt : ∀ x ∈ w, x < 256) (hl : w.length ≤ 16777216) : By R (.slice (some ⟨b, 0, none⟩) n n) w := by
  subst hn
  exact ⟨Rd.whole (n := w.length) hm (by simp), hlt, hl⟩

theorem message_f (n : Nat) (v : Value) (w : List Nat) (A : Mem) (hn : n < 4294967296) (hv : By A v w) (hl : w.length ≤ 1000000) : FnX Tryz.prog 13 [.int .u32 ((n : Nat) : Int), v] [] A fun q M J => M = [] ∧ By J q (msgN n w) := by
 haveI := hv.cel
 refine FnX.enterZ (N := 18) Tryz.func13 rfl rfl rfl fun w_ => ?_
 refine XC.keep (kq 0 (kq 1 kn)) ?_
 refine XC.reg ?_
 refine as_ ?_
 refine XL.fin (kq 0 (kq 1 kn)) ?_
 refine XC.reg ?_
 refine XL.q (q_build (place := fun x => #[(0, 1)][x]?) (z := [.slice none 0 0]) (fun _ => by kernel_rfl) e0 bd0) rfl ?_
 refine XL.lo rfl (bx_ fun b7 => ?_)
 refine as_ ?_
 refine XL.fin (kq 0 (kq 1 (kq 5 kn))) ?_
 refine XC.reg ?_
 refine mv_ ?_
 refine XL.lo rfl (l_buildSlice (e := 5) (sz := 1) (z := [.int .u8 0, .int .u8 0, .int .u8 0, .int .u8 0, .int .u8 0, .int .u8 0]) (by kernel_rfl) (eS rfl (eS rfl (eS rfl (eS rfl (eS rfl (eS rfl e0)))))) (bdS 0 1 rfl (by rfl) (bdS 1 1 rfl (by rfl) (bdS 2 1 rfl (by rfl) (bdS 3 1 rfl (by rfl) (bdS 4 1 rfl (by rfl) (bdS 5 1 rfl (by rfl) bd0)))))) rfl fun b9 => ?_)
 refine XL.lo rfl (l_mark rfl (by kernel_rfl) UpC.upd rfl ?_)
 refine XL.lo rfl (l_call (Mc := [(b7, blk [.slice none 0 0] 89)]) (R := _) (aS rfl (aS rfl (a0))) (by kernel_rfl) PickC.perm (wbytes_spec b7 _ [112, 114, 101, 107, 101, 121] [] _ _ Wtr.new (lit_byk At.mem (by rfl) (by decide) (by decide)) (by decide)) rfl ?_)
 rintro v11 M11 J11 ⟨rfl, hW11⟩
 refine mv_ ?_
 refine XL.q (q_convN (k' := .u64) n rfl (by kernel_rfl) (wrapK64 (by omega))) rfl ?_
 refine XL.lo rfl (l_call (Mc := M11) (R := _) (aS rfl (aS rfl (aS rfl (a0)))) (by kernel_rfl) PickC.perm (wnum_spec b7 n 4 _ _ _ hW11 (by omega) (by decide) (by simp [beN_len])) rfl ?_)
 rintro v14 M14 J14 ⟨rfl, hW14⟩
 refine mv_ ?_
 refine XL.lo rfl (l_call (Mc := M14) (R := _) (aS rfl (aS rfl (a0))) (by kernel_rfl) PickC.perm (wbytes_spec b7 v w _ _ _ hW14 (hv.mono SubC.sub) (by simp [beN_len])) rfl ?_)
 rintro v16 M16 J16 ⟨rfl, hW16⟩
 refine XL.lo rfl (l_call (Mc := M16) (R := _) (aS rfl (a0)) (by kernel_rfl) PickC.perm (wdone_spec b7 _ _ _ hW16 (by simp [beN_len]; omega)) rfl ?_)
 rintro v17 M17 J17 ⟨hW17, hb17⟩
 haveI := hb17.cel
 refine as_ ?_
 refine XL.fin (kq 4 kn) ?_
 refine XC.ret ?_
 exact ⟨_, [], [], res1 rfl rfl, Fit.sub (List.nil_sublist _), rfl, by simpa [msgN, List.append_assoc] using hb17.mono SubC.sub⟩

end Go.Proofs.YtphcaiplgpmnnaaGreatDoor
/- Rows of prekeys and of names; the walks of slices' functions over them, of the closures of keys, of find. -/
namespace Go.Proofs.YtphcaiplgpmnnaaGreatDoor
open Go.Px
/-- What only computes does so where more is known. -/
theorem fnv_up {P : Program} {f : FuncId} {args : List Value} {A A' : Mem} {v : Value} (h : FnV P f args A v) (hs : ∀ x, x ∈ A → x ∈ A') : FnV P f args A' v := by
  intro w hw
  refine Calls.mono (h w ⟨hw.os, hw.tape, hw.output, hw.size, hw.frame, fun b o hb => hw.mem b o (by simpa using hs _ (by simpa using hb)), hw.nodup, hw.own, hw.sepJ, fun b o hb => hw.sepA b o (hs _ hb), hw.old⟩) ?_
  rintro e w' ⟨r, M', J', rfl, ⟨rfl, rfl, rfl⟩, h2⟩
  refine ⟨_, [], [], rfl, ⟨rfl, rfl, rfl⟩, ⟨h2.os, h2.tape, h2.output, h2.size, h2.frame, fun b o hb => ?_, h2.nodup, h2.own, h2.sepJ, fun b o hb => hw.sepA b o hb, h2.old⟩⟩
  have hb' : (b, o) ∈ A' := by simpa using hb
  have h3 := h2.frame b (hw.sepA b o hb').2 (by simp)
  rw [h3]
  exact hw.mem b o (by simpa using hb')
structure Pr where
  n : Nat
  sec : List Nat
  sig : List Nat
structure Nm where
  n : Nat
  id : List Nat
def prR (R : Mem) (x : Pr) (r : List Value) : Prop := ∃ vs vg, r = [.int .u32 ((x.n : Nat) : Int), vs, vg] ∧ By R vs x.sec ∧ By R vg x.sig ∧ x.n < 4294967296
theorem prT : RowT 3 prR := ⟨fun R R' x r hR ⟨vo, vk, h1, h2, h3, h4⟩ => ⟨vo, vk, h1, h2.mono hR, h3.mono hR, h4⟩, fun R x r ⟨vo, vk, h1, _⟩ => by rw [h1]; rfl, fun R x r ⟨vo, vk, h1, h2, h3, _⟩ c hc => by
  rw [h1] at hc
  simp only [List.mem_cons, List.not_mem_nil, or_false] at hc
  rcases hc with rfl | rfl | rfl
  · rfl
  · exact h2.one
  · exact h3.one⟩
def nmR (R : Mem) (x : Nm) (r : List Value) : Prop := ∃ vi, r = [.int .u32 ((x.n : Nat) : Int), vi] ∧ By R vi x.id ∧ x.n < 4294967296
theorem nmT : RowT 2 nmR := ⟨fun R R' x r hR ⟨vi, h1, h2, h4⟩ => ⟨vi, h1, h2.mono hR, h4⟩, fun R x r ⟨vi, h1, _⟩ => by rw [h1]; rfl, fun R x r ⟨vi, h1, h2, _⟩ c hc => by
  rw [h1] at hc
  simp only [List.mem_cons, List.not_mem_nil, or_false] at hc
  rcases hc with rfl | rfl
  · rfl
  · exact h2.one⟩
theorem eq32 (a b : Nat) : arith .eql .u32 ((a : Nat) : Int) ((b : Nat) : Int) = some (.bool (decide (a = b))) := by
  by_cases h : a = b
  · rw [decide_eq_true h]; exact eqT (by omega)
  · rw [decide_eq_false h]; exact eqF (by omega)

theorem index_Pair (v : Value) (rows : List (List Value)) (f : FuncId) (cs : List Value) (p : Nat → Bool) (A : Mem) (hv : Rd A 3 v rows.length rows.flatten) (hl : ∀ r ∈ rows, r.length = 3) (hn : rows.length ≤ 1099511627776) (hc_ : callable Tryz.prog f = true) (hf : ∀ (j : Nat) (r : List Value), rows[j]? = some r → FnV Tryz.prog f (.agg r.toArray :: cs) A (.bool (p j))) : FnV Tryz.prog 102 [v, .func (.func f) #[] cs.toArray] A (.int .i64 (fidx p rows.length)) := by
 haveI := hv.cel
 refine FnX.enter (N := 19) Tryz.func102 rfl rfl rfl fun w => ?_
 refine XC.keep (kq 0 (kq 1 kn)) ?_
 refine XC.reg ?_
 refine as_ ?_
 refine XL.fin (kq 0 (kq 1 kn)) ?_
 refine XC.seq ?_
 refine XC.reg ?_
 refine mv_ ?_
 refine XL.q (q_lenV2 (sz := 3) rfl (by kernel_rfl) hv) rfl ?_
 refine mv_ ?_
 refine XL.fin (kq 0 (kq 1 (kq 7 (kq 8 kn)))) ?_
 refine XC.block ?_
 refine XC.loop (α := Nat) (fun i => [(0, v), (1, .func (.func f) #[] cs.toArray), (7, .int .i64 ((rows.length : Nat) : Int)), (8, .int .i64 (i : Int))]) (fun _ => []) (fun _ => []) (fun i => i ≤ rows.length ∧ ∀ j, j < i → p j = false) (fun i => rows.length - i) 0 ⟨Nat.zero_le _, fun j h => absurd h (Nat.not_lt_zero j)⟩ (kq 0 (kq 1 (kq 7 (kq 8 kn)))) .rfl (fun _ h => h) ?_
 rintro i ⟨hi, hp⟩
 refine XC.reg ?_
 refine XL.q (q_bin rfl rfl rfl) rfl ?_
 refine XL.fin (kq 0 (kq 1 (kq 7 (kq 8 (kq 9 kn))))) ?_
 refine XC.seq ?_
 refine XC.cond rfl (fun hc => ?_) (fun hc => ?_)
 ·
  have hlt : i < rows.length := by simp at hc; omega
  obtain ⟨r, hr⟩ : ∃ r, rows[i]? = some r := ⟨_, List.getElem?_eq_getElem hlt⟩
  refine XC.skip ?_
  refine nx (kq 0 (kq 1 (kq 7 (kq 8 kn)))) ?_
  refine XC.seq ?_
  refine XC.block ?_
  refine XC.reg ?_
  refine mv_ (as_ ?_)
  refine XL.fin (kq 0 (kq 1 (kq 5 (kq 7 (kq 8 kn))))) ?_
  refine XC.reg ?_
  refine mv_ (mv_ (mv_ ?_))
  refine XL.q (q_atV2 (sz := 3) rfl rfl (by kernel_rfl) rfl hv hlt) rfl ?_
  refine XL.q (q_ldVR rfl (by kernel_rfl) (hv.mono SubC.sub) hl (by decide) hr) rfl ?_
  refine XL.lo rfl (l_callFV rfl (aS rfl a0) hc_ (hf i r hr) rfl ?_)
  refine XL.fin (kq 0 (kq 1 (kq 5 (kq 7 (kq 8 (kq 16 kn)))))) ?_
  refine XC.cond rfl (fun hc => ?_) (fun hc => ?_)
  ·
   refine XC.reg ?_
   refine mv_ (as_ ?_)
   refine XL.fin (kq 4 kn) ?_
   refine XC.ret ?_
   refine br ?_
   refine tr ?_
   refine rr ?_
   refine br ?_
   refine tr ?_
   exact ⟨_, [], [], res1 rfl rfl, List.nil_sublist _, by simp, by rw [fidx_some hlt hp hc], rfl, rfl⟩
  ·
   refine XC.skip ?_
   refine nb ?_
   refine nx (kq 0 (kq 1 (kq 7 (kq 8 kn)))) ?_
   refine XC.reg1 ?_
   refine XL.q (q_addI (b := 1) rfl rfl rfl rfl (by omega)) rfl ?_
   refine mv_ ?_
   refine XL.nil ?_
   exact rn (i + 1) ⟨hlt, fun j hj => by rcases Nat.lt_succ_iff_lt_or_eq.1 hj with h | h; exact hp j h; rw [h]; exact hc⟩ (by omega) (kq 0 (kq 1 (kq 7 (kq 8 kn)))) .rfl (fun _ h => h)
 ·
  have hge : i = rows.length := by simp at hc; omega
  subst hge
  refine XC.exit ?_
  refine te ?_
  refine re ?_
  refine be rfl ?_
  refine nx kn ?_
  refine XC.reg ?_
  refine as_ ?_
  refine XL.fin (kq 4 kn) ?_
  refine XC.ret ?_
  exact ⟨_, [], [], res1 rfl rfl, List.nil_sublist _, by simp, by rw [fidx_none hp], rfl, rfl⟩

theorem index_Name (v : Value) (rows : List (List Value)) (f : FuncId) (cs : List Value) (p : Nat → Bool) (A : Mem) (hv : Rd A 2 v rows.length rows.flatten) (hl : ∀ r ∈ rows, r.length = 2) (hn : rows.length ≤ 1099511627776) (hc_ : callable Tryz.prog f = true) (hf : ∀ (j : Nat) (r : List Value), rows[j]? = some r → FnV Tryz.prog f (.agg r.toArray :: cs) A (.bool (p j))) : FnV Tryz.prog 101 [v, .func (.func f) #[] cs.toArray] A (.int .i64 (fidx p rows.length)) := by
 haveI := hv.cel
 refine FnX.enter (N := 19) Tryz.func101 rfl rfl rfl fun w => ?_
 refine XC.keep (kq 0 (kq 1 kn)) ?_
 refine XC.reg ?_
 refine as_ ?_
 refine XL.fin (kq 0 (kq 1 kn)) ?_
 refine XC.seq ?_
 refine XC.reg ?_
 refine mv_ ?_
 refine XL.q (q_lenV2 (sz := 2) rfl (by kernel_rfl) hv) rfl ?_
 refine mv_ ?_
 refine XL.fin (kq 0 (kq 1 (kq 7 (kq 8 kn)))) ?_
 refine XC.block ?_
 refine XC.loop (α := Nat) (fun i => [(0, v), (1, .func (.func f) #[] cs.toArray), (7, .int .i64 ((rows.length : Nat) : Int)), (8, .int .i64 (i : Int))]) (fun _ => []) (fun _ => []) (fun i => i ≤ rows.length ∧ ∀ j, j < i → p j = false) (fun i => rows.length - i) 0 ⟨Nat.zero_le _, fun j h => absurd h (Nat.not_lt_zero j)⟩ (kq 0 (kq 1 (kq 7 (kq 8 kn)))) .rfl (fun _ h => h) ?_
 rintro i ⟨hi, hp⟩
 refine XC.reg ?_
 refine XL.q (q_bin rfl rfl rfl) rfl ?_
 refine XL.fin (kq 0 (kq 1 (kq 7 (kq 8 (kq 9 kn))))) ?_
 refine XC.seq ?_
 refine XC.cond rfl (fun hc => ?_) (fun hc => ?_)
 ·
  have hlt : i < rows.length := by simp at hc; omega
  obtain ⟨r, hr⟩ : ∃ r, rows[i]? = some r := ⟨_, List.getElem?_eq_getElem hlt⟩
  refine XC.skip ?_
  refine nx (kq 0 (kq 1 (kq 7 (kq 8 kn)))) ?_
  refine XC.seq ?_
  refine XC.block ?_
  refine XC.reg ?_
  refine mv_ (as_ ?_)
  refine XL.fin (kq 0 (kq 1 (kq 5 (kq 7 (kq 8 kn))))) ?_
  refine XC.reg ?_
  refine mv_ (mv_ (mv_ ?_))
  refine XL.q (q_atV2 (sz := 2) rfl rfl (by kernel_rfl) rfl hv hlt) rfl ?_
  refine XL.q (q_ldVR rfl (by kernel_rfl) (hv.mono SubC.sub) hl (by decide) hr) rfl ?_
  refine XL.lo rfl (l_callFV rfl (aS rfl a0) hc_ (hf i r hr) rfl ?_)
  refine XL.fin (kq 0 (kq 1 (kq 5 (kq 7 (kq 8 (kq 16 kn)))))) ?_
  refine XC.cond rfl (fun hc => ?_) (fun hc => ?_)
  ·
   refine XC.reg ?_
   refine mv_ (as_ ?_)
   refine XL.fin (kq 4 kn) ?_
   refine XC.ret ?_
   refine br ?_
   refine tr ?_
   refine rr ?_
   refine br ?_
   refine tr ?_
   exact ⟨_, [], [], res1 rfl rfl, List.nil_sublist _, by simp, by rw [fidx_some hlt hp hc], rfl, rfl⟩
  ·
   refine XC.skip ?_
   refine nb ?_
   refine nx (kq 0 (kq 1 (kq 7 (kq 8 kn)))) ?_
   refine XC.reg1 ?_
   refine XL.q (q_addI (b := 1) rfl rfl rfl rfl (by omega)) rfl ?_
   refine mv_ ?_
   refine XL.nil ?_
   exact rn (i + 1) ⟨hlt, fun j hj => by rcases Nat.lt_succ_iff_lt_or_eq.1 hj with h | h; exact hp j h; rw [h]; exact hc⟩ (by omega) (kq 0 (kq 1 (kq 7 (kq 8 kn)))) .rfl (fun _ h => h)
 ·
  have hge : i = rows.length := by simp at hc; omega
  subst hge
  refine XC.exit ?_
  refine te ?_
  refine re ?_
  refine be rfl ?_
  refine nx kn ?_
  refine XC.reg ?_
  refine as_ ?_
  refine XL.fin (kq 4 kn) ?_
  refine XC.ret ?_
  exact ⟨_, [], [], res1 rfl rfl, List.nil_sublist _, by simp, by rw [fidx_none hp], rfl, rfl⟩

theorem cmp_ge0k {k : IntKind} (c : Int) : arith .geq k c 0 = some (.bool (decide (0 ≤ c))) := by
  by_cases h : 0 ≤ c
  · rw [decide_eq_true h]; exact geT h
  · rw [decide_eq_false h]; exact geF (by omega)

theorem contains_Pair (v : Value) (rows : List (List Value)) (f : FuncId) (cs : List Value) (p : Nat → Bool) (A : Mem) (hv : Rd A 3 v rows.length rows.flatten) (hl : ∀ r ∈ rows, r.length = 3) (hn : rows.length ≤ 1099511627776) (hc_ : callable Tryz.prog f = true) (hf : ∀ (j : Nat) (r : List Value), rows[j]? = some r → FnV Tryz.prog f (.agg r.toArray :: cs) A (.bool (p j))) : FnV Tryz.prog 59 [v, .func (.func f) #[] cs.toArray] A (.bool (decide (0 ≤ fidx p rows.length))) := by
 haveI := hv.cel
 refine FnX.enter (N := 9) Tryz.func59 rfl rfl rfl fun w => ?_
 refine XC.keep (kq 0 (kq 1 kn)) ?_
 refine XC.reg ?_
 refine as_ ?_
 refine XL.fin (kq 0 (kq 1 kn)) ?_
 refine XC.reg ?_
 refine mv_ (mv_ ?_)
 refine XL.callV (aS rfl (aS rfl a0)) (by kernel_rfl) (index_Pair v rows f cs p _ (hv.mono SubC.sub) hl hn hc_ (fun j r hr => fnv_up (hf j r hr) SubC.sub)) rfl ?_
 refine XL.q (q_cmp (decide (0 ≤ fidx p rows.length)) rfl rfl (cmp_ge0k _)) rfl ?_
 refine as_ ?_
 refine XL.fin (kq 4 kn) ?_
 refine XC.ret ?_
 exact ⟨_, [], [], res1 rfl rfl, List.nil_sublist _, by simp, rfl, rfl, rfl⟩

theorem turnc1_spec (vs vg vi : Value) (x : Pr) (n b : Nat) (A : Mem) (hs : By A vs x.sec) (hg : By A vg x.sig) (hvi : Cel vi [vi]) (hb : (b, blk [.int .u32 ((n : Nat) : Int), vi] 101) ∈ A) : FnV Tryz.prog 60 [.agg #[.int .u32 ((x.n : Nat) : Int), vs, vg], .pointer (some ⟨b, 0, none⟩)] A (.bool (decide (x.n = n))) := by
 haveI := hs.cel
 haveI := hg.cel
 refine FnX.enter (N := 9) Tryz.func60 rfl rfl rfl fun w => ?_
 refine XC.keep (kq 0 (kq 1 kn)) ?_
 refine XC.reg ?_
 refine XL.lo rfl (bx_ fun b2 => ?_)
 refine as_ ?_
 refine XL.fin (kq 1 (kq 2 kn)) ?_
 refine XC.reg ?_
 refine XL.q (qf_ 0 0) rfl ?_
 refine XL.q ql_ rfl ?_
 refine XL.q (qf_ 0 0) rfl ?_
 refine XL.q (q_load rfl (by kernel_rfl) (mA hb) (by rfl)) rfl ?_
 refine XL.q (q_cmp (decide (x.n = n)) rfl rfl (eq32 _ _)) rfl ?_
 refine as_ ?_
 refine XL.fin (kq 3 kn) ?_
 refine XC.ret ?_
 exact ⟨_, [], [], res1 rfl rfl, List.nil_sublist _, by simp, rfl, rfl, rfl⟩

end Go.Proofs.YtphcaiplgpmnnaaGreatDoor
/- Keys, as they lie; the walks of find, and of the readers. -/
namespace Go.Proofs.YtphcaiplgpmnnaaGreatDoor
open Go.Px
structure Ks where
  user : Int
  dev : Int
  agree : List Nat
  sign : List Nat
  signed : List Pr
  once : List Pr
  next : Nat
  met : List Nm
def tstP (n : Nat) (x : Pr) : Bool := decide (x.n = n)
def tstN (n : Nat) (w : List Nat) (x : Nm) : Bool := decide (x.n = n) && decide (x.id = w)
def getP (l : List Pr) (n : Nat) : Option (List Nat) := if fidxL (tstP n) l < 0 then none else (l[(fidxL (tstP n) l).toNat]?).map (·.sec)
def kyC (k : Ks) (va vg vs vo vm : Value) : List Value := [.int .i64 k.user, .int .i64 k.dev, va, vg, vs, vo, .int .u32 ((k.next : Nat) : Int), vm]
/-- Keys that are read. -/
structure KyR (R : Mem) (kb : Nat) (k : Ks) (va vg vs vo vm : Value) (rs ro rm : List (List Value)) : Prop where
  blk_ : (kb, blk [.int .i64 k.user, .int .i64 k.dev, va, vg, vs, vo, .int .u32 ((k.next : Nat) : Int), vm] 96) ∈ R
  agree : By R va k.agree
  sign : By R vg k.sign
  signed : Rd R 3 vs k.signed.length rs.flatten
  signedR : RwL prR R rs k.signed
  once : Rd R 3 vo k.once.length ro.flatten
  onceR : RwL prR R ro k.once
  met : Rd R 2 vm k.met.length rm.flatten
  metR : RwL nmR R rm k.met
  next : k.next < 4294967296
  l1 : k.signed.length ≤ 1000000
  l2 : k.once.length ≤ 1000000
  l3 : k.met.length ≤ 1000000
theorem KyR.mono {R R' : Mem} {kb : Nat} {k : Ks} {va vg vs vo vm : Value} {rs ro rm : List (List Value)} (h : KyR R kb k va vg vs vo vm rs ro rm) (hR : ∀ x, x ∈ R → x ∈ R') : KyR R' kb k va vg vs vo vm rs ro rm :=
  ⟨hR _ h.blk_, h.agree.mono hR, h.sign.mono hR, h.signed.mono hR, h.signedR.mono prT hR, h.once.mono hR, h.onceR.mono prT hR, h.met.mono hR, h.metR.mono nmT hR, h.next, h.l1, h.l2, h.l3⟩
end Go.Proofs.YtphcaiplgpmnnaaGreatDoor
/- The walks of cmp.Compare, of the search among rising prekeys, of Once. -/
namespace Go.Proofs.YtphcaiplgpmnnaaGreatDoor
open Go.Px
def cmpK (a b : Nat) : Int := if a < b then -1 else if b < a then 1 else 0
/-- Prekeys in a rising row. -/
def Rise (l : List Pr) : Prop := ∀ (i j : Nat) (x y : Pr), i < j → l[i]? = some x → l[j]? = some y → x.n < y.n
/-- What the search answers. -/
structure BsR (l : List Pr) (n i : Nat) (b : Bool) : Prop where
  le : i ≤ l.length
  lt : ∀ (j : Nat) (y : Pr), j < i → l[j]? = some y → y.n < n
  ge : ∀ (j : Nat) (y : Pr), i ≤ j → l[j]? = some y → n ≤ y.n
  at_ : b = true ↔ ∃ x, l[i]? = some x ∧ x.n = n
end Go.Proofs.YtphcaiplgpmnnaaGreatDoor
/- Keys as bytes, and back: no program in sight. -/
namespace Go.Proofs.YtphcaiplgpmnnaaGreatDoor
open Go.Px
/-- Bytes with their number ahead. -/
def encB (w : List Nat) : List Nat := beN w.length 4 ++ w
def encPr (x : Pr) : List Nat := beN x.n 4 ++ (encB x.sec ++ encB x.sig)
def encPs : List Pr → List Nat
  | [] => []
  | x :: l => encPr x ++ encPs l
def encNm (x : Nm) : List Nat := beN x.n 4 ++ encB x.id
def encNs : List Nm → List Nat
  | [] => []
  | x :: l => encNm x ++ encNs l
def encH (k : Ks) : List Nat := beN k.user.toNat 4 ++ (beN k.dev.toNat 4 ++ (encB k.agree ++ (encB k.sign ++ beN k.next 4)))
def encL (l : List Pr) : List Nat := beN l.length 2 ++ encPs l
def encM (l : List Nm) : List Nat := beN l.length 4 ++ encNs l
/-- Keys as bytes. -/
def encK (k : Ks) : List Nat := encH k ++ (encL k.signed ++ (encL k.once ++ encM k.met))
def dPr (st : Rst) : Pr := ⟨rnN st 4, rbN (rnS st 4) 65536, rbN (rbS (rnS st 4) 65536) 65536⟩
def dPrS (st : Rst) : Rst := rbS (rbS (rnS st 4) 65536) 65536
def dPs : Nat → Rst → List Pr × Rst
  | 0, st => ([], st)
  | n + 1, st => (dPr st :: (dPs n (dPrS st)).1, (dPs n (dPrS st)).2)
def dNm (st : Rst) : Nm := ⟨rnN st 4, rbN (rnS st 4) 65536⟩
def dNmS (st : Rst) : Rst := rbS (rnS st 4) 65536
/-- Names are read until there was a fault. -/
def dNs : Nat → Rst → List Nm × Rst
  | 0, st => ([], st)
  | n + 1, st => if st.2 then ([], st) else (dNm st :: (dNs n (dNmS st)).1, (dNs n (dNmS st)).2)
def dk1 (p : List Nat) : Rst := rnS (p, false) 4
def dk2 (p : List Nat) : Rst := rnS (dk1 p) 4
def dk3 (p : List Nat) : Rst := rbS (dk2 p) 65536
def dk4 (p : List Nat) : Rst := rbS (dk3 p) 65536
def dk5 (p : List Nat) : Rst := rnS (dk4 p) 4
def dkS (p : List Nat) : List Pr × Rst := dPs (ctN (dk5 p) 2) (ctS (dk5 p) 2)
def dkO (p : List Nat) : List Pr × Rst := dPs (ctN (dkS p).2 4) (ctS (dkS p).2 4)
def dkM (p : List Nat) : List Nm × Rst := dNs (rnN (dkO p).2 4) (rnS (dkO p).2 4)
/-- What bytes are read as. -/
def decK (p : List Nat) : Ks := ⟨((rnN (p, false) 4 : Nat) : Int), ((rnN (dk1 p) 4 : Nat) : Int), rbN (dk2 p) 65536, rbN (dk3 p) 65536, (dkS p).1, (dkO p).1, rnN (dk4 p) 4, (dkM p).1⟩
def sortI (l : List Pr) : Nat → Bool
  | 0 => true
  | i + 1 => match l[i + 1]?, l[i]? with
    | some x, some y => if x.n < y.n then false else sortI l i
    | _, _ => true
def sortP (l : List Pr) : Bool := sortI l (l.length - 1)
/-- Decode answers keys. -/
def decOk (p : List Nat) : Bool := rEnd (dkM p).2 && !(dkS p).1.isEmpty && sortP (dkO p).1 && decide (encK (decK p) = p)
/-- Keys that can be read again. -/
structure PrOk (x : Pr) : Prop where
  n : x.n < 4294967296
  sec : x.sec.length ≤ 65536
  sig : x.sig.length ≤ 65536
structure KsOk (k : Ks) : Prop where
  user : ∃ u : Nat, k.user = (u : Int) ∧ u < 4294967296
  dev : ∃ u : Nat, k.dev = (u : Int) ∧ u < 4294967296
  agree : k.agree.length ≤ 65536
  sign : k.sign.length ≤ 65536
  signed : k.signed.length ≤ 2 ∧ ∀ x ∈ k.signed, PrOk x
  once : k.once.length ≤ 4 ∧ ∀ x ∈ k.once, PrOk x
  next : k.next < 4294967296
  met : k.met.length < 4294967296 ∧ ∀ x ∈ k.met, x.n < 4294967296 ∧ x.id.length ≤ 65536
end Go.Proofs.YtphcaiplgpmnnaaGreatDoor
/- Keys that are owned; the walk of Fill. -/
namespace Go.Proofs.YtphcaiplgpmnnaaGreatDoor
open Go.Px
/-- Keys that are owned: the block, and its three rows. -/
structure Kys (R : Mem) (kb : Nat) (k : Ks) (M : Mem) : Prop where
  ex : ∃ (va vg vs vo vm : Value) (rs ro rm : List (List Value)) (Bs Bo Bm : Mem), M = (kb, blk [.int .i64 k.user, .int .i64 k.dev, va, vg, vs, vo, .int .u32 ((k.next : Nat) : Int), vm] 96) :: (Bs ++ (Bo ++ Bm)) ∧
    By R va k.agree ∧ By R vg k.sign ∧ Sl 3 vs k.signed.length rs.flatten Bs ∧ RwL prR R rs k.signed ∧ Sl 3 vo k.once.length ro.flatten Bo ∧ RwL prR R ro k.once ∧ Sl 2 vm k.met.length rm.flatten Bm ∧ RwL nmR R rm k.met ∧ k.next < 4294967296 ∧ k.signed.length ≤ 2 ∧ k.once.length ≤ 100 ∧ k.met.length ≤ 100000
theorem Kys.mono {R R' : Mem} {kb : Nat} {k : Ks} {M : Mem} (h : Kys R kb k M) (hR : ∀ x, x ∈ R → x ∈ R') : Kys R' kb k M := by
  obtain ⟨va, vg, vs, vo, vm, rs, ro, rm, Bs, Bo, Bm, h1, h2, h3, h4, h5, h6, h7, h8, h9, h10⟩ := h.ex
  exact ⟨va, vg, vs, vo, vm, rs, ro, rm, Bs, Bo, Bm, h1, h2.mono hR, h3.mono hR, h4, h5.mono prT hR, h6, h7.mono prT hR, h8, h9.mono nmT hR, h10⟩
theorem Kys.r {R : Mem} {kb : Nat} {k : Ks} {M : Mem} (h : Kys R kb k M) : ∃ va vg vs vo vm rs ro rm, ∀ R', (∀ x, x ∈ R → x ∈ R') → (∀ x, x ∈ M → x ∈ R') → KyR R' kb k va vg vs vo vm rs ro rm := by
  obtain ⟨va, vg, vs, vo, vm, rs, ro, rm, Bs, Bo, Bm, rfl, h2, h3, h4, h5, h6, h7, h8, h9, h10, h11, h12, h13⟩ := h.ex
  refine ⟨va, vg, vs, vo, vm, rs, ro, rm, fun R' hR hM => ⟨hM _ List.mem_cons_self, h2.mono hR, h3.mono hR, h4.rd fun x hx => hM x (by simp [hx]), h5.mono prT hR, h6.rd fun x hx => hM x (by simp [hx]), h7.mono prT hR, h8.rd fun x hx => hM x (by simp [hx]), h9.mono nmT hR, by omega, by omega, by omega, by omega⟩⟩
/-- One prekey more. -/
noncomputable def fillI (k : Ks) (s : Ps) : Nat → Ks × Ps
  | 0 => (k, s)
  | i + 1 => ({ (fillI k s i).1 with once := (fillI k s i).1.once ++ [⟨(fillI k s i).1.next, freshK (fillI k s i).2, []⟩], next := (fillI k s i).1.next + 1 }, freshS (fillI k s i).2)
theorem fillI_once (k : Ks) (s : Ps) : ∀ i, (fillI k s i).1.once.length = k.once.length + i
  | 0 => rfl
  | i + 1 => by simp [fillI, fillI_once k s i]; omega
theorem fillI_next (k : Ks) (s : Ps) : ∀ i, (fillI k s i).1.next = k.next + i
  | 0 => rfl
  | i + 1 => by simp [fillI, fillI_next k s i]; omega
theorem fillI_eq (k : Ks) (s : Ps) : ∀ i, (fillI k s i).1 = { k with once := (fillI k s i).1.once, next := k.next + i }
  | 0 => rfl
  | i + 1 => by
    have h := fillI_eq k s i
    have hn := fillI_next k s i
    simp only [fillI, hn]
    rw [h]
    simp [Nat.add_assoc]
theorem freshS_len (s : Ps) : (freshS s).ts.length ≤ s.ts.length + 1 ∧ (freshS s).n = s.n + 1 := by
  unfold freshS
  split
  · exact ⟨by simp, rfl⟩
  · refine ⟨?_, rfl⟩
    show (add s.ts _).length ≤ _
    unfold add
    split <;> simp
theorem fillI_ps (k : Ks) (s : Ps) : ∀ i, (fillI k s i).2.ts.length ≤ s.ts.length + i ∧ (fillI k s i).2.n = s.n + i
  | 0 => ⟨Nat.le_refl _, rfl⟩
  | i + 1 => by
    have h := fillI_ps k s i
    have h2 := freshS_len (fillI k s i).2
    simp only [fillI]
    omega
noncomputable def fillK (k : Ks) (s : Ps) : Ks × Ps := fillI k s (4 - k.once.length)

theorem fill_f (kb pb : Nat) (k : Ks) (s : Ps) (MK MP A : Mem) (hK : Kys A kb k MK) (hP : Prm pb s MP) (hn : s.ts.length + 100 ≤ 1048576) (hk : s.n < 1000000000) (hnx : k.next + 100 < 4000000000) (hG : Glb A) : FnX Tryz.prog 19 [.pointer (some ⟨kb, 0, none⟩), .pointer (some ⟨pb, 0, none⟩)] (MK ++ MP) A fun q M J => q = .int .i64 ((4 - k.once.length : Nat) : Int) ∧ ∃ MK2 MP2, M = MK2 ++ MP2 ∧ Kys (J ++ A) kb (fillK k s).1 MK2 ∧ Prm pb (fillK k s).2 MP2 := by
 obtain ⟨va, vg, vs, vo, vm, rs, ro, rm, Bs, Bo, Bm, rfl, hva, hvg, hss, hrs, hso, hro, hsm, hrm, hn1, hn2, hn3, hn4⟩ := hK.ex
 haveI := hva.cel
 haveI := hvg.cel
 haveI := hss.cel
 haveI := hso.cel
 haveI := hsm.cel
 refine FnX.enterZ (N := 42) Tryz.func19 rfl rfl rfl fun w_ => ?_
 refine XC.keep (kq 0 (kq 1 kn)) ?_
 refine XC.reg ?_
 refine as_ ?_
 refine XL.fin (kq 0 (kq 1 kn)) ?_
 refine XC.reg ?_
 refine as_ ?_
 refine XL.fin (kq 0 (kq 1 (kq 5 kn))) ?_
 refine XC.seq ?_
 refine XC.block ?_
 refine XC.loop (α := Nat × (Value × List (List Value) × Mem) × Mem × Mem) (fun y => [(0, .pointer (some ⟨kb, 0, none⟩)), (1, .pointer (some ⟨pb, 0, none⟩)), (5, .int .i64 ((y.1 : Nat) : Int))]) (fun y => (kb, blk [.int .i64 k.user, .int .i64 k.dev, va, vg, vs, y.2.1.1, .int .u32 ((k.next + y.1 : Nat) : Int), vm] 96) :: (Bs ++ (y.2.1.2.2 ++ (Bm ++ y.2.2.1)))) (fun y => y.2.2.2) (fun y => y.1 + k.once.length ≤ max 4 k.once.length ∧ Sl 3 y.2.1.1 (k.once.length + y.1) y.2.1.2.1.flatten y.2.1.2.2 ∧ RwL prR (y.2.2.2 ++ A) y.2.1.2.1 (fillI k s y.1).1.once ∧ Prm pb (fillI k s y.1).2 y.2.2.1) (fun y => 4 - (k.once.length + y.1)) (0, (vo, ro, Bo), MP, []) ⟨by dsimp only; omega, hso, hro, hP⟩ (kq 0 (kq 1 (kq 5 kn))) (Fit.pick (B := [_]) PickC.perm (Fit.pick PickC.perm (Fit.pick PickC.perm (Fit.pick PickC.perm (Fit.last PickC.perm))))) (fun _ h => h) ?_
 rintro ⟨i, ⟨voi, roi, Boi⟩, MPi, Ji⟩ ⟨hi, hsi, hri, hPi⟩
 dsimp only at hi hsi hri hPi ⊢
 haveI := hsi.cel
 have hps := fillI_ps k s i
 have hnx := fillI_next k s i
 have hol := fillI_once k s i
 refine XC.seq ?_
 refine XC.reg ?_
 refine mv_ ?_
 refine XL.q (q_ptrNeNil (e := 96) rfl rfl (by kernel_rfl)) rfl ?_
 refine mv_ ?_
 refine XL.gy rfl rfl (OpQ.opL qm_ rfl ?_)
 refine XL.gy rfl rfl (OpQ.opL (q_nil rfl) rfl ?_)
 refine XL.gy rfl rfl (OpQ.opL (qf_ 5 5) rfl ?_)
 refine XL.gy rfl rfl (OpQ.opL ql_ rfl ?_)
 refine XL.gy rfl rfl (OpQ.opL (q_lenV2 (sz := 3) rfl (by kernel_rfl) (hsi.rd (R := Boi) fun _ h => h)) rfl ?_)
 refine XL.gy rfl rfl (OpQ.opL (q_bin rfl rfl rfl) rfl ?_)
 refine XL.q (q_pickT rfl rfl) rfl ?_
 refine XL.fin (kq 0 (kq 1 (kq 5 (kq 15 kn)))) ?_
 refine XC.cond rfl (fun hc => ?_) (fun hc => ?_)
 ·
  have hlt : k.once.length + i < 4 := by simp at hc; omega
  refine XC.skip ?_
  refine nx (kq 0 (kq 1 (kq 5 kn))) ?_
  refine XC.seq ?_
  refine XC.block ?_
  refine XC.drawK (MPi) (_) true [0, 1, 2, 3, 4, 5, 6, 7, 8, 9, 10, 11, 12, 14, 15] [(0, 0), (1, 0), (2, 0), (3, 0), (4, 1), (5, 0), (6, 0), (7, 0), (8, 1), (9, 0), (10, 2), (11, 0), (12, 2), (13, 2), (14, 0), (15, 0), (16, 2)] (by kernel_rfl) (by kernel_rfl) PickC.perm fun hs K n0 hKm hKs hKn => ?_
  refine XK.q hs rfl qm_ rfl ?_
  refine XK.q hs rfl qm_ rfl ?_
  refine XK.q hs rfl (q_nil rfl) rfl ?_
  refine XK.q hs rfl (qf_ 5 5) rfl ?_
  refine XK.r hs rfl kr_ hKs ql_ rfl ?_
  refine XK.q hs rfl qm_ rfl ?_
  refine XK.q hs rfl (q_nil rfl) rfl ?_
  refine XK.q hs rfl (qf_ 6 6) rfl ?_
  refine XK.r hs rfl kr_ hKs ql_ rfl ?_
  refine XK.q hs rfl qm_ rfl ?_
  refine XK.lo _ _ rfl rfl (List.Perm.refl _) hKm fun w0 => (l_call (Mc := MPi) (R := _) (aS rfl a0) (by kernel_rfl) PickC.perm (fresh_spec pb (fillI k s i).2 MPi _ hPi (by omega) (by omega) hG.up) rfl ?_)
  rintro v28 M28 J28 ⟨hP28, h28⟩ hKx
  haveI := h28.cel
  refine XK.q hs rfl (q_build (place := fun x => #[(0, 1), (1, 1), (2, 1)][x]?) (z := [.int .u32 0, .slice none 0 0, .slice none 0 0]) (fun _ => by kernel_rfl) (eS rfl (eS rfl e0)) (bdS 0 1 rfl (by rfl) (bdS 1 1 rfl (by rfl) bd0))) rfl ?_
  refine XK.lo [] _ rfl rfl (List.Perm.refl _) (fun _ h => by cases h) fun w0 => (l_buildSlice (e := 98) (sz := 3) (z := [.int .u32 0, .slice none 0 0, .slice none 0 0]) (by kernel_rfl) (eS rfl e0) (bdS 0 3 rfl (by rfl) bd0) rfl fun b30 => fun _ => ?_)
  refine XK.perm (M' := (b30, blk [.int .u32 ((k.next + i : Nat) : Int), v28, .slice none 0 0] 98) :: (M28 ++ ((kb, blk [.int .i64 k.user, .int .i64 k.dev, va, vg, vs, voi, .int .u32 ((k.next + i : Nat) : Int), vm] 96) :: (Bs ++ (Boi ++ (Bm ++ [])))))) (by simp) ?_
  refine XK.tl rfl rfl rfl (l_append2 (e := 98) (sz := 3) (by_ := 56) rfl rfl (by kernel_rfl) rfl hsi (Rd.whole (n := 1) At.mem (by rfl)) (by intro c hc; simp only [List.mem_cons, List.not_mem_nil, or_false] at hc; rcases hc with rfl | rfl | rfl; rfl; exact h28.one; rfl) PickC.perm (by unfold maxLen; omega) (by omega) rfl fun v31 B31 hs31 => ?_)
  haveI := hs31.cel
  refine XK.q hs rfl (q_nil rfl) rfl ?_
  refine XK.q hs rfl (qf_ 5 5) rfl ?_
  refine XK.tl rfl rfl rfl (l_store rfl rfl hs31.one (by kernel_rfl) SetC.set UpC.upd ?_)
  refine XK.fin (kq 0 (kq 1 (kq 5 kn))) ?_
  refine XC.reg1 ?_
  refine mv_ ?_
  refine XL.q (q_nil rfl) rfl ?_
  refine XL.q (qf_ 6 6) rfl ?_
  refine XL.q ql_ rfl ?_
  refine XL.q (q_addS 4294967296 (a := k.next + i) (b := 1) rfl rfl rfl rfl rfl rfl (by omega)) rfl ?_
  refine XL.q (q_nil rfl) rfl ?_
  refine XL.q (qf_ 6 6) rfl ?_
  refine XL.lo rfl (l_store rfl rfl rfl (by kernel_rfl) SetC.set UpC.upd ?_)
  refine XL.nil ?_
  refine nb ?_
  refine nx (kq 0 (kq 1 (kq 5 kn))) ?_
  refine XC.reg1 ?_
  refine mv_ ?_
  refine XL.q (q_num ((i + 1 : Nat) : Int) rfl rfl (add64 (by omega) (by omega) (by omega))) rfl ?_
  refine as_ ?_
  refine XL.nil ?_
  exact rn (i + 1, (v31, roi ++ [[.int .u32 ((k.next + i : Nat) : Int), v28, .slice none 0 0]], B31), _, _) ⟨by dsimp only; omega, by simpa [Nat.add_assoc] using hs31, (hri.mono prT SubC.sub).snoc ⟨v28, .slice none 0 0, by rw [hnx], h28.mono SubC.sub, By.nil, by dsimp only; omega⟩, hP28⟩ (by dsimp only; omega) (kq 0 (kq 1 (kq 5 kn))) (Fit.pick (B := [_]) PickC.perm (Fit.pick PickC.perm (Fit.pick PickC.perm (Fit.pick PickC.perm (Fit.last PickC.perm))))) (fun _ h => h)
 ·
  have hge : 4 ≤ k.once.length + i := by simp at hc; omega
  obtain rfl : i = 4 - k.once.length := by omega
  refine XC.exit ?_
  refine te ?_
  refine re ?_
  refine be rfl ?_
  refine nx (kq 5 kn) ?_
  refine XC.reg ?_
  refine mv_ (as_ ?_)
  refine XL.fin (kq 4 kn) ?_
  refine XC.ret ?_
  have hfe := fillI_eq k s (4 - k.once.length)
  refine ⟨_, (kb, blk [.int .i64 k.user, .int .i64 k.dev, va, vg, vs, voi, .int .u32 ((k.next + (4 - k.once.length) : Nat) : Int), vm] 96) :: (Bs ++ (Boi ++ (Bm ++ MPi))), [], res1 rfl rfl, Fit.none (Fit.eq (by simp)), rfl, (kb, blk [.int .i64 k.user, .int .i64 k.dev, va, vg, vs, voi, .int .u32 ((k.next + (4 - k.once.length) : Nat) : Int), vm] 96) :: (Bs ++ (Boi ++ Bm)), MPi, by simp, ⟨⟨va, vg, vs, voi, vm, rs, roi, rm, Bs, Boi, Bm, ?_⟩⟩, hPi⟩
  unfold fillK
  rw [hfe]
  exact ⟨rfl, hva.mono SubC.sub, hvg.mono SubC.sub, hss, hrs.mono prT SubC.sub, by show Sl 3 voi (fillI k s (4 - k.once.length)).1.once.length _ _; rw [hol]; exact hsi, hri, hsm, hrm.mono nmT SubC.sub, by dsimp only; omega, hn2, by show (fillI k s (4 - k.once.length)).1.once.length ≤ 100; rw [hol]; omega, hn4⟩

end Go.Proofs.YtphcaiplgpmnnaaGreatDoor
/-
  A row stored into an owned slice of structs; the clear of an end of one; what is kept when some are deleted.
-/
namespace Go.Px
theorem flat_set {rows : List (List Value)} {sz : Nat} {r : List Value} (hl : ∀ r ∈ rows, r.length = sz) (hr : r.length = sz) {j : Nat} (hj : j < rows.length) :
    rows.flatten.take (j * sz) ++ r ++ rows.flatten.drop (j * sz + sz) = (rows.set j r).flatten := by
  rw [show j * sz + sz = (j + 1) * sz from by rw [Nat.add_mul, Nat.one_mul], flat_take hl, flat_drop hl, List.set_eq_take_append_cons_drop, if_pos hj]
  simp
section
variable {C : Cx} {l : Env} {M J : Mem} {K : Env → Mem → Mem → Prop} {ty t : TypeId} {pos : String} {af : Array Edge} {g : Option (Nat × Bool)} {x y : Operand} {v : Value} {xs : List Value} {n j sz : Nat} {B M0 : Mem}
theorem l_stRowV {r : List Value} (hx : ev l x = some (vAt sz j v)) (hy : ev l y = some (.agg r.toArray)) (h : Sl sz v n xs B) (hr : r.length = sz) (h1 : ∀ u ∈ r, u.oneCell' = true)
    (ht : sizeT C.P t = some sz) (hj : j < n) (hM : M.Perm (B ++ M0)) (h2 : ∀ B', Sl sz v n (xs.take (j * sz) ++ r ++ xs.drop (j * sz + sz)) B' → K l (B' ++ M0) J) :
    OpL C ⟨none, .store t x y, ty, pos, af, g⟩ l M J K := by
  suffices hh : OpL C ⟨none, .store t x y, ty, pos, af, g⟩ l (B ++ M0) J K from fun Qp a w ha hw => hh Qp a w ha (hw.fit (Fit.perm hM) fun _ h => h)
  clear hM
  subst hr
  have hjm : j * r.length + r.length ≤ n * r.length := by rw [← Nat.succ_mul]; exact Nat.mul_le_mul_right _ hj
  rcases h with ⟨p, rfl, rfl, hx2, rfl⟩ | ⟨b, o, cap, cs, e, rfl, rfl, h3, h4, h5, h6, h7⟩
  · omega
  · simp only [vAt, Addr.add_mid] at hx
    have hcm : n * r.length ≤ cap * r.length := Nat.mul_le_mul_right _ h3
    refine l_storeR hx hy rfl ht (by omega) h1 rfl .hd (h2 [_] (.inr ⟨b, o, cap, _, e, rfl, rfl, h3, h4, ?_, ?_, ?_⟩))
    · rw [splice_len (by omega)]; exact h5
    · rw [splice_len (by omega)]; exact h6
    · intro q u hq
      have hlt := (List.getElem?_eq_some_iff.1 hq).1
      rw [splice_len (by omega)] at hlt
      by_cases hq1 : q < j * r.length
      · rw [splice_lt (by omega) hq1] at hq
        rw [splice_lt (by omega) (by omega)]
        exact h7 q u hq
      · by_cases hq2 : q < j * r.length + r.length
        · rw [splice_mid (by omega) (by omega) hq2] at hq
          rw [splice_mid (by omega) (by omega) (by omega), ← hq]
          congr 1; omega
        · rw [splice_ge (by omega) (by omega)] at hq
          rw [splice_ge (by omega) (by omega)]
          exact h7 q u hq
/-- The end of an owned slice is cleared: what is ahead of it stays. -/
theorem l_clearV {e : TypeId} {by_ : Nat} {zs : List Value} (hx : ev l x = some (vLo j sz v)) (ht : elemT C.P t = some (e, sz, by_)) (hz : zn C.P t (n - j) = some zs) (h : Sl sz v n xs B)
    (h1 : ∀ c ∈ zs, c.oneCell' = true) (hj : j < n) (hM : M.Perm (B ++ M0)) (h2 : ∀ B', Sl sz v n (xs.take (j * sz) ++ zs) B' → K l (B' ++ M0) J) :
    OpL C ⟨none, .call { callee := .builtin .clear, args := #[x], argTypes := #[t] }, ty, pos, af, g⟩ l M J K := by
  suffices hh : OpL C ⟨none, .call { callee := .builtin .clear, args := #[x], argTypes := #[t] }, ty, pos, af, g⟩ l (B ++ M0) J K from fun Qp a w ha hw => hh Qp a w ha (hw.fit (Fit.perm hM) fun _ h => h)
  clear hM
  have hzl := zn_len hz ht
  have hjm : j * sz ≤ n * sz := Nat.mul_le_mul_right _ (by omega)
  rw [Nat.sub_mul] at hzl
  rcases h with ⟨p, rfl, rfl, hx2, rfl⟩ | ⟨b, o, cap, cs, e', rfl, rfl, h3, h4, h5, h6, h7⟩
  · omega
  · have hcm : n * sz ≤ cap * sz := Nat.mul_le_mul_right _ h3
    simp only [vLo, if_neg (show ¬ cap = j by omega), Option.map_some, Addr.add_mid] at hx
    have hnj : (n - j) * sz = zs.length := by rw [hzl, Nat.sub_mul]
    refine l_clear hx ht hz h1 (by rw [hnj]; omega) rfl .hd (h2 [_] (.inr ⟨b, o, cap, _, e', rfl, rfl, h3, h4, ?_, ?_, ?_⟩))
    · rw [hnj, splice_len (by omega)]; exact h5
    · simp; omega
    · intro q u hq
      have hlt := (List.getElem?_eq_some_iff.1 hq).1
      simp at hlt
      rw [hnj]
      by_cases hq1 : q < j * sz
      · rw [splice_lt (by omega) (by omega)]
        rw [List.getElem?_append_left (by simp; omega), List.getElem?_take_of_lt hq1] at hq
        exact h7 q u hq
      · rw [splice_mid (by omega) (by omega) (by omega)]
        rw [List.getElem?_append_right (by simp; omega)] at hq
        rw [← hq]
        congr 1
        simp; omega
end
/-- What of the first rows is kept. -/
def kpt {β : Type} (p : Nat → Bool) (rows : List β) : Nat → List β
  | 0 => []
  | j + 1 => kpt p rows j ++ (if p j then [] else rows[j]?.toList)
theorem kpt_all {β : Type} {p : Nat → Bool} {rows : List β} : ∀ j, (∀ i, i < j → p i = false) → kpt p rows j = rows.take j
  | 0, _ => by simp [kpt]
  | j + 1, h => by
    rw [kpt, kpt_all j fun i hi => h i (by omega), if_neg (by rw [h j (by omega)]; decide), List.take_add_one]
theorem kpt_filter {α : Type} (q : α → Bool) (xs : List α) : ∀ j, kpt (fun i => (xs[i]?.map q).getD false) xs j = (xs.take j).filter fun x => !q x
  | 0 => by simp [kpt]
  | j + 1 => by
    rw [kpt, kpt_filter q xs j, List.take_add_one, List.filter_append]
    congr 1
    cases h : xs[j]? with
    | none => simp
    | some x => cases hq : q x <;> simp [hq]
theorem RwL.kpt {α : Type} {φ : Mem → α → List Value → Prop} {R : Mem} {rows : List (List Value)} {xs : List α} (h : RwL φ R rows xs) (p : Nat → Bool) : ∀ j, RwL φ R (Px.kpt p rows j) (Px.kpt p xs j)
  | 0 => RwL.nil
  | j + 1 => by
    rw [Px.kpt, Px.kpt]
    refine (RwL.kpt h p j).app ?_
    split
    · exact RwL.nil
    · cases hx : xs[j]? with
      | none =>
        have : rows[j]? = none := by rw [List.getElem?_eq_none_iff] at hx ⊢; rw [h.len]; exact hx
        rw [this]; exact RwL.nil
      | some x =>
        obtain ⟨r, h1, h2⟩ := h.get j x hx
        rw [h1]
        exact RwL.cons h2 RwL.nil
theorem set_take {α : Type} {cur : List α} {i : Nat} {r : α} (h : i < cur.length) : (cur.set i r).take (i + 1) = cur.take i ++ [r] := by
  rw [List.take_add_one, List.getElem?_set_self h, List.take_set_of_le (Nat.le_refl _)]
  rfl
theorem Sl.hi_app {sz n i : Nat} {v : Value} {xs zs : List Value} {B : Mem} (h : Sl sz v n (xs.take (i * sz) ++ zs) B) (hx : xs.length = n * sz) (hi : i ≤ n) : Sl sz (vHi i v) i (xs.take (i * sz)) B := by
  have h2 := h.hiV i hi
  have h3 : i * sz ≤ n * sz := Nat.mul_le_mul_right _ hi
  rwa [List.take_left' (by rw [List.length_take]; omega)] at h2
/-- How far a deletion is: at row j of the rows, i of them kept ahead in what the array holds now. -/
structure Dfs (sz : Nat) (p : Nat → Bool) (rows cur : List (List Value)) (j i : Nat) : Prop where
  jn : j ≤ rows.length
  ki : i = (kpt p rows j).length
  ij : i < j
  cl : cur.length = rows.length
  ct : cur.take i = kpt p rows j
  cd : cur.drop j = rows.drop j
  cs : ∀ r ∈ cur, r.length = sz
  cr : ∀ r ∈ cur, r ∈ rows
section
variable {sz : Nat} {p : Nat → Bool} {rows cur : List (List Value)} {j i i0 : Nat} {r : List Value}
theorem Dfs.init (hl : ∀ r ∈ rows, r.length = sz) (hi : i0 < rows.length) (hp : p i0 = true) (hq : ∀ j, j < i0 → p j = false) : Dfs sz p rows rows (i0 + 1) i0 := by
  have hk0 : kpt p rows (i0 + 1) = rows.take i0 := by rw [kpt, hp, kpt_all i0 hq]; simp
  exact ⟨hi, by rw [hk0, List.length_take]; omega, by omega, rfl, hk0.symm, rfl, hl, fun _ h => h⟩
theorem Dfs.at_ (h : Dfs sz p rows cur j i) (hr : rows[j]? = some r) : cur[j]? = some r := by
  have h2 := congrArg (fun l => l[0]?) h.cd
  simpa [List.getElem?_drop, hr] using h2
theorem Dfs.keep (h : Dfs sz p rows cur j i) (hr : rows[j]? = some r) (hp : p j = false) : Dfs sz p rows (cur.set i r) (j + 1) (i + 1) := by
  obtain ⟨h1, h2, h3, h4, h5, h6, h7, h8⟩ := h
  have hjl := (List.getElem?_eq_some_iff.1 hr).1
  have hk : kpt p rows (j + 1) = kpt p rows j ++ [r] := by rw [kpt, hp, hr]; rfl
  have hcj : cur.drop (j + 1) = rows.drop (j + 1) := by rw [← List.drop_drop, ← List.drop_drop, h6]
  refine ⟨hjl, by rw [hk]; simp [← h2], by omega, by simp [h4], ?_, ?_, ?_, ?_⟩
  · rw [set_take (by omega), h5, hk]
  · rw [List.drop_set_of_lt (by omega), hcj]
  · intro x hx
    rcases List.mem_or_eq_of_mem_set hx with hx | hx
    · exact h7 x hx
    · subst hx; exact h7 x (List.mem_of_getElem? (Dfs.at_ ⟨h1, h2, h3, h4, h5, h6, h7, h8⟩ hr))
  · intro x hx
    rcases List.mem_or_eq_of_mem_set hx with hx | hx
    · exact h8 x hx
    · subst hx; exact List.mem_of_getElem? hr
theorem Dfs.skip (h : Dfs sz p rows cur j i) (hjl : j < rows.length) (hp : p j = true) : Dfs sz p rows cur (j + 1) i := by
  obtain ⟨h1, h2, h3, h4, h5, h6, h7, h8⟩ := h
  have hk : kpt p rows (j + 1) = kpt p rows j := by rw [kpt, hp]; simp
  exact ⟨hjl, by rw [hk]; exact h2, by omega, h4, by rw [hk]; exact h5, by rw [← List.drop_drop, ← List.drop_drop, h6], h7, h8⟩
end
end Go.Px

/- slices.DeleteFunc of prekeys and of names. -/
namespace Go.Proofs.YtphcaiplgpmnnaaGreatDoor
open Go.Px
theorem cmp_eqm1 {k : IntKind} (c : Int) : arith .eql k c (-1) = some (.bool (decide (c = -1))) := by
  by_cases h : c = -1
  · rw [decide_eq_true h]; exact eqT h
  · rw [decide_eq_false h]; exact eqF h

theorem delfn_Name (v : Value) (rows : List (List Value)) (f : FuncId) (cs : List Value) (p : Nat → Bool) (B A : Mem) (hs : Sl 2 v rows.length rows.flatten B) (hl : ∀ r ∈ rows, r.length = 2) (h1 : ∀ c ∈ rows.flatten, c.oneCell' = true) (hn : rows.length ≤ 1099511627776) (hc_ : callable Tryz.prog f = true) (hf : ∀ (j : Nat) (r : List Value), rows[j]? = some r → FnV Tryz.prog f (.agg r.toArray :: cs) A (.bool (p j))) : FnX Tryz.prog 57 [v, .func (.func f) #[] cs.toArray] B A fun q M J => Sl 2 q (kpt p rows rows.length).length (kpt p rows rows.length).flatten M := by
 haveI := hs.cel
 refine FnX.enterZ (N := 42) Tryz.func57 rfl rfl rfl fun w_ => ?_
 refine XC.keep (kq 0 (kq 1 kn)) ?_
 refine XC.reg ?_
 refine as_ ?_
 refine XL.fin (kq 0 (kq 1 kn)) ?_
 refine XC.reg ?_
 refine mv_ (mv_ ?_)
 refine XL.callV (aS rfl (aS rfl a0)) (by kernel_rfl) (index_Name v rows f cs p _ (hs.rd fun x hx => by simp [hx]) hl hn hc_ (fun j r hr => fnv_up (hf j r hr) SubC.sub)) rfl ?_
 refine as_ ?_
 refine XL.fin (kq 0 (kq 1 (kq 5 kn))) ?_
 refine XC.seq ?_
 refine XC.reg ?_
 refine mv_ ?_
 refine XL.q (q_cmp (decide (fidx p rows.length = -1)) rfl rfl (cmp_eqm1 _)) rfl ?_
 refine XL.fin (kq 0 (kq 1 (kq 5 (kq 12 kn)))) ?_
 refine XC.cond rfl (fun hc => ?_) (fun hc => ?_)
 ·
  have hm1 : fidx p rows.length = -1 := of_decide_eq_true hc
  have hall : ∀ i, i < rows.length → p i = false := by rcases fidx_cases p rows.length with ⟨_, h⟩ | ⟨i, _, h, _, _⟩; exact h; omega
  refine XC.reg ?_
  refine mv_ (as_ ?_)
  refine XL.fin (kq 4 kn) ?_
  refine XC.ret ?_
  refine tr ?_
  refine ⟨_, B, [], res1 rfl rfl, Fit.none (Fit.last PickC.perm), ?_⟩
  rw [kpt_all _ hall, List.take_length]
  exact hs
 ·
  have hne : ¬ fidx p rows.length = -1 := of_decide_eq_false hc
  obtain ⟨i0, hi0, he0, hp0, hq0⟩ : ∃ i, i < rows.length ∧ fidx p rows.length = (i : Int) ∧ p i = true ∧ ∀ j, j < i → p j = false := (fidx_cases p rows.length).resolve_left fun h => hne h.1
  rw [he0]
  refine XC.skip ?_
  refine nx (kq 0 (kq 1 (kq 5 kn))) ?_
  refine XC.seq ?_
  refine XC.reg ?_
  refine mv_ ?_
  refine XL.q (q_num ((i0 + 1 : Nat) : Int) rfl rfl (add64 (by omega) (by omega) (by omega))) rfl ?_
  refine as_ ?_
  refine XL.fin (kq 0 (kq 1 (kq 5 (kq 6 kn)))) ?_
  refine XC.block ?_
  refine XC.loop (α := Nat × Nat × List (List Value) × Mem) (fun y => [(0, v), (1, .func (.func f) #[] cs.toArray), (5, .int .i64 ((y.2.1 : Nat) : Int)), (6, .int .i64 ((y.1 : Nat) : Int))]) (fun y => y.2.2.2) (fun _ => []) (fun y => Dfs 2 p rows y.2.2.1 y.1 y.2.1 ∧ Sl 2 v rows.length y.2.2.1.flatten y.2.2.2) (fun y => rows.length - y.1) (i0 + 1, i0, rows, B) ⟨Dfs.init hl hi0 hp0 hq0, hs⟩ (kq 0 (kq 1 (kq 5 (kq 6 kn)))) Fit.rfl (fun _ h => h) ?_
  rintro ⟨j, i, cur, Bc⟩ ⟨hD, hsc⟩
  dsimp only at hD hsc ⊢
  have hjn := hD.jn
  have hij := hD.ij
  have hcs := hD.cs
  refine XC.seq ?_
  refine XC.reg ?_
  refine mv_ (mv_ ?_)
  refine XL.q (q_lenV2 (sz := 2) rfl (by kernel_rfl) (hsc.rd (R := Bc) fun _ h => h)) rfl ?_
  refine XL.q (q_bin rfl rfl rfl) rfl ?_
  refine XL.fin (kq 0 (kq 1 (kq 5 (kq 6 (kq 19 kn))))) ?_
  refine XC.cond rfl (fun hc => ?_) (fun hc => ?_)
  ·
   have hlt : j < rows.length := by simp at hc; omega
   obtain ⟨r, hr⟩ : ∃ r, rows[j]? = some r := ⟨_, List.getElem?_eq_getElem hlt⟩
   have hrc : cur[j]? = some r := hD.at_ hr
   have hrl : r.length = 2 := hcs r (List.mem_of_getElem? hrc)
   have hr1 : ∀ c ∈ r, c.oneCell' = true := fun c hc => h1 c (List.mem_flatten.2 ⟨r, List.mem_of_getElem? hr, hc⟩)
   obtain ⟨c0_, c1_, rfl⟩ : ∃ c0_ c1_, r = [c0_, c1_] := by match r, hrl with | [c0_, c1_], _ => exact ⟨c0_, c1_, rfl⟩
   refine XC.skip ?_
   refine nx (kq 0 (kq 1 (kq 5 (kq 6 kn)))) ?_
   refine XC.seq ?_
   refine XC.block ?_
   refine XC.reg ?_
   refine mv_ (mv_ ?_)
   refine XL.q (q_atV2 (sz := 2) (a := j) rfl rfl (by kernel_rfl) rfl (hsc.rd (R := Bc) fun _ h => h) hlt) rfl ?_
   refine XL.q (q_ldVR rfl (by kernel_rfl) (hsc.rd fun x hx => by simp [hx]) hcs (by decide) hrc) rfl ?_
   refine XL.lo rfl (l_alloc (cs := [.int .u32 0, .slice none 0 0]) (by kernel_rfl) rfl fun b7 => ?_)
   refine XL.lo rfl (l_storeW rfl rfl rfl (by kernel_rfl) (by rfl) hr1 UpC.upd ?_)
   refine XL.fin (kq 0 (kq 1 (kq 5 (kq 6 (kq 7 kn))))) ?_
   refine XC.reg ?_
   refine mv_ ?_
   refine XL.q (qw_ 2) rfl ?_
   refine XL.lo rfl (l_callFV rfl (aS rfl a0) hc_ (fnv_up (hf j _ hr) SubC.sub) rfl ?_)
   refine XL.q (q_not rfl) rfl ?_
   refine XL.fin (kq 0 (kq 1 (kq 5 (kq 6 (kq 7 (kq 29 kn)))))) ?_
   refine XC.cond rfl (fun hc => ?_) (fun hc => ?_)
   ·
    refine XC.reg ?_
    refine mv_ (mv_ ?_)
    refine XL.q (qw_ 2) rfl ?_
    refine XL.q (q_atV2 (sz := 2) (a := i) rfl rfl (by kernel_rfl) rfl (hsc.rd (R := Bc) fun _ h => h) (by omega)) rfl ?_
    refine XL.lo rfl (l_stRowV (sz := 2) (j := i) rfl rfl hsc hrl hr1 (by kernel_rfl) (by omega) PickC.perm fun B33 hs33 => ?_)
    refine XL.fin (kq 0 (kq 1 (kq 5 (kq 6 kn)))) ?_
    refine XC.reg1 ?_
    refine mv_ ?_
    refine XL.q (q_num ((i + 1 : Nat) : Int) rfl rfl (add64 (by omega) (by omega) (by omega))) rfl ?_
    refine as_ ?_
    refine XL.nil ?_
    refine nb ?_
    refine nx (kq 0 (kq 1 (kq 5 (kq 6 kn)))) ?_
    refine XC.reg1 ?_
    refine mv_ ?_
    refine XL.q (q_num ((j + 1 : Nat) : Int) rfl rfl (add64 (by omega) (by omega) (by omega))) rfl ?_
    refine as_ ?_
    refine XL.nil ?_
    exact rn (j + 1, i + 1, cur.set i [c0_, c1_], B33) ⟨hD.keep hr (by simpa using hc), by rw [← flat_set hcs rfl (by have := hD.cl; omega)]; exact hs33⟩ (by dsimp only; omega) (kq 0 (kq 1 (kq 5 (kq 6 kn)))) (Fit.last PickC.perm) (fun _ h => h)
   ·
    refine XC.skip ?_
    refine nb ?_
    refine nx (kq 0 (kq 1 (kq 5 (kq 6 kn)))) ?_
    refine XC.reg1 ?_
    refine mv_ ?_
    refine XL.q (q_num ((j + 1 : Nat) : Int) rfl rfl (add64 (by omega) (by omega) (by omega))) rfl ?_
    refine as_ ?_
    refine XL.nil ?_
    exact rn (j + 1, i, cur, Bc) ⟨hD.skip hlt (by simpa using hc), hsc⟩ (by dsimp only; omega) (kq 0 (kq 1 (kq 5 (kq 6 kn)))) (Fit.last PickC.perm) (fun _ h => h)
  ·
   have hge : j = rows.length := by simp at hc; omega
   subst hge
   refine XC.exit ?_
   refine te ?_
   refine re ?_
   refine be rfl ?_
   refine nx (kq 0 (kq 5 kn)) ?_
   refine XC.reg ?_
   refine mv_ (mv_ ?_)
   refine XL.q (q_loV2 (sz := 2) rfl rfl (by kernel_rfl) rfl (by first | assumption | exact Sl.rd (by assumption) (fun _ h => h) | exact By.rd (by assumption)) (by omega)) rfl ?_
   refine XL.lo rfl (l_clearV (e := 101) (by_ := 32) (zs := (Builtin.zeroCells #[.int .u32 0, .slice none 0 0] (rows.length - i)).toList) rfl (by kernel_rfl) (by kernel_rfl) hsc (zeroCells_one (by simp [Value.oneCell']) (by simp) _) (by omega) PickC.perm fun B38 hs38 => ?_)
   refine XL.fin (kq 0 (kq 5 kn)) ?_
   refine XC.reg ?_
   refine mv_ (mv_ ?_)
   refine XL.q (q_hiV2 (sz := 2) (a := i) rfl rfl (by kernel_rfl) rfl (hs38.rd (R := B38) fun _ h => h) (by omega)) rfl ?_
   refine as_ ?_
   refine XL.fin (kq 4 kn) ?_
   refine XC.ret ?_
   refine ⟨_, B38, [], res1 rfl rfl, Fit.none (Fit.last PickC.perm), ?_⟩
   have h2 := hs38.hi_app (by rw [flat_len hcs, hD.cl]) (by omega)
   rw [flat_take hcs, hD.ct] at h2
   rw [← hD.ki]
   exact h2

end Go.Proofs.YtphcaiplgpmnnaaGreatDoor
/-
  Groups of operations of a drawn region that come up in any order; each works on blocks of its own (m), which it may change, and makes new ones.
-/
namespace Go.Px
structure Gv where
  i : Nat
  d : Nat
  m : Mem
  φ : Value → Mem → Mem → Prop
def gEnvM (G : List Gv) (vs : Nat → Value) : Env := G.map fun g => (g.d, vs g.i)
def toGM (G : List Gv) : List Gm := G.map fun g => ⟨g.i, g.d, fun _ _ => True⟩
theorem toGM_i (G : List Gv) : (toGM G).map (·.i) = G.map (·.i) := by simp [toGM]
theorem toGM_d (G : List Gv) : (toGM G).map (·.d) = G.map (·.d) := by simp [toGM]
theorem toGM_env (G : List Gv) (vs : Nat → Value) : gEnv (toGM G) vs = gEnvM G vs := by simp [gEnv, gEnvM, toGM]
theorem gv_inj {G : List Gv} (h : (G.map (·.i)).Nodup) {g g' : Gv} (hg : g ∈ G) (hg' : g' ∈ G) (e : g.i = g'.i) : g = g' := by
  induction G with
  | nil => cases hg
  | cons x G ih =>
    simp only [List.map_cons, List.nodup_cons] at h
    rcases List.mem_cons.1 hg with h1 | h1 <;> rcases List.mem_cons.1 hg' with h2 | h2
    · rw [h1, h2]
    · exact absurd (by rw [← h1, e]; exact List.mem_map_of_mem (f := Gv.i) h2) h.1
    · exact absurd (by rw [← h2, ← e]; exact List.mem_map_of_mem (f := Gv.i) h1) h.1
    · exact ih h.2 h1 h2
/-- The blocks of a group, of which X have come up. -/
def curM (X : List Nat) (bs : Nat → Mem) (G : List Gv) : Mem := (G.map fun g => if g.i ∈ X then bs g.i else g.m).flatten
def doneM (X : List Nat) (bs : Nat → Mem) (G : List Gv) : Mem := (G.map fun g => if g.i ∈ X then bs g.i else []).flatten
def allM (bs : Nat → Mem) (G : List Gv) : Mem := (G.map fun g => bs g.i).flatten
theorem doneM_sub {X : List Nat} {bs : Nat → Mem} {G : List Gv} : ∀ x ∈ doneM X bs G, x ∈ curM X bs G := by
  intro x hx
  unfold doneM at hx
  unfold curM
  obtain ⟨l, hl, hx⟩ := List.mem_flatten.1 hx
  obtain ⟨g, hg, rfl⟩ := List.mem_map.1 hl
  refine List.mem_flatten.2 ⟨_, List.mem_map_of_mem hg, ?_⟩
  split at hx
  · rename_i h; rw [if_pos h]; exact hx
  · cases hx
theorem curM_step {X : List Nat} {bs : Nat → Mem} {G : List Gv} {g : Gv} (hi : (G.map (·.i)).Nodup) (hg : g ∈ G) (hX : g.i ∉ X) (M' : Mem) :
    ∃ R, (curM X bs G).Perm (g.m ++ R) ∧ (∀ x ∈ doneM X bs G, x ∈ R) ∧ (M' ++ R).Perm (curM (X ++ [g.i]) (fun k => if k = g.i then M' else bs k) G) ∧ (∀ x ∈ M' ++ doneM X bs G, x ∈ doneM (X ++ [g.i]) (fun k => if k = g.i then M' else bs k) G) := by
  obtain ⟨s, t, rfl⟩ := List.append_of_mem hg
  have hne : ∀ x ∈ s ++ t, x.i ≠ g.i := by
    intro x hx e
    simp only [List.map_append, List.map_cons, List.nodup_append, List.nodup_cons] at hi
    rcases List.mem_append.1 hx with h | h
    · exact hi.2.2 _ (List.mem_map_of_mem (f := Gv.i) h) _ List.mem_cons_self e
    · exact hi.2.1.1 (e ▸ List.mem_map_of_mem (f := Gv.i) h)
  have e1 : ∀ (f f' : Gv → Mem) (l : List Gv), (∀ x ∈ l, f x = f' x) → l.map f = l.map f' := fun f f' l h => List.map_congr_left h
  have es : (s.map fun x => if x.i ∈ X ++ [g.i] then (if x.i = g.i then M' else bs x.i) else x.m) = s.map fun x => if x.i ∈ X then bs x.i else x.m := e1 _ _ _ fun x hx => by
    have h := hne x (List.mem_append_left _ hx)
    simp [h]
  have et : (t.map fun x => if x.i ∈ X ++ [g.i] then (if x.i = g.i then M' else bs x.i) else x.m) = t.map fun x => if x.i ∈ X then bs x.i else x.m := e1 _ _ _ fun x hx => by
    have h := hne x (List.mem_append_right _ hx)
    simp [h]
  have fs : (s.map fun x => if x.i ∈ X ++ [g.i] then (if x.i = g.i then M' else bs x.i) else ([] : Mem)) = s.map fun x => if x.i ∈ X then bs x.i else [] := e1 _ _ _ fun x hx => by
    have h := hne x (List.mem_append_left _ hx)
    simp [h]
  have ft : (t.map fun x => if x.i ∈ X ++ [g.i] then (if x.i = g.i then M' else bs x.i) else ([] : Mem)) = t.map fun x => if x.i ∈ X then bs x.i else [] := e1 _ _ _ fun x hx => by
    have h := hne x (List.mem_append_right _ hx)
    simp [h]
  refine ⟨(s.map fun x => if x.i ∈ X then bs x.i else x.m).flatten ++ (t.map fun x => if x.i ∈ X then bs x.i else x.m).flatten, ?_, ?_, ?_, ?_⟩
  · simp only [curM, List.map_append, List.map_cons, if_neg hX, List.flatten_append, List.flatten_cons]
    exact List.perm_append_comm_assoc _ _ _
  · intro x hx
    simp only [doneM, List.map_append, List.map_cons, if_neg hX, List.flatten_append, List.flatten_cons, List.nil_append, List.mem_append] at hx
    refine List.mem_append.2 (hx.imp (fun h => ?_) fun h => ?_)
    · exact doneM_sub (G := s) x h
    · exact doneM_sub (G := t) x h
  · simp only [curM, List.map_append, List.map_cons, List.flatten_append, List.flatten_cons, es, et]
    simp only [List.mem_append, List.mem_singleton, or_true, if_true]
    exact (List.perm_append_comm_assoc _ _ _).symm
  · intro x hx
    simp only [doneM, List.map_append, List.map_cons, List.flatten_append, List.flatten_cons, fs, ft]
    simp only [List.mem_append, List.mem_singleton, or_true, if_true]
    simp only [doneM, List.map_append, List.map_cons, if_neg hX, List.flatten_append, List.flatten_cons, List.nil_append, List.mem_append] at hx
    rcases hx with h | h | h
    · exact .inr (.inl h)
    · exact .inl h
    · exact .inr (.inr h)
theorem curM_nil {bs : Nat → Mem} {G : List Gv} : curM [] bs G = (G.map (·.m)).flatten := by simp [curM]
theorem curM_all {X : List Nat} {bs : Nat → Mem} {G : List Gv} (h : ∀ g ∈ G, g.i ∈ X) : curM X bs G = allM bs G := by
  unfold curM allM
  rw [List.map_congr_left (g := fun g => bs g.i) fun g hg => if_pos (h g hg)]
/-- Facts of more blocks may be added to what a call came to. -/
theorem St.widen {P : Program} {w w' : World} {F : List Nat} {A A' Mc M' J' : Mem} {n : Nat} (h : St ⟨P, w, F, A', n⟩ Mc [] w) (hs : St ⟨P, w, F, A, n⟩ M' J' w') : St ⟨P, w, F, A', n⟩ M' J' w' := by
  refine ⟨hs.os, hs.tape, hs.output, hs.size, hs.frame, fun b o hb => ?_, hs.nodup, hs.own, hs.sepJ, h.sepA, hs.old⟩
  simp only [List.mem_append] at hb
  rcases hb with hb | hb | hb
  · exact hs.mem b o (by simp [hb])
  · exact hs.mem b o (by simp [hb])
  · have h1 := h.sepA b o hb
    have h2 := hs.frame b h1.2 h1.1
    rw [h2]
    exact h.mem b o (by simp; exact .inr hb)
theorem St.less {P : Program} {w : World} {F : List Nat} {A A' Mc : Mem} {n : Nat} (h : St ⟨P, w, F, A', n⟩ Mc [] w) (hA : ∀ x ∈ A, x ∈ A') : St ⟨P, w, F, A, n⟩ Mc [] w :=
  ⟨h.os, h.tape, h.output, h.size, h.frame, fun b o hb => h.mem b o (by simp at hb ⊢; exact hb.imp id (hA _)), h.nodup, h.own, h.sepJ, fun b o hb => h.sepA b o (hA _ hb), h.old⟩
section group
variable {C : Cx} {Q : XQ} {l : Env} {M M0 J : Mem} {os : List Oper} {K : Nat → Prop} {n0 : Nat} {nd : List Nat} {plan : List (Nat × Nat)}
def OwesM (C : Cx) (os : List Oper) (l : Env) (M0 J : Mem) (G : List Gv) (g : Gv) : Prop :=
  ∃ o, nth os g.i = some o ∧ ∀ (vs : Nat → Value) (bs : Nat → Mem) (R Rj : Mem) (w : World), (∀ x ∈ M0 ++ (J ++ C.A), x ∈ R) → (∀ x ∈ J ++ C.A, x ∈ Rj) → (∀ x ∈ Rj, x ∈ R) → (∀ g' ∈ G, anc os.toArray os.toArray.size g.i g'.i = true → g'.φ (vs g'.i) (bs g'.i) Rj) →
    Asked os (gEnvM G vs ++ l) o ∧ OpL ⟨C.P, w, g.m.map Prod.fst, R, C.N⟩ o (gEnvM G vs ++ l) g.m [] (fun l' M' J' => ∃ v, l' = (g.d, v) :: (gEnvM G vs ++ l) ∧ g.φ v M' (J' ++ Rj))
theorem groupM_go {G : List Gv} (hmono : ∀ g ∈ G, GrowsO g.φ) (hd : (G.map (·.d)).Nodup) (hi : (G.map (·.i)).Nodup) (hK : ∀ g ∈ G, ∀ x ∈ g.m, K x.1) (hob : ∀ g ∈ G, OwesM C os l M0 J G g) {A B : Array Bool} (hok : GOk os.toArray A (G.map (·.i)) B)
    (hfin : ∀ (vs : Nat → Value) (bs : Nat → Mem) Jn a w, (∀ g ∈ G, g.φ (vs g.i) (bs g.i) ((Jn ++ J) ++ C.A)) → (∀ g ∈ G, ∀ x ∈ bs g.i, x.1 ∈ g.m.map Prod.fst ∨ n0 ≤ x.1) → Ag C.N (gEnvM G vs ++ l) a → St C (allM bs G ++ M0) (Jn ++ J) w → n0 ≤ w.heap.size → wpAnyS C.P os.toArray (noPanicX (lift C Q)) (Sk K) nd.contains plan.length B a w) :
    ∀ (n : Nat) (X : List Nat) (vs : Nat → Value) (bs : Nat → Mem) (Jn : Mem) (a : Act) (w : World), X.Nodup → (∀ i ∈ X, i ∈ G.map (·.i)) → n + X.length = G.length → Closed os.toArray (mark A X) →
      (∀ g ∈ G, g.i ∈ X → g.φ (vs g.i) (bs g.i) ((Jn ++ J) ++ C.A)) → (∀ g ∈ G, g.i ∈ X → ∀ x ∈ bs g.i, x.1 ∈ g.m.map Prod.fst ∨ n0 ≤ x.1) → Ag C.N (gEnvM G vs ++ l) a → St C (curM X bs G ++ M0) (Jn ++ J) w → n0 ≤ w.heap.size →
      wpAnyS C.P os.toArray (noPanicX (lift C Q)) (Sk K) nd.contains (n + plan.length) (mark A X) a w := by
  intro n
  induction n with
  | zero =>
    intro X vs bs Jn a w hnd hX hlen hcl hφ hN ha hw hn
    have hall : ∀ i, i ∈ X ↔ i ∈ G.map (·.i) := fun i => ⟨hX i, nodup_all hnd hX (by simp; omega) i⟩
    have hin : ∀ g ∈ G, g.i ∈ X := fun g hg => (hall _).2 (List.mem_map_of_mem (f := Gv.i) hg)
    have hcur := curM_all (bs := bs) hin
    rw [hcur] at hw
    rw [Nat.zero_add, mark_eq hall, ← hok.mark]
    exact hfin vs bs Jn a w (fun g hg => hφ g hg (hin g hg)) (fun g hg => hN g hg (hin g hg)) ha hw hn
  | succ n ih =>
    intro X vs bs Jn a w hnd hX hlen hcl hφ hN ha hw hn
    have hmiss : ∃ k ∈ G.map (·.i), k ∉ X := by
      apply Classical.byContradiction
      intro hno
      have hs : ∀ k ∈ G.map (·.i), k ∈ X := fun k hk => Classical.byContradiction fun h => hno ⟨k, hk, h⟩
      have := nodup_le hi hs
      simp at this; omega
    obtain ⟨k, hkG, hkX⟩ := hmiss
    have hun : ∀ i ∈ G.map (·.i), A.getD i true = false := by
      have : ∀ {is A B}, GOk os.toArray A is B → ∀ i ∈ is, A.getD i true = false := by
        intro is A B h
        induction h with
        | nil => intro i hi; cases hi
        | @cons A B i r hr ho h ih =>
          intro k hk
          rcases List.mem_cons.1 hk with rfl | hk
          · exact ready_un hr
          · have h2 := ih k hk
            by_cases e : i = k
            · subst e; exact ready_un hr
            · rwa [getD_set_ne true e] at h2
      exact this hok
    have hkun : (mark A X).getD k true = false := mark_getD_f.2 ⟨hun k hkG, fun h => hkX h.1⟩
    rw [show n + 1 + plan.length = (n + plan.length) + 1 by omega]
    refine ⟨fun h0 => ?_, fun i hir => ?_⟩
    · obtain ⟨i, hir⟩ := hok.first (mark_size A X) (fun j hj => mark_mono hj) hkG hkun
      rw [h0] at hir; cases hir
    · have hiG : i ∈ G.map (·.i) := by
        apply Classical.byContradiction
        intro hno
        have h1 := mark_getD_f.1 (ready_un hir)
        have h2 := hok.outer k hkG i (ready_lt hir) h1.1 hno
        exact not_both hkun (anc_ready hcl h2 hir)
      obtain ⟨g, hg, rfl⟩ := List.mem_map.1 hiG
      have hiX : g.i ∉ X := fun h => (mark_getD_f.1 (ready_un hir)).2 ⟨h, getD_f_lt (hun _ hiG)⟩
      obtain ⟨o, hget, howe⟩ := hob g hg
      have hi' : os.toArray[g.i]? = some o := by rw [nth_eq] at hget; simpa using hget
      obtain ⟨hask, hop⟩ := howe vs bs ((doneM X bs G ++ M0) ++ ((Jn ++ J) ++ C.A)) ((Jn ++ J) ++ C.A) w (fun x hx => by simp only [List.mem_append] at hx ⊢; rcases hx with h | h | h <;> simp [h]) (fun x hx => by simp only [List.mem_append] at hx ⊢; rcases hx with h | h <;> simp [h]) (fun x hx => List.mem_append_right _ hx) (fun g' hg' hanc => hφ g' hg' (by
        have h3 := anc_ready hcl hanc hir
        rcases mark_getD_t h3 with h4 | h4
        · exact (not_both (hun _ (List.mem_map_of_mem (f := Gv.i) hg')) h4).elim
        · exact h4))
      unfold wpOp
      simp only [hi']
      rw [if_pos (hask.wanted ha)]
      obtain ⟨R0, hp0, hd0, _, _⟩ := curM_step (bs := bs) hi hg hiX []
      have hpc : (curM X bs G ++ M0).Perm (g.m ++ (R0 ++ M0)) := by
        rw [← List.append_assoc]; exact List.Perm.append_right _ hp0
      have hcal := hw.callee hpc
      have hcal2 := St.less (A := (doneM X bs G ++ M0) ++ ((Jn ++ J) ++ C.A)) hcal fun x hx => by
        simp only [List.mem_append] at hx ⊢
        rcases hx with (h | h) | h
        · exact .inl (.inl (hd0 x h))
        · exact .inl (.inr h)
        · exact .inr h
      refine .inl (Oper.wp_mono ?_ (hop _ a w ha hcal2.cx))
      rintro a' w' ⟨l', M', J', ha', hs', v, rfl, hφv⟩
      have hsz : w.heap.size ≤ w'.heap.size := hs'.size
      have hs2 := St.widen hcal.cx hs'
      have hb := hw.back hpc hs2.cx
      obtain ⟨R1, hp1, hd1, hq1, hq2⟩ := curM_step (bs := bs) hi hg hiX M'
      let bs' : Nat → Mem := fun k => if k = g.i then M' else bs k
      have hRR : R0.Perm R1 := (List.perm_append_left_iff _).1 (hp0.symm.trans hp1)
      have hperm : (M' ++ (R0 ++ M0)).Perm (curM (X ++ [g.i]) bs' G ++ M0) := by
        rw [← List.append_assoc]
        exact List.Perm.append_right _ ((List.Perm.append_left _ hRR).trans hq1)
      have hfr2 : St C (curM (X ++ [g.i]) bs' G ++ M0) ((J' ++ Jn) ++ J) w' := (hb.perm hperm).drop (List.Sublist.refl _) fun x hx => by
        simp only [List.mem_append] at hx ⊢
        rcases hx with (h | h) | h <;> simp [h]
      refine ⟨fun _ b hb' hnk => hs'.frame b hb' fun hm => ?_, ?_⟩
      · obtain ⟨x, hx, e⟩ := List.mem_map.1 hm
        exact hnk (e ▸ hK g hg x hx)
      rw [← mark_snoc]
      have henv := gEnv_set (N := C.N) (G := toGM G) (l := l) (vs := vs) (g := ⟨g.i, g.d, fun _ _ => True⟩) (a := a') (v := v) (List.mem_map_of_mem (f := fun g : Gv => (⟨g.i, g.d, fun _ _ => True⟩ : Gm)) hg) (by rw [toGM_d]; exact hd) (by rw [toGM_i]; exact hi) (by rw [toGM_env]; exact ha')
      rw [toGM_env] at henv
      refine ih (X ++ [g.i]) (fun k => if k = g.i then v else vs k) bs' (J' ++ Jn) a' w' ?_ ?_ (by simp; omega) ?_ ?_ ?_ henv hfr2 (Nat.le_trans hn hsz)
      · rw [List.nodup_append]; exact ⟨hnd, by simp, fun x hx y hy e => hiX (by simp at hy; subst hy; exact e ▸ hx)⟩
      · intro j hj
        rcases List.mem_append.1 hj with hj | hj
        · exact hX j hj
        · simp at hj; subst hj; exact hiG
      · rw [mark_snoc]; exact closed_set hcl hir
      · intro g' hg' hm
        by_cases e : g'.i = g.i
        · have : g' = g := gv_inj hi hg' hg e
          subst this
          simp only [if_true, bs']
          exact hmono g' hg' _ _ _ _ (fun x hx => by simp only [List.mem_append] at hx ⊢; rcases hx with h | (h | h) | h <;> simp [h]) hφv
        · simp only [e, if_false, bs']
          have hm' : g'.i ∈ X := by simpa [e] using hm
          exact hmono g' hg' _ _ _ _ (fun x hx => by simp only [List.mem_append] at hx ⊢; rcases hx with (h | h) | h <;> simp [h]) (hφ g' hg' hm')
      · intro g' hg' hk x hx
        by_cases e : g'.i = g.i
        · have : g' = g := gv_inj hi hg' hg e
          subst this
          simp only [if_true, bs'] at hx
          rcases hs'.own x.1 x.2 (by simp [hx]) with h6 | h6
          · exact .inl h6
          · exact .inr (Nat.le_trans hn h6)
        · simp only [e, if_false, bs'] at hx
          have hk' : g'.i ∈ X := by simpa [e] using hk
          exact hN g' hg' hk' x hx
theorem XK.groupM (G : List Gv) (M0 : Mem) (hM : M.Perm ((G.map (·.m)).flatten ++ M0)) (hK : ∀ g ∈ G, ∀ x ∈ g.m, K x.1) (hmono : ∀ g ∈ G, GrowsO g.φ) (hd : (G.map (·.d)).Nodup) (hi : (G.map (·.i)).Nodup) (hdN : ∀ g ∈ G, g.d < C.N) (hob : ∀ g ∈ G, OwesM C os l M0 J G g)
    (h : ∀ (vs : Nat → Value) (bs : Nat → Mem) Jn, (∀ g ∈ G, g.φ (vs g.i) (bs g.i) ((Jn ++ J) ++ C.A)) → (∀ g ∈ G, (∀ b, n0 ≤ b → K b) → ∀ x ∈ bs g.i, K x.1) → XK C os Q K n0 nd plan (gEnvM G vs ++ l) (allM bs G ++ M0) (Jn ++ J)) : XK C os Q K n0 nd (enc (G.map (·.i)) ++ plan) l M J := by
  refine XK.perm hM ?_
  intro listed hcl hp a w ha hw hn
  obtain ⟨B, hok, hp2⟩ := enc_ok hp
  have hBcl : Closed os.toArray B := by
    have : ∀ {A is B}, GOk os.toArray A is B → Closed os.toArray A → Closed os.toArray B := by
      intro A is B h
      induction h with
      | nil => exact id
      | cons hr _ _ ih => exact fun hc => ih (closed_set hc hr)
    exact this hok hcl
  have hlen : (enc (G.map (·.i)) ++ plan).length = G.length + plan.length := by
    have : ∀ is : List Nat, (enc is).length = is.length := by
      intro is
      induction is with
      | nil => rfl
      | cons i r ih => cases r with
        | nil => rfl
        | cons j r => simp only [enc, List.length_cons] at ih ⊢; rw [ih]
    simp [this]
  rw [hlen]
  let vs : Nat → Value := fun k => match G.find? (fun g => g.i == k) with
    | some g => (a.tmps[g.d]?).getD undef
    | none => undef
  have hag : Ag C.N (gEnvM G vs ++ l) a := by
    refine ⟨ha.defers, ha.size, ?_⟩
    intro k u hk
    have key : ∀ G' : List Gv, (∀ g ∈ G', g ∈ G) → lk (gEnvM G' vs ++ l) k = some u → a.tmps[k]? = some u := by
      intro G'
      induction G' with
      | nil => intro _ h; exact ha.slot k u h
      | cons g G' ih =>
        intro hs h
        simp only [gEnvM, List.map_cons, List.cons_append, lk] at h
        by_cases e : g.d = k
        · subst e
          simp at h
          have hf : G.find? (fun x => x.i == g.i) = some g := by
            have hgG := hs g List.mem_cons_self
            cases hq : G.find? (fun x => x.i == g.i) with
            | none => have := List.find?_eq_none.1 hq g hgG; simp at this
            | some x =>
              have h1 := List.find?_some hq
              have h2 := List.mem_of_find?_eq_some hq
              rw [gv_inj hi h2 hgG (by simpa using h1)]
          have hlt : g.d < a.tmps.size := by rw [ha.size]; exact hdN g (hs g List.mem_cons_self)
          rw [← h]
          show a.tmps[g.d]? = some (vs g.i)
          simp only [vs, hf, Array.getElem?_eq_getElem hlt, Option.getD_some]
        · simp only [beq_ne e, cond_false] at h
          exact ih (fun x hx => hs x (List.mem_cons_of_mem _ hx)) h
    exact key G (fun _ h => h) hk
  refine groupM_go (n0 := n0) (K := K) hmono hd hi hK hob hok (fun vs bs Jn a w hφ hN ha hw hn => h vs bs Jn hφ (fun g hg hu x hx => ?_) B hBcl hp2 a w ha hw hn) G.length [] vs (fun _ => []) [] a w .nil (fun _ h => by cases h) (by simp) hcl (fun _ _ h => by cases h) (fun _ _ h => by cases h) hag (by rw [curM_nil]; exact hw) hn
  rcases hN g hg x hx with h1 | h1
  · obtain ⟨y, hy, e⟩ := List.mem_map.1 h1
    exact e ▸ hK g hg y hy
  · exact hu _ h1
end group
end Go.Px

