/- Part 17 of the texts of this claim, one behind the other. -/
import Derived.Test.YtlilcmjbaknafaaGreatDoorB16
set_option linter.unusedVariables false
set_option linter.unusedSimpArgs false
set_option maxRecDepth 100000
namespace Go.Proofs.YtlilcmjbaknafaaGreatDoor
open Go.Px
theorem B3H {s : Ps} {r : Rsd} {hk : List Nat} {hp : Nat} (h : A1p r hk = true) : opB s r hk hp = B8I (opA s r hp) r hk := if_pos h
theorem B6L {s : Ps} {r : Rsd} {hk : List Nat} {hp : Nat} (h : A1p r hk = false) : opB s r hk hp = (s, r) := if_neg (by rw [h]; decide)
theorem B1D {s : Ps} {r : Rsd} {hp : Nat} (h : r.tk = []) : opA s r hp = (s, r.tk, r.tn, r.sks) := if_pos h
theorem A5t {s : Ps} {r : Rsd} {hp : Nat} (h : r.tk ≠ []) : opA s r hp = ahX s r.tk r.tn hp r.their r.sks := if_neg h
theorem B1E {r : Rsd} {hp : Nat} (h : r.tk = []) : A8Q r hp = 0 := if_pos h
theorem A2W {r : Rsd} {hp : Nat} (h : r.tk ≠ []) : A8Q r hp = ahE r.tn hp := if_neg h
theorem B6M {b : Bool} (h : b = true) (s : Ps) (r : Rsd) : opZ b s r = opF s r := if_pos h
theorem B8n {b : Bool} (h : b = false) (s : Ps) (r : Rsd) : opZ b s r = (s, r) := if_neg (by rw [h]; decide)
theorem B6N (s : Ps) (r : Rsd) (hp : Nat) (hN : r.tn < 4294967296) (hn : hp < 4294967296) (hl : r.sks.length ≤ 1000) :
    (opA s r hp).1.ts.length ≤ s.ts.length + 48 ∧ (opA s r hp).1.n = s.n ∧ (opA s r hp).2.2.1 < 4294967296 ∧ (opA s r hp).2.2.2.length ≤ 1000 := by
  unfold opA
  split
  · exact ⟨by dsimp only; omega, rfl, hN, hl⟩
  · exact B6I s r.tk r.tn hp r.their r.sks hN hn hl
theorem len0 {l : List Nat} : (decide ((l.length : Int) = 0)) = decide (l = []) := by
  cases l with
  | nil => rfl
  | cons a l => simp only [List.length_cons]; rw [decide_eq_false (by omega), decide_eq_false (by simp)]
set_option maxHeartbeats 2000000 in
theorem B1F (pb : Nat) (s : Ps) (r : Rsd) (vo vt vr vk vl vs vw vh vg : Value) (w hk g : List Nat) (hp hn : Nat) (MP A : Mem) (hP : Prm pb s MP) (hl : s.ts.length + 500 ≤ 1000000) (hsn : s.n < 1000000000) (hr : RsR A r vo vt vr vk vl vs) (hw : By A vw w) (hh : By A vh hk) (hwl : w.length + hk.length ≤ 1000000) (hhp : hp < 4294967296) (hhn : hn < 4294967296) (hg : By A vg g) (hgl : g.length ≤ 10000000) (hSel : W2 s.ts) (hK1 : ∀ k, A5l r.sks hk hn = some k → Kok s k) (hS2 : W2 (opD (opB s r hk hp) hn).ts) (hK2 : Kok (opD (opB s r hk hp) hn) (A8Z (opB s r hk hp) hn)) (hG : Glb A) : FnX Tryz.prog 28 [.pointer (some ⟨pb, 0, none⟩), .agg (rsC vo vt vr vk vl vs r).toArray, vw, .agg #[vh, .int .u32 ((hp : Nat) : Int), .int .u32 ((hn : Nat) : Int)], vg] MP A fun q M J => ∃ q1 q2, q = .tuple #[q1, q2, .int .i64 (P6 s r w hk hp hn g).2.2.1] ∧ Prm pb (P6 s r w hk hp hn g).1 M ∧ RsV (J ++ A) q1 (P6 s r w hk hp hn g).2.1 ∧ By (J ++ A) q2 (P6 s r w hk hp hn g).2.2.2 := by
 haveI := hr.own.cel
 haveI := hr.their.cel
 haveI := hr.root.cel
 haveI := hr.sk.cel
 haveI := hr.tk.cel
 haveI := hw.cel
 haveI := hh.cel
 haveI := hg.cel
 have hst := hr.st
 obtain ⟨sb, u0, rows0, rfl, hsb, hrd0, hrw0⟩ := hst
 unfold rsC
 refine FnX.enterZ (N := 181) Tryz.func28 rfl rfl rfl fun w_ => ?_
 refine B0 (E5 0 1 2 3 4) (A1 ?_)
 refine A4 rfl (bx_ fun b6 => ?_)
 refine A4 rfl (bx_ fun b8 => ?_)
 refine A4 rfl (C4 (cs := [.slice none 0 0, .slice none 0 0, .slice none 0 0, .slice none 0 0, F7, .slice none 0 0, F7, F7, .pointer none]) kR rfl fun b10 => ?_)
 refine as_ (as_ (A0 (H9 0 2 4 6 8 10) (A1 (mv_ ?_))))
 refine A2 (qw_ 3) rfl ?_
 refine C6 (aS rfl (aS rfl a0)) kR (B04 vw vh w hk hp hn _ (hw.mono SubC.sub) (hh.mono SubC.sub) (by omega) hhp hhn) rfl ?_
 rintro v31 M31 J31 ⟨rfl, h31⟩
 haveI := h31.cel
 change By _ v31 (alW w hk hp hn) at h31
 have hal : (alW w hk hp hn).length ≤ 2000000 := by unfold alW; rw [A2l, A14]; omega
 refine as_ (A0 (H9 0 4 6 8 10 13) (A3 (A1 ?_)))
 refine A2 (qf_ 8 8) rfl ?_
 refine A2 ql_ rfl ?_
 refine A2 (qf_ 0 0) rfl ?_
 refine A2 ql_ rfl ?_
 refine A2 (qf_ 2 2) rfl ?_
 refine A2 ql_ rfl ?_
 refine C6 (aS rfl (aS rfl (aS rfl a0))) kR (B3r sb u0 vh rows0 r.sks hk hn _ (mA hsb) (hrd0.mono SubC.sub) (hrw0.mono skT SubC.sub) (by have := hr.sks; omega) (hh.mono SubC.sub)) rfl ?_
 rintro v39 M39 J39 ⟨rfl, u39, rfl, h39⟩
 haveI := h39.cel
 refine mv_ ?_
 refine A2 (A1l rfl) rfl ?_
 refine A2 (A1g rfl) rfl ?_
 refine as_ (as_ (A0 (V7 0 4 6 8 10 13 14 15) (A1 (mv_ (A0 (V7 0 4 6 8 10 13 14 42) ?_)))))
 refine C0 rfl (fun hc => ?_) (fun hc => ?_)
 ·
  obtain ⟨k, hgk⟩ : ∃ k, A5l r.sks hk hn = some k := Option.isSome_iff_exists.1 hc
  rw [hgk, Option.getD_some] at h39
  refine A1 (mv_ (mv_ (mv_ (mv_ ?_))))
  refine C6 (aS rfl (aS rfl (aS rfl (aS rfl a0)))) kR (B1t pb s u39 v31 vg k (alW w hk hp hn) g MP _ hP (by intro x hx; simp [hx]) (by omega) hSel (h39.mono SubC.sub) (h31.mono SubC.sub) (hg.mono SubC.sub) (hK1 k hgk) (by omega) hG.up) rfl ?_
  rintro v48 M48 J48 ⟨rfl, u48, rfl, h48⟩
  haveI := h48.cel
  refine mv_ ?_
  refine A2 (A1l rfl) rfl ?_
  refine A2 (A1g rfl) rfl ?_
  refine as_ (as_ (A0 (E5 6 8 10 16 17) (A3 (A1 (mv_ ?_)))))
  refine A2 (A1f rfl) rfl ?_
  refine A0 (E5 6 8 10 16 52) ?_
  refine C0 rfl (fun hc => ?_) (fun hc => ?_)
  ·
   have hno : A1H s k (alW w hk hp hn) g = none := by simpa using hc
   refine A1 ?_
   refine A2 (qw_ 9) rfl ?_
   refine A4 rfl (A9 (vs := [vo, vt, vr, vk, .int .u32 ((r.sn : Nat) : Int), vl, .int .u32 ((r.tn : Nat) : Int), .int .u32 ((r.prev : Nat) : Int), .pointer (some ⟨sb, 0, none⟩)]) rfl rfl rfl kR (by rfl) (A7 hr.own.one (A7 hr.their.one (A7 hr.root.one (A7 hr.sk.one (A7 rfl (A7 hr.tk.one al3)))))) UpC.upd ?_)
   refine as_ (as_ (A0 (D4 10 11 12) (B4 (tr (tr ?_)))))
   rw [B8m hgk hno]
   exact ⟨_, MP, [], A3R (n := 9) rfl rfl rfl rfl kR At.mem (by rfl), Fit.none (Fit.last PickC.perm), _, _, rfl, hP, ⟨vo, vt, vr, vk, vl, _, rfl, hr.mono SubC.sub⟩, By.nil⟩
  ·
   obtain ⟨t, hot⟩ : ∃ t, A1H s k (alW w hk hp hn) g = some t := by
    cases hq : A1H s k (alW w hk hp hn) g with
    | none => rw [hq] at hc; cases hc
    | some t => exact ⟨t, rfl⟩
   rw [hot, Option.getD_some] at h48
   refine A6 (nx (D6 6 8 10 16) (A1 ?_))
   refine A2 (qw_ 9) rfl ?_
   refine C6 (aS rfl a0) kR (FnX.amb SubC.sub (A3I r vo vt vr vk vl _ A hr)) rfl ?_
   rintro v66 M66 J66 ⟨cb, rfl, hSt⟩
   unfold rsC
   refine A4 rfl (C4 (cs := [.slice none 0 0, .slice none 0 0, .slice none 0 0, .slice none 0 0, F7, .slice none 0 0, F7, F7, .pointer none]) kR rfl fun b18 => ?_)
   refine A4 rfl (A9 (vs := [vo, vt, vr, vk, .int .u32 ((r.sn : Nat) : Int), vl, .int .u32 ((r.tn : Nat) : Int), .int .u32 ((r.prev : Nat) : Int), .pointer (some ⟨cb, 0, none⟩)]) rfl rfl rfl kR (by rfl) (A7 hr.own.one (A7 hr.their.one (A7 hr.root.one (A7 hr.sk.one (A7 rfl (A7 hr.tk.one al3)))))) UpC.upd ?_)
   refine A0 (D6 8 10 16 18) (A1 ?_)
   refine A2 (qf_ 8 8) rfl ?_
   refine A2 ql_ rfl ?_
   refine A2 (qf_ 0 0) rfl ?_
   refine A2 ql_ rfl ?_
   refine A2 (qf_ 2 2) rfl ?_
   refine A2 ql_ rfl ?_
   refine A4 rfl (E0 (Mc := M66) (R := _) (aS rfl (aS rfl (aS rfl (a0)))) kR PickC.perm (B0U cb vh r.sks hk hn A M66 _ hSt SubC.sub (by have := hr.sks; omega) hh) rfl ?_)
   rintro v62 M62 J62 ⟨rfl, hSt2⟩
   obtain ⟨u5, rows5, BS5, rfl, hs5, hw5⟩ := hSt2.ex
   have hrd5 := hs5.rd (R := BS5) fun _ h => h
   refine A0 (D4 10 16 18) ?_
   refine A0F (B := (cb, blk [u5] 80) :: BS5) PickC.perm ?_
   refine A1 ?_
   refine A2 (qw_ 9) rfl ?_
   refine mv_ ?_
   refine A4 rfl (A9 (vs := [vo, vt, vr, vk, .int .u32 ((r.sn : Nat) : Int), vl, .int .u32 ((r.tn : Nat) : Int), .int .u32 ((r.prev : Nat) : Int), .pointer (some ⟨cb, 0, none⟩)]) rfl rfl rfl kR (by rfl) (A7 hr.own.one (A7 hr.their.one (A7 hr.root.one (A7 hr.sk.one (A7 rfl (A7 hr.tk.one al3)))))) UpC.upd ?_)
   refine as_ (as_ (A0 (D4 10 11 12) (B4 (tr ?_))))
   rw [B6J hgk hot]
   exact ⟨_, MP, [], A3R (n := 9) rfl rfl rfl rfl kR At.mem (by rfl), Fit.none (Fit.last PickC.perm), _, u48, rfl, hP, ⟨vo, vt, vr, vk, vl, _, rfl, ⟨hr.own.mono SubC.sub, hr.their.mono SubC.sub, hr.root.mono SubC.sub, hr.sk.mono SubC.sub, hr.tk.mono SubC.sub, ⟨cb, u5, rows5, rfl, by simp, hrd5.mono SubC.sub, hw5.mono skT SubC.sub⟩, hr.sn, hr.tn, hr.prev, Nat.le_trans (A5k _ _ _) hr.sks⟩⟩, h48.mono SubC.sub⟩
 ·
  have hgn : A5l r.sks hk hn = none := by simpa using hc
  refine A6 (nx (H9 0 4 6 8 10 13) (A1 ?_))
  refine A2 (qw_ 9) rfl ?_
  refine C6 (aS rfl a0) kR (FnX.amb SubC.sub (A3I r vo vt vr vk vl _ A hr)) rfl ?_
  rintro v66 M66 J66 ⟨cb, rfl, hSt⟩
  unfold rsC
  refine A4 rfl (C4 (cs := [.slice none 0 0, .slice none 0 0, .slice none 0 0, .slice none 0 0, F7, .slice none 0 0, F7, F7, .pointer none]) kR rfl fun b19 => ?_)
  refine A4 rfl (A9 (vs := [vo, vt, vr, vk, .int .u32 ((r.sn : Nat) : Int), vl, .int .u32 ((r.tn : Nat) : Int), .int .u32 ((r.prev : Nat) : Int), .pointer (some ⟨cb, 0, none⟩)]) rfl rfl rfl kR (by rfl) (A7 hr.own.one (A7 hr.their.one (A7 hr.root.one (A7 hr.sk.one (A7 rfl (A7 hr.tk.one al3)))))) UpC.upd ?_)
  refine A0 (R9 0 4 6 8 10 13 19) ?_
  refine N3 (α := Mem) (fun _ => [(0, .pointer (some ⟨pb, 0, none⟩)), (4, vg), (6, .pointer (some ⟨b6, 0, none⟩)), (8, .pointer (some ⟨b8, 0, none⟩)), (10, .pointer (some ⟨b10, 0, none⟩)), (13, v31), (19, .pointer (some ⟨b19, 0, none⟩)), (20, .bool (A1p r hk))]) (fun _ => [(b19, blk [vo, vt, vr, vk, .int .u32 ((r.sn : Nat) : Int), vl, .int .u32 ((r.tn : Nat) : Int), .int .u32 ((r.prev : Nat) : Int), .pointer (some ⟨cb, 0, none⟩)] 41), (b10, blk [.slice none 0 0, .slice none 0 0, .slice none 0 0, .slice none 0 0, .int .u32 0, .slice none 0 0, .int .u32 0, .int .u32 0, .pointer none] 41), (b8, blk [vh, .int .u32 ((hp : Nat) : Int), .int .u32 ((hn : Nat) : Int)] 29), (b6, blk [vo, vt, vr, vk, .int .u32 ((r.sn : Nat) : Int), vl, .int .u32 ((r.tn : Nat) : Int), .int .u32 ((r.prev : Nat) : Int), .pointer (some ⟨sb, 0, none⟩)] 41)] ++ (MP ++ M66)) (fun J => J) (fun J => By (J ++ A) v31 (alW w hk hp hn)) ?_ ?_
  ·
   refine A8 ?_
   refine A2 (qf_ 0 0) rfl ?_
   refine A2 ql_ rfl ?_
   refine A2 (qf_ 1 1) rfl ?_
   refine A2 ql_ rfl ?_
   refine F3 (aS rfl (aS rfl a0)) kR (P5 vh vt hk r.their _ (hh.mono SubC.sub) (hr.their.mono SubC.sub)) rfl ?_
   refine A2 (A1f rfl) rfl ?_
   refine mv_ ?_
   refine X3 (t := 73) rfl (fun hb => ?_) (fun hb => ?_)
   ·
    refine K3 rfl rfl rfl rfl ?_
    refine K3 rfl rfl rfl rfl ?_
    refine K3 rfl rfl rfl rfl ?_
    refine K3 rfl rfl rfl rfl ?_
    refine K3 rfl rfl rfl rfl ?_
    refine A2 (E1 rfl rfl) rfl ?_
    refine as_ (C1 ?_)
    exact jn _ (h31.mono SubC.sub) (kq 0 (kq 4 (kq 6 (kq 8 (kq 10 (kq 13 (kq 19 (kp 20 (by unfold A1p; rw [hb]; rfl) kn)))))))) (Fit.pick (B := [(b19, blk [vo, vt, vr, vk, .int .u32 ((r.sn : Nat) : Int), vl, .int .u32 ((r.tn : Nat) : Int), .int .u32 ((r.prev : Nat) : Int), .pointer (some ⟨cb, 0, none⟩)] 41)]) PickC.perm (Fit.pick (B := [(b10, blk [.slice none 0 0, .slice none 0 0, .slice none 0 0, .slice none 0 0, .int .u32 0, .slice none 0 0, .int .u32 0, .int .u32 0, .pointer none] 41)]) PickC.perm (Fit.pick (B := [(b8, blk [vh, .int .u32 ((hp : Nat) : Int), .int .u32 ((hn : Nat) : Int)] 29)]) PickC.perm (Fit.pick (B := [(b6, blk [vo, vt, vr, vk, .int .u32 ((r.sn : Nat) : Int), vl, .int .u32 ((r.tn : Nat) : Int), .int .u32 ((r.prev : Nat) : Int), .pointer (some ⟨sb, 0, none⟩)] 41)]) PickC.perm (Fit.pick (B := MP) PickC.perm (Fit.last PickC.perm)))))) (fun _ h => h)
   ·
    refine F8 rfl rfl (OpQ.opL (qf_ 5 5) rfl ?_)
    refine F8 rfl rfl (OpQ.opL (qf_ 5 0) rfl ?_)
    refine F8 rfl rfl (OpQ.opL ql_ rfl ?_)
    refine F8 rfl rfl (OpQ.opL (G3 (sz := 1) rfl kR hr.tk.rd) rfl ?_)
    refine F8 rfl rfl (OpQ.opL (D8 rfl rfl rfl) rfl ?_)
    refine A2 (F6 rfl rfl) rfl ?_
    refine as_ (C1 ?_)
    exact jn _ (h31.mono SubC.sub) (kq 0 (kq 4 (kq 6 (kq 8 (kq 10 (kq 13 (kq 19 (kp 20 (by unfold A1p; rw [hb, Bool.false_or, ← len0]; rfl) kn)))))))) (Fit.pick (B := [(b19, blk [vo, vt, vr, vk, .int .u32 ((r.sn : Nat) : Int), vl, .int .u32 ((r.tn : Nat) : Int), .int .u32 ((r.prev : Nat) : Int), .pointer (some ⟨cb, 0, none⟩)] 41)]) PickC.perm (Fit.pick (B := [(b10, blk [.slice none 0 0, .slice none 0 0, .slice none 0 0, .slice none 0 0, .int .u32 0, .slice none 0 0, .int .u32 0, .int .u32 0, .pointer none] 41)]) PickC.perm (Fit.pick (B := [(b8, blk [vh, .int .u32 ((hp : Nat) : Int), .int .u32 ((hn : Nat) : Int)] 29)]) PickC.perm (Fit.pick (B := [(b6, blk [vo, vt, vr, vk, .int .u32 ((r.sn : Nat) : Int), vl, .int .u32 ((r.tn : Nat) : Int), .int .u32 ((r.prev : Nat) : Int), .pointer (some ⟨sb, 0, none⟩)] 41)]) PickC.perm (Fit.pick (B := MP) PickC.perm (Fit.last PickC.perm)))))) (fun _ h => h)
  ·
   rintro J12 h31
   try dsimp only at h31 ⊢
   haveI := h31.cel
   have hab := B6N s r hp hr.tn hhp hr.sks
   obtain ⟨x, hx0⟩ : ∃ z, opB s r hk hp = z := ⟨_, rfl⟩
   refine N3 (α := Mem × Mem × Mem × Value × Value × Value) (fun y => [(0, .pointer (some ⟨pb, 0, none⟩)), (4, vg), (6, .pointer (some ⟨b6, 0, none⟩)), (8, .pointer (some ⟨b8, 0, none⟩)), (10, .pointer (some ⟨b10, 0, none⟩)), (13, v31), (19, .pointer (some ⟨b19, 0, none⟩)), (20, .bool (A1p r hk))]) (fun y => [(b19, blk [vo, y.2.2.2.1, y.2.2.2.2.1, vk, .int .u32 ((r.sn : Nat) : Int), y.2.2.2.2.2, .int .u32 ((x.2.tn : Nat) : Int), .int .u32 ((r.prev : Nat) : Int), .pointer (some ⟨cb, 0, none⟩)] 41), (b10, blk [.slice none 0 0, .slice none 0 0, .slice none 0 0, .slice none 0 0, .int .u32 0, .slice none 0 0, .int .u32 0, .int .u32 0, .pointer none] 41), (b8, blk [vh, .int .u32 ((hp : Nat) : Int), .int .u32 ((hn : Nat) : Int)] 29), (b6, blk [vo, vt, vr, vk, .int .u32 ((r.sn : Nat) : Int), vl, .int .u32 ((r.tn : Nat) : Int), .int .u32 ((r.prev : Nat) : Int), .pointer (some ⟨sb, 0, none⟩)] 41)] ++ (y.1 ++ y.2.1)) (fun y => y.2.2.1) (fun y => Prm pb x.1 y.1 ∧ Sto (y.2.2.1 ++ A) cb x.2.sks y.2.1 ∧ By (y.2.2.1 ++ A) y.2.2.2.1 x.2.their ∧ By (y.2.2.1 ++ A) y.2.2.2.2.1 x.2.root ∧ By (y.2.2.1 ++ A) y.2.2.2.2.2 x.2.tk ∧ By (y.2.2.1 ++ A) v31 (alW w hk hp hn) ∧ (A1p r hk = true → A8Q r hp = 0)) ?_ ?_
   ·
    refine A1 (mv_ (A0 (Z9 0 4 6 8 10 13 19 20 80) ?_))
    refine C0 rfl (fun hc => ?_) (fun hc => ?_)
    ·
     have hfr : A1p r hk = true := hc
     refine N3 (α := Mem × Mem × Mem × Value) (fun y => [(0, .pointer (some ⟨pb, 0, none⟩)), (4, vg), (6, .pointer (some ⟨b6, 0, none⟩)), (8, .pointer (some ⟨b8, 0, none⟩)), (10, .pointer (some ⟨b10, 0, none⟩)), (13, v31), (19, .pointer (some ⟨b19, 0, none⟩)), (20, .bool (A1p r hk))]) (fun y => [(b19, blk [vo, vt, vr, vk, .int .u32 ((r.sn : Nat) : Int), y.2.2.2, .int .u32 (((opA s r hp).2.2.1 : Nat) : Int), .int .u32 ((r.prev : Nat) : Int), .pointer (some ⟨cb, 0, none⟩)] 41), (b10, blk [.slice none 0 0, .slice none 0 0, .slice none 0 0, .slice none 0 0, .int .u32 0, .slice none 0 0, .int .u32 0, .int .u32 0, .pointer none] 41), (b8, blk [vh, .int .u32 ((hp : Nat) : Int), .int .u32 ((hn : Nat) : Int)] 29), (b6, blk [vo, vt, vr, vk, .int .u32 ((r.sn : Nat) : Int), vl, .int .u32 ((r.tn : Nat) : Int), .int .u32 ((r.prev : Nat) : Int), .pointer (some ⟨sb, 0, none⟩)] 41)] ++ (y.1 ++ y.2.1)) (fun y => y.2.2.1) (fun y => Prm pb (opA s r hp).1 y.1 ∧ Sto (y.2.2.1 ++ A) cb (opA s r hp).2.2.2 y.2.1 ∧ By (y.2.2.1 ++ A) y.2.2.2 (opA s r hp).2.1 ∧ By (y.2.2.1 ++ A) v31 (alW w hk hp hn) ∧ A8Q r hp = 0) ?_ ?_
     ·
      refine A1 ?_
      refine A2 (qf_ 5 5) rfl ?_
      refine A2 (qf_ 5 0) rfl ?_
      refine A2 ql_ rfl ?_
      refine A2 (G3 (sz := 1) rfl kR hr.tk.rd) rfl ?_
      refine A2 (D8 rfl rfl rfl) rfl ?_
      refine A0 (Z9 0 4 6 8 10 13 19 20 85) ?_
      refine C0 rfl (fun hc => ?_) (fun hc => ?_)
      ·
       have htk : r.tk ≠ [] := by intro e; rw [e] at hc; simp [I2] at hc
       rw [A5t htk, A2W htk] at *
       refine A1 (mv_ ?_)
       refine A2 (qf_ 5 5) rfl ?_
       refine A2 (Q6 (n := 2) rfl kR (by first | exact At.mem | exact mA (by assumption)) TakeC.take) rfl ?_
       refine A2 (qf_ 1 1) rfl ?_
       refine A2 ql_ rfl ?_
       refine A2 (qf_ 1 1) rfl ?_
       refine A2 ql_ rfl ?_
       refine A2 (qf_ 8 8) rfl ?_
       refine A2 ql_ rfl ?_
       refine A4 rfl (E0 (Mc := MP ++ M66) (R := _) (aS rfl (aS rfl (aS rfl (aS rfl (aS rfl (a0)))))) kR PickC.perm (B1B pb cb s vl vt r.tk r.their r.tn hp r.sks A MP M66 _ hP hSt SubC.sub hr.tk hr.their hr.sks hhp (by omega) hG.up) rfl ?_)
       rintro v96 M96 J96 ⟨MP1, MS1, ka, rfl, rfl, hP1, hSt1, ka_⟩
       haveI := ka_.cel
       refine mv_ ?_
       refine A2 (A1l rfl) rfl ?_
       refine A2 (A1g rfl) rfl ?_
       refine A4 rfl (C4 (cs := [.slice none 0 0, .int .u32 0]) kR rfl fun b21 => ?_)
       refine A4 rfl (A9 (vs := [ka, .int .u32 (((ahX s r.tk r.tn hp r.their r.sks).2.2.1 : Nat) : Int)]) rfl rfl rfl kR (by rfl) (A7 ka_.one (A7 rfl K9)) UpC.upd ?_)
       refine as_ (A0 (kq 0 (Z9 4 6 8 10 13 19 20 21 22)) (A3 (A1 (mv_ ?_))))
       refine A2 (D8 rfl rfl rfl) rfl ?_
       refine A0 (kq 0 (kq 4 (Z9 6 8 10 13 19 20 21 22 100))) ?_
       refine C0 rfl (fun hc => ?_) (fun hc => ?_)
       ·
        have hE : ahE r.tn hp ≠ 0 := by intro e; rw [e] at hc; simp [I2] at hc
        refine A1 ?_
        refine A2 (qw_ 9) rfl ?_
        refine mv_ ?_
        refine A4 rfl (A9 (vs := [vo, vt, vr, vk, .int .u32 ((r.sn : Nat) : Int), vl, .int .u32 ((r.tn : Nat) : Int), .int .u32 ((r.prev : Nat) : Int), .pointer (some ⟨sb, 0, none⟩)]) rfl rfl rfl kR (by rfl) (A7 hr.own.one (A7 hr.their.one (A7 hr.root.one (A7 hr.sk.one (A7 rfl (A7 hr.tk.one al3)))))) UpC.upd ?_)
        refine as_ (as_ (A0 (D4 10 11 12) (B4 (tr (jr (jr ?_))))))
        rw [B6K hgn hfr (by rw [A2W htk]; exact hE), A2W htk, A5t htk]
        exact ⟨_, MP1, [], A3R (n := 9) rfl rfl rfl rfl kR At.mem (by rfl), Fit.none (Fit.last PickC.perm), _, _, rfl, hP1, ⟨vo, vt, vr, vk, vl, _, rfl, hr.mono SubC.sub⟩, By.nil⟩
       ·
        have hE : ahE r.tn hp = 0 := by simpa [I2] using hc
        refine A6 (nx (Z9 0 4 6 8 10 13 19 20 21) (A8 ?_))
        refine A2 (qw_ 2) rfl ?_
        refine A2 (qf_ 5 5) rfl ?_
        refine A4 rfl (N7 (vs := [ka, .int .u32 (((ahX s r.tk r.tn hp r.their r.sks).2.2.1 : Nat) : Int)]) (cs' := [vo, vt, vr, vk, .int .u32 ((r.sn : Nat) : Int), ka, .int .u32 (((ahX s r.tk r.tn hp r.their r.sks).2.2.1 : Nat) : Int), .int .u32 ((r.prev : Nat) : Int), .pointer (some ⟨cb, 0, none⟩)]) rfl rfl rfl kR (by exact (show 5 + 2 ≤ 9 by decide)) (A7 ka_.one (A7 rfl K9)) rfl UpC.upd ?_)
        refine C1 ?_
        exact jn (MP1, MS1, J96 ++ J12, ka) ⟨hP1, hSt1.mono SubC.sub, ka_.mono SubC.sub, h31.mono SubC.sub, hE⟩ (V7 0 4 6 8 10 13 19 20) (Fit.pick (B := [(b19, blk [vo, vt, vr, vk, .int .u32 ((r.sn : Nat) : Int), ka, .int .u32 (((ahX s r.tk r.tn hp r.their r.sks).2.2.1 : Nat) : Int), .int .u32 ((r.prev : Nat) : Int), .pointer (some ⟨cb, 0, none⟩)] 41)]) PickC.perm (Fit.pick (B := [(b10, blk [.slice none 0 0, .slice none 0 0, .slice none 0 0, .slice none 0 0, .int .u32 0, .slice none 0 0, .int .u32 0, .int .u32 0, .pointer none] 41)]) PickC.perm (Fit.pick (B := [(b8, blk [vh, .int .u32 ((hp : Nat) : Int), .int .u32 ((hn : Nat) : Int)] 29)]) PickC.perm (Fit.pick (B := [(b6, blk [vo, vt, vr, vk, .int .u32 ((r.sn : Nat) : Int), vl, .int .u32 ((r.tn : Nat) : Int), .int .u32 ((r.prev : Nat) : Int), .pointer (some ⟨sb, 0, none⟩)] 41)]) PickC.perm (Fit.pick (B := MP1) PickC.perm (Fit.last PickC.perm)))))) (fun _ h => h)
      ·
       have htk : r.tk = [] := by cases hq : r.tk with | nil => rfl | cons a l => rw [hq] at hc; simp [I2] at hc
       refine A6 ?_
       rw [B1D htk, B1E htk]
       exact jn (MP, M66, J12, vl) ⟨hP, hSt.mono SubC.sub, hr.tk.mono SubC.sub, h31, rfl⟩ (V7 0 4 6 8 10 13 19 20) (Fit.pick (B := [(b19, blk [vo, vt, vr, vk, .int .u32 ((r.sn : Nat) : Int), vl, .int .u32 ((r.tn : Nat) : Int), .int .u32 ((r.prev : Nat) : Int), .pointer (some ⟨cb, 0, none⟩)] 41)]) PickC.perm (Fit.pick (B := [(b10, blk [.slice none 0 0, .slice none 0 0, .slice none 0 0, .slice none 0 0, .int .u32 0, .slice none 0 0, .int .u32 0, .int .u32 0, .pointer none] 41)]) PickC.perm (Fit.pick (B := [(b8, blk [vh, .int .u32 ((hp : Nat) : Int), .int .u32 ((hn : Nat) : Int)] 29)]) PickC.perm (Fit.pick (B := [(b6, blk [vo, vt, vr, vk, .int .u32 ((r.sn : Nat) : Int), vl, .int .u32 ((r.tn : Nat) : Int), .int .u32 ((r.prev : Nat) : Int), .pointer (some ⟨sb, 0, none⟩)] 41)]) PickC.perm (Fit.pick (B := MP) PickC.perm (Fit.last PickC.perm)))))) (fun _ h => h)
     ·
      rintro ⟨MP1, MS1, J18, ka⟩ ⟨hP1, hSt1, ka_, h31, hAE⟩
      dsimp only at hP1 hSt1 ka_ h31 ⊢
      haveI := h31.cel
      haveI := ka_.cel
      obtain ⟨xa, hxa⟩ : ∃ z, opA s r hp = z := ⟨_, rfl⟩
      rw [hxa] at hP1 hSt1 ka_ hab ⊢
      have htl := A1b xa.1 r.root r.own hk
      refine A1 (mv_ ?_)
      refine A2 (qf_ 2 2) rfl ?_
      refine A2 ql_ rfl ?_
      refine A2 (qf_ 0 0) rfl ?_
      refine A2 ql_ rfl ?_
      refine A2 (qf_ 0 0) rfl ?_
      refine A2 ql_ rfl ?_
      refine A4 rfl (E0 (Mc := MP1) (R := _) (aS rfl (aS rfl (aS rfl (aS rfl (a0))))) kR PickC.perm (B02 pb xa.1 vr vo vh r.root r.own hk MP1 _ hP1 (by omega) (hr.root.mono SubC.sub) (hr.own.mono SubC.sub) (hh.mono SubC.sub) hG.up) rfl ?_)
      rintro v113 M113 J113 ⟨y0, y1, rfl, hP113, gy0, gy1⟩
      haveI := gy0.cel
      haveI := gy1.cel
      refine mv_ ?_
      refine A2 (A1l rfl) rfl ?_
      refine A2 (A1g rfl) rfl ?_
      refine A2 (qf_ 2 2) rfl ?_
      refine A4 rfl (D5 rfl rfl gy0.one kR SetC.set UpC.upd ?_)
      refine A2 (qf_ 5 5) rfl ?_
      refine A4 rfl (N7 (vs := [y1, .int .u32 ((0 : Nat) : Int)]) (cs' := [vo, vt, y0, vk, .int .u32 ((r.sn : Nat) : Int), y1, .int .u32 ((0 : Nat) : Int), .int .u32 ((r.prev : Nat) : Int), .pointer (some ⟨cb, 0, none⟩)]) rfl rfl rfl kR (by exact (show 5 + 2 ≤ 9 by decide)) (A7 gy1.one (A7 rfl K9)) rfl UpC.upd ?_)
      refine A0 (V7 0 4 6 8 10 13 19 20) (A8 ?_)
      refine A2 (qf_ 0 0) rfl ?_
      refine A2 ql_ rfl ?_
      refine C6 (aS rfl a0) kR (A0A vh hk _ (hh.mono SubC.sub)) rfl ?_
      rintro v120 M120 J120 ⟨rfl, h120⟩
      haveI := h120.cel
      refine A2 (qf_ 1 1) rfl ?_
      refine A4 rfl (D5 rfl rfl h120.one kR SetC.set UpC.upd ?_)
      refine C1 ?_
      have e : x = B8I xa r hk := by rw [← hx0, B3H hfr, hxa]
      rw [e]
      exact jn (M113, MS1, J120 ++ (J113 ++ J18), v120, y0, y1) ⟨hP113, hSt1.mono SubC.sub, h120.mono SubC.sub, gy0.mono SubC.sub, gy1.mono SubC.sub, h31.mono SubC.sub, fun _ => hAE⟩ (V7 0 4 6 8 10 13 19 20) (Fit.pick (B := [(b19, blk [vo, v120, y0, vk, .int .u32 ((r.sn : Nat) : Int), y1, .int .u32 ((0 : Nat) : Int), .int .u32 ((r.prev : Nat) : Int), .pointer (some ⟨cb, 0, none⟩)] 41)]) PickC.perm (Fit.pick (B := [(b10, blk [.slice none 0 0, .slice none 0 0, .slice none 0 0, .slice none 0 0, .int .u32 0, .slice none 0 0, .int .u32 0, .int .u32 0, .pointer none] 41)]) PickC.perm (Fit.pick (B := [(b8, blk [vh, .int .u32 ((hp : Nat) : Int), .int .u32 ((hn : Nat) : Int)] 29)]) PickC.perm (Fit.pick (B := [(b6, blk [vo, vt, vr, vk, .int .u32 ((r.sn : Nat) : Int), vl, .int .u32 ((r.tn : Nat) : Int), .int .u32 ((r.prev : Nat) : Int), .pointer (some ⟨sb, 0, none⟩)] 41)]) PickC.perm (Fit.pick (B := M113) PickC.perm (Fit.last PickC.perm)))))) (fun _ h => h)
    ·
     have hfr : A1p r hk = false := hc
     refine A6 ?_
     have e : x = (s, r) := by rw [← hx0, B6L hfr]
     rw [e]
     exact jn (MP, M66, J12, vt, vr, vl) ⟨hP, hSt.mono SubC.sub, hr.their.mono SubC.sub, hr.root.mono SubC.sub, hr.tk.mono SubC.sub, h31, fun h => by rw [hfr] at h; cases h⟩ (V7 0 4 6 8 10 13 19 20) (Fit.pick (B := [(b19, blk [vo, vt, vr, vk, .int .u32 ((r.sn : Nat) : Int), vl, .int .u32 ((r.tn : Nat) : Int), .int .u32 ((r.prev : Nat) : Int), .pointer (some ⟨cb, 0, none⟩)] 41)]) PickC.perm (Fit.pick (B := [(b10, blk [.slice none 0 0, .slice none 0 0, .slice none 0 0, .slice none 0 0, .int .u32 0, .slice none 0 0, .int .u32 0, .int .u32 0, .pointer none] 41)]) PickC.perm (Fit.pick (B := [(b8, blk [vh, .int .u32 ((hp : Nat) : Int), .int .u32 ((hn : Nat) : Int)] 29)]) PickC.perm (Fit.pick (B := [(b6, blk [vo, vt, vr, vk, .int .u32 ((r.sn : Nat) : Int), vl, .int .u32 ((r.tn : Nat) : Int), .int .u32 ((r.prev : Nat) : Int), .pointer (some ⟨sb, 0, none⟩)] 41)]) PickC.perm (Fit.pick (B := MP) PickC.perm (Fit.last PickC.perm)))))) (fun _ h => h)
   ·
    have hxb : x.1.ts.length ≤ s.ts.length + 55 ∧ x.1.n = s.n ∧ x.2.tn < 4294967296 ∧ x.2.sks.length ≤ 1000 := by
     have hab := B6N s r hp hr.tn hhp hr.sks
     have htl := A1b (opA s r hp).1 r.root r.own hk
     cases hf : A1p r hk with
     | true => rw [← hx0, B3H hf]; exact ⟨by show (A3T _ _ _ _).ts.length ≤ _; omega, htl.2.trans hab.2.1, (show 0 < 4294967296 by decide), hab.2.2.2⟩
     | false => rw [← hx0, B6L hf]; exact ⟨Nat.le_add_right _ _, rfl, hr.tn, hr.sks⟩
    have hcb := B6I x.1 x.2.tk x.2.tn hn x.2.their x.2.sks hxb.2.2.1 hhn hxb.2.2.2
    change (opC x hn).1.ts.length ≤ _ ∧ (opC x hn).1.n = _ ∧ (opC x hn).2.2.1 < _ ∧ (opC x hn).2.2.2.length ≤ _ at hcb
    have hsl := A0n (opC x hn).1 (opC x hn).2.1
    change (opD x hn).ts.length ≤ _ ∧ (opD x hn).n = _ ∧ _ at hsl
    have hfl := A0z (opD x hn)
    rintro ⟨MP2, MS2, J20, zt, zr, zk⟩ ⟨hP2, hSt2, zt_, zr_, zk_, h31, hF0⟩
    dsimp only at hP2 hSt2 zt_ zr_ zk_ h31 ⊢
    haveI := h31.cel
    haveI := zt_.cel
    haveI := zr_.cel
    haveI := zk_.cel
    refine A1 (mv_ ?_)
    refine A2 (qf_ 5 5) rfl ?_
    refine A2 (Q6 (n := 2) rfl kR (by first | exact At.mem | exact mA (by assumption)) TakeC.take) rfl ?_
    refine A2 (qf_ 1 1) rfl ?_
    refine A2 ql_ rfl ?_
    refine A2 (qf_ 2 2) rfl ?_
    refine A2 ql_ rfl ?_
    refine A2 (qf_ 8 8) rfl ?_
    refine A2 ql_ rfl ?_
    refine A4 rfl (E0 (Mc := MP2 ++ MS2) (R := _) (aS rfl (aS rfl (aS rfl (aS rfl (aS rfl (a0)))))) kR PickC.perm (B1B pb cb x.1 zk zt x.2.tk x.2.their x.2.tn hn x.2.sks (J20 ++ A) MP2 MS2 _ hP2 hSt2 SubC.sub zk_ zt_ hxb.2.2.2 hhn (by omega) hG.up) rfl ?_)
    rintro v132 M132 J132 ⟨MP3, MS3, kv, rfl, rfl, hP3, hSt3, gkv⟩
    haveI := gkv.cel
    change Prm pb (opC x hn).1 MP3 at hP3
    change Sto _ cb (opC x hn).2.2.2 MS3 at hSt3
    change By _ kv (opC x hn).2.1 at gkv
    change XL _ _ _ _ ((132, .tuple #[.agg #[kv, .int .u32 (((opC x hn).2.2.1 : Nat) : Int)], .int .i64 (ahE x.2.tn hn)]) :: _) _ _
    refine mv_ ?_
    refine A2 (A1l rfl) rfl ?_
    refine A2 (A1g rfl) rfl ?_
    refine A4 rfl (C4 (cs := [.slice none 0 0, .int .u32 0]) kR rfl fun b23 => ?_)
    refine A4 rfl (A9 (vs := [kv, .int .u32 (((opC x hn).2.2.1 : Nat) : Int)]) rfl rfl rfl kR (by rfl) (A7 gkv.one (A7 rfl K9)) UpC.upd ?_)
    refine as_ (A0 (Z9 0 4 6 10 13 19 20 23 24) (A3 (A1 (mv_ ?_))))
    refine A2 (D8 rfl rfl rfl) rfl ?_
    refine A0 (kq 0 (Z9 4 6 10 13 19 20 23 24 136)) ?_
    refine C0 rfl (fun hc => ?_) (fun hc => ?_)
    ·
     have hE2 : ahE x.2.tn hn ≠ 0 := by intro e; rw [e] at hc; simp [I2] at hc
     refine A1 ?_
     refine A2 (qw_ 9) rfl ?_
     refine mv_ ?_
     refine A4 rfl (A9 (vs := [vo, vt, vr, vk, .int .u32 ((r.sn : Nat) : Int), vl, .int .u32 ((r.tn : Nat) : Int), .int .u32 ((r.prev : Nat) : Int), .pointer (some ⟨sb, 0, none⟩)]) rfl rfl rfl kR (by rfl) (A7 hr.own.one (A7 hr.their.one (A7 hr.root.one (A7 hr.sk.one (A7 rfl (A7 hr.tk.one al3)))))) UpC.upd ?_)
     refine as_ (as_ (A0 (D4 10 11 12) (B4 (tr ?_))))
     rw [oR_n hgn hx0 hF0 hE2]
     exact ⟨_, MP3, [], A3R (n := 9) rfl rfl rfl rfl kR At.mem (by rfl), Fit.none (Fit.last PickC.perm), _, _, rfl, hP3, ⟨vo, vt, vr, vk, vl, _, rfl, hr.mono SubC.sub⟩, By.nil⟩
    ·
     have hE2 : ahE x.2.tn hn = 0 := by simpa [I2] using hc
     refine A6 (nx (V7 0 4 6 10 13 19 20 23) (A1 (mv_ ?_)))
     refine A2 (qw_ 2) rfl ?_
     refine A4 rfl (E0 (Mc := MP3) (R := _) (aS rfl (aS rfl (a0))) kR PickC.perm (A3E pb (opC x hn).1 kv (opC x hn).2.1 (opC x hn).2.2.1 MP3 _ hP3 (gkv.mono SubC.sub) (by omega) hG.up) rfl ?_)
     rintro v142 M142 J142 ⟨k1, k2, rfl, hP142, gk1, gk2⟩
     haveI := gk1.cel
     haveI := gk2.cel
     change Prm pb (opD x hn) M142 at hP142
     change By _ k1 (A8Z x hn) at gk1
     refine mv_ ?_
     refine A2 (A1l rfl) rfl ?_
     refine A2 (A1g rfl) rfl ?_
     refine A4 rfl (C4 (cs := [.slice none 0 0, .int .u32 0]) kR rfl fun b26 => ?_)
     refine as_ ?_
     refine A4 rfl (A9 (vs := [k2, .int .u32 ((((opC x hn).2.2.1 + 1) % 4294967296 : Nat) : Int)]) rfl rfl rfl kR (by rfl) (A7 gk2.one (A7 rfl K9)) UpC.upd ?_)
     refine A0 (Z9 0 4 6 10 13 19 20 25 26) (A1 (mv_ (mv_ (mv_ (mv_ ?_)))))
     refine C6 (aS rfl (aS rfl (aS rfl (aS rfl a0)))) kR (B1t pb (opD x hn) k1 v31 vg (A8Z x hn) (alW w hk hp hn) g M142 _ hP142 (by intro x hx; simp [hx]) (by omega) (hx0 ▸ hS2) (gk1.mono SubC.sub) (h31.mono SubC.sub) (hg.mono SubC.sub) (hx0 ▸ hK2) (by omega) hG.up) rfl ?_
     rintro v150 M150 J150 ⟨rfl, u150, rfl, h150⟩
     haveI := h150.cel
     refine mv_ ?_
     refine A2 (A1l rfl) rfl ?_
     refine A2 (A1g rfl) rfl ?_
     refine as_ (as_ (A0 (V7 0 6 10 19 20 26 27 28) (A3 (A1 (mv_ ?_)))))
     refine A2 (A1f rfl) rfl ?_
     refine A0 (V7 0 6 10 19 20 26 27 154) ?_
     refine C0 rfl (fun hc => ?_) (fun hc => ?_)
     ·
      have hno : A1H (opD x hn) (A8Z x hn) (alW w hk hp hn) g = none := by simpa using hc
      refine A1 ?_
      refine A2 (qw_ 9) rfl ?_
      refine A4 rfl (A9 (vs := [vo, vt, vr, vk, .int .u32 ((r.sn : Nat) : Int), vl, .int .u32 ((r.tn : Nat) : Int), .int .u32 ((r.prev : Nat) : Int), .pointer (some ⟨sb, 0, none⟩)]) rfl rfl rfl kR (by rfl) (A7 hr.own.one (A7 hr.their.one (A7 hr.root.one (A7 hr.sk.one (A7 rfl (A7 hr.tk.one al3)))))) UpC.upd ?_)
      refine as_ (as_ (A0 (D4 10 11 12) (B4 (tr ?_))))
      rw [B9E hgn hx0 hF0 hE2 hno]
      exact ⟨_, M142, [], A3R (n := 9) rfl rfl rfl rfl kR At.mem (by rfl), Fit.none (Fit.last PickC.perm), _, _, rfl, hP142, ⟨vo, vt, vr, vk, vl, _, rfl, hr.mono SubC.sub⟩, By.nil⟩
     ·
      obtain ⟨t, hot⟩ : ∃ t, A1H (opD x hn) (A8Z x hn) (alW w hk hp hn) g = some t := by
       cases hq : A1H (opD x hn) (A8Z x hn) (alW w hk hp hn) g with
       | none => rw [hq] at hc; cases hc
       | some t => exact ⟨t, rfl⟩
      rw [hot, Option.getD_some] at h150
      refine A6 (nx (H9 0 10 19 20 26 27) (A1 ?_))
      refine A2 (qw_ 2) rfl ?_
      refine A2 (qf_ 5 5) rfl ?_
      refine A4 rfl (N7 (vs := [k2, .int .u32 ((((opC x hn).2.2.1 + 1) % 4294967296 : Nat) : Int)]) (cs' := [vo, zt, zr, vk, .int .u32 ((r.sn : Nat) : Int), k2, .int .u32 ((((opC x hn).2.2.1 + 1) % 4294967296 : Nat) : Int), .int .u32 ((r.prev : Nat) : Int), .pointer (some ⟨cb, 0, none⟩)]) rfl rfl rfl kR (by exact (show 5 + 2 ≤ 9 by decide)) (A7 gk2.one (A7 rfl K9)) rfl UpC.upd ?_)
      refine A0 (E5 0 10 19 20 27) (A3 (A1 (mv_ (A0 (E5 0 10 19 27 158) ?_))))
      refine C0 rfl (fun hc => ?_) (fun hc => ?_)
      ·
       have hf : A1p r hk = true := hc
       refine L7 (M142) (_) true [0, 1, 2, 3, 4, 5, 7] [(0, 0), (1, 0), (2, 1), (3, 0), (5, 0), (4, 2), (6, 2), (7, 0), (8, 2)] kR kR PickC.perm fun hs K n0 hKm hKs hKn => ?_
       refine L6 hs rfl (qf_ 3 3) rfl ?_
       refine L6 hs rfl (qf_ 4 1) rfl ?_
       refine Y8 hs rfl hKs ql_ ?_
       refine km_ hs ?_
       refine L6 hs rfl (qf_ 7 7) rfl ?_
       refine Q5 _ _ rfl rfl (List.Perm.refl _) hKm fun w0 => (E0 (Mc := M142) (R := _) (aS rfl (a0)) kR PickC.perm (A07 pb (opD x hn) M142 _ hP142 (by omega) (by omega) hG.up) rfl ?_)
       rintro v163 M163 J163 ⟨hP163, h163⟩ hKx163
       haveI := h163.cel
       refine T7 rfl rfl rfl (D5 rfl rfl rfl kR SetC.set UpC.upd ?_)
       refine L6 hs rfl (qf_ 0 0) rfl ?_
       refine T7 rfl rfl rfl (D5 rfl rfl h163.one kR SetC.set UpC.upd ?_)
       refine Q8 (D6 0 10 19 27) (A8 (mv_ ?_))
       refine A2 (qf_ 2 2) rfl ?_
       refine A2 ql_ rfl ?_
       refine A2 (qf_ 0 0) rfl ?_
       refine A2 ql_ rfl ?_
       refine A2 (qf_ 1 1) rfl ?_
       refine A2 ql_ rfl ?_
       refine A4 rfl (E0 (Mc := M163) (R := _) (aS rfl (aS rfl (aS rfl (aS rfl (a0))))) kR PickC.perm (B02 pb (E6 (opD x hn)) zr v163 zt x.2.root (I5 (opD x hn)) x.2.their M163 _ hP163 (by omega) (zr_.mono SubC.sub) (h163.mono SubC.sub) (zt_.mono SubC.sub) hG.up) rfl ?_)
       rintro v174 M174 J174 ⟨c0, c1, rfl, hP174, gc0, gc1⟩
       haveI := gc0.cel
       haveI := gc1.cel
       refine mv_ ?_
       refine A2 (A1l rfl) rfl ?_
       refine A2 (A1g rfl) rfl ?_
       refine A2 (qf_ 2 2) rfl ?_
       refine A4 rfl (D5 rfl rfl gc0.one kR SetC.set UpC.upd ?_)
       refine A2 (qf_ 3 3) rfl ?_
       refine A4 rfl (N7 (vs := [c1, .int .u32 ((0 : Nat) : Int)]) (cs' := [v163, zt, c0, c1, .int .u32 ((0 : Nat) : Int), k2, .int .u32 ((((opC x hn).2.2.1 + 1) % 4294967296 : Nat) : Int), .int .u32 ((r.sn : Nat) : Int), .pointer (some ⟨cb, 0, none⟩)]) rfl rfl rfl kR (by exact (show 3 + 2 ≤ 9 by decide)) (A7 gc1.one (A7 rfl K9)) rfl UpC.upd ?_)
       refine A0 (D4 10 19 27) ?_
       obtain ⟨u5, rows5, BS5, rfl, hs5, hw5⟩ := hSt3.ex
       have hrd5 := hs5.rd (R := BS5) fun _ h => h
       refine A0F (B := (cb, blk [u5] 80) :: BS5) PickC.perm ?_
       refine A1 ?_
       refine A2 (qw_ 9) rfl ?_
       refine mv_ ?_
       refine A4 rfl (A9 (vs := [v163, zt, c0, c1, .int .u32 ((0 : Nat) : Int), k2, .int .u32 ((((opC x hn).2.2.1 + 1) % 4294967296 : Nat) : Int), .int .u32 ((r.sn : Nat) : Int), .pointer (some ⟨cb, 0, none⟩)]) rfl rfl rfl kR (by rfl) (A7 h163.one (A7 zt_.one (A7 gc0.one (A7 gc1.one (A7 rfl (A7 gk2.one al3)))))) UpC.upd ?_)
       refine as_ (as_ (A0 (D4 10 11 12) (B4 ?_)))
       rw [B1C hgn hx0 hF0 hE2 hot, B6M hf]
       exact ⟨_, M174, [], A3R (n := 9) rfl rfl rfl rfl kR At.mem (by rfl), Fit.none (Fit.last PickC.perm), _, u150, rfl, hP174, ⟨v163, zt, c0, c1, k2, _, rfl, ⟨h163.mono SubC.sub, zt_.mono SubC.sub, gc0.mono SubC.sub, gc1.mono SubC.sub, gk2.mono SubC.sub, ⟨cb, u5, rows5, rfl, by simp, hrd5.mono SubC.sub, hw5.mono skT SubC.sub⟩, (show 0 < 4294967296 by decide), Nat.mod_lt _ (by decide), hr.sn, hcb.2.2.2⟩⟩, h150.mono SubC.sub⟩
      ·
       have hf : A1p r hk = false := hc
       refine A6 (nx (D4 10 19 27) ?_)
       obtain ⟨u5, rows5, BS5, rfl, hs5, hw5⟩ := hSt3.ex
       have hrd5 := hs5.rd (R := BS5) fun _ h => h
       refine A0F (B := (cb, blk [u5] 80) :: BS5) PickC.perm ?_
       refine A1 ?_
       refine A2 (qw_ 9) rfl ?_
       refine mv_ ?_
       refine A4 rfl (A9 (vs := [vo, zt, zr, vk, .int .u32 ((r.sn : Nat) : Int), k2, .int .u32 ((((opC x hn).2.2.1 + 1) % 4294967296 : Nat) : Int), .int .u32 ((r.prev : Nat) : Int), .pointer (some ⟨cb, 0, none⟩)]) rfl rfl rfl kR (by rfl) (A7 hr.own.one (A7 zt_.one (A7 zr_.one (A7 hr.sk.one (A7 rfl (A7 gk2.one al3)))))) UpC.upd ?_)
       refine as_ (as_ (A0 (D4 10 11 12) (B4 ?_)))
       rw [B1C hgn hx0 hF0 hE2 hot, B8n hf]
       exact ⟨_, M142, [], A3R (n := 9) rfl rfl rfl rfl kR At.mem (by rfl), Fit.none (Fit.last PickC.perm), _, u150, rfl, hP142, ⟨vo, zt, zr, vk, k2, _, rfl, ⟨hr.own.mono SubC.sub, zt_.mono SubC.sub, zr_.mono SubC.sub, hr.sk.mono SubC.sub, gk2.mono SubC.sub, ⟨cb, u5, rows5, rfl, by simp, hrd5.mono SubC.sub, hw5.mono skT SubC.sub⟩, hr.sn, Nat.mod_lt _ (by decide), hr.prev, hcb.2.2.2⟩⟩, h150.mono SubC.sub⟩

end Go.Proofs.YtlilcmjbaknafaaGreatDoor
namespace Go.Px
theorem St.frzInto {C : Cx} {w : World} : ∀ (M J : Mem), St C M J w → ∃ J2, (∀ x, x ∈ M ++ J → x ∈ J2) ∧ St C [] J2 w
  | [], J, h => ⟨J, fun x hx => hx, h⟩
  | y :: M, J, h => by
    obtain ⟨J2, h1, h2⟩ := St.frzInto M (y :: J) h.freeze
    refine ⟨J2, fun x hx => h1 x ?_, h2⟩
    simp only [List.cons_append, List.mem_cons, List.mem_append] at hx ⊢
    rcases hx with hx | hx | hx
    · exact .inr (.inl hx)
    · exact .inl hx
    · exact .inr (.inr hx)
theorem OpL.frzAll {C : Cx} {o : Oper} {l : Env} {M J : Mem} {K : Env → Mem → Mem → Prop} (h : OpL C o l M J fun l' M' J' => ∀ J2, (∀ x, x ∈ M' ++ J' → x ∈ J2) → K l' [] J2) : OpL C o l M J K := fun Qp a w ha hw =>
  Oper.wp_mono (fun a' w' ⟨l', M', J', h1, h2, h3⟩ => by
    obtain ⟨J2, g1, g2⟩ := St.frzInto M' J' h2
    exact ⟨l', [], J2, h1, g2, h3 J2 g1⟩) (h Qp a w ha hw)
end Go.Px

namespace Go.Proofs.YtlilcmjbaknafaaGreatDoor
open Go.Px
def F2 : List Nat := [119, 105, 116, 104]
def rg0 (m : Nat) : Ps := ⟨m % 2 == 0, [114, 97, 116, 99, 104, 101, 116], 0, []⟩
def Par (R : Mem) (tb pb : Nat) (s : Ps) (r0 r1 : Rsd) (M : Mem) : Prop := ∃ ao at_ ar ak al aq bo bt br bk bl bq MP, M = (tb, blk (.pointer (some ⟨pb, 0, none⟩) :: (rsC ao at_ ar ak al aq r0 ++ rsC bo bt br bk bl bq r1)) 45) :: MP ∧ RsR R r0 ao at_ ar ak al aq ∧ RsR R r1 bo bt br bk bl bq ∧ Prm pb s MP
noncomputable def rK (m : Nat) : List Nat := I5 (rg0 m)
noncomputable def rO (m : Nat) : List Nat := I5 (E6 (rg0 m))
noncomputable def rS (m : Nat) : Ps := K5 (E6 (E6 (rg0 m))) (rO m)
noncomputable def rP (m : Nat) : List Nat := I0 (E6 (E6 (rg0 m))) (rO m)
theorem B6O (m : Nat) : ((m % 2 : Nat) : Int) = md (m % 2 == 0) := by
  rcases Nat.mod_two_eq_zero_or_one m with h | h <;> rw [h] <;> rfl
theorem A72 (m : Nat) (A : Mem) (hm : m < 256) (hG : Glb A) : FnX Tryz.prog 8 [.int .u8 ((m : Nat) : Int)] [] A fun q M J => ∃ tb pb, q = .pointer (some ⟨tb, 0, none⟩) ∧ Par (J ++ A) tb pb (B1T (rS m) (rK m) (rP m)) (B1S (rS m) (rK m) (rP m)) (A1G (rK m) (rO m)) M := by
 refine FnX.enterZ (N := 43) Tryz.func8 rfl rfl rfl fun w_ => ?_
 refine B0 (D7 0) (A1 (as_ (A0 (D7 0) (A1 (mv_ ?_)))))
 refine A2 (R6 (a := m) (b := 2) rfl rfl rfl rfl (by decide)) rfl ?_
 rw [B6O m]
 refine A4 rfl (C3 (e := 5) (sz := 1) (z := [zu8, zu8, zu8, zu8, zu8, zu8, zu8]) kR (eS rfl (eS rfl (eS rfl (eS rfl (eS rfl (eS rfl (eS rfl e0))))))) (bdS 0 1 rfl (by rfl) (bdS 1 1 rfl (by rfl) (bdS 2 1 rfl (by rfl) (bdS 3 1 rfl (by rfl) (bdS 4 1 rfl (by rfl) (bdS 5 1 rfl (by rfl) (bdS 6 1 rfl (by rfl) bd0))))))) rfl fun b11 => ?_)
 refine A4 rfl (A0D rfl kR UpC.upd rfl ?_)
 refine A1o (B := [_]) (PickC.sing).perm ?_
 refine C6 (aS rfl (aS rfl a0)) kR (A93 (m % 2 == 0) _ [114, 97, 116, 99, 104, 101, 116] _ ⟨Rd.whole (n := 7) (At.mem) (by rfl), by decide, by decide⟩) rfl ?_
 rintro v13 MP J13 ⟨pb, rfl, hP⟩
 change Prm pb (rg0 m) MP at hP
 have f0 : (rg0 m).ts.length = 0 := rfl
 have f1 : (rg0 m).n = 0 := rfl
 have f2 := A0z (rg0 m)
 have f3 := A0z (E6 (rg0 m))
 have f4 := A2k (E6 (E6 (rg0 m))) (rO m)
 have f5 : (rS m).n = _ := B6h (E6 (E6 (rg0 m))) (rO m)
 change (rS m).ts.length ≤ _ at f4
 refine mv_ ?_
 refine A2 (A1l rfl) rfl ?_
 refine A2 (A1g rfl) rfl ?_
 refine as_ (as_ (A0 (D3 3 4) (A3 (A1 (mv_ ?_)))))
 refine A2 (F0 false rfl rfl (neF rfl)) rfl ?_
 refine A0 (D3 3 17) ?_
 refine D0 rfl ?_
 refine A6 (nx (D7 3) (A1 (mv_ ?_)))
 refine A4 rfl (E0 (Mc := MP) (R := _) (aS rfl (a0)) kR PickC.perm (A07 pb (rg0 m) MP _ hP (by omega) (by omega) hG.up) rfl ?_)
 rintro v19 M19 J19 ⟨hP19, h19⟩
 haveI := h19.cel
 change By _ v19 (rK m) at h19
 refine as_ (A0 (D3 3 5) (A1 (mv_ ?_)))
 refine A4 rfl (E0 (Mc := M19) (R := _) (aS rfl (a0)) kR PickC.perm (A07 pb (E6 (rg0 m)) M19 _ hP19 (by omega) (by omega) hG.up) rfl ?_)
 rintro v21 M21 J21 ⟨hP21, h21⟩
 haveI := h21.cel
 change By _ v21 (rO m) at h21
 refine as_ (A0 (D4 3 5 6) (A1 (mv_ ?_)))
 refine A2 (G1 (place := fun x => #[(0, 1), (1, 18)][x]?) (z := [.pointer none, .slice none 0 0, .slice none 0 0, .slice none 0 0, .slice none 0 0, F7, .slice none 0 0, F7, F7, .pointer none, .slice none 0 0, .slice none 0 0, .slice none 0 0, .slice none 0 0, F7, .slice none 0 0, F7, F7, .pointer none]) (fun _ => by kernel_rfl) (eS rfl e0) (bdS 0 1 rfl (by rfl) bd0)) rfl ?_
 refine A4 rfl (bx_ fun b24 => ?_)
 refine as_ (A0 (D6 3 5 6 7) ?_)
 refine C7 [0, 1, 2, 3, 4, 7, 8, 9] [(0, 0), (1, 0), (2, 0), (3, 0), (4, 0), (7, 0), (8, 0), (5, 2), (6, 2), (9, 0), (10, 2)] kR kR fun hs => ?_
 refine fm_ hs ?_
 refine fm_ hs ?_
 refine fm_ hs ?_
 refine fm_ hs ?_
 refine fm_ hs ?_
 refine C2 hs rfl (E8 rfl) rfl ?_
 refine C2 hs rfl (qf_ 1 1) rfl ?_
 refine F5 rfl rfl rfl (E0 (Mc := M21) (R := _) (aS rfl (aS rfl (a0))) kR PickC.perm (A7K pb (E6 (E6 (rg0 m))) v21 (rO m) M21 _ hP21 (by omega) (h21.mono SubC.sub) hG.up) rfl ?_)
 rintro v30 M30 J30 ⟨hP30, h30⟩
 haveI := h30.cel
 change By _ v30 (rP m) at h30
 change Prm pb (rS m) M30 at hP30
 refine F5 rfl rfl rfl (E0 (Mc := M30) (R := _) (aS rfl (aS rfl (aS rfl (a0)))) kR PickC.perm (FnX.amb SubC.sub (B6i pb (rS m) v19 v30 (rK m) (rP m) M30 (J30 ++ (J21 ++ (J19 ++ A))) hP30 (by omega) (by omega) (h19.mono SubC.sub) (h30.mono SubC.sub) (hG.sub SubC.sub))) rfl ?_)
 rintro v31 M31 J31 ⟨hP31, ao, at_, ar, ak, al, aq, rfl, hr0⟩
 haveI := hr0.own.cel
 haveI := hr0.their.cel
 haveI := hr0.root.cel
 haveI := hr0.sk.cel
 haveI := hr0.tk.cel
 obtain ⟨r0, hr0e⟩ : ∃ z, B1S (rS m) (rK m) (rP m) = z := ⟨_, rfl⟩
 rw [hr0e] at hr0 ⊢
 unfold rsC
 refine C2 hs rfl (qi_ 1 41 2 9 0) rfl ?_
 refine F5 rfl rfl rfl (N7 (vs := [ao, at_, ar, ak, .int .u32 ((r0.sn : Nat) : Int), al, .int .u32 ((r0.tn : Nat) : Int), .int .u32 ((r0.prev : Nat) : Int), aq]) (cs' := [.pointer (some ⟨pb, 0, none⟩), ao, at_, ar, ak, .int .u32 ((r0.sn : Nat) : Int), al, .int .u32 ((r0.tn : Nat) : Int), .int .u32 ((r0.prev : Nat) : Int), aq, .slice none 0 0, .slice none 0 0, .slice none 0 0, .slice none 0 0, .int .u32 0, .slice none 0 0, .int .u32 0, .int .u32 0, .pointer none]) rfl rfl rfl kR (by exact (show 1 + 9 ≤ 19 by decide)) (A7 hr0.own.one (A7 hr0.their.one (A7 hr0.root.one (A7 hr0.sk.one (A7 rfl (A7 hr0.tk.one (A7 rfl (A7 rfl (A7 hr0.st.one K9))))))))) rfl UpC.upd ?_)
 refine E4 (D4 5 6 7) ?_
 refine C7 (.range 7) [(0, 0), (1, 0), (2, 0), (4, 0), (5, 0), (3, 2), (6, 0), (7, 2)] kR kR fun hs => ?_
 refine fm_ hs ?_
 refine fm_ hs ?_
 refine fm_ hs ?_
 refine C2 hs rfl (E8 rfl) rfl ?_
 refine C2 hs rfl (qf_ 1 1) rfl ?_
 refine N6 rfl (aS rfl (aS rfl a0)) kR (FnX.amb SubC.sub (B03 v19 v21 (rK m) (rO m) (J30 ++ (J21 ++ (J19 ++ A))) (h19.mono SubC.sub) (h21.mono SubC.sub))) rfl ?_
 rintro v38 M38 J38 ⟨rfl, bo, bt, br, bk, bl, bq, rfl, hr1⟩
 haveI := hr1.own.cel
 haveI := hr1.their.cel
 haveI := hr1.root.cel
 haveI := hr1.sk.cel
 haveI := hr1.tk.cel
 obtain ⟨r1, hr1e⟩ : ∃ z, (A1G (rK m) (rO m)) = z := ⟨_, rfl⟩
 rw [hr1e] at hr1 ⊢
 unfold rsC
 refine C2 hs rfl (qi_ 10 41 2 9 1) rfl ?_
 refine F5 rfl rfl rfl (N7 (vs := [bo, bt, br, bk, .int .u32 ((r1.sn : Nat) : Int), bl, .int .u32 ((r1.tn : Nat) : Int), .int .u32 ((r1.prev : Nat) : Int), bq]) (cs' := [.pointer (some ⟨pb, 0, none⟩), ao, at_, ar, ak, .int .u32 ((r0.sn : Nat) : Int), al, .int .u32 ((r0.tn : Nat) : Int), .int .u32 ((r0.prev : Nat) : Int), aq, bo, bt, br, bk, .int .u32 ((r1.sn : Nat) : Int), bl, .int .u32 ((r1.tn : Nat) : Int), .int .u32 ((r1.prev : Nat) : Int), bq]) rfl rfl rfl kR (by exact (show 10 + 9 ≤ 19 by decide)) (A7 hr1.own.one (A7 hr1.their.one (A7 hr1.root.one (A7 hr1.sk.one (A7 rfl (A7 hr1.tk.one (A7 rfl (A7 rfl (A7 hr1.st.one K9))))))))) rfl UpC.upd ?_)
 refine E4 (D7 7) (A1 (mv_ (as_ (A0 (D7 2) (B4 ?_)))))
 exact ⟨_, (b24, blk [.pointer (some ⟨pb, 0, none⟩), ao, at_, ar, ak, .int .u32 ((r0.sn : Nat) : Int), al, .int .u32 ((r0.tn : Nat) : Int), .int .u32 ((r0.prev : Nat) : Int), aq, bo, bt, br, bk, .int .u32 ((r1.sn : Nat) : Int), bl, .int .u32 ((r1.tn : Nat) : Int), .int .u32 ((r1.prev : Nat) : Int), bq] 45) :: M31, [], I7 rfl rfl, Fit.none (Fit.pick (B := [_]) PickC.perm (Fit.last PickC.perm)), b24, pb, rfl, ao, at_, ar, ak, al, aq, bo, bt, br, bk, bl, bq, M31, rfl, (by first | exact hr0.mono SubC.sub | exact hr0e ▸ hr0.mono SubC.sub), (by first | exact hr1.mono SubC.sub | exact hr1e ▸ hr1.mono SubC.sub), hP31⟩

end Go.Proofs.YtlilcmjbaknafaaGreatDoor
