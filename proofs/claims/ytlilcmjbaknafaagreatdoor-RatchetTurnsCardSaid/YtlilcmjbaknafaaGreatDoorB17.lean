/- Part 17 of the texts of this claim, one behind the other. -/
import Derived.Test.YtlilcmjbaknafaaGreatDoorB16
set_option linter.unusedVariables false
set_option linter.unusedSimpArgs false
set_option maxRecDepth 100000
namespace Go.Proofs.YtlilcmjbaknafaaGreatDoor
open Go.Px
theorem B3Q {s : Ps} {r : Rsd} {hk : LN} {hp : Nat} (h : A1i r hk = true) : opB s r hk hp = B9e (opA s r hp) r hk := if_pos h
theorem B63 {s : Ps} {r : Rsd} {hk : LN} {hp : Nat} (h : A1i r hk = false) : opB s r hk hp = (s, r) := if_neg (by rw [h]; decide)
theorem B1z {s : Ps} {r : Rsd} {hp : Nat} (h : r.tk = []) : opA s r hp = (s, r.tk, r.tn, r.sks) := if_pos h
theorem A5q {s : Ps} {r : Rsd} {hp : Nat} (h : r.tk ≠ []) : opA s r hp = ahX s r.tk r.tn hp r.their r.sks := if_neg h
theorem B1A {r : Rsd} {hp : Nat} (h : r.tk = []) : A8U r hp = 0 := if_pos h
theorem A2R {r : Rsd} {hp : Nat} (h : r.tk ≠ []) : A8U r hp = ahE r.tn hp := if_neg h
theorem B64 {b : Bool} (h : b = true) (s : Ps) (r : Rsd) : opZ b s r = opF s r := if_pos h
theorem B8K {b : Bool} (h : b = false) (s : Ps) (r : Rsd) : opZ b s r = (s, r) := if_neg (by rw [h]; decide)
theorem B65 (s : Ps) (r : Rsd) (hp : Nat) (hN : r.tn < 4294967296) (hn : hp < 4294967296) (hl : r.sks.length ≤ 1000) :
    (opA s r hp).1.ts.length ≤ s.ts.length + 48 ∧ (opA s r hp).1.n = s.n ∧ (opA s r hp).2.2.1 < 4294967296 ∧ (opA s r hp).2.2.2.length ≤ 1000 := by
  unfold opA
  split
  · exact ⟨by dsimp only; omega, rfl, hN, hl⟩
  · exact B60 s r.tk r.tn hp r.their r.sks hN hn hl
theorem len0 {l : LN} : (decide ((l.length : Int) = 0)) = decide (l = []) := by
  cases l with
  | nil => rfl
  | cons a l => simp only [List.length_cons]; rw [decide_eq_false qO, decide_eq_false qM]
set_option maxHeartbeats 2000000 in
theorem B1B (pb : Nat) (s : Ps) (r : Rsd) (vo vt vr vk vl vs vw vh vg : Value) (w hk g : LN) (hp hn : Nat) (MP A : Mem) (hP : Prm pb s MP) (hl : s.ts.length + 500 ≤ 1000000) (hsn : s.n < 1000000000) (hr : RsR A r vo vt vr vk vl vs) (hw : By A vw w) (hh : By A vh hk) (hwl : w.length + hk.length ≤ 1000000) (hhp : hp < 4294967296) (hhn : hn < 4294967296) (hg : By A vg g) (hgl : g.length ≤ 10000000) (hSel : W4 s.ts) (hK1 : ∀ k, A5j r.sks hk hn = some k → Kok s k) (hS2 : W4 (opD (opB s r hk hp) hn).ts) (hK2 : Kok (opD (opB s r hk hp) hn) (A80 (opB s r hk hp) hn)) (hG : Glb A) : FnX Tryz.prog 28 [(vP pb), .agg (rsC vo vt vr vk vl vs r).toArray, vw, .agg #[vh, (vU hp), (vU hn)], vg] MP A fun q M J => ∃ q1 q2, q = .tuple #[q1, q2, .int .i64 (Q7 s r w hk hp hn g).2.2.1] ∧ Prm pb (Q7 s r w hk hp hn g).1 M ∧ RsV (J ++ A) q1 (Q7 s r w hk hp hn g).2.1 ∧ By (J ++ A) q2 (Q7 s r w hk hp hn g).2.2.2 := by
 haveI := hr.own.cel
 haveI := hr.their.cel
 haveI := hr.root.cel
 haveI := hr.sk.cel
 haveI := hr.tk.cel
 haveI := hw.cel
 haveI := hh.cel
 haveI := hg.cel
 have hst := hr.st
 obtain ⟨sb, u0, rows0, rfl, hsb, hrd0, hrw0⟩ := hst
 unfold rsC
 refine FnX.enterZ (N := 181) Tryz.func28 rfl rfl rfl fun w_ => ?_
 refine B0 (E4 0 1 2 3 4) (A1 ?_)
 refine A5 rfl (bx_ fun b6 => ?_)
 refine A5 rfl (bx_ fun b8 => ?_)
 refine A5 rfl (C4 (cs := [vS, vS, vS, vS, G3, vS, G3, G3, .pointer none]) kR rfl fun b10 => ?_)
 refine as_ (as_ (A0 (H3 0 2 4 6 8 10) (A1 (mv_ ?_))))
 refine A2 (qw_ 3) rfl ?_
 refine C5 (aS rfl (aS rfl a0)) kR (B01 vw vh w hk hp hn _ (hw.mono qS) (hh.mono qS) qO hhp hhn) rfl ?_
 rintro v31 M31 J31 ⟨rfl, h31⟩
 haveI := h31.cel
 change By _ v31 (alW w hk hp hn) at h31
 have hal : (alW w hk hp hn).length ≤ 2000000 := by unfold alW; rw [A2f, A1Y]; omega
 refine as_ (A0 (H3 0 4 6 8 10 13) (A3 (A1 ?_)))
 refine A2 (qf_ 8 8) rfl ?_
 refine A2 ql_ rfl ?_
 refine A2 (qf_ 0 0) rfl ?_
 refine A2 ql_ rfl ?_
 refine A2 (qf_ 2 2) rfl ?_
 refine A2 ql_ rfl ?_
 refine C5 (aS rfl (aS rfl (aS rfl a0))) kR (B3A sb u0 vh rows0 r.sks hk hn _ (mA hsb) (hrd0.mono qS) (hrw0.mono skT qS) (by have := hr.sks; omega) (hh.mono qS)) rfl ?_
 rintro v39 M39 J39 ⟨rfl, u39, rfl, h39⟩
 haveI := h39.cel
 refine mv_ ?_
 refine A2 (A0T rfl) rfl ?_
 refine A2 (A0L rfl) rfl ?_
 refine as_ (as_ (A0 (T6 0 4 6 8 10 13 14 15) (A1 (mv_ (A0 (T6 0 4 6 8 10 13 14 42) ?_)))))
 refine C1 rfl ?_ ?_ <;> intro hc
 ·
  obtain ⟨k, hgk⟩ : ∃ k, A5j r.sks hk hn = some k := Option.isSome_iff_exists.1 hc
  rw [hgk, Option.getD_some] at h39
  refine A1 (mv_ (mv_ (mv_ (mv_ ?_))))
  refine C5 (aS rfl (aS rfl (aS rfl (aS rfl a0)))) kR (B1q pb s u39 v31 vg k (alW w hk hp hn) g MP _ hP (by intro x hx; simp [hx]) qO hSel (h39.mono qS) (h31.mono qS) (hg.mono qS) (hK1 k hgk) qO hG.up) rfl ?_
  rintro v48 M48 J48 ⟨rfl, u48, rfl, h48⟩
  haveI := h48.cel
  refine mv_ ?_
  refine A2 (A0T rfl) rfl ?_
  refine A2 (A0L rfl) rfl ?_
  refine as_ (as_ (A0 (E4 6 8 10 16 17) (A3 (A1 (mv_ ?_)))))
  refine A2 (A5w rfl) rfl ?_
  refine A0 (E4 6 8 10 16 52) ?_
  refine C1 rfl ?_ ?_ <;> intro hc
  ·
   have hno : A1B s k (alW w hk hp hn) g = none := by simpa using hc
   refine A1 ?_
   refine A2 (qw_ 9) rfl ?_
   refine A5 rfl (A9 (vs := [vo, vt, vr, vk, (vU r.sn), vl, (vU r.tn), (vU r.prev), (vP sb)]) rfl rfl rfl kR qR (A8 hr.own.one (A8 hr.their.one (A8 hr.root.one (A8 hr.sk.one (A8 rfl (A8 hr.tk.one al3)))))) UpC.upd ?_)
   refine as_ (as_ (A0 (D6 10 11 12) (B4 (tr (tr ?_)))))
   rw [B8J hgk hno]
   exact ⟨_, MP, [], A3O (n := 9) rfl rfl rfl rfl kR At.mem qR, Fit.none (Fit.last qP), _, _, rfl, hP, ⟨vo, vt, vr, vk, vl, _, rfl, hr.mono qS⟩, By.nil⟩
  ·
   obtain ⟨t, hot⟩ : ∃ t, A1B s k (alW w hk hp hn) g = some t := by
    cases hq : A1B s k (alW w hk hp hn) g with
    | none => rw [hq] at hc; cases hc
    | some t => exact ⟨t, rfl⟩
   rw [hot, Option.getD_some] at h48
   refine A6 (nx (D8 6 8 10 16) (A1 ?_))
   refine A2 (qw_ 9) rfl ?_
   refine C5 (aS rfl a0) kR (FnX.amb qS (A65 r vo vt vr vk vl _ A hr)) rfl ?_
   rintro v66 M66 J66 ⟨cb, rfl, hSt⟩
   unfold rsC
   refine A5 rfl (C4 (cs := [vS, vS, vS, vS, G3, vS, G3, G3, .pointer none]) kR rfl fun b18 => ?_)
   refine A5 rfl (A9 (vs := [vo, vt, vr, vk, (vU r.sn), vl, (vU r.tn), (vU r.prev), (vP cb)]) rfl rfl rfl kR qR (A8 hr.own.one (A8 hr.their.one (A8 hr.root.one (A8 hr.sk.one (A8 rfl (A8 hr.tk.one al3)))))) UpC.upd ?_)
   refine A0 (D8 8 10 16 18) (A1 ?_)
   refine A2 (qf_ 8 8) rfl ?_
   refine A2 ql_ rfl ?_
   refine A2 (qf_ 0 0) rfl ?_
   refine A2 ql_ rfl ?_
   refine A2 (qf_ 2 2) rfl ?_
   refine A2 ql_ rfl ?_
   refine A5 rfl (E0 (Mc := M66) (R := _) (aS rfl (aS rfl (aS rfl (a0)))) kR qP (B0R cb vh r.sks hk hn A M66 _ hSt qS (by have := hr.sks; omega) hh) rfl ?_)
   rintro v62 M62 J62 ⟨rfl, hSt2⟩
   obtain ⟨u5, rows5, BS5, rfl, hs5, hw5⟩ := hSt2.ex
   have hrd5 := hs5.rd (R := BS5) fun _ h => h
   refine A0 (D6 10 16 18) ?_
   refine A0m (B := (cb, blk [u5] 80) :: BS5) qP ?_
   refine A1 ?_
   refine A2 (qw_ 9) rfl ?_
   refine mv_ ?_
   refine A5 rfl (A9 (vs := [vo, vt, vr, vk, (vU r.sn), vl, (vU r.tn), (vU r.prev), (vP cb)]) rfl rfl rfl kR qR (A8 hr.own.one (A8 hr.their.one (A8 hr.root.one (A8 hr.sk.one (A8 rfl (A8 hr.tk.one al3)))))) UpC.upd ?_)
   refine as_ (as_ (A0 (D6 10 11 12) (B4 (tr ?_))))
   rw [B61 hgk hot]
   exact ⟨_, MP, [], A3O (n := 9) rfl rfl rfl rfl kR At.mem qR, Fit.none (Fit.last qP), _, u48, rfl, hP, ⟨vo, vt, vr, vk, vl, _, rfl, ⟨hr.own.mono qS, hr.their.mono qS, hr.root.mono qS, hr.sk.mono qS, hr.tk.mono qS, ⟨cb, u5, rows5, rfl, by simp, hrd5.mono qS, hw5.mono skT qS⟩, hr.sn, hr.tn, hr.prev, Nat.le_trans (A5i _ _ _) hr.sks⟩⟩, h48.mono qS⟩
 ·
  have hgn : A5j r.sks hk hn = none := by simpa using hc
  refine A6 (nx (H3 0 4 6 8 10 13) (A1 ?_))
  refine A2 (qw_ 9) rfl ?_
  refine C5 (aS rfl a0) kR (FnX.amb qS (A65 r vo vt vr vk vl _ A hr)) rfl ?_
  rintro v66 M66 J66 ⟨cb, rfl, hSt⟩
  unfold rsC
  refine A5 rfl (C4 (cs := [vS, vS, vS, vS, G3, vS, G3, G3, .pointer none]) kR rfl fun b19 => ?_)
  refine A5 rfl (A9 (vs := [vo, vt, vr, vk, (vU r.sn), vl, (vU r.tn), (vU r.prev), (vP cb)]) rfl rfl rfl kR qR (A8 hr.own.one (A8 hr.their.one (A8 hr.root.one (A8 hr.sk.one (A8 rfl (A8 hr.tk.one al3)))))) UpC.upd ?_)
  refine A0 (N0 0 4 6 8 10 13 19) ?_
  refine P4 (α := Mem) (fun _ => [(0, (vP pb)), (4, vg), (6, (vP b6)), (8, (vP b8)), (10, (vP b10)), (13, v31), (19, (vP b19)), (20, .bool (A1i r hk))]) (fun _ => [(b19, blk [vo, vt, vr, vk, (vU r.sn), vl, (vU r.tn), (vU r.prev), (vP cb)] 41), (b10, blk [vS, vS, vS, vS, .int .u32 0, vS, .int .u32 0, .int .u32 0, .pointer none] 41), (b8, blk [vh, (vU hp), (vU hn)] 29), (b6, blk [vo, vt, vr, vk, (vU r.sn), vl, (vU r.tn), (vU r.prev), (vP sb)] 41)] ++ (MP ++ M66)) (fun J => J) (fun J => By (J ++ A) v31 (alW w hk hp hn)) ?_ ?_
  ·
   refine A7 ?_
   refine A2 (qf_ 0 0) rfl ?_
   refine A2 ql_ rfl ?_
   refine A2 (qf_ 1 1) rfl ?_
   refine A2 ql_ rfl ?_
   refine F1 (aS rfl (aS rfl a0)) kR (A3x vh vt hk r.their _ (hh.mono qS) (hr.their.mono qS)) rfl ?_
   refine A2 (A5w rfl) rfl ?_
   refine mv_ ?_
   refine Z6 (t := 73) rfl (fun hb => ?_) (fun hb => ?_)
   ·
    refine K8 rfl rfl rfl rfl ?_
    refine K8 rfl rfl rfl rfl ?_
    refine K8 rfl rfl rfl rfl ?_
    refine K8 rfl rfl rfl rfl ?_
    refine K8 rfl rfl rfl rfl ?_
    refine A2 (I6 rfl rfl) rfl ?_
    refine as_ (C0 ?_)
    exact jn _ (h31.mono qS) (kq 0 (kq 4 (kq 6 (kq 8 (kq 10 (kq 13 (kq 19 (kp 20 (by unfold A1i; rw [hb]; rfl) kn)))))))) (Fit.pick (B := [(b19, blk [vo, vt, vr, vk, (vU r.sn), vl, (vU r.tn), (vU r.prev), (vP cb)] 41)]) qP (Fit.pick (B := [(b10, blk [vS, vS, vS, vS, .int .u32 0, vS, .int .u32 0, .int .u32 0, .pointer none] 41)]) qP (Fit.pick (B := [(b8, blk [vh, (vU hp), (vU hn)] 29)]) qP (Fit.pick (B := [(b6, blk [vo, vt, vr, vk, (vU r.sn), vl, (vU r.tn), (vU r.prev), (vP sb)] 41)]) qP (Fit.pick (B := MP) qP (Fit.last qP)))))) qI
   ·
    refine G5 rfl rfl (OpQ.opL (qf_ 5 5) rfl ?_)
    refine G5 rfl rfl (OpQ.opL (qf_ 5 0) rfl ?_)
    refine G5 rfl rfl (OpQ.opL ql_ rfl ?_)
    refine G5 rfl rfl (OpQ.opL (G1 (sz := 1) rfl kR hr.tk.rd) rfl ?_)
    refine G5 rfl rfl (OpQ.opL (D4 rfl rfl rfl) rfl ?_)
    refine A2 (I0 rfl rfl) rfl ?_
    refine as_ (C0 ?_)
    exact jn _ (h31.mono qS) (kq 0 (kq 4 (kq 6 (kq 8 (kq 10 (kq 13 (kq 19 (kp 20 (by unfold A1i; rw [hb, Bool.false_or, ← len0]; rfl) kn)))))))) (Fit.pick (B := [(b19, blk [vo, vt, vr, vk, (vU r.sn), vl, (vU r.tn), (vU r.prev), (vP cb)] 41)]) qP (Fit.pick (B := [(b10, blk [vS, vS, vS, vS, .int .u32 0, vS, .int .u32 0, .int .u32 0, .pointer none] 41)]) qP (Fit.pick (B := [(b8, blk [vh, (vU hp), (vU hn)] 29)]) qP (Fit.pick (B := [(b6, blk [vo, vt, vr, vk, (vU r.sn), vl, (vU r.tn), (vU r.prev), (vP sb)] 41)]) qP (Fit.pick (B := MP) qP (Fit.last qP)))))) qI
  ·
   rintro J12 h31
   try dsimp only at h31 ⊢
   haveI := h31.cel
   have hab := B65 s r hp hr.tn hhp hr.sks
   obtain ⟨x, hx0⟩ : ∃ z, opB s r hk hp = z := ⟨_, rfl⟩
   refine P4 (α := Mem × Mem × Mem × Value × Value × Value) (fun y => [(0, (vP pb)), (4, vg), (6, (vP b6)), (8, (vP b8)), (10, (vP b10)), (13, v31), (19, (vP b19)), (20, .bool (A1i r hk))]) (fun y => [(b19, blk [vo, y.2.2.2.1, y.2.2.2.2.1, vk, (vU r.sn), y.2.2.2.2.2, (vU x.2.tn), (vU r.prev), (vP cb)] 41), (b10, blk [vS, vS, vS, vS, .int .u32 0, vS, .int .u32 0, .int .u32 0, .pointer none] 41), (b8, blk [vh, (vU hp), (vU hn)] 29), (b6, blk [vo, vt, vr, vk, (vU r.sn), vl, (vU r.tn), (vU r.prev), (vP sb)] 41)] ++ (y.1 ++ y.2.1)) (fun y => y.2.2.1) (fun y => Prm pb x.1 y.1 ∧ Sto (y.2.2.1 ++ A) cb x.2.sks y.2.1 ∧ By (y.2.2.1 ++ A) y.2.2.2.1 x.2.their ∧ By (y.2.2.1 ++ A) y.2.2.2.2.1 x.2.root ∧ By (y.2.2.1 ++ A) y.2.2.2.2.2 x.2.tk ∧ By (y.2.2.1 ++ A) v31 (alW w hk hp hn) ∧ (A1i r hk = true → A8U r hp = 0)) ?_ ?_
   ·
    refine A1 (mv_ (A0 (Z7 0 4 6 8 10 13 19 20 80) ?_))
    refine C1 rfl ?_ ?_ <;> intro hc
    ·
     have hfr : A1i r hk = true := hc
     refine P4 (α := Mem × Mem × Mem × Value) (fun y => [(0, (vP pb)), (4, vg), (6, (vP b6)), (8, (vP b8)), (10, (vP b10)), (13, v31), (19, (vP b19)), (20, .bool (A1i r hk))]) (fun y => [(b19, blk [vo, vt, vr, vk, (vU r.sn), y.2.2.2, .int .u32 (((opA s r hp).2.2.1 : Nat) : Int), (vU r.prev), (vP cb)] 41), (b10, blk [vS, vS, vS, vS, .int .u32 0, vS, .int .u32 0, .int .u32 0, .pointer none] 41), (b8, blk [vh, (vU hp), (vU hn)] 29), (b6, blk [vo, vt, vr, vk, (vU r.sn), vl, (vU r.tn), (vU r.prev), (vP sb)] 41)] ++ (y.1 ++ y.2.1)) (fun y => y.2.2.1) (fun y => Prm pb (opA s r hp).1 y.1 ∧ Sto (y.2.2.1 ++ A) cb (opA s r hp).2.2.2 y.2.1 ∧ By (y.2.2.1 ++ A) y.2.2.2 (opA s r hp).2.1 ∧ By (y.2.2.1 ++ A) v31 (alW w hk hp hn) ∧ A8U r hp = 0) ?_ ?_
     ·
      refine A1 ?_
      refine A2 (qf_ 5 5) rfl ?_
      refine A2 (qf_ 5 0) rfl ?_
      refine A2 ql_ rfl ?_
      refine A2 (G1 (sz := 1) rfl kR hr.tk.rd) rfl ?_
      refine A2 (D4 rfl rfl rfl) rfl ?_
      refine A0 (Z7 0 4 6 8 10 13 19 20 85) ?_
      refine C1 rfl ?_ ?_ <;> intro hc
      ·
       have htk : r.tk ≠ [] := by intro e; rw [e] at hc; simp [I1] at hc
       rw [A5q htk, A2R htk] at *
       refine A1 (mv_ ?_)
       refine A2 (qf_ 5 5) rfl ?_
       refine A2 (W7 (n := 2) rfl kR (by first | exact At.mem | exact mA (by assumption)) TakeC.take) rfl ?_
       refine A2 (qf_ 1 1) rfl ?_
       refine A2 ql_ rfl ?_
       refine A2 (qf_ 1 1) rfl ?_
       refine A2 ql_ rfl ?_
       refine A2 (qf_ 8 8) rfl ?_
       refine A2 ql_ rfl ?_
       refine A5 rfl (E0 (Mc := MP ++ M66) (R := _) (aS rfl (aS rfl (aS rfl (aS rfl (aS rfl (a0)))))) kR qP (B1x pb cb s vl vt r.tk r.their r.tn hp r.sks A MP M66 _ hP hSt qS hr.tk hr.their hr.sks hhp qO hG.up) rfl ?_)
       rintro v96 M96 J96 ⟨MP1, MS1, ka, rfl, rfl, hP1, hSt1, ka_⟩
       haveI := ka_.cel
       refine mv_ ?_
       refine A2 (A0T rfl) rfl ?_
       refine A2 (A0L rfl) rfl ?_
       refine A5 rfl (C4 (cs := [vS, .int .u32 0]) kR rfl fun b21 => ?_)
       refine A5 rfl (A9 (vs := [ka, .int .u32 (((ahX s r.tk r.tn hp r.their r.sks).2.2.1 : Nat) : Int)]) rfl rfl rfl kR qR (A8 ka_.one (A8 rfl L6)) UpC.upd ?_)
       refine as_ (A0 (kq 0 (Z7 4 6 8 10 13 19 20 21 22)) (A3 (A1 (mv_ ?_))))
       refine A2 (D4 rfl rfl rfl) rfl ?_
       refine A0 (kq 0 (kq 4 (Z7 6 8 10 13 19 20 21 22 100))) ?_
       refine C1 rfl ?_ ?_ <;> intro hc
       ·
        have hE : ahE r.tn hp ≠ 0 := by intro e; rw [e] at hc; simp [I1] at hc
        refine A1 ?_
        refine A2 (qw_ 9) rfl ?_
        refine mv_ ?_
        refine A5 rfl (A9 (vs := [vo, vt, vr, vk, (vU r.sn), vl, (vU r.tn), (vU r.prev), (vP sb)]) rfl rfl rfl kR qR (A8 hr.own.one (A8 hr.their.one (A8 hr.root.one (A8 hr.sk.one (A8 rfl (A8 hr.tk.one al3)))))) UpC.upd ?_)
        refine as_ (as_ (A0 (D6 10 11 12) (B4 (tr (jr (jr ?_))))))
        rw [B62 hgn hfr (by rw [A2R htk]; exact hE), A2R htk, A5q htk]
        exact ⟨_, MP1, [], A3O (n := 9) rfl rfl rfl rfl kR At.mem qR, Fit.none (Fit.last qP), _, _, rfl, hP1, ⟨vo, vt, vr, vk, vl, _, rfl, hr.mono qS⟩, By.nil⟩
       ·
        have hE : ahE r.tn hp = 0 := by simpa [I1] using hc
        refine A6 (nx (Z7 0 4 6 8 10 13 19 20 21) (A7 ?_))
        refine A2 (qw_ 2) rfl ?_
        refine A2 (qf_ 5 5) rfl ?_
        refine A5 rfl (N8 (vs := [ka, .int .u32 (((ahX s r.tk r.tn hp r.their r.sks).2.2.1 : Nat) : Int)]) (cs' := [vo, vt, vr, vk, (vU r.sn), ka, .int .u32 (((ahX s r.tk r.tn hp r.their r.sks).2.2.1 : Nat) : Int), (vU r.prev), (vP cb)]) rfl rfl rfl kR (by exact (show 5 + 2 ≤ 9 by decide)) (A8 ka_.one (A8 rfl L6)) rfl UpC.upd ?_)
        refine C0 ?_
        exact jn (MP1, MS1, J96 ++ J12, ka) ⟨hP1, hSt1.mono qS, ka_.mono qS, h31.mono qS, hE⟩ (T6 0 4 6 8 10 13 19 20) (Fit.pick (B := [(b19, blk [vo, vt, vr, vk, (vU r.sn), ka, .int .u32 (((ahX s r.tk r.tn hp r.their r.sks).2.2.1 : Nat) : Int), (vU r.prev), (vP cb)] 41)]) qP (Fit.pick (B := [(b10, blk [vS, vS, vS, vS, .int .u32 0, vS, .int .u32 0, .int .u32 0, .pointer none] 41)]) qP (Fit.pick (B := [(b8, blk [vh, (vU hp), (vU hn)] 29)]) qP (Fit.pick (B := [(b6, blk [vo, vt, vr, vk, (vU r.sn), vl, (vU r.tn), (vU r.prev), (vP sb)] 41)]) qP (Fit.pick (B := MP1) qP (Fit.last qP)))))) qI
      ·
       have htk : r.tk = [] := by cases hq : r.tk with | nil => rfl | cons a l => rw [hq] at hc; simp [I1] at hc
       refine A6 ?_
       rw [B1z htk, B1A htk]
       exact jn (MP, M66, J12, vl) ⟨hP, hSt.mono qS, hr.tk.mono qS, h31, rfl⟩ (T6 0 4 6 8 10 13 19 20) (Fit.pick (B := [(b19, blk [vo, vt, vr, vk, (vU r.sn), vl, (vU r.tn), (vU r.prev), (vP cb)] 41)]) qP (Fit.pick (B := [(b10, blk [vS, vS, vS, vS, .int .u32 0, vS, .int .u32 0, .int .u32 0, .pointer none] 41)]) qP (Fit.pick (B := [(b8, blk [vh, (vU hp), (vU hn)] 29)]) qP (Fit.pick (B := [(b6, blk [vo, vt, vr, vk, (vU r.sn), vl, (vU r.tn), (vU r.prev), (vP sb)] 41)]) qP (Fit.pick (B := MP) qP (Fit.last qP)))))) qI
     ·
      rintro ⟨MP1, MS1, J18, ka⟩ ⟨hP1, hSt1, ka_, h31, hAE⟩
      dsimp only at hP1 hSt1 ka_ h31 ⊢
      haveI := h31.cel
      haveI := ka_.cel
      obtain ⟨xa, hxa⟩ : ∃ z, opA s r hp = z := ⟨_, rfl⟩
      rw [hxa] at hP1 hSt1 ka_ hab ⊢
      have htl := A09 xa.1 r.root r.own hk
      refine A1 (mv_ ?_)
      refine A2 (qf_ 2 2) rfl ?_
      refine A2 ql_ rfl ?_
      refine A2 (qf_ 0 0) rfl ?_
      refine A2 ql_ rfl ?_
      refine A2 (qf_ 0 0) rfl ?_
      refine A2 ql_ rfl ?_
      refine A5 rfl (E0 (Mc := MP1) (R := _) (aS rfl (aS rfl (aS rfl (aS rfl (a0))))) kR qP (B00 pb xa.1 vr vo vh r.root r.own hk MP1 _ hP1 qO (hr.root.mono qS) (hr.own.mono qS) (hh.mono qS) hG.up) rfl ?_)
      rintro v113 M113 J113 ⟨y0, y1, rfl, hP113, gy0, gy1⟩
      haveI := gy0.cel
      haveI := gy1.cel
      refine mv_ ?_
      refine A2 (A0T rfl) rfl ?_
      refine A2 (A0L rfl) rfl ?_
      refine A2 (qf_ 2 2) rfl ?_
      refine A5 rfl (D9 rfl rfl gy0.one kR SetC.set UpC.upd ?_)
      refine A2 (qf_ 5 5) rfl ?_
      refine A5 rfl (N8 (vs := [y1, (vU 0)]) (cs' := [vo, vt, y0, vk, (vU r.sn), y1, (vU 0), (vU r.prev), (vP cb)]) rfl rfl rfl kR (by exact (show 5 + 2 ≤ 9 by decide)) (A8 gy1.one (A8 rfl L6)) rfl UpC.upd ?_)
      refine A0 (T6 0 4 6 8 10 13 19 20) (A7 ?_)
      refine A2 (qf_ 0 0) rfl ?_
      refine A2 ql_ rfl ?_
      refine C5 (aS rfl a0) kR (Y9 vh hk _ (hh.mono qS)) rfl ?_
      rintro v120 M120 J120 ⟨rfl, h120⟩
      haveI := h120.cel
      refine A2 (qf_ 1 1) rfl ?_
      refine A5 rfl (D9 rfl rfl h120.one kR SetC.set UpC.upd ?_)
      refine C0 ?_
      have e : x = B9e xa r hk := by rw [← hx0, B3Q hfr, hxa]
      rw [e]
      exact jn (M113, MS1, J120 ++ (J113 ++ J18), v120, y0, y1) ⟨hP113, hSt1.mono qS, h120.mono qS, gy0.mono qS, gy1.mono qS, h31.mono qS, fun _ => hAE⟩ (T6 0 4 6 8 10 13 19 20) (Fit.pick (B := [(b19, blk [vo, v120, y0, vk, (vU r.sn), y1, (vU 0), (vU r.prev), (vP cb)] 41)]) qP (Fit.pick (B := [(b10, blk [vS, vS, vS, vS, .int .u32 0, vS, .int .u32 0, .int .u32 0, .pointer none] 41)]) qP (Fit.pick (B := [(b8, blk [vh, (vU hp), (vU hn)] 29)]) qP (Fit.pick (B := [(b6, blk [vo, vt, vr, vk, (vU r.sn), vl, (vU r.tn), (vU r.prev), (vP sb)] 41)]) qP (Fit.pick (B := M113) qP (Fit.last qP)))))) qI
    ·
     have hfr : A1i r hk = false := hc
     refine A6 ?_
     have e : x = (s, r) := by rw [← hx0, B63 hfr]
     rw [e]
     exact jn (MP, M66, J12, vt, vr, vl) ⟨hP, hSt.mono qS, hr.their.mono qS, hr.root.mono qS, hr.tk.mono qS, h31, fun h => by rw [hfr] at h; cases h⟩ (T6 0 4 6 8 10 13 19 20) (Fit.pick (B := [(b19, blk [vo, vt, vr, vk, (vU r.sn), vl, (vU r.tn), (vU r.prev), (vP cb)] 41)]) qP (Fit.pick (B := [(b10, blk [vS, vS, vS, vS, .int .u32 0, vS, .int .u32 0, .int .u32 0, .pointer none] 41)]) qP (Fit.pick (B := [(b8, blk [vh, (vU hp), (vU hn)] 29)]) qP (Fit.pick (B := [(b6, blk [vo, vt, vr, vk, (vU r.sn), vl, (vU r.tn), (vU r.prev), (vP sb)] 41)]) qP (Fit.pick (B := MP) qP (Fit.last qP)))))) qI
   ·
    have hxb : x.1.ts.length ≤ s.ts.length + 55 ∧ x.1.n = s.n ∧ x.2.tn < 4294967296 ∧ x.2.sks.length ≤ 1000 := by
     have hab := B65 s r hp hr.tn hhp hr.sks
     have htl := A09 (opA s r hp).1 r.root r.own hk
     cases hf : A1i r hk with
     | true => rw [← hx0, B3Q hf]; exact ⟨by show (A2O _ _ _ _).ts.length ≤ _; omega, htl.2.trans hab.2.1, (show 0 < 4294967296 by decide), hab.2.2.2⟩
     | false => rw [← hx0, B63 hf]; exact ⟨Nat.le_add_right _ _, rfl, hr.tn, hr.sks⟩
    have hcb := B60 x.1 x.2.tk x.2.tn hn x.2.their x.2.sks hxb.2.2.1 hhn hxb.2.2.2
    change (opC x hn).1.ts.length ≤ _ ∧ (opC x hn).1.n = _ ∧ (opC x hn).2.2.1 < _ ∧ (opC x hn).2.2.2.length ≤ _ at hcb
    have hsl := A0q (opC x hn).1 (opC x hn).2.1
    change (opD x hn).ts.length ≤ _ ∧ (opD x hn).n = _ ∧ _ at hsl
    have hfl := A0C (opD x hn)
    rintro ⟨MP2, MS2, J20, zt, zr, zk⟩ ⟨hP2, hSt2, zt_, zr_, zk_, h31, hF0⟩
    dsimp only at hP2 hSt2 zt_ zr_ zk_ h31 ⊢
    haveI := h31.cel
    haveI := zt_.cel
    haveI := zr_.cel
    haveI := zk_.cel
    refine A1 (mv_ ?_)
    refine A2 (qf_ 5 5) rfl ?_
    refine A2 (W7 (n := 2) rfl kR (by first | exact At.mem | exact mA (by assumption)) TakeC.take) rfl ?_
    refine A2 (qf_ 1 1) rfl ?_
    refine A2 ql_ rfl ?_
    refine A2 (qf_ 2 2) rfl ?_
    refine A2 ql_ rfl ?_
    refine A2 (qf_ 8 8) rfl ?_
    refine A2 ql_ rfl ?_
    refine A5 rfl (E0 (Mc := MP2 ++ MS2) (R := _) (aS rfl (aS rfl (aS rfl (aS rfl (aS rfl (a0)))))) kR qP (B1x pb cb x.1 zk zt x.2.tk x.2.their x.2.tn hn x.2.sks (J20 ++ A) MP2 MS2 _ hP2 hSt2 qS zk_ zt_ hxb.2.2.2 hhn qO hG.up) rfl ?_)
    rintro v132 M132 J132 ⟨MP3, MS3, kv, rfl, rfl, hP3, hSt3, gkv⟩
    haveI := gkv.cel
    change Prm pb (opC x hn).1 MP3 at hP3
    change Sto _ cb (opC x hn).2.2.2 MS3 at hSt3
    change By _ kv (opC x hn).2.1 at gkv
    change XL _ _ _ _ ((132, .tuple #[.agg #[kv, .int .u32 (((opC x hn).2.2.1 : Nat) : Int)], .int .i64 (ahE x.2.tn hn)]) :: _) _ _
    refine mv_ ?_
    refine A2 (A0T rfl) rfl ?_
    refine A2 (A0L rfl) rfl ?_
    refine A5 rfl (C4 (cs := [vS, .int .u32 0]) kR rfl fun b23 => ?_)
    refine A5 rfl (A9 (vs := [kv, .int .u32 (((opC x hn).2.2.1 : Nat) : Int)]) rfl rfl rfl kR qR (A8 gkv.one (A8 rfl L6)) UpC.upd ?_)
    refine as_ (A0 (Z7 0 4 6 10 13 19 20 23 24) (A3 (A1 (mv_ ?_))))
    refine A2 (D4 rfl rfl rfl) rfl ?_
    refine A0 (kq 0 (Z7 4 6 10 13 19 20 23 24 136)) ?_
    refine C1 rfl ?_ ?_ <;> intro hc
    ·
     have hE2 : ahE x.2.tn hn ≠ 0 := by intro e; rw [e] at hc; simp [I1] at hc
     refine A1 ?_
     refine A2 (qw_ 9) rfl ?_
     refine mv_ ?_
     refine A5 rfl (A9 (vs := [vo, vt, vr, vk, (vU r.sn), vl, (vU r.tn), (vU r.prev), (vP sb)]) rfl rfl rfl kR qR (A8 hr.own.one (A8 hr.their.one (A8 hr.root.one (A8 hr.sk.one (A8 rfl (A8 hr.tk.one al3)))))) UpC.upd ?_)
     refine as_ (as_ (A0 (D6 10 11 12) (B4 (tr ?_))))
     rw [oR_n hgn hx0 hF0 hE2]
     exact ⟨_, MP3, [], A3O (n := 9) rfl rfl rfl rfl kR At.mem qR, Fit.none (Fit.last qP), _, _, rfl, hP3, ⟨vo, vt, vr, vk, vl, _, rfl, hr.mono qS⟩, By.nil⟩
    ·
     have hE2 : ahE x.2.tn hn = 0 := by simpa [I1] using hc
     refine A6 (nx (T6 0 4 6 10 13 19 20 23) (A1 (mv_ ?_)))
     refine A2 (qw_ 2) rfl ?_
     refine A5 rfl (E0 (Mc := MP3) (R := _) (aS rfl (aS rfl (a0))) kR qP (A3A pb (opC x hn).1 kv (opC x hn).2.1 (opC x hn).2.2.1 MP3 _ hP3 (gkv.mono qS) qO hG.up) rfl ?_)
     rintro v142 M142 J142 ⟨k1, k2, rfl, hP142, gk1, gk2⟩
     haveI := gk1.cel
     haveI := gk2.cel
     change Prm pb (opD x hn) M142 at hP142
     change By _ k1 (A80 x hn) at gk1
     refine mv_ ?_
     refine A2 (A0T rfl) rfl ?_
     refine A2 (A0L rfl) rfl ?_
     refine A5 rfl (C4 (cs := [vS, .int .u32 0]) kR rfl fun b26 => ?_)
     refine as_ ?_
     refine A5 rfl (A9 (vs := [k2, .int .u32 ((((opC x hn).2.2.1 + 1) % 4294967296 : Nat) : Int)]) rfl rfl rfl kR qR (A8 gk2.one (A8 rfl L6)) UpC.upd ?_)
     refine A0 (Z7 0 4 6 10 13 19 20 25 26) (A1 (mv_ (mv_ (mv_ (mv_ ?_)))))
     refine C5 (aS rfl (aS rfl (aS rfl (aS rfl a0)))) kR (B1q pb (opD x hn) k1 v31 vg (A80 x hn) (alW w hk hp hn) g M142 _ hP142 (by intro x hx; simp [hx]) qO (hx0 ▸ hS2) (gk1.mono qS) (h31.mono qS) (hg.mono qS) (hx0 ▸ hK2) qO hG.up) rfl ?_
     rintro v150 M150 J150 ⟨rfl, u150, rfl, h150⟩
     haveI := h150.cel
     refine mv_ ?_
     refine A2 (A0T rfl) rfl ?_
     refine A2 (A0L rfl) rfl ?_
     refine as_ (as_ (A0 (T6 0 6 10 19 20 26 27 28) (A3 (A1 (mv_ ?_)))))
     refine A2 (A5w rfl) rfl ?_
     refine A0 (T6 0 6 10 19 20 26 27 154) ?_
     refine C1 rfl ?_ ?_ <;> intro hc
     ·
      have hno : A1B (opD x hn) (A80 x hn) (alW w hk hp hn) g = none := by simpa using hc
      refine A1 ?_
      refine A2 (qw_ 9) rfl ?_
      refine A5 rfl (A9 (vs := [vo, vt, vr, vk, (vU r.sn), vl, (vU r.tn), (vU r.prev), (vP sb)]) rfl rfl rfl kR qR (A8 hr.own.one (A8 hr.their.one (A8 hr.root.one (A8 hr.sk.one (A8 rfl (A8 hr.tk.one al3)))))) UpC.upd ?_)
      refine as_ (as_ (A0 (D6 10 11 12) (B4 (tr ?_))))
      rw [B99 hgn hx0 hF0 hE2 hno]
      exact ⟨_, M142, [], A3O (n := 9) rfl rfl rfl rfl kR At.mem qR, Fit.none (Fit.last qP), _, _, rfl, hP142, ⟨vo, vt, vr, vk, vl, _, rfl, hr.mono qS⟩, By.nil⟩
     ·
      obtain ⟨t, hot⟩ : ∃ t, A1B (opD x hn) (A80 x hn) (alW w hk hp hn) g = some t := by
       cases hq : A1B (opD x hn) (A80 x hn) (alW w hk hp hn) g with
       | none => rw [hq] at hc; cases hc
       | some t => exact ⟨t, rfl⟩
      rw [hot, Option.getD_some] at h150
      refine A6 (nx (H3 0 10 19 20 26 27) (A1 ?_))
      refine A2 (qw_ 2) rfl ?_
      refine A2 (qf_ 5 5) rfl ?_
      refine A5 rfl (N8 (vs := [k2, .int .u32 ((((opC x hn).2.2.1 + 1) % 4294967296 : Nat) : Int)]) (cs' := [vo, zt, zr, vk, (vU r.sn), k2, .int .u32 ((((opC x hn).2.2.1 + 1) % 4294967296 : Nat) : Int), (vU r.prev), (vP cb)]) rfl rfl rfl kR (by exact (show 5 + 2 ≤ 9 by decide)) (A8 gk2.one (A8 rfl L6)) rfl UpC.upd ?_)
      refine A0 (E4 0 10 19 20 27) (A3 (A1 (mv_ (A0 (E4 0 10 19 27 158) ?_))))
      refine C1 rfl ?_ ?_ <;> intro hc
      ·
       have hf : A1i r hk = true := hc
       refine N1 (M142) (_) true [0, 1, 2, 3, 4, 5, 7] [(0, 0), (1, 0), (2, 1), (3, 0), (5, 0), (4, 2), (6, 2), (7, 0), (8, 2)] kR kR qP fun hs K n0 hKm hKs hKn => ?_
       refine L9 hs rfl (qf_ 3 3) rfl ?_
       refine L9 hs rfl (qf_ 4 1) rfl ?_
       refine Z0 hs rfl hKs ql_ ?_
       refine km_ hs ?_
       refine L9 hs rfl (qf_ 7 7) rfl ?_
       refine Q6 _ _ rfl rfl (List.Perm.refl _) hKm fun w0 => (E0 (Mc := M142) (R := _) (aS rfl (a0)) kR qP (A05 pb (opD x hn) M142 _ hP142 qO qO hG.up) rfl ?_)
       rintro v163 M163 J163 ⟨hP163, h163⟩ hKx163
       haveI := h163.cel
       refine U4 rfl rfl rfl (D9 rfl rfl rfl kR SetC.set UpC.upd ?_)
       refine L9 hs rfl (qf_ 0 0) rfl ?_
       refine U4 rfl rfl rfl (D9 rfl rfl h163.one kR SetC.set UpC.upd ?_)
       refine T3 (D8 0 10 19 27) (A7 (mv_ ?_))
       refine A2 (qf_ 2 2) rfl ?_
       refine A2 ql_ rfl ?_
       refine A2 (qf_ 0 0) rfl ?_
       refine A2 ql_ rfl ?_
       refine A2 (qf_ 1 1) rfl ?_
       refine A2 ql_ rfl ?_
       refine A5 rfl (E0 (Mc := M163) (R := _) (aS rfl (aS rfl (aS rfl (aS rfl (a0))))) kR qP (B00 pb (E2 (opD x hn)) zr v163 zt x.2.root (G2 (opD x hn)) x.2.their M163 _ hP163 qO (zr_.mono qS) (h163.mono qS) (zt_.mono qS) hG.up) rfl ?_)
       rintro v174 M174 J174 ⟨c0, c1, rfl, hP174, gc0, gc1⟩
       haveI := gc0.cel
       haveI := gc1.cel
       refine mv_ ?_
       refine A2 (A0T rfl) rfl ?_
       refine A2 (A0L rfl) rfl ?_
       refine A2 (qf_ 2 2) rfl ?_
       refine A5 rfl (D9 rfl rfl gc0.one kR SetC.set UpC.upd ?_)
       refine A2 (qf_ 3 3) rfl ?_
       refine A5 rfl (N8 (vs := [c1, (vU 0)]) (cs' := [v163, zt, c0, c1, (vU 0), k2, .int .u32 ((((opC x hn).2.2.1 + 1) % 4294967296 : Nat) : Int), (vU r.sn), (vP cb)]) rfl rfl rfl kR (by exact (show 3 + 2 ≤ 9 by decide)) (A8 gc1.one (A8 rfl L6)) rfl UpC.upd ?_)
       refine A0 (D6 10 19 27) ?_
       obtain ⟨u5, rows5, BS5, rfl, hs5, hw5⟩ := hSt3.ex
       have hrd5 := hs5.rd (R := BS5) fun _ h => h
       refine A0m (B := (cb, blk [u5] 80) :: BS5) qP ?_
       refine A1 ?_
       refine A2 (qw_ 9) rfl ?_
       refine mv_ ?_
       refine A5 rfl (A9 (vs := [v163, zt, c0, c1, (vU 0), k2, .int .u32 ((((opC x hn).2.2.1 + 1) % 4294967296 : Nat) : Int), (vU r.sn), (vP cb)]) rfl rfl rfl kR qR (A8 h163.one (A8 zt_.one (A8 gc0.one (A8 gc1.one (A8 rfl (A8 gk2.one al3)))))) UpC.upd ?_)
       refine as_ (as_ (A0 (D6 10 11 12) (B4 ?_)))
       rw [B1y hgn hx0 hF0 hE2 hot, B64 hf]
       exact ⟨_, M174, [], A3O (n := 9) rfl rfl rfl rfl kR At.mem qR, Fit.none (Fit.last qP), _, u150, rfl, hP174, ⟨v163, zt, c0, c1, k2, _, rfl, ⟨h163.mono qS, zt_.mono qS, gc0.mono qS, gc1.mono qS, gk2.mono qS, ⟨cb, u5, rows5, rfl, by simp, hrd5.mono qS, hw5.mono skT qS⟩, (show 0 < 4294967296 by decide), Nat.mod_lt _ qD, hr.sn, hcb.2.2.2⟩⟩, h150.mono qS⟩
      ·
       have hf : A1i r hk = false := hc
       refine A6 (nx (D6 10 19 27) ?_)
       obtain ⟨u5, rows5, BS5, rfl, hs5, hw5⟩ := hSt3.ex
       have hrd5 := hs5.rd (R := BS5) fun _ h => h
       refine A0m (B := (cb, blk [u5] 80) :: BS5) qP ?_
       refine A1 ?_
       refine A2 (qw_ 9) rfl ?_
       refine mv_ ?_
       refine A5 rfl (A9 (vs := [vo, zt, zr, vk, (vU r.sn), k2, .int .u32 ((((opC x hn).2.2.1 + 1) % 4294967296 : Nat) : Int), (vU r.prev), (vP cb)]) rfl rfl rfl kR qR (A8 hr.own.one (A8 zt_.one (A8 zr_.one (A8 hr.sk.one (A8 rfl (A8 gk2.one al3)))))) UpC.upd ?_)
       refine as_ (as_ (A0 (D6 10 11 12) (B4 ?_)))
       rw [B1y hgn hx0 hF0 hE2 hot, B8K hf]
       exact ⟨_, M142, [], A3O (n := 9) rfl rfl rfl rfl kR At.mem qR, Fit.none (Fit.last qP), _, u150, rfl, hP142, ⟨vo, zt, zr, vk, k2, _, rfl, ⟨hr.own.mono qS, zt_.mono qS, zr_.mono qS, hr.sk.mono qS, gk2.mono qS, ⟨cb, u5, rows5, rfl, by simp, hrd5.mono qS, hw5.mono skT qS⟩, hr.sn, Nat.mod_lt _ qD, hr.prev, hcb.2.2.2⟩⟩, h150.mono qS⟩

end Go.Proofs.YtlilcmjbaknafaaGreatDoor
namespace Go.Px
theorem St.frzInto {C : Cx} {w : World} : ∀ (M J : Mem), St C M J w → ∃ J2, (∀ x, x ∈ M ++ J → x ∈ J2) ∧ St C [] J2 w
  | [], J, h => ⟨J, fun x hx => hx, h⟩
  | y :: M, J, h => by
    obtain ⟨J2, h1, h2⟩ := St.frzInto M (y :: J) h.freeze
    refine ⟨J2, fun x hx => h1 x ?_, h2⟩
    simp only [List.cons_append, List.mem_cons, List.mem_append] at hx ⊢
    rcases hx with hx | hx | hx
    · exact .inr (.inl hx)
    · exact .inl hx
    · exact .inr (.inr hx)
theorem OpL.frzAll {C : Cx} {o : Oper} {l : Env} {M J : Mem} {K : Env → Mem → Mem → Prop} (h : OpL C o l M J fun l' M' J' => ∀ J2, (∀ x, x ∈ M' ++ J' → x ∈ J2) → K l' [] J2) : OpL C o l M J K := fun Qp a w ha hw =>
  Oper.wp_mono (fun a' w' ⟨l', M', J', h1, h2, h3⟩ => by
    obtain ⟨J2, g1, g2⟩ := St.frzInto M' J' h2
    exact ⟨l', [], J2, h1, g2, h3 J2 g1⟩) (h Qp a w ha hw)
end Go.Px

namespace Go.Proofs.YtlilcmjbaknafaaGreatDoor
open Go.Px
def F3 : LN := [119, 105, 116, 104]
def rg0 (m : Nat) : Ps := ⟨m % 2 == 0, [114, 97, 116, 99, 104, 101, 116], 0, []⟩
def Par (R : Mem) (tb pb : Nat) (s : Ps) (r0 r1 : Rsd) (M : Mem) : Prop := ∃ ao at_ ar ak al aq bo bt br bk bl bq MP, M = (tb, blk ((vP pb) :: (rsC ao at_ ar ak al aq r0 ++ rsC bo bt br bk bl bq r1)) 45) :: MP ∧ RsR R r0 ao at_ ar ak al aq ∧ RsR R r1 bo bt br bk bl bq ∧ Prm pb s MP
noncomputable def rK (m : Nat) : LN := G2 (rg0 m)
noncomputable def rO (m : Nat) : LN := G2 (E2 (rg0 m))
noncomputable def rS (m : Nat) : Ps := K1 (E2 (E2 (rg0 m))) (rO m)
noncomputable def rP (m : Nat) : LN := H5 (E2 (E2 (rg0 m))) (rO m)
theorem B66 (m : Nat) : ((m % 2 : Nat) : Int) = md (m % 2 == 0) := by
  rcases Nat.mod_two_eq_zero_or_one m with h | h <;> rw [h] <;> rfl
theorem A77 (m : Nat) (A : Mem) (hm : m < 256) (hG : Glb A) : FnX Tryz.prog 8 [.int .u8 ((m : Nat) : Int)] [] A fun q M J => ∃ tb pb, q = (vP tb) ∧ Par (J ++ A) tb pb (B0Z (rS m) (rK m) (rP m)) (B1W (rS m) (rK m) (rP m)) (B8x (rK m) (rO m)) M := by
 refine FnX.enterZ (N := 43) Tryz.func8 rfl rfl rfl fun w_ => ?_
 refine B0 (D7 0) (A1 (as_ (A0 (D7 0) (A1 (mv_ ?_)))))
 refine A2 (T8 (a := m) (b := 2) rfl rfl rfl rfl qD) rfl ?_
 rw [B66 m]
 refine A5 rfl (C3 (e := 5) (sz := 1) (z := [zu8, zu8, zu8, zu8, zu8, zu8, zu8]) kR (eS rfl (eS rfl (eS rfl (eS rfl (eS rfl (eS rfl (eS rfl e0))))))) (bdS 0 1 rfl qR (bdS 1 1 rfl qR (bdS 2 1 rfl qR (bdS 3 1 rfl qR (bdS 4 1 rfl qR (bdS 5 1 rfl qR (bdS 6 1 rfl qR bd0))))))) rfl fun b11 => ?_)
 refine A5 rfl (A4a rfl kR UpC.upd rfl ?_)
 refine A53 (B := [_]) (PickC.sing).perm ?_
 refine C5 (aS rfl (aS rfl a0)) kR (A94 (m % 2 == 0) _ [114, 97, 116, 99, 104, 101, 116] _ ⟨Rd.whole (n := 7) (At.mem) qR, by decide, by decide⟩) rfl ?_
 rintro v13 MP J13 ⟨pb, rfl, hP⟩
 change Prm pb (rg0 m) MP at hP
 have f0 : (rg0 m).ts.length = 0 := rfl
 have f1 : (rg0 m).n = 0 := rfl
 have f2 := A0C (rg0 m)
 have f3 := A0C (E2 (rg0 m))
 have f4 := A3D (E2 (E2 (rg0 m))) (rO m)
 have f5 : (rS m).n = _ := B6x (E2 (E2 (rg0 m))) (rO m)
 change (rS m).ts.length ≤ _ at f4
 refine mv_ ?_
 refine A2 (A0T rfl) rfl ?_
 refine A2 (A0L rfl) rfl ?_
 refine as_ (as_ (A0 (D2 3 4) (A3 (A1 (mv_ ?_)))))
 refine A2 (E9 false rfl rfl (neF rfl)) rfl ?_
 refine A0 (D2 3 17) ?_
 refine C6 rfl ?_
 refine A6 (nx (D7 3) (A1 (mv_ ?_)))
 refine A5 rfl (E0 (Mc := MP) (R := _) (aS rfl (a0)) kR qP (A05 pb (rg0 m) MP _ hP qO qO hG.up) rfl ?_)
 rintro v19 M19 J19 ⟨hP19, h19⟩
 haveI := h19.cel
 change By _ v19 (rK m) at h19
 refine as_ (A0 (D2 3 5) (A1 (mv_ ?_)))
 refine A5 rfl (E0 (Mc := M19) (R := _) (aS rfl (a0)) kR qP (A05 pb (E2 (rg0 m)) M19 _ hP19 qO qO hG.up) rfl ?_)
 rintro v21 M21 J21 ⟨hP21, h21⟩
 haveI := h21.cel
 change By _ v21 (rO m) at h21
 refine as_ (A0 (D6 3 5 6) (A1 (mv_ ?_)))
 refine A2 (G6 (place := fun x => #[(0, 1), (1, 18)][x]?) (z := [.pointer none, vS, vS, vS, vS, G3, vS, G3, G3, .pointer none, vS, vS, vS, vS, G3, vS, G3, G3, .pointer none]) (fun _ => by kernel_rfl) (eS rfl e0) (bdS 0 1 rfl qR bd0)) rfl ?_
 refine A5 rfl (bx_ fun b24 => ?_)
 refine as_ (A0 (D8 3 5 6 7) ?_)
 refine C9 [0, 1, 2, 3, 4, 7, 8, 9] [(0, 0), (1, 0), (2, 0), (3, 0), (4, 0), (7, 0), (8, 0), (5, 2), (6, 2), (9, 0), (10, 2)] kR kR fun hs => ?_
 refine fm_ hs ?_
 refine fm_ hs ?_
 refine fm_ hs ?_
 refine fm_ hs ?_
 refine fm_ hs ?_
 refine C2 hs rfl (E6 rfl) rfl ?_
 refine C2 hs rfl (qf_ 1 1) rfl ?_
 refine F5 rfl rfl rfl (E0 (Mc := M21) (R := _) (aS rfl (aS rfl (a0))) kR qP (A7Q pb (E2 (E2 (rg0 m))) v21 (rO m) M21 _ hP21 qO (h21.mono qS) hG.up) rfl ?_)
 rintro v30 M30 J30 ⟨hP30, h30⟩
 haveI := h30.cel
 change By _ v30 (rP m) at h30
 change Prm pb (rS m) M30 at hP30
 refine F5 rfl rfl rfl (E0 (Mc := M30) (R := _) (aS rfl (aS rfl (aS rfl (a0)))) kR qP (FnX.amb qS (B6y pb (rS m) v19 v30 (rK m) (rP m) M30 (J30 ++ (J21 ++ (J19 ++ A))) hP30 qO qO (h19.mono qS) (h30.mono qS) (hG.sub qS))) rfl ?_)
 rintro v31 M31 J31 ⟨hP31, ao, at_, ar, ak, al, aq, rfl, hr0⟩
 haveI := hr0.own.cel
 haveI := hr0.their.cel
 haveI := hr0.root.cel
 haveI := hr0.sk.cel
 haveI := hr0.tk.cel
 obtain ⟨r0, hr0e⟩ : ∃ z, B1W (rS m) (rK m) (rP m) = z := ⟨_, rfl⟩
 rw [hr0e] at hr0 ⊢
 unfold rsC
 refine C2 hs rfl (qi_ 1 41 2 9 0) rfl ?_
 refine F5 rfl rfl rfl (N8 (vs := [ao, at_, ar, ak, (vU r0.sn), al, (vU r0.tn), (vU r0.prev), aq]) (cs' := [(vP pb), ao, at_, ar, ak, (vU r0.sn), al, (vU r0.tn), (vU r0.prev), aq, vS, vS, vS, vS, .int .u32 0, vS, .int .u32 0, .int .u32 0, .pointer none]) rfl rfl rfl kR (by exact (show 1 + 9 ≤ 19 by decide)) (A8 hr0.own.one (A8 hr0.their.one (A8 hr0.root.one (A8 hr0.sk.one (A8 rfl (A8 hr0.tk.one (A8 rfl (A8 rfl (A8 hr0.st.one L6))))))))) rfl UpC.upd ?_)
 refine E7 (D6 5 6 7) ?_
 refine C9 (.range 7) [(0, 0), (1, 0), (2, 0), (4, 0), (5, 0), (3, 2), (6, 0), (7, 2)] kR kR fun hs => ?_
 refine fm_ hs ?_
 refine fm_ hs ?_
 refine fm_ hs ?_
 refine C2 hs rfl (E6 rfl) rfl ?_
 refine C2 hs rfl (qf_ 1 1) rfl ?_
 refine L8 rfl (aS rfl (aS rfl a0)) kR (FnX.amb qS (B6z v19 v21 (rK m) (rO m) (J30 ++ (J21 ++ (J19 ++ A))) (h19.mono qS) (h21.mono qS))) rfl ?_
 rintro v38 M38 J38 ⟨rfl, bo, bt, br, bk, bl, bq, rfl, hr1⟩
 haveI := hr1.own.cel
 haveI := hr1.their.cel
 haveI := hr1.root.cel
 haveI := hr1.sk.cel
 haveI := hr1.tk.cel
 obtain ⟨r1, hr1e⟩ : ∃ z, (B8x (rK m) (rO m)) = z := ⟨_, rfl⟩
 rw [hr1e] at hr1 ⊢
 unfold rsC
 refine C2 hs rfl (qi_ 10 41 2 9 1) rfl ?_
 refine F5 rfl rfl rfl (N8 (vs := [bo, bt, br, bk, (vU r1.sn), bl, (vU r1.tn), (vU r1.prev), bq]) (cs' := [(vP pb), ao, at_, ar, ak, (vU r0.sn), al, (vU r0.tn), (vU r0.prev), aq, bo, bt, br, bk, (vU r1.sn), bl, (vU r1.tn), (vU r1.prev), bq]) rfl rfl rfl kR (by exact (show 10 + 9 ≤ 19 by decide)) (A8 hr1.own.one (A8 hr1.their.one (A8 hr1.root.one (A8 hr1.sk.one (A8 rfl (A8 hr1.tk.one (A8 rfl (A8 rfl (A8 hr1.st.one L6))))))))) rfl UpC.upd ?_)
 refine E7 (D7 7) (A1 (mv_ (as_ (A0 (D7 2) (B4 ?_)))))
 exact ⟨_, (b24, blk [(vP pb), ao, at_, ar, ak, (vU r0.sn), al, (vU r0.tn), (vU r0.prev), aq, bo, bt, br, bk, (vU r1.sn), bl, (vU r1.tn), (vU r1.prev), bq] 45) :: M31, [], K9 rfl rfl, Fit.none (Fit.pick (B := [_]) qP (Fit.last qP)), b24, pb, rfl, ao, at_, ar, ak, al, aq, bo, bt, br, bk, bl, bq, M31, rfl, (by first | exact hr0.mono qS | exact hr0e ▸ hr0.mono qS), (by first | exact hr1.mono qS | exact hr1e ▸ hr1.mono qS), hP31⟩

theorem StF.cel {R : Mem} {v : Value} {sks : List Skp} (h : StF R v sks) : Cel v [v] := by obtain ⟨sb, u, rows, rfl, _⟩ := h; infer_instance
theorem R5 (pre vs post : List Value) : ∀ (j : Nat) v, vs[j]? = some v → (pre ++ (vs ++ post))[pre.length + j]? = some v := fun j v h => by
  rw [List.getElem?_append_right qO, Nat.add_sub_cancel_left, List.getElem?_append_left (List.getElem?_eq_some_iff.1 h).1]
  exact h
theorem B1C (tb pb : Nat) (s : Ps) (r0 r1 : Rsd) (tx : LN) (M0 A : Mem) (hPr : Par A tb pb s r0 r1 M0) (hn : s.ts.length + 200 ≤ 1040000) (hsk : 0 < r0.sk.length) (htx : B256 tx) (ltx : tx.length ≤ 1000000) (hG : Glb A) : FnX Tryz.prog 9 [(vP tb), .int .i64 0, .string (txt tx)] M0 A fun q M J => Par (J ++ A) tb pb (U7 s r0 F3 tx) (V1 s r0) r1 M ∧ ∃ vk vg, q = .tuple #[.agg #[.int .i64 1, vk, (vU r0.prev), (vU r0.sn), vg, .string (txt tx)], .bool true] ∧ By (J ++ A) vk (H5 s r0.own) ∧ By (J ++ A) vg (A1A s r0 F3 tx) := by
 obtain ⟨ao, at_, ar, ak, al, aq, bo, bt, br, bk, bl, bq, MP, rfl, h0, h1, hP⟩ := hPr
 haveI := h0.own.cel
 haveI := h0.their.cel
 haveI := h0.root.cel
 haveI := h0.sk.cel
 haveI := h0.tk.cel
 haveI := h1.own.cel
 haveI := h1.their.cel
 haveI := h1.root.cel
 haveI := h1.sk.cel
 haveI := h1.tk.cel
 haveI := h0.st.cel
 haveI := h1.st.cel
 unfold rsC
 refine FnX.enterZ (N := 47) Tryz.func9 rfl rfl rfl fun w_ => ?_
 refine B0 (D6 0 1 2) (A1 ?_)
 refine A5 rfl (C4 (cs := [A6F, vS, G3, G3, vS, .string ByteArray.empty]) kR rfl fun b6 => ?_)
 refine as_ (A0 (D8 0 1 2 6) ?_)
 refine N1 (MP) (_) true [0, 1, 2, 3, 4, 5, 6, 7, 8, 9, 10, 11, 12, 13, 14, 15, 16, 17, 18, 19, 20, 21, 24, 25] [(0, 0), (1, 0), (2, 0), (3, 1), (4, 0), (5, 0), (6, 0), (7, 0), (8, 0), (9, 1), (12, 0), (10, 8), (11, 8), (13, 8), (14, 8), (15, 8), (16, 8), (20, 8), (21, 8), (17, 9), (18, 9), (19, 10), (22, 2), (23, 2), (24, 0), (25, 0)] kR kR qP fun hs K n0 hKm hKs hKn => ?_
 refine km_ hs ?_
 refine L9 hs rfl (E6 rfl) rfl ?_
 refine L9 hs rfl (qf_ 0 0) rfl ?_
 refine Z0 hs rfl hKs ql_ ?_
 refine km_ hs ?_
 refine km_ hs ?_
 refine L9 hs rfl (E6 rfl) rfl ?_
 refine L9 hs rfl (qf_ 1 1) rfl ?_
 refine L9 hs rfl (D1 (e := 41) (n := 2) (sz := 9) (i := 0) 1 rfl rfl kR kR rfl qD rfl) rfl ?_
 refine Z0 hs rfl hKs (T4 (n := 9) (vs := [ao, at_, ar, ak, (vU r0.sn), al, (vU r0.tn), (vU r0.prev), aq]) rfl kR At.mem rfl (R5 [(vP pb)] [ao, at_, ar, ak, (vU r0.sn), al, (vU r0.tn), (vU r0.prev), aq] [bo, bt, br, bk, (vU r1.sn), bl, (vU r1.tn), (vU r1.prev), bq])) ?_
 refine km_ hs ?_
 refine A1W [⟨10, 23, none, [], fun v B _ => ∃ b, v = .slice (some ⟨b, 0, none⟩) 4 4 ∧ B = [(b, blk (nums .u8 [119, 105, 116, 104]) 5)]⟩, ⟨11, 24, some 10, [], fun v B R => B = [] ∧ By R v [119, 105, 116, 104]⟩, ⟨13, 26, none, [], fun v B R => B = [] ∧ By R v tx⟩, ⟨14, 27, none, MP, fun v B R => ∃ q1 q2 q3, v = .tuple #[q1, .agg #[q2, (vU r0.prev), (vU r0.sn)], q3, .int .i64 0] ∧ Prm pb (U7 s r0 F3 tx) B ∧ RsV R q1 (V1 s r0) ∧ By R q2 (H5 s r0.own) ∧ By R q3 (A1A s r0 F3 tx)⟩, ⟨15, 12, none, [], fun v B R => B = [] ∧ ∃ q1 q2 q3, v = .tuple #[q1, .agg #[q2, (vU r0.prev), (vU r0.sn)], q3, .int .i64 0] ∧ RsV R q1 (V1 s r0) ∧ By R q2 (H5 s r0.own) ∧ By R q3 (A1A s r0 F3 tx)⟩, ⟨16, 28, none, [], fun v B R => B = [] ∧ RsV R v (V1 s r0)⟩, ⟨20, 8, none, [], fun v B _ => ∃ b, v = (vP b) ∧ B = [(b, blk [vS, vS, vS, vS, .int .u32 0, vS, .int .u32 0, .int .u32 0, .pointer none] 41)]⟩, ⟨21, 9, none, [], fun v B _ => ∃ b, v = (vP b) ∧ B = [(b, blk [vS, .int .u32 0, .int .u32 0] 29)]⟩] [⟨17, 29, none, [], fun v B R => B = [] ∧ ∃ q2, v = .agg #[q2, (vU r0.prev), (vU r0.sn)] ∧ By R q2 (H5 s r0.own)⟩, ⟨18, 30, none, [], fun v B R => B = [] ∧ By R v (A1A s r0 F3 tx)⟩, ⟨19, 31, none, [], fun v B R => B = [] ∧ v = .int .i64 0⟩] ([(b6, blk [.int .i64 0, vS, .int .u32 0, .int .u32 0, vS, .string ByteArray.empty] 31), (tb, blk [(vP pb), ao, at_, ar, ak, (vU r0.sn), al, (vU r0.tn), (vU r0.prev), aq, bo, bt, br, bk, (vU r1.sn), bl, (vU r1.tn), (vU r1.prev), bq] 45)]) (fun bs => [bs 11, bs 13, bs 14, bs 15, bs 16, bs 20, bs 21, bs 17, bs 18, bs 19]) (hKn rfl) (by simp [A1c, A1w]) (show ∀ m ∈ ([[], [], MP, [], [], [], [], [], [], []] : List Mem), ∀ x ∈ m, K x.1 from A8 (fun _ h => by cases h) (A8 (fun _ h => by cases h) (A8 (hKm) (A8 (fun _ h => by cases h) (A8 (fun _ h => by cases h) (A8 (fun _ h => by cases h) (A8 (fun _ h => by cases h) (A8 (fun _ h => by cases h) (A8 (fun _ h => by cases h) (A8 (fun _ h => by cases h) (L6))))))))))) kR (fun _ => by first | rfl | kernel_rfl)
  (A8 (fun _ _ _ _ _ h => h) (A8 (fun _ _ _ _ hR h => ⟨h.1, h.2.mono hR⟩) (A8 (fun _ _ _ _ hR h => ⟨h.1, h.2.mono hR⟩) (A8 (fun _ _ _ _ h ⟨q1, q2, q3, e, p1, p2, p3, p4⟩ => ⟨q1, q2, q3, e, p1, p2.mono h, p3.mono h, p4.mono h⟩) (A8 (fun _ _ _ _ h ⟨e0, q1, q2, q3, e, p2, p3, p4⟩ => ⟨e0, q1, q2, q3, e, p2.mono h, p3.mono h, p4.mono h⟩) (A8 (fun _ _ _ _ h hp => ⟨hp.1, hp.2.mono h⟩) (A8 (fun _ _ _ _ _ h => h) (A8 (fun _ _ _ _ _ h => h) (A8 (fun _ _ _ _ h ⟨e0, q, e, p⟩ => ⟨e0, q, e, p.mono h⟩) (A8 (fun _ _ _ _ hR h => ⟨h.1, h.2.mono hR⟩) (A8 (fun _ _ _ _ _ h => h) (L6)))))))))))) (show List.Nodup [23, 24, 26, 27, 12, 28, 8, 9, 29, 30, 31] by decide) (show List.Nodup [10, 11, 13, 14, 15, 16, 20, 21, 17, 18, 19] by decide) (A8 (C8 rfl) (A8 (C8 rfl) (A8 (C8 rfl) (A8 (C8 rfl) (A8 (C8 rfl) (A8 (C8 rfl) (A8 (C8 rfl) (A8 (C8 rfl) (A8 (C8 rfl) (A8 (C8 rfl) (A8 (C8 rfl) (L6))))))))))))
  hs (List.cons_ne_nil _ _) (A8 ⟨_, rfl, fun vs bs R Rj wG hb hj hjr ha => ⟨.inl rfl, ?_⟩⟩ (A8 ⟨_, rfl, fun vs bs R Rj wG hb hj hjr ha => ⟨.inl rfl, ?_⟩⟩ (A8 ⟨_, rfl, fun vs bs R Rj wG hb hj hjr ha => ⟨.inl rfl, ?_⟩⟩ (A8 ⟨_, rfl, fun vs bs R Rj wG hb hj hjr ha => ⟨.inl rfl, ?_⟩⟩ (A8 ⟨_, rfl, fun vs bs R Rj wG hb hj hjr ha => ⟨.inl rfl, ?_⟩⟩ (A8 ⟨_, rfl, fun vs bs R Rj wG hb hj hjr ha => ⟨.inl rfl, ?_⟩⟩ (A8 ⟨_, rfl, fun vs bs R Rj wG hb hj hjr ha => ⟨.inl rfl, ?_⟩⟩ (A8 ⟨_, rfl, fun vs bs R Rj wG hb hj hjr ha => ⟨.inl rfl, ?_⟩⟩ (L6))))))))) (A8 ⟨rfl, rfl, _, _, _, _, rfl, fun vs bs Rj hj ha => ?_⟩ (A8 ⟨rfl, rfl, _, _, _, _, rfl, fun vs bs Rj hj ha => ?_⟩ (A8 ⟨rfl, rfl, _, _, _, _, rfl, fun vs bs Rj hj ha => ?_⟩ (L6)))) ?_
 ·
  dsimp only [Gc.inp]
  exact C3 (e := 5) (sz := 1) (z := [zu8, zu8, zu8, zu8]) kR (eS rfl (eS rfl (eS rfl (eS rfl e0)))) (bdS 0 1 rfl qR (bdS 1 1 rfl qR (bdS 2 1 rfl qR (bdS 3 1 rfl qR bd0)))) rfl fun b => ⟨_, rfl, b, rfl, rfl⟩
 ·
  dsimp only [Gc.inp]
  have g10 := ha _ (List.mem_of_getElem? (i := 0) rfl) kR
  replace g10 : (fun v B _ => ∃ b, v = .slice (some ⟨b, 0, none⟩) 4 4 ∧ B = [(b, blk (nums .u8 [119, 105, 116, 104]) 5)]) (vs 10) (bs 10) Rj := g10
  dsimp only at g10
  obtain ⟨b, e, eB⟩ := g10
  dsimp only [U1, List.map, List.cons_append, List.nil_append]
  rw [e, eB]
  refine OpL.frzAll ?_
  exact A4a rfl kR UpC.upd rfl (fun J2 hJ => ⟨_, rfl, rfl, ⟨Rd.whole (n := 4) (List.mem_append_left _ (hJ _ (List.mem_append_left _ (List.mem_singleton.2 rfl)))) qR, by decide, by decide⟩⟩)
 ·
  dsimp only [Gc.inp]
  refine OpL.frzAll ?_
  refine A0U (e := 5) rfl rfl htx.lt kR kR kR rfl fun v B hs J2 hJ => ⟨_, rfl, rfl, ⟨hs.mono fun x hx => List.mem_append_left _ (hJ _ (by simp [hx])), htx.lt, Nat.le_trans ltx qD⟩⟩
 ·
  dsimp only [Gc.inp]
  have g11 := ha _ (List.mem_of_getElem? (i := 1) rfl) kR
  replace g11 : (fun v B R => B = [] ∧ By R v [119, 105, 116, 104]) (vs 11) (bs 11) Rj := g11
  dsimp only at g11
  have g13 := ha _ (List.mem_of_getElem? (i := 2) rfl) kR
  replace g13 : (fun v B R => B = [] ∧ By R v tx) (vs 13) (bs 13) Rj := g13
  dsimp only at g13
  obtain ⟨-, h11⟩ := g11
  obtain ⟨-, h13⟩ := g13
  haveI := h11.cel
  haveI := h13.cel
  refine E0 (Mc := MP) (R := []) (aS rfl (aS rfl (aS rfl (aS rfl (a0))))) kR qM (FnX.amb (A := Rj) (fun x hx => by have := hjr x hx; simp [this]) (B1s pb s r0 ao at_ ar ak al aq _ _ F3 tx MP Rj hP qO (h0.mono (fun x hx => hj x (qS x hx))) hsk h11 qD h13 ltx (hG.sub (fun x hx => hj x (qS x hx))))) rfl ?_
  rintro v25 M25 J25 ⟨q1, q2, q3, rfl, hP25, p2, p3, p4⟩
  exact ⟨_, rfl, q1, q2, q3, rfl, by simpa using hP25, p2.mono (fun x hx => by simpa using hx), p3.mono (fun x hx => by simpa using hx), p4.mono (fun x hx => by simpa using hx)⟩
 ·
  dsimp only [Gc.inp]
  have g14 := ha _ (List.mem_of_getElem? (i := 3) rfl) kR
  replace g14 : (fun v B R => ∃ q1 q2 q3, v = .tuple #[q1, .agg #[q2, (vU r0.prev), (vU r0.sn)], q3, .int .i64 0] ∧ Prm pb (U7 s r0 F3 tx) B ∧ RsV R q1 (V1 s r0) ∧ By R q2 (H5 s r0.own) ∧ By R q3 (A1A s r0 F3 tx)) (vs 14) (bs 14) Rj := g14
  dsimp only at g14
  obtain ⟨q1, q2, q3, e, -, k⟩ := g14
  exact OpQ.opL qm_ rfl ⟨_, rfl, rfl, q1, q2, q3, e, k⟩
 ·
  dsimp only [Gc.inp]
  have g15 := ha _ (List.mem_of_getElem? (i := 4) rfl) kR
  replace g15 : (fun v B R => B = [] ∧ ∃ q1 q2 q3, v = .tuple #[q1, .agg #[q2, (vU r0.prev), (vU r0.sn)], q3, .int .i64 0] ∧ RsV R q1 (V1 s r0) ∧ By R q2 (H5 s r0.own) ∧ By R q3 (A1A s r0 F3 tx)) (vs 15) (bs 15) Rj := g15
  dsimp only at g15
  obtain ⟨-, q1, q2, q3, e, k, -⟩ := g15
  exact OpQ.opL (I3 (vs := #[q1, .agg #[q2, (vU r0.prev), (vU r0.sn)], q3, .int .i64 0]) (by rw [← e]; rfl) rfl) rfl ⟨_, rfl, rfl, k⟩
 ·
  dsimp only [Gc.inp]
  exact C4 (cs := [vS, vS, vS, vS, G3, vS, G3, G3, .pointer none]) kR rfl fun b => ⟨_, rfl, b, rfl, rfl⟩
 ·
  dsimp only [Gc.inp]
  exact C4 (cs := [vS, .int .u32 0, .int .u32 0]) kR rfl fun b => ⟨_, rfl, b, rfl, rfl⟩
 ·
  have g15 := ha _ (List.mem_of_getElem? (i := 4) rfl) kR
  replace g15 : (fun v B R => B = [] ∧ ∃ q1 q2 q3, v = .tuple #[q1, .agg #[q2, (vU r0.prev), (vU r0.sn)], q3, .int .i64 0] ∧ RsV R q1 (V1 s r0) ∧ By R q2 (H5 s r0.own) ∧ By R q3 (A1A s r0 F3 tx)) (vs 15) (bs 15) Rj := g15
  dsimp only at g15
  obtain ⟨-, q1, q2, q3, e, -, k, -⟩ := g15
  exact ⟨_, I3 (vs := #[q1, .agg #[q2, (vU r0.prev), (vU r0.sn)], q3, .int .i64 0]) (by rw [← e]; rfl) rfl, rfl, q2, rfl, k⟩
 ·
  have g15 := ha _ (List.mem_of_getElem? (i := 4) rfl) kR
  replace g15 : (fun v B R => B = [] ∧ ∃ q1 q2 q3, v = .tuple #[q1, .agg #[q2, (vU r0.prev), (vU r0.sn)], q3, .int .i64 0] ∧ RsV R q1 (V1 s r0) ∧ By R q2 (H5 s r0.own) ∧ By R q3 (A1A s r0 F3 tx)) (vs 15) (bs 15) Rj := g15
  dsimp only at g15
  obtain ⟨-, q1, q2, q3, e, -, -, k⟩ := g15
  exact ⟨_, I3 (vs := #[q1, .agg #[q2, (vU r0.prev), (vU r0.sn)], q3, .int .i64 0]) (by rw [← e]; rfl) rfl, rfl, k⟩
 ·
  have g15 := ha _ (List.mem_of_getElem? (i := 4) rfl) kR
  replace g15 : (fun v B R => B = [] ∧ ∃ q1 q2 q3, v = .tuple #[q1, .agg #[q2, (vU r0.prev), (vU r0.sn)], q3, .int .i64 0] ∧ RsV R q1 (V1 s r0) ∧ By R q2 (H5 s r0.own) ∧ By R q3 (A1A s r0 F3 tx)) (vs 15) (bs 15) Rj := g15
  dsimp only at g15
  obtain ⟨-, q1, q2, q3, e, -⟩ := g15
  exact ⟨_, I3 (vs := #[q1, .agg #[q2, (vU r0.prev), (vU r0.sn)], q3, .int .i64 0]) (by rw [← e]; rfl) rfl, rfl, rfl⟩
 intro vs bs Jn0 hφ hKK
 have kk10 := hKK _ (List.mem_of_getElem? (i := 0) rfl)
 dsimp only at kk10
 have kk11 := hKK _ (List.mem_of_getElem? (i := 1) rfl)
 dsimp only at kk11
 have kk13 := hKK _ (List.mem_of_getElem? (i := 2) rfl)
 dsimp only at kk13
 have kk14 := hKK _ (List.mem_of_getElem? (i := 3) rfl)
 dsimp only at kk14
 have kk15 := hKK _ (List.mem_of_getElem? (i := 4) rfl)
 dsimp only at kk15
 have kk16 := hKK _ (List.mem_of_getElem? (i := 5) rfl)
 dsimp only at kk16
 have kk20 := hKK _ (List.mem_of_getElem? (i := 6) rfl)
 dsimp only at kk20
 have kk21 := hKK _ (List.mem_of_getElem? (i := 7) rfl)
 dsimp only at kk21
 have kk17 := hKK _ (List.mem_of_getElem? (i := 8) rfl)
 dsimp only at kk17
 have kk18 := hKK _ (List.mem_of_getElem? (i := 9) rfl)
 dsimp only at kk18
 have kk19 := hKK _ (List.mem_of_getElem? (i := 10) rfl)
 dsimp only at kk19
 clear hKK
 have g10 := ofH hφ
 dsimp only at g10
 replace hφ := ofT hφ
 have g11 := ofH hφ
 dsimp only at g11
 replace hφ := ofT hφ
 have g13 := ofH hφ
 dsimp only at g13
 replace hφ := ofT hφ
 have g14 := ofH hφ
 dsimp only at g14
 replace hφ := ofT hφ
 have g15 := ofH hφ
 dsimp only at g15
 replace hφ := ofT hφ
 have g16 := ofH hφ
 dsimp only at g16
 replace hφ := ofT hφ
 have g20 := ofH hφ
 dsimp only at g20
 replace hφ := ofT hφ
 have g21 := ofH hφ
 dsimp only at g21
 replace hφ := ofT hφ
 have g17 := ofH hφ
 dsimp only at g17
 replace hφ := ofT hφ
 have g18 := ofH hφ
 dsimp only at g18
 replace hφ := ofT hφ
 have g19 := ofH hφ
 dsimp only at g19
 clear hφ
 dsimp only [U1, A1c, List.foldr, List.map, List.cons_append, List.nil_append]
 generalize bs 10 = B23 at *
 generalize bs 11 = B24 at *
 generalize bs 13 = B26 at *
 generalize bs 14 = B27 at *
 generalize bs 15 = B12 at *
 generalize bs 16 = B28 at *
 generalize bs 20 = B8 at *
 generalize bs 21 = B9 at *
 generalize bs 17 = B29 at *
 generalize bs 18 = B30 at *
 generalize bs 19 = B31 at *
 generalize vs 10 = u23 at *
 generalize vs 11 = u24 at *
 generalize vs 13 = u26 at *
 generalize vs 14 = u27 at *
 generalize vs 15 = u12 at *
 generalize vs 16 = u28 at *
 generalize vs 20 = u8 at *
 generalize vs 21 = u9 at *
 generalize vs 17 = u29 at *
 generalize vs 18 = u30 at *
 generalize vs 19 = u31 at *
 obtain ⟨-, -, -, -, hP27, -⟩ := g14
 clear g15
 obtain ⟨b, rfl, rfl⟩ := g10
 obtain ⟨rfl, h24⟩ := g11
 obtain ⟨rfl, h26⟩ := g13
 obtain ⟨rfl, wo, wt, wr, wk, wl, wq, rfl, hn1⟩ := g16
 obtain ⟨rfl, hk_, rfl, h29⟩ := g17
 obtain ⟨rfl, h30⟩ := g18
 obtain ⟨rfl, rfl⟩ := g19
 obtain ⟨b8, rfl, rfl⟩ := g20
 obtain ⟨b9, rfl, rfl⟩ := g21
 haveI := hn1.own.cel
 haveI := hn1.their.cel
 haveI := hn1.root.cel
 haveI := hn1.sk.cel
 haveI := hn1.tk.cel
 haveI := hn1.st.cel
 haveI := h29.cel
 haveI := h30.cel
 unfold rsC
 refine U4 rfl rfl rfl (A9 (vs := [wo, wt, wr, wk, .int .u32 (((V1 s r0).sn : Nat) : Int), wl, .int .u32 (((V1 s r0).tn : Nat) : Int), .int .u32 (((V1 s r0).prev : Nat) : Int), wq]) rfl rfl rfl kR qR (A8 hn1.own.one (A8 hn1.their.one (A8 hn1.root.one (A8 hn1.sk.one (A8 rfl (A8 hn1.tk.one (A8 rfl (A8 rfl (A8 hn1.st.one L6))))))))) UpC.upd ?_)
 refine U4 rfl rfl rfl (A9 (vs := [hk_, (vU r0.prev), (vU r0.sn)]) rfl rfl rfl kR qR (A8 h29.one al2) UpC.upd ?_)
 refine L9 hs rfl (H8 rfl) rfl ?_
 refine L9 hs rfl (H8 rfl) rfl ?_
 refine T3 (T6 0 1 2 6 8 9 10 11) (A3 (A1 (mv_ ?_)))
 refine A2 (E9 false rfl rfl (neF rfl)) rfl ?_
 refine A0 (T6 0 1 2 6 8 9 10 33) ?_
 refine C6 rfl ?_
 refine A6 (nx (N0 0 1 2 6 8 9 10) ?_)
 refine C9 [0, 1, 2, 3, 4, 5] (zp 0 [0, 0, 1, 0, 0, 0, 2]) kR kR fun hs => ?_
 refine fm_ hs ?_
 refine fm_ hs ?_
 refine G4 hs rfl (qw_ 9) rfl ?_
 refine C2 hs rfl (E6 rfl) rfl ?_
 refine C2 hs rfl (qf_ 1 1) rfl ?_
 refine C2 hs rfl (D1 (e := 41) (n := 2) (sz := 9) (i := 0) 1 rfl rfl kR kR rfl qD rfl) rfl ?_
 refine F5 rfl rfl rfl (N8 (vs := [wo, wt, wr, wk, .int .u32 (((V1 s r0).sn : Nat) : Int), wl, .int .u32 (((V1 s r0).tn : Nat) : Int), .int .u32 (((V1 s r0).prev : Nat) : Int), wq]) (cs' := [(vP pb), wo, wt, wr, wk, .int .u32 (((V1 s r0).sn : Nat) : Int), wl, .int .u32 (((V1 s r0).tn : Nat) : Int), .int .u32 (((V1 s r0).prev : Nat) : Int), wq, bo, bt, br, bk, (vU r1.sn), bl, (vU r1.tn), (vU r1.prev), bq]) rfl rfl rfl kR (by exact (show 1 + 9 ≤ 19 by decide)) (A8 hn1.own.one (A8 hn1.their.one (A8 hn1.root.one (A8 hn1.sk.one (A8 rfl (A8 hn1.tk.one (A8 rfl (A8 rfl (A8 hn1.st.one L6))))))))) rfl UpC.upd ?_)
 refine E7 (E4 1 2 6 9 10) (A1 (mv_ ?_))
 refine A2 (D4 rfl rfl rfl) rfl ?_
 refine A2 (qw_ 3) rfl ?_
 refine mv_ (mv_ ?_)
 refine A2 (G6 (place := fun x => #[(0, 1), (1, 3), (4, 1), (5, 1)][x]?) (z := [A6F, vS, G3, G3, vS, .string ByteArray.empty]) (fun _ => by kernel_rfl) (eS rfl (eS rfl (eS rfl (eS rfl e0)))) (bdS 0 1 rfl qR (bdS 1 3 rfl qR (bdS 4 1 rfl qR (bdS 5 1 rfl qR bd0))))) rfl ?_
 refine A5 rfl (A9 (vs := [.int .i64 1, hk_, (vU r0.prev), (vU r0.sn), u30, .string (txt tx)]) rfl rfl rfl kR qR (A8 rfl (A8 h29.one (A8 rfl (A8 rfl (A8 h30.one (A8 rfl L6)))))) UpC.upd ?_)
 refine as_ (A0 (D2 6 7) (B4 ?_))
 exact ⟨_, (tb, blk [(vP pb), wo, wt, wr, wk, .int .u32 (((V1 s r0).sn : Nat) : Int), wl, .int .u32 (((V1 s r0).tn : Nat) : Int), .int .u32 (((V1 s r0).prev : Nat) : Int), wq, bo, bt, br, bk, (vU r1.sn), bl, (vU r1.tn), (vU r1.prev), bq] 45) :: B27, [], A5y (n := 6) rfl rfl rfl kR At.mem qR, Fit.none (Fit.pick (B := [_]) qP (Fit.last qP)), ⟨wo, wt, wr, wk, wl, wq, bo, bt, br, bk, bl, bq, B27, rfl, hn1.mono qS, h1.mono qS, hP27⟩, hk_, u30, rfl, h29.mono qS, h30.mono qS⟩
theorem B1D (tb pb : Nat) (s : Ps) (r0 r1 : Rsd) (tx : LN) (M0 A : Mem) (hPr : Par A tb pb s r0 r1 M0) (hn : s.ts.length + 200 ≤ 1040000) (hsk : 0 < r1.sk.length) (htx : B256 tx) (ltx : tx.length ≤ 1000000) (hG : Glb A) : FnX Tryz.prog 9 [(vP tb), .int .i64 1, .string (txt tx)] M0 A fun q M J => Par (J ++ A) tb pb (U7 s r1 F3 tx) r0 (V1 s r1) M ∧ ∃ vk vg, q = .tuple #[.agg #[.int .i64 0, vk, (vU r1.prev), (vU r1.sn), vg, .string (txt tx)], .bool true] ∧ By (J ++ A) vk (H5 s r1.own) ∧ By (J ++ A) vg (A1A s r1 F3 tx) := by
 obtain ⟨ao, at_, ar, ak, al, aq, bo, bt, br, bk, bl, bq, MP, rfl, h0, h1, hP⟩ := hPr
 haveI := h0.own.cel
 haveI := h0.their.cel
 haveI := h0.root.cel
 haveI := h0.sk.cel
 haveI := h0.tk.cel
 haveI := h1.own.cel
 haveI := h1.their.cel
 haveI := h1.root.cel
 haveI := h1.sk.cel
 haveI := h1.tk.cel
 haveI := h0.st.cel
 haveI := h1.st.cel
 unfold rsC
 refine FnX.enterZ (N := 47) Tryz.func9 rfl rfl rfl fun w_ => ?_
 refine B0 (D6 0 1 2) (A1 ?_)
 refine A5 rfl (C4 (cs := [A6F, vS, G3, G3, vS, .string ByteArray.empty]) kR rfl fun b6 => ?_)
 refine as_ (A0 (D8 0 1 2 6) ?_)
 refine N1 (MP) (_) true [0, 1, 2, 3, 4, 5, 6, 7, 8, 9, 10, 11, 12, 13, 14, 15, 16, 17, 18, 19, 20, 21, 24, 25] [(0, 0), (1, 0), (2, 0), (3, 1), (4, 0), (5, 0), (6, 0), (7, 0), (8, 0), (9, 1), (12, 0), (10, 8), (11, 8), (13, 8), (14, 8), (15, 8), (16, 8), (20, 8), (21, 8), (17, 9), (18, 9), (19, 10), (22, 2), (23, 2), (24, 0), (25, 0)] kR kR qP fun hs K n0 hKm hKs hKn => ?_
 refine km_ hs ?_
 refine L9 hs rfl (E6 rfl) rfl ?_
 refine L9 hs rfl (qf_ 0 0) rfl ?_
 refine Z0 hs rfl hKs ql_ ?_
 refine km_ hs ?_
 refine km_ hs ?_
 refine L9 hs rfl (E6 rfl) rfl ?_
 refine L9 hs rfl (qf_ 1 1) rfl ?_
 refine L9 hs rfl (D1 (e := 41) (n := 2) (sz := 9) (i := 1) 10 rfl rfl kR kR rfl qD rfl) rfl ?_
 refine Z0 hs rfl hKs (T4 (n := 9) (vs := [bo, bt, br, bk, (vU r1.sn), bl, (vU r1.tn), (vU r1.prev), bq]) rfl kR At.mem rfl (R5 [(vP pb), ao, at_, ar, ak, (vU r0.sn), al, (vU r0.tn), (vU r0.prev), aq] [bo, bt, br, bk, (vU r1.sn), bl, (vU r1.tn), (vU r1.prev), bq] [])) ?_
 refine km_ hs ?_
 refine A1W [⟨10, 23, none, [], fun v B _ => ∃ b, v = .slice (some ⟨b, 0, none⟩) 4 4 ∧ B = [(b, blk (nums .u8 [119, 105, 116, 104]) 5)]⟩, ⟨11, 24, some 10, [], fun v B R => B = [] ∧ By R v [119, 105, 116, 104]⟩, ⟨13, 26, none, [], fun v B R => B = [] ∧ By R v tx⟩, ⟨14, 27, none, MP, fun v B R => ∃ q1 q2 q3, v = .tuple #[q1, .agg #[q2, (vU r1.prev), (vU r1.sn)], q3, .int .i64 0] ∧ Prm pb (U7 s r1 F3 tx) B ∧ RsV R q1 (V1 s r1) ∧ By R q2 (H5 s r1.own) ∧ By R q3 (A1A s r1 F3 tx)⟩, ⟨15, 12, none, [], fun v B R => B = [] ∧ ∃ q1 q2 q3, v = .tuple #[q1, .agg #[q2, (vU r1.prev), (vU r1.sn)], q3, .int .i64 0] ∧ RsV R q1 (V1 s r1) ∧ By R q2 (H5 s r1.own) ∧ By R q3 (A1A s r1 F3 tx)⟩, ⟨16, 28, none, [], fun v B R => B = [] ∧ RsV R v (V1 s r1)⟩, ⟨20, 8, none, [], fun v B _ => ∃ b, v = (vP b) ∧ B = [(b, blk [vS, vS, vS, vS, .int .u32 0, vS, .int .u32 0, .int .u32 0, .pointer none] 41)]⟩, ⟨21, 9, none, [], fun v B _ => ∃ b, v = (vP b) ∧ B = [(b, blk [vS, .int .u32 0, .int .u32 0] 29)]⟩] [⟨17, 29, none, [], fun v B R => B = [] ∧ ∃ q2, v = .agg #[q2, (vU r1.prev), (vU r1.sn)] ∧ By R q2 (H5 s r1.own)⟩, ⟨18, 30, none, [], fun v B R => B = [] ∧ By R v (A1A s r1 F3 tx)⟩, ⟨19, 31, none, [], fun v B R => B = [] ∧ v = .int .i64 0⟩] ([(b6, blk [.int .i64 0, vS, .int .u32 0, .int .u32 0, vS, .string ByteArray.empty] 31), (tb, blk [(vP pb), ao, at_, ar, ak, (vU r0.sn), al, (vU r0.tn), (vU r0.prev), aq, bo, bt, br, bk, (vU r1.sn), bl, (vU r1.tn), (vU r1.prev), bq] 45)]) (fun bs => [bs 11, bs 13, bs 14, bs 15, bs 16, bs 20, bs 21, bs 17, bs 18, bs 19]) (hKn rfl) (by simp [A1c, A1w]) (show ∀ m ∈ ([[], [], MP, [], [], [], [], [], [], []] : List Mem), ∀ x ∈ m, K x.1 from A8 (fun _ h => by cases h) (A8 (fun _ h => by cases h) (A8 (hKm) (A8 (fun _ h => by cases h) (A8 (fun _ h => by cases h) (A8 (fun _ h => by cases h) (A8 (fun _ h => by cases h) (A8 (fun _ h => by cases h) (A8 (fun _ h => by cases h) (A8 (fun _ h => by cases h) (L6))))))))))) kR (fun _ => by first | rfl | kernel_rfl)
  (A8 (fun _ _ _ _ _ h => h) (A8 (fun _ _ _ _ hR h => ⟨h.1, h.2.mono hR⟩) (A8 (fun _ _ _ _ hR h => ⟨h.1, h.2.mono hR⟩) (A8 (fun _ _ _ _ h ⟨q1, q2, q3, e, p1, p2, p3, p4⟩ => ⟨q1, q2, q3, e, p1, p2.mono h, p3.mono h, p4.mono h⟩) (A8 (fun _ _ _ _ h ⟨e0, q1, q2, q3, e, p2, p3, p4⟩ => ⟨e0, q1, q2, q3, e, p2.mono h, p3.mono h, p4.mono h⟩) (A8 (fun _ _ _ _ h hp => ⟨hp.1, hp.2.mono h⟩) (A8 (fun _ _ _ _ _ h => h) (A8 (fun _ _ _ _ _ h => h) (A8 (fun _ _ _ _ h ⟨e0, q, e, p⟩ => ⟨e0, q, e, p.mono h⟩) (A8 (fun _ _ _ _ hR h => ⟨h.1, h.2.mono hR⟩) (A8 (fun _ _ _ _ _ h => h) (L6)))))))))))) (show List.Nodup [23, 24, 26, 27, 12, 28, 8, 9, 29, 30, 31] by decide) (show List.Nodup [10, 11, 13, 14, 15, 16, 20, 21, 17, 18, 19] by decide) (A8 (C8 rfl) (A8 (C8 rfl) (A8 (C8 rfl) (A8 (C8 rfl) (A8 (C8 rfl) (A8 (C8 rfl) (A8 (C8 rfl) (A8 (C8 rfl) (A8 (C8 rfl) (A8 (C8 rfl) (A8 (C8 rfl) (L6))))))))))))
  hs (List.cons_ne_nil _ _) (A8 ⟨_, rfl, fun vs bs R Rj wG hb hj hjr ha => ⟨.inl rfl, ?_⟩⟩ (A8 ⟨_, rfl, fun vs bs R Rj wG hb hj hjr ha => ⟨.inl rfl, ?_⟩⟩ (A8 ⟨_, rfl, fun vs bs R Rj wG hb hj hjr ha => ⟨.inl rfl, ?_⟩⟩ (A8 ⟨_, rfl, fun vs bs R Rj wG hb hj hjr ha => ⟨.inl rfl, ?_⟩⟩ (A8 ⟨_, rfl, fun vs bs R Rj wG hb hj hjr ha => ⟨.inl rfl, ?_⟩⟩ (A8 ⟨_, rfl, fun vs bs R Rj wG hb hj hjr ha => ⟨.inl rfl, ?_⟩⟩ (A8 ⟨_, rfl, fun vs bs R Rj wG hb hj hjr ha => ⟨.inl rfl, ?_⟩⟩ (A8 ⟨_, rfl, fun vs bs R Rj wG hb hj hjr ha => ⟨.inl rfl, ?_⟩⟩ (L6))))))))) (A8 ⟨rfl, rfl, _, _, _, _, rfl, fun vs bs Rj hj ha => ?_⟩ (A8 ⟨rfl, rfl, _, _, _, _, rfl, fun vs bs Rj hj ha => ?_⟩ (A8 ⟨rfl, rfl, _, _, _, _, rfl, fun vs bs Rj hj ha => ?_⟩ (L6)))) ?_
 ·
  dsimp only [Gc.inp]
  exact C3 (e := 5) (sz := 1) (z := [zu8, zu8, zu8, zu8]) kR (eS rfl (eS rfl (eS rfl (eS rfl e0)))) (bdS 0 1 rfl qR (bdS 1 1 rfl qR (bdS 2 1 rfl qR (bdS 3 1 rfl qR bd0)))) rfl fun b => ⟨_, rfl, b, rfl, rfl⟩
 ·
  dsimp only [Gc.inp]
  have g10 := ha _ (List.mem_of_getElem? (i := 0) rfl) kR
  replace g10 : (fun v B _ => ∃ b, v = .slice (some ⟨b, 0, none⟩) 4 4 ∧ B = [(b, blk (nums .u8 [119, 105, 116, 104]) 5)]) (vs 10) (bs 10) Rj := g10
  dsimp only at g10
  obtain ⟨b, e, eB⟩ := g10
  dsimp only [U1, List.map, List.cons_append, List.nil_append]
  rw [e, eB]
  refine OpL.frzAll ?_
  exact A4a rfl kR UpC.upd rfl (fun J2 hJ => ⟨_, rfl, rfl, ⟨Rd.whole (n := 4) (List.mem_append_left _ (hJ _ (List.mem_append_left _ (List.mem_singleton.2 rfl)))) qR, by decide, by decide⟩⟩)
 ·
  dsimp only [Gc.inp]
  refine OpL.frzAll ?_
  refine A0U (e := 5) rfl rfl htx.lt kR kR kR rfl fun v B hs J2 hJ => ⟨_, rfl, rfl, ⟨hs.mono fun x hx => List.mem_append_left _ (hJ _ (by simp [hx])), htx.lt, Nat.le_trans ltx qD⟩⟩
 ·
  dsimp only [Gc.inp]
  have g11 := ha _ (List.mem_of_getElem? (i := 1) rfl) kR
  replace g11 : (fun v B R => B = [] ∧ By R v [119, 105, 116, 104]) (vs 11) (bs 11) Rj := g11
  dsimp only at g11
  have g13 := ha _ (List.mem_of_getElem? (i := 2) rfl) kR
  replace g13 : (fun v B R => B = [] ∧ By R v tx) (vs 13) (bs 13) Rj := g13
  dsimp only at g13
  obtain ⟨-, h11⟩ := g11
  obtain ⟨-, h13⟩ := g13
  haveI := h11.cel
  haveI := h13.cel
  refine E0 (Mc := MP) (R := []) (aS rfl (aS rfl (aS rfl (aS rfl (a0))))) kR qM (FnX.amb (A := Rj) (fun x hx => by have := hjr x hx; simp [this]) (B1s pb s r1 bo bt br bk bl bq _ _ F3 tx MP Rj hP qO (h1.mono (fun x hx => hj x (qS x hx))) hsk h11 qD h13 ltx (hG.sub (fun x hx => hj x (qS x hx))))) rfl ?_
  rintro v25 M25 J25 ⟨q1, q2, q3, rfl, hP25, p2, p3, p4⟩
  exact ⟨_, rfl, q1, q2, q3, rfl, by simpa using hP25, p2.mono (fun x hx => by simpa using hx), p3.mono (fun x hx => by simpa using hx), p4.mono (fun x hx => by simpa using hx)⟩
 ·
  dsimp only [Gc.inp]
  have g14 := ha _ (List.mem_of_getElem? (i := 3) rfl) kR
  replace g14 : (fun v B R => ∃ q1 q2 q3, v = .tuple #[q1, .agg #[q2, (vU r1.prev), (vU r1.sn)], q3, .int .i64 0] ∧ Prm pb (U7 s r1 F3 tx) B ∧ RsV R q1 (V1 s r1) ∧ By R q2 (H5 s r1.own) ∧ By R q3 (A1A s r1 F3 tx)) (vs 14) (bs 14) Rj := g14
  dsimp only at g14
  obtain ⟨q1, q2, q3, e, -, k⟩ := g14
  exact OpQ.opL qm_ rfl ⟨_, rfl, rfl, q1, q2, q3, e, k⟩
 ·
  dsimp only [Gc.inp]
  have g15 := ha _ (List.mem_of_getElem? (i := 4) rfl) kR
  replace g15 : (fun v B R => B = [] ∧ ∃ q1 q2 q3, v = .tuple #[q1, .agg #[q2, (vU r1.prev), (vU r1.sn)], q3, .int .i64 0] ∧ RsV R q1 (V1 s r1) ∧ By R q2 (H5 s r1.own) ∧ By R q3 (A1A s r1 F3 tx)) (vs 15) (bs 15) Rj := g15
  dsimp only at g15
  obtain ⟨-, q1, q2, q3, e, k, -⟩ := g15
  exact OpQ.opL (I3 (vs := #[q1, .agg #[q2, (vU r1.prev), (vU r1.sn)], q3, .int .i64 0]) (by rw [← e]; rfl) rfl) rfl ⟨_, rfl, rfl, k⟩
 ·
  dsimp only [Gc.inp]
  exact C4 (cs := [vS, vS, vS, vS, G3, vS, G3, G3, .pointer none]) kR rfl fun b => ⟨_, rfl, b, rfl, rfl⟩
 ·
  dsimp only [Gc.inp]
  exact C4 (cs := [vS, .int .u32 0, .int .u32 0]) kR rfl fun b => ⟨_, rfl, b, rfl, rfl⟩
 ·
  have g15 := ha _ (List.mem_of_getElem? (i := 4) rfl) kR
  replace g15 : (fun v B R => B = [] ∧ ∃ q1 q2 q3, v = .tuple #[q1, .agg #[q2, (vU r1.prev), (vU r1.sn)], q3, .int .i64 0] ∧ RsV R q1 (V1 s r1) ∧ By R q2 (H5 s r1.own) ∧ By R q3 (A1A s r1 F3 tx)) (vs 15) (bs 15) Rj := g15
  dsimp only at g15
  obtain ⟨-, q1, q2, q3, e, -, k, -⟩ := g15
  exact ⟨_, I3 (vs := #[q1, .agg #[q2, (vU r1.prev), (vU r1.sn)], q3, .int .i64 0]) (by rw [← e]; rfl) rfl, rfl, q2, rfl, k⟩
 ·
  have g15 := ha _ (List.mem_of_getElem? (i := 4) rfl) kR
  replace g15 : (fun v B R => B = [] ∧ ∃ q1 q2 q3, v = .tuple #[q1, .agg #[q2, (vU r1.prev), (vU r1.sn)], q3, .int .i64 0] ∧ RsV R q1 (V1 s r1) ∧ By R q2 (H5 s r1.own) ∧ By R q3 (A1A s r1 F3 tx)) (vs 15) (bs 15) Rj := g15
  dsimp only at g15
  obtain ⟨-, q1, q2, q3, e, -, -, k⟩ := g15
  exact ⟨_, I3 (vs := #[q1, .agg #[q2, (vU r1.prev), (vU r1.sn)], q3, .int .i64 0]) (by rw [← e]; rfl) rfl, rfl, k⟩
 ·
  have g15 := ha _ (List.mem_of_getElem? (i := 4) rfl) kR
  replace g15 : (fun v B R => B = [] ∧ ∃ q1 q2 q3, v = .tuple #[q1, .agg #[q2, (vU r1.prev), (vU r1.sn)], q3, .int .i64 0] ∧ RsV R q1 (V1 s r1) ∧ By R q2 (H5 s r1.own) ∧ By R q3 (A1A s r1 F3 tx)) (vs 15) (bs 15) Rj := g15
  dsimp only at g15
  obtain ⟨-, q1, q2, q3, e, -⟩ := g15
  exact ⟨_, I3 (vs := #[q1, .agg #[q2, (vU r1.prev), (vU r1.sn)], q3, .int .i64 0]) (by rw [← e]; rfl) rfl, rfl, rfl⟩
 intro vs bs Jn0 hφ hKK
 have kk10 := hKK _ (List.mem_of_getElem? (i := 0) rfl)
 dsimp only at kk10
 have kk11 := hKK _ (List.mem_of_getElem? (i := 1) rfl)
 dsimp only at kk11
 have kk13 := hKK _ (List.mem_of_getElem? (i := 2) rfl)
 dsimp only at kk13
 have kk14 := hKK _ (List.mem_of_getElem? (i := 3) rfl)
 dsimp only at kk14
 have kk15 := hKK _ (List.mem_of_getElem? (i := 4) rfl)
 dsimp only at kk15
 have kk16 := hKK _ (List.mem_of_getElem? (i := 5) rfl)
 dsimp only at kk16
 have kk20 := hKK _ (List.mem_of_getElem? (i := 6) rfl)
 dsimp only at kk20
 have kk21 := hKK _ (List.mem_of_getElem? (i := 7) rfl)
 dsimp only at kk21
 have kk17 := hKK _ (List.mem_of_getElem? (i := 8) rfl)
 dsimp only at kk17
 have kk18 := hKK _ (List.mem_of_getElem? (i := 9) rfl)
 dsimp only at kk18
 have kk19 := hKK _ (List.mem_of_getElem? (i := 10) rfl)
 dsimp only at kk19
 clear hKK
 have g10 := ofH hφ
 dsimp only at g10
 replace hφ := ofT hφ
 have g11 := ofH hφ
 dsimp only at g11
 replace hφ := ofT hφ
 have g13 := ofH hφ
 dsimp only at g13
 replace hφ := ofT hφ
 have g14 := ofH hφ
 dsimp only at g14
 replace hφ := ofT hφ
 have g15 := ofH hφ
 dsimp only at g15
 replace hφ := ofT hφ
 have g16 := ofH hφ
 dsimp only at g16
 replace hφ := ofT hφ
 have g20 := ofH hφ
 dsimp only at g20
 replace hφ := ofT hφ
 have g21 := ofH hφ
 dsimp only at g21
 replace hφ := ofT hφ
 have g17 := ofH hφ
 dsimp only at g17
 replace hφ := ofT hφ
 have g18 := ofH hφ
 dsimp only at g18
 replace hφ := ofT hφ
 have g19 := ofH hφ
 dsimp only at g19
 clear hφ
 dsimp only [U1, A1c, List.foldr, List.map, List.cons_append, List.nil_append]
 generalize bs 10 = B23 at *
 generalize bs 11 = B24 at *
 generalize bs 13 = B26 at *
 generalize bs 14 = B27 at *
 generalize bs 15 = B12 at *
 generalize bs 16 = B28 at *
 generalize bs 20 = B8 at *
 generalize bs 21 = B9 at *
 generalize bs 17 = B29 at *
 generalize bs 18 = B30 at *
 generalize bs 19 = B31 at *
 generalize vs 10 = u23 at *
 generalize vs 11 = u24 at *
 generalize vs 13 = u26 at *
 generalize vs 14 = u27 at *
 generalize vs 15 = u12 at *
 generalize vs 16 = u28 at *
 generalize vs 20 = u8 at *
 generalize vs 21 = u9 at *
 generalize vs 17 = u29 at *
 generalize vs 18 = u30 at *
 generalize vs 19 = u31 at *
 obtain ⟨-, -, -, -, hP27, -⟩ := g14
 clear g15
 obtain ⟨b, rfl, rfl⟩ := g10
 obtain ⟨rfl, h24⟩ := g11
 obtain ⟨rfl, h26⟩ := g13
 obtain ⟨rfl, wo, wt, wr, wk, wl, wq, rfl, hn1⟩ := g16
 obtain ⟨rfl, hk_, rfl, h29⟩ := g17
 obtain ⟨rfl, h30⟩ := g18
 obtain ⟨rfl, rfl⟩ := g19
 obtain ⟨b8, rfl, rfl⟩ := g20
 obtain ⟨b9, rfl, rfl⟩ := g21
 haveI := hn1.own.cel
 haveI := hn1.their.cel
 haveI := hn1.root.cel
 haveI := hn1.sk.cel
 haveI := hn1.tk.cel
 haveI := hn1.st.cel
 haveI := h29.cel
 haveI := h30.cel
 unfold rsC
 refine U4 rfl rfl rfl (A9 (vs := [wo, wt, wr, wk, .int .u32 (((V1 s r1).sn : Nat) : Int), wl, .int .u32 (((V1 s r1).tn : Nat) : Int), .int .u32 (((V1 s r1).prev : Nat) : Int), wq]) rfl rfl rfl kR qR (A8 hn1.own.one (A8 hn1.their.one (A8 hn1.root.one (A8 hn1.sk.one (A8 rfl (A8 hn1.tk.one (A8 rfl (A8 rfl (A8 hn1.st.one L6))))))))) UpC.upd ?_)
 refine U4 rfl rfl rfl (A9 (vs := [hk_, (vU r1.prev), (vU r1.sn)]) rfl rfl rfl kR qR (A8 h29.one al2) UpC.upd ?_)
 refine L9 hs rfl (H8 rfl) rfl ?_
 refine L9 hs rfl (H8 rfl) rfl ?_
 refine T3 (T6 0 1 2 6 8 9 10 11) (A3 (A1 (mv_ ?_)))
 refine A2 (E9 false rfl rfl (neF rfl)) rfl ?_
 refine A0 (T6 0 1 2 6 8 9 10 33) ?_
 refine C6 rfl ?_
 refine A6 (nx (N0 0 1 2 6 8 9 10) ?_)
 refine C9 [0, 1, 2, 3, 4, 5] (zp 0 [0, 0, 1, 0, 0, 0, 2]) kR kR fun hs => ?_
 refine fm_ hs ?_
 refine fm_ hs ?_
 refine G4 hs rfl (qw_ 9) rfl ?_
 refine C2 hs rfl (E6 rfl) rfl ?_
 refine C2 hs rfl (qf_ 1 1) rfl ?_
 refine C2 hs rfl (D1 (e := 41) (n := 2) (sz := 9) (i := 1) 10 rfl rfl kR kR rfl qD rfl) rfl ?_
 refine F5 rfl rfl rfl (N8 (vs := [wo, wt, wr, wk, .int .u32 (((V1 s r1).sn : Nat) : Int), wl, .int .u32 (((V1 s r1).tn : Nat) : Int), .int .u32 (((V1 s r1).prev : Nat) : Int), wq]) (cs' := [(vP pb), ao, at_, ar, ak, (vU r0.sn), al, (vU r0.tn), (vU r0.prev), aq, wo, wt, wr, wk, .int .u32 (((V1 s r1).sn : Nat) : Int), wl, .int .u32 (((V1 s r1).tn : Nat) : Int), .int .u32 (((V1 s r1).prev : Nat) : Int), wq]) rfl rfl rfl kR (by exact (show 10 + 9 ≤ 19 by decide)) (A8 hn1.own.one (A8 hn1.their.one (A8 hn1.root.one (A8 hn1.sk.one (A8 rfl (A8 hn1.tk.one (A8 rfl (A8 rfl (A8 hn1.st.one L6))))))))) rfl UpC.upd ?_)
 refine E7 (E4 1 2 6 9 10) (A1 (mv_ ?_))
 refine A2 (D4 rfl rfl rfl) rfl ?_
 refine A2 (qw_ 3) rfl ?_
 refine mv_ (mv_ ?_)
 refine A2 (G6 (place := fun x => #[(0, 1), (1, 3), (4, 1), (5, 1)][x]?) (z := [A6F, vS, G3, G3, vS, .string ByteArray.empty]) (fun _ => by kernel_rfl) (eS rfl (eS rfl (eS rfl (eS rfl e0)))) (bdS 0 1 rfl qR (bdS 1 3 rfl qR (bdS 4 1 rfl qR (bdS 5 1 rfl qR bd0))))) rfl ?_
 refine A5 rfl (A9 (vs := [.int .i64 0, hk_, (vU r1.prev), (vU r1.sn), u30, .string (txt tx)]) rfl rfl rfl kR qR (A8 rfl (A8 h29.one (A8 rfl (A8 rfl (A8 h30.one (A8 rfl L6)))))) UpC.upd ?_)
 refine as_ (A0 (D2 6 7) (B4 ?_))
 exact ⟨_, (tb, blk [(vP pb), ao, at_, ar, ak, (vU r0.sn), al, (vU r0.tn), (vU r0.prev), aq, wo, wt, wr, wk, .int .u32 (((V1 s r1).sn : Nat) : Int), wl, .int .u32 (((V1 s r1).tn : Nat) : Int), .int .u32 (((V1 s r1).prev : Nat) : Int), wq] 45) :: B27, [], A5y (n := 6) rfl rfl rfl kR At.mem qR, Fit.none (Fit.pick (B := [_]) qP (Fit.last qP)), ⟨ao, at_, ar, ak, al, aq, wo, wt, wr, wk, wl, wq, B27, rfl, h0.mono qS, hn1.mono qS, hP27⟩, hk_, u30, rfl, h29.mono qS, h30.mono qS⟩

end Go.Proofs.YtlilcmjbaknafaaGreatDoor
