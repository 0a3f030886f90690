/- Part 15 of the texts of this claim, one behind the other. -/
import Derived.Test.YtoigcbkclcbmpaaGreatDoorB14
import Derived.Test.YtoigcbkclcbmpaaGreatDoorRows
set_option linter.unusedVariables false
set_option linter.unusedSimpArgs false
set_option maxRecDepth 100000
namespace Go.Proofs.YtoigcbkclcbmpaaGreatDoor
open Go.Px
theorem C0o {k : IntKind} (a b : Nat) : K4 .eql k ((a : Nat) : Int) ((b : Nat) : Int) = some (.bool (decide (a = b))) := by
  by_cases h : a = b
  · rw [decide_eq_true h]; exact eqT qO
  · rw [decide_eq_false h]; exact eqF qO
theorem A9a {l : List Int} (h : 0 < l.length) : (A1s l)[0]? = some (.int .i64 (l.getD 0 0)) := by
  rw [List.getD_eq_getElem?_getD, A1s, List.getElem?_map, List.getElem?_eq_getElem h]; rfl
theorem B4G {ts : List Tm} {p m g : LN} (h : ¬ g.length = 64) : B2g ts p m g = false := by
  unfold B2g; rw [decide_eq_false h, Bool.false_and]
theorem B8f {ts : List Tm} {p m g : LN} (h : plc g ts.length = none) : B2g ts p m g = false := by
  unfold B2g; rw [h]; simp
theorem B8g {ts : List Tm} {p m g : LN} (h : plc p ts.length = none) : B2g ts p m g = false := by
  unfold B2g; rw [h]; split <;> simp_all
theorem B4H {ts : List Tm} {p m g : LN} {t u : Tm} {i k : Nat} (h64 : g.length = 64) (hi : plc g ts.length = some i) (hk : plc p ts.length = some k) (ht : ts[i]? = some t) (hu : ts[k]? = some u) :
    B2g ts p m g = (decide (p.length = 32) && (decide (t.kind = 7) && (decide (t.text = m) && (decide (u.kind = 3) && (u.of.getD 0 0 == t.of.getD 0 0))))) := by
  unfold B2g
  rw [hi, hk, decide_eq_true h64]
  simp only [ht, hu, Bool.true_and, Bool.and_assoc]
  congr 4
theorem B2k {s : Ps} (h : s.real = true) (p m g : LN) : A4k s p m g = A2U p m g := by unfold A4k; rw [if_pos h]
theorem A2N {s : Ps} (h : s.real = false) (p m g : LN) : A4k s p m g = B2g s.ts p m g := by unfold A4k; rw [if_neg (by rw [h]; decide)]
theorem B4I {s : Ps} {p m g : LN} (h : ¬ g.length = 64) : A4k s p m g = false := by
  cases hr : s.real with
  | true => rw [B2k hr]; exact B1Y h
  | false => rw [A2N hr]; exact B4G h
theorem neN8 {k : IntKind} (a b : Nat) : K4 .neq k ((a : Nat) : Int) ((b : Nat) : Int) = some (.bool (!decide (a = b))) := by
  by_cases h : a = b
  · rw [decide_eq_true h]; exact neF qO
  · rw [decide_eq_false h]; exact neT qO
theorem B4J (pb : Nat) (s : Ps) (v1 v2 v3 : Value) (wp wm wg : LN) (MP A : Mem) (hP : Prm pb s MP) (hsub : ∀ x, x ∈ MP → x ∈ A) (har : Ar s.ts) (hn : s.ts.length ≤ 1048576) (hp : By A v1 wp) (hm : By A v2 wm) (hg : By A v3 wg) (hG : Glb A) : FnV Tryz.prog 26 [(vP pb), v1, v2, v3] A (.bool (A4k s wp wm wg)) := by
 obtain ⟨sv, bt, bm, B, MT, rfl, hby, hT⟩ := hP.ex
 have hpb := hsub _ qK
 have hMT : ∀ x, x ∈ MT → x ∈ A := fun x hx => hsub x (by simp [hx])
 haveI := hp.cel
 haveI := hm.cel
 haveI := hg.cel
 haveI := hby.cel
 have hpl := hp.len
 have hml := hm.len
 have hgl := hg.len
 refine FnX.enter (N := 106) Tryz.func26 rfl rfl rfl fun w_ => ?_
 refine C4 (E7 0 1 2 3) (A3 (as_ (A0 (E7 0 1 2 3) (A5 (A3 (mv_ ?_))))))
 refine A4 (F0 (e := 62) rfl rfl kR) rfl ?_
 refine mv_ ?_
 refine G2 rfl rfl (OpQ.opL qm_ rfl ?_)
 refine G2 rfl rfl (OpQ.opL (K1 (sz := 1) rfl kR (by first | assumption | exact Sl.rd (by assumption) qI | exact By.rd (by assumption))) rfl ?_)
 refine G2 rfl rfl (OpQ.opL (F4 (!decide (wg.length = 64)) rfl rfl (neN8 _ 64)) rfl ?_)
 refine A4 (E9 rfl rfl) rfl ?_
 refine A0 (F5 0 1 2 3 23) ?_
 refine C7 rfl ?_ ?_ <;> intro hc
 ·
  have h64 : ¬ wg.length = 64 := by simpa using hc
  refine A3 (as_ (A0 (D8 8) (C3 (tr ?_))))
  exact ⟨_, [], [], K2 rfl rfl, List.nil_sublist _, by simp, by rw [B4I h64], rfl, rfl⟩
 ·
  have h64 : wg.length = 64 := by simpa using hc
  refine A9 (nx (E7 0 1 2 3) (A5 (A3 (mv_ ?_))))
  refine A4 (F9 rfl) rfl ?_
  refine A4 (qf_ 0 0) rfl ?_
  refine A4 (I2 rfl kR (mA hpb) qR) rfl ?_
  refine A4 (F1 rfl rfl rfl) rfl ?_
  refine A0 (F5 0 1 2 3 28) ?_
  refine C7 rfl ?_ ?_ <;> intro hc
  ·
   have hr : s.real = true := by cases hq : s.real with | true => rfl | false => rw [hq] at hc; exact absurd hc qD
   refine A3 (mv_ (mv_ (mv_ ?_)))
   refine F6 (aS rfl (aS rfl (aS rfl a0))) kR (B74 v1 v2 v3 wp wm wg _ (hp.mono qS) (hm.mono qS) (hg.mono qS) hG.s.up) rfl ?_
   refine as_ (A0 (D8 8) (C3 (tr ?_)))
   exact ⟨_, [], [], K2 rfl rfl, List.nil_sublist _, by simp, by rw [B2k hr], rfl, rfl⟩
  ·
   have hr : s.real = false := by cases hq : s.real with | false => rfl | true => rw [hq] at hc; exact absurd hc qD
   refine A9 (nx (E7 0 1 2 3) (A3 (mv_ ?_)))
   refine A4 (F9 rfl) rfl ?_
   refine A4 (qf_ 3 3) rfl ?_
   refine A4 (I2 rfl kR (mA hpb) qR) rfl ?_
   refine mv_ ?_
   refine F6 (aS rfl (aS rfl a0)) kR (A2x bt bm s.ts v3 wg MT _ hT (fun x hx => qS _ (hMT x hx)) hn (hg.rd.mono qS) hg.lt hg.max) rfl ?_
   refine mv_ ?_
   refine A4 (A4e rfl) rfl ?_
   refine A4 (A38 rfl) rfl ?_
   refine as_ (as_ (A0 (F5 0 1 2 9 10) (A3 (mv_ ?_))))
   refine A4 (F9 rfl) rfl ?_
   refine A4 (qf_ 3 3) rfl ?_
   refine A4 (I2 rfl kR (mA hpb) qR) rfl ?_
   refine mv_ ?_
   refine C9 (aS rfl (aS rfl a0)) kR (A3E bt bm s.ts _ MT _ hT (fun x hx => qS _ (hMT x hx))) rfl ?_
   rintro v48 M48 J48 ⟨rfl, rfl, c48, ok48, rfl, hg1a, hg2a⟩
   obtain ⟨voa, ta, rfl, hvoa, hza, htka, hoka, hnoa⟩ := A3G hT.tok.tmo hg1a hg2a
   haveI := hvoa.cel
   refine mv_ ?_
   refine A4 (A4e rfl) rfl ?_
   refine A4 (A38 rfl) rfl ?_
   refine A6 rfl (C5 (cs := [.int .u8 0, vS, .string ByteArray.empty, .int .i64 0]) kR rfl fun b11 => ?_)
   refine A6 rfl (A8 (vs := tmc ta.kind voa ta.text ta.n) rfl rfl rfl kR qR (by intro c hc; simp only [tmc, List.mem_cons, List.not_mem_nil, or_false] at hc; rcases hc with rfl | rfl | rfl | rfl <;> first | rfl | exact hvoa.one) UpC.upd ?_)
   dsimp only [tmc]
   refine as_ (A0 (F5 0 1 2 10 11) (A3 (mv_ ?_)))
   refine A4 (F9 rfl) rfl ?_
   refine A4 (qf_ 3 3) rfl ?_
   refine A4 (I2 rfl kR (mA hpb) qR) rfl ?_
   refine mv_ ?_
   refine F6 (aS rfl (aS rfl a0)) kR (A2x bt bm s.ts v1 wp MT _ hT (fun x hx => qS _ (hMT x hx)) hn (hp.rd.mono qS) hp.lt hp.max) rfl ?_
   refine mv_ ?_
   refine A4 (A4e rfl) rfl ?_
   refine A4 (A38 rfl) rfl ?_
   refine as_ (as_ (A0 (Y0 0 1 2 10 11 13 14) (A3 (mv_ ?_))))
   refine A4 (F9 rfl) rfl ?_
   refine A4 (qf_ 3 3) rfl ?_
   refine A4 (I2 rfl kR (mA hpb) qR) rfl ?_
   refine mv_ ?_
   refine C9 (aS rfl (aS rfl a0)) kR (A3E bt bm s.ts _ MT _ hT (fun x hx => qS _ (hMT x hx))) rfl ?_
   rintro v66 M66 J66 ⟨rfl, rfl, c66, ok66, rfl, hg1b, hg2b⟩
   obtain ⟨vob, tb, rfl, hvob, hzb, htkb, hokb, hnob⟩ := A3G hT.tok.tmo hg1b hg2b
   haveI := hvob.cel
   refine mv_ ?_
   refine A4 (A4e rfl) rfl ?_
   refine A4 (A38 rfl) rfl ?_
   refine A6 rfl (C5 (cs := [.int .u8 0, vS, .string ByteArray.empty, .int .i64 0]) kR rfl fun b15 => ?_)
   refine A6 rfl (A8 (vs := tmc tb.kind vob tb.text tb.n) rfl rfl rfl kR qR (by intro c hc; simp only [tmc, List.mem_cons, List.not_mem_nil, or_false] at hc; rcases hc with rfl | rfl | rfl | rfl <;> first | rfl | exact hvob.one) UpC.upd ?_)
   dsimp only [tmc]
   refine as_ (A0 (I1 1 2 10 11 14 15) ?_)
   refine D2 (.range 38) (zp 0 [0, 0, 0, 0, 0, 0, 0, 0, 0, 0, 0, 1, 0, 0, 0, 0, 1, 0, 1, 0, 0, 0, 0, 1, 0, 0, 0, 0, 1, 0, 1, 0, 1, 0, 1, 0, 0, 0]) kR kR fun hs => ?_
   refine fm_ hs ?_
   refine fm_ hs ?_
   refine W8 (t := 70) rfl (fun hb => ?_) (fun hb => ?_)
   ·
    obtain ⟨i, hi⟩ := Option.isSome_iff_exists.1 hb
    refine L6 hs rfl rfl rfl rfl qm_ rfl ?_
    refine D1 hs rfl (I5 rfl rfl) rfl ?_
    refine fm_ hs ?_
    refine W8 (t := 73) rfl (fun hb => ?_) (fun hb => ?_)
    ·
     obtain ⟨k, hk⟩ := Option.isSome_iff_exists.1 hb
     have hta : s.ts[i]? = some ta := by
      have hl := (A8C hi).1
      rw [hi] at hoka hnoa
      cases ok48 with
      | true => have := (hoka rfl).2; rwa [Option.getD_some, Int.toNat_natCast] at this
      | false => exact absurd ⟨by rw [Option.getD_some]; omega, by rw [Option.getD_some]; omega⟩ (hnoa rfl)
     have htb : s.ts[k]? = some tb := by
      have hl := (A8C hk).1
      rw [hk] at hokb hnob
      cases ok66 with
      | true => have := (hokb rfl).2; rwa [Option.getD_some, Int.toNat_natCast] at this
      | false => exact absurd ⟨by rw [Option.getD_some]; omega, by rw [Option.getD_some]; omega⟩ (hnob rfl)
     have hcv := B4H (m := wm) h64 hi hk hta htb
     refine L6 hs rfl rfl rfl rfl qm_ rfl ?_
     refine L6 hs rfl rfl rfl rfl (K1 (sz := 1) rfl kR (by first | assumption | exact Sl.rd (by assumption) qI | exact By.rd (by assumption))) rfl ?_
     refine L6 hs rfl rfl rfl rfl (F4 (decide (wp.length = 32)) rfl rfl (C0o _ 32)) rfl ?_
     refine D1 hs rfl (I5 rfl rfl) rfl ?_
     refine fm_ hs ?_
     refine W8 (t := 78) rfl (fun hb => ?_) (fun hb => ?_)
     ·
      rw [hb, Bool.true_and] at hcv
      refine L6 hs rfl rfl rfl rfl (qf_ 0 0) rfl ?_
      refine Y6 hs rfl rfl rfl rfl ql_ rfl ?_
      refine L6 hs rfl rfl rfl rfl (F4 (decide (ta.kind = 7)) rfl rfl (C0o _ 7)) rfl ?_
      refine D1 hs rfl (I5 rfl rfl) rfl ?_
      refine fm_ hs ?_
      refine W8 (t := 83) rfl (fun hb => ?_) (fun hb => ?_)
      ·
       rw [hb, Bool.true_and] at hcv
       have ha0 : 0 < ta.of.length := har ta (List.mem_of_getElem? hta) (.inr (.inr (of_decide_eq_true hb)))
       refine L6 hs rfl rfl rfl rfl (qf_ 2 2) rfl ?_
       refine Y6 hs rfl rfl rfl rfl ql_ rfl ?_
       refine L6 hs rfl rfl rfl rfl qm_ rfl ?_
       refine Y6 hs rfl rfl rfl rfl (A0z rfl kR (hm.rd.mono qS)) rfl ?_
       refine L6 hs rfl rfl rfl rfl (B9k rfl rfl rfl rfl (hT.tok.tmo ta (List.mem_of_getElem? hta)).text.lt hm.lt) rfl ?_
       refine D1 hs rfl (I5 rfl rfl) rfl ?_
       refine fm_ hs ?_
       refine W8 (t := 90) rfl (fun hb => ?_) (fun hb => ?_)
       ·
        rw [hb, Bool.true_and] at hcv
        refine L6 hs rfl rfl rfl rfl (qf_ 0 0) rfl ?_
        refine Y6 hs rfl rfl rfl rfl ql_ rfl ?_
        refine L6 hs rfl rfl rfl rfl (F4 (decide (tb.kind = 3)) rfl rfl (C0o _ 3)) rfl ?_
        refine D1 hs rfl (I5 rfl rfl) rfl ?_
        refine fm_ hs ?_
        refine W8 (t := 95) rfl (fun hb => ?_) (fun hb => ?_)
        ·
         rw [hb, Bool.true_and] at hcv
         have hb0 : 0 < tb.of.length := har tb (List.mem_of_getElem? htb) (.inl (of_decide_eq_true hb))
         refine L6 hs rfl rfl rfl rfl (qf_ 1 1) rfl ?_
         refine Y6 hs rfl rfl rfl rfl ql_ rfl ?_
         refine L6 hs rfl rfl rfl rfl (K0 (sz := 1) (a := 0) rfl rfl kR rfl hvob hb0) rfl ?_
         refine Y6 hs rfl rfl rfl rfl (A00 (j := 0) (u := .int .i64 (tb.of.getD 0 0)) (hvob.mono qS) rfl kR (A9a hb0)) rfl ?_
         refine L6 hs rfl rfl rfl rfl (qf_ 1 1) rfl ?_
         refine Y6 hs rfl rfl rfl rfl ql_ rfl ?_
         refine L6 hs rfl rfl rfl rfl (K0 (sz := 1) (a := 0) rfl rfl kR rfl hvoa ha0) rfl ?_
         refine Y6 hs rfl rfl rfl rfl (A00 (j := 0) (u := .int .i64 (ta.of.getD 0 0)) (hvoa.mono qS) rfl kR (A9a ha0)) rfl ?_
         refine L6 hs rfl rfl rfl rfl (F1 rfl rfl rfl) rfl ?_
         refine D1 hs rfl (I5 rfl rfl) rfl ?_
         refine fa_ hs ?_
         refine E4 (D8 8) (C3 ?_)
         exact ⟨_, [], [], K2 rfl rfl, List.nil_sublist _, by simp, by rw [A2N hr, hcv], rfl, rfl⟩
        ·
         rw [hb, Bool.false_and] at hcv
         refine L7 hs ?_
         refine U8 hs ?_
         refine L7 hs ?_
         refine U8 hs ?_
         refine L7 hs ?_
         refine U8 hs ?_
         refine L7 hs ?_
         refine U8 hs ?_
         refine L7 hs ?_
         refine D1 hs rfl (E9 rfl rfl) rfl ?_
         refine fa_ hs ?_
         refine E4 (D8 8) (C3 ?_)
         exact ⟨_, [], [], K2 rfl rfl, List.nil_sublist _, by simp, by rw [A2N hr, hcv], rfl, rfl⟩
       ·
        rw [hb, Bool.false_and] at hcv
        refine L7 hs ?_
        refine U8 hs ?_
        refine L7 hs ?_
        refine D1 hs rfl (E9 rfl rfl) rfl ?_
        refine fm_ hs ?_
        refine L7 hs ?_
        refine U8 hs ?_
        refine L7 hs ?_
        refine U8 hs ?_
        refine L7 hs ?_
        refine U8 hs ?_
        refine L7 hs ?_
        refine U8 hs ?_
        refine L7 hs ?_
        refine D1 hs rfl (E9 rfl rfl) rfl ?_
        refine fa_ hs ?_
        refine E4 (D8 8) (C3 ?_)
        exact ⟨_, [], [], K2 rfl rfl, List.nil_sublist _, by simp, by rw [A2N hr, hcv], rfl, rfl⟩
      ·
       rw [hb, Bool.false_and] at hcv
       refine L7 hs ?_
       refine U8 hs ?_
       refine L7 hs ?_
       refine U8 hs ?_
       refine L7 hs ?_
       refine D1 hs rfl (E9 rfl rfl) rfl ?_
       refine fm_ hs ?_
       refine L7 hs ?_
       refine U8 hs ?_
       refine L7 hs ?_
       refine D1 hs rfl (E9 rfl rfl) rfl ?_
       refine fm_ hs ?_
       refine L7 hs ?_
       refine U8 hs ?_
       refine L7 hs ?_
       refine U8 hs ?_
       refine L7 hs ?_
       refine U8 hs ?_
       refine L7 hs ?_
       refine U8 hs ?_
       refine L7 hs ?_
       refine D1 hs rfl (E9 rfl rfl) rfl ?_
       refine fa_ hs ?_
       refine E4 (D8 8) (C3 ?_)
       exact ⟨_, [], [], K2 rfl rfl, List.nil_sublist _, by simp, by rw [A2N hr, hcv], rfl, rfl⟩
     ·
      rw [hb, Bool.false_and] at hcv
      refine L7 hs ?_
      refine U8 hs ?_
      refine L7 hs ?_
      refine D1 hs rfl (E9 rfl rfl) rfl ?_
      refine fm_ hs ?_
      refine L7 hs ?_
      refine U8 hs ?_
      refine L7 hs ?_
      refine U8 hs ?_
      refine L7 hs ?_
      refine D1 hs rfl (E9 rfl rfl) rfl ?_
      refine fm_ hs ?_
      refine L7 hs ?_
      refine U8 hs ?_
      refine L7 hs ?_
      refine D1 hs rfl (E9 rfl rfl) rfl ?_
      refine fm_ hs ?_
      refine L7 hs ?_
      refine U8 hs ?_
      refine L7 hs ?_
      refine U8 hs ?_
      refine L7 hs ?_
      refine U8 hs ?_
      refine L7 hs ?_
      refine U8 hs ?_
      refine L7 hs ?_
      refine D1 hs rfl (E9 rfl rfl) rfl ?_
      refine fa_ hs ?_
      refine E4 (D8 8) (C3 ?_)
      exact ⟨_, [], [], K2 rfl rfl, List.nil_sublist _, by simp, by rw [A2N hr, hcv], rfl, rfl⟩
    ·
     have hcv := B8g (g := wg) (m := wm) (Option.not_isSome_iff_eq_none.1 (by rw [hb]; decide))
     refine L7 hs ?_
     refine L7 hs ?_
     refine L7 hs ?_
     refine D1 hs rfl (E9 rfl rfl) rfl ?_
     refine fm_ hs ?_
     refine L7 hs ?_
     refine U8 hs ?_
     refine L7 hs ?_
     refine D1 hs rfl (E9 rfl rfl) rfl ?_
     refine fm_ hs ?_
     refine L7 hs ?_
     refine U8 hs ?_
     refine L7 hs ?_
     refine U8 hs ?_
     refine L7 hs ?_
     refine D1 hs rfl (E9 rfl rfl) rfl ?_
     refine fm_ hs ?_
     refine L7 hs ?_
     refine U8 hs ?_
     refine L7 hs ?_
     refine D1 hs rfl (E9 rfl rfl) rfl ?_
     refine fm_ hs ?_
     refine L7 hs ?_
     refine U8 hs ?_
     refine L7 hs ?_
     refine U8 hs ?_
     refine L7 hs ?_
     refine U8 hs ?_
     refine L7 hs ?_
     refine U8 hs ?_
     refine L7 hs ?_
     refine D1 hs rfl (E9 rfl rfl) rfl ?_
     refine fa_ hs ?_
     refine E4 (D8 8) (C3 ?_)
     exact ⟨_, [], [], K2 rfl rfl, List.nil_sublist _, by simp, by rw [A2N hr, hcv], rfl, rfl⟩
   ·
    have hcv := B8f (p := wp) (m := wm) (Option.not_isSome_iff_eq_none.1 (by rw [hb]; decide))
    refine L7 hs ?_
    refine D1 hs rfl (E9 rfl rfl) rfl ?_
    refine fm_ hs ?_
    refine L7 hs ?_
    refine L7 hs ?_
    refine L7 hs ?_
    refine D1 hs rfl (E9 rfl rfl) rfl ?_
    refine fm_ hs ?_
    refine L7 hs ?_
    refine U8 hs ?_
    refine L7 hs ?_
    refine D1 hs rfl (E9 rfl rfl) rfl ?_
    refine fm_ hs ?_
    refine L7 hs ?_
    refine U8 hs ?_
    refine L7 hs ?_
    refine U8 hs ?_
    refine L7 hs ?_
    refine D1 hs rfl (E9 rfl rfl) rfl ?_
    refine fm_ hs ?_
    refine L7 hs ?_
    refine U8 hs ?_
    refine L7 hs ?_
    refine D1 hs rfl (E9 rfl rfl) rfl ?_
    refine fm_ hs ?_
    refine L7 hs ?_
    refine U8 hs ?_
    refine L7 hs ?_
    refine U8 hs ?_
    refine L7 hs ?_
    refine U8 hs ?_
    refine L7 hs ?_
    refine U8 hs ?_
    refine L7 hs ?_
    refine D1 hs rfl (E9 rfl rfl) rfl ?_
    refine fa_ hs ?_
    refine E4 (D8 8) (C3 ?_)
    exact ⟨_, [], [], K2 rfl rfl, List.nil_sublist _, by simp, by rw [A2N hr, hcv], rfl, rfl⟩

end Go.Proofs.YtoigcbkclcbmpaaGreatDoor
set_option maxRecDepth 10000
namespace Go.Ed
variable {n : Nat} [NeZero n]
theorem A4L {x y d : Fin n} (h : y*y - x*x = 1 + d*x*x*y*y) : x*x*(1 + d*(y*y)) = y*y - 1 := by grind
theorem C13 (x2 y2 x3 y3 d : Fin n) (h2 : y2*y2 - x2*x2 = 1 + d*x2*x2*y2*y2) (h3 : y3*y3 - x3*x3 = 1 + d*x3*x3*y3*y3) :
    (1 + d*(y2*y2))*(1 + d*(y3*y3))*((1 - y2*y3 - (d*x2*x3*y2*y3 + x2*x3))*(1 - y2*y3 + (d*x2*x3*y2*y3 + x2*x3))) = (y2 - y3)*(y2 - y3)*((1 + d)*(1 + d*(y2*y3)*(y2*y3))) := by
  have e2 := A4L h2
  have e3 := A4L h3
  have e : (1 + d*(y2*y2))*(1 + d*(y3*y3))*((1 - y2*y3 - (d*x2*x3*y2*y3 + x2*x3))*(1 - y2*y3 + (d*x2*x3*y2*y3 + x2*x3))) = (1 + d*(y2*y2))*(1 + d*(y3*y3))*((1 - y2*y3)*(1 - y2*y3)) - (x2*x2*(1 + d*(y2*y2)))*(x3*x3*(1 + d*(y3*y3)))*((1 + d*(y2*y3))*(1 + d*(y2*y3))) := by clear h2 h3 e2 e3; grind
  rw [e, e2, e3]
  clear h2 h3 e2 e3 e
  grind
theorem C14 (x2 y2 x3 y3 d : Fin n) (h2 : y2*y2 - x2*x2 = 1 + d*x2*x2*y2*y2) (h3 : y3*y3 - x3*x3 = 1 + d*x3*x3*y3*y3) :
    (1 + d*(y2*y2))*(1 + d*(y3*y3))*((1 + y2*y3 + (x2*x3 - d*x2*x3*y2*y3))*(1 + y2*y3 - (x2*x3 - d*x2*x3*y2*y3))) = (y2 + y3)*(y2 + y3)*((1 + d)*(1 + d*(y2*y3)*(y2*y3))) := by
  have e2 := A4L h2
  have e3 := A4L h3
  have e : (1 + d*(y2*y2))*(1 + d*(y3*y3))*((1 + y2*y3 + (x2*x3 - d*x2*x3*y2*y3))*(1 + y2*y3 - (x2*x3 - d*x2*x3*y2*y3))) = (1 + d*(y2*y2))*(1 + d*(y3*y3))*((1 + y2*y3)*(1 + y2*y3)) - (x2*x2*(1 + d*(y2*y2)))*(x3*x3*(1 + d*(y3*y3)))*((1 - d*(y2*y3))*(1 - d*(y2*y3))) := by clear h2 h3 e2 e3; grind
  rw [e, e2, e3]
  clear h2 h3 e2 e3 e
  grind
theorem pf1 {m k t S t2 : Fin n} (h : 1 - t = t2) (s : S*t2 = m + k) : 1 - m - (t + k) = (1 - S)*t2 := by grind
theorem pf2 {m k t y t1 : Fin n} (h : 1 + t = t1) (s : y*t1 = m - k) : 1 - m + (t + k) = (1 - y)*t1 := by grind
theorem pf3 {m k t S t2 : Fin n} (h : 1 - t = t2) (s : S*t2 = m + k) : 1 + m + (k - t) = (1 + S)*t2 := by grind
theorem pf4 {m k t y t1 : Fin n} (h : 1 + t = t1) (s : y*t1 = m - k) : 1 + m - (k - t) = (1 + y)*t1 := by grind
theorem pf5 {a b y z : Fin n} : (b*(1 + z) - b*(1 - z))*(a*(1 + y) + a*(1 - y)) + (b*(1 + z) + b*(1 - z))*(a*(1 + y) - a*(1 - y)) = 4*(a*b)*(y + z) := by grind
theorem pf6 {a b y z : Fin n} : (b*(1 + z) - b*(1 - z))*(a*(1 + y) + a*(1 - y)) - (b*(1 + z) + b*(1 - z))*(a*(1 + y) - a*(1 - y)) = 4*(a*b)*(z - y) := by grind
theorem pf7 {Y L M I : Fin n} (h : L = Y*M) (hi : M*I = 1) : Y = L*I := by grind
theorem pf8 {c y a2 a3 S t2 t1 v I : Fin n} (h : y*y = a2*a3*((1 + S)*t2*((1 + v)*t1))*I) : 4*c*y*(4*c*y) = 16*(c*c)*(t1*t2)*(a2*a3)*I*(1 + v)*(1 + S) := by
  have : 4*c*y*(4*c*y) = 16*(c*c)*(y*y) := by grind
  rw [this, h]; clear this h; grind
theorem pf9 {c y a2 a3 S t2 t1 v I u : Fin n} (h : y*y = a2*a3*((1 - S)*t2*((1 - v)*t1))*I) (hu : u*(1 - v) = 1 + v) : u*(4*c*y*(4*c*y)) = 16*(c*c)*(t1*t2)*(a2*a3)*I*(1 + v)*(1 - S) := by
  have e : u*(4*c*y*(4*c*y)) = u*(16*(c*c)*(y*y)) := by clear h hu; grind
  have e2 : u*(16*(c*c)*(a2*a3*((1 - S)*t2*((1 - v)*t1))*I)) = (u*(1 - v))*(16*(c*c)*(a2*a3*((1 - S)*t2*t1)*I)) := by clear h hu e; grind
  rw [e, h, e2, hu]; clear h hu e e2; grind
theorem pg1 {a y : Fin n} : (a*(1 + y) + a*(1 - y))*(a*(1 + y) + a*(1 - y)) = 4*(a*a) := by grind
theorem pg2 {a y : Fin n} : (a*(1 + y) - a*(1 - y))*(a*(1 + y) - a*(1 - y)) = 4*(a*a)*(y*y) := by grind
theorem pg3 {d k y : Fin n} (h : d*(k + 1) = -k) : (1 + d)*(1 + k*(1 - y*y)) = 1 + d*(y*y) := by grind
theorem pg4 {d w x y : Fin n} (h : (1 + d)*w = 1 + d*(y*y)) (hx : x*x*(1 + d*(y*y)) = y*y - 1) : (1 + d)*((1 + x*x)*w) = (1 + d)*(y*y) := by
  have : (1 + d)*((1 + x*x)*w) = (1 + x*x)*((1 + d)*w) := by clear h hx; grind
  rw [this, h]; clear this h; grind
theorem pg5 {d x y D S : Fin n} (he : y*y - x*x = 1 + d*x*x*y*y) (hD : 1 - d*x*x*y*y = D) (s : S*D = y*y + x*x) : D*(1 + S) = 2 + 2*(x*x) ∧ D*(1 - S) = 2 - 2*(y*y) := by
  have : D = 2 - y*y + x*x := by grind
  constructor
  · have : D*(1 + S) = D + S*D := by clear s he hD this; grind
    rw [this, s]; clear this s; grind
  · have : D*(1 - S) = D - S*D := by clear s he hD this; grind
    rw [this, s]; clear this s; grind
theorem pg6 {a w D S x y : Fin n} (g : D*(1 + S) = 2 + 2*(x*x)) (h : (1 + x*x)*w = y*y) : 4*(a*a)*(4*(a*a)*(y*y)) = 8*(a*a*(a*a))*w*D*(1 + S) := by
  have e : 8*(a*a*(a*a))*w*D*(1 + S) = 8*(a*a*(a*a))*w*(D*(1 + S)) := by clear g h; grind
  have e2 : 8*(a*a*(a*a))*w*(2 + 2*(x*x)) = 16*(a*a*(a*a))*((1 + x*x)*w) := by clear g h e; grind
  rw [e, g, e2, h]; clear g h e e2; grind
theorem pg7 {a k D S y : Fin n} (g : D*(1 - S) = 2 - 2*(y*y)) : (4*(a*a) - 4*(a*a)*(y*y))*(4*(a*a) + k*(4*(a*a) - 4*(a*a)*(y*y))) = 8*(a*a*(a*a))*(1 + k*(1 - y*y))*D*(1 - S) := by
  have e : 8*(a*a*(a*a))*(1 + k*(1 - y*y))*D*(1 - S) = 8*(a*a*(a*a))*(1 + k*(1 - y*y))*(D*(1 - S)) := by clear g; grind
  rw [e, g]; clear g e; grind
variable {d : Fin n} (F : Fld n d)
structure RepU (X Z : Fin n) (P : Fin n × Fin n) : Prop where
  ex : ∃ c, c ≠ 0 ∧ X = c * (1 + P.2) ∧ Z = c * (1 - P.2)
include F
theorem Fld.four : (4 : Fin n) ≠ 0 := fun h => F.two ((F.mul0 2 2 (by grind)).elim id id)
theorem Fld.a_ne (y : Fin n) : 1 + d*(y*y) ≠ 0 := fun h => F.dy_ne (y := y) (by grind)
theorem Fld.rep_dif {A B C D u yD : Fin n} {P Q : Fin n × Fin n} (hP : On d P) (hQ : On d Q) (h1 : RepU A B P) (h2 : RepU C D Q) (hD : yD*(1 + d*P.1*Q.1*P.2*Q.2) = P.2*Q.2 - P.1*Q.1) (hu : u*(1 - yD) = 1 + yD) (hy : 1 + yD ≠ 0) {p q da cb : Fin n} (hp : p = A + B) (hq : q = A - B) (hda : da = (C - D)*p) (hcb : cb = (C + D)*q) :
    RepU ((da + cb)*(da + cb)) (u*((da - cb)*(da - cb))) (F.add P Q) := by
  obtain ⟨a, ha, rfl, rfl⟩ := h1
  obtain ⟨b, hb, rfl, rfl⟩ := h2
  obtain ⟨k1, k2⟩ := F.complete hP hQ
  obtain ⟨-, s2⟩ := F.add_spec hP hQ
  have hL := C13 P.1 P.2 Q.1 Q.2 d hP.eq hQ.eq
  have hR := C14 P.1 P.2 Q.1 Q.2 d hP.eq hQ.eq
  have n2 := F.a_ne P.2
  have n3 := F.a_ne Q.2
  have n4 : (1 + d) ≠ 0 := by have := F.a_ne 1; rwa [show d * ((1 : Fin n) * 1) = d by grind] at this
  have n5 : 1 + d*(P.2*Q.2)*(P.2*Q.2) ≠ 0 := by have := F.a_ne (P.2*Q.2); rwa [← show d*(P.2*Q.2)*(P.2*Q.2) = d*((P.2*Q.2)*(P.2*Q.2)) by grind] at this
  have n6 := F.mul_ne n4 n5
  have hi := F.hinv _ n6
  generalize F.add P Q = S at *
  have hI : F.inv ((1 + d)*(1 + d*(P.2*Q.2)*(P.2*Q.2))) ≠ 0 := fun h => by rw [h] at hi; exact F.one (by rw [← hi]; grind)
  rw [pf1 (S := S.2) rfl s2, pf2 rfl hD] at hL
  rw [pf3 (S := S.2) rfl s2, pf4 rfl hD] at hR
  have g : (16 : Fin n) ≠ 0 := fun h => F.four ((F.mul0 4 4 (by grind)).elim id id)
  refine ⟨16*(a*b*(a*b))*((1 + d*P.1*Q.1*P.2*Q.2)*(1 - d*P.1*Q.1*P.2*Q.2))*((1 + d*(P.2*P.2))*(1 + d*(Q.2*Q.2)))*F.inv ((1 + d)*(1 + d*(P.2*Q.2)*(P.2*Q.2)))*(1 + yD), ?_, ?_, ?_⟩
  · exact F.mul_ne (F.mul_ne (F.mul_ne (F.mul_ne (F.mul_ne g (F.mul_ne (F.mul_ne ha hb) (F.mul_ne ha hb))) (F.mul_ne k1 k2)) (F.mul_ne n2 n3)) hI) hy
  · subst hp hq hda hcb
    rw [pf5]
    exact pf8 (pf7 hR hi)
  · subst hp hq hda hcb
    rw [pf6]
    have e : (Q.2 - P.2)*(Q.2 - P.2) = (P.2 - Q.2)*(P.2 - Q.2) := by clear hL hR hi s2 hD hu; grind
    exact pf9 (e.trans (pf7 hL hi)) hu
theorem Fld.rep_dbl {A B k : Fin n} {P : Fin n × Fin n} (hP : On d P) (h1 : RepU A B P) (hk : d*(k + 1) = -k) {ss tt : Fin n} (hs : ss = (A + B)*(A + B)) (ht : tt = (A - B)*(A - B)) :
    RepU (ss*tt) ((ss - tt)*(ss + k*(ss - tt))) (F.add P P) := by
  obtain ⟨a, ha, rfl, rfl⟩ := h1
  obtain ⟨k1, k2⟩ := F.complete hP hP
  obtain ⟨-, s2⟩ := F.add_spec hP hP
  have n2 := F.a_ne P.2
  have n4 : (1 + d) ≠ 0 := by have := F.a_ne 1; rwa [show d * ((1 : Fin n) * 1) = d by grind] at this
  have hk1 := pg3 (y := P.2) hk
  have hw : 1 + k*(1 - P.2*P.2) ≠ 0 := fun h => by rw [h] at hk1; exact n2 (by rw [← hk1]; grind)
  have hx1 := F.cancel n4 (pg4 hk1 (A4L hP.eq))
  obtain ⟨g1, g2⟩ := pg5 hP.eq rfl s2
  rw [pg1] at hs
  rw [pg2] at ht
  subst hs ht
  have g : (8 : Fin n) ≠ 0 := fun h => F.two ((F.mul0 2 4 (by grind)).elim id fun h => absurd h F.four)
  exact ⟨8*(a*a*(a*a))*(1 + k*(1 - P.2*P.2))*(1 - d*P.1*P.1*P.2*P.2), F.mul_ne (F.mul_ne (F.mul_ne g (F.mul_ne (F.mul_ne ha ha) (F.mul_ne ha ha))) hw) k2, pg6 g1 hx1, pg7 g2⟩
theorem Fld.add_neg {P : Fin n × Fin n} (hP : On d P) : On d (-P.1, P.2) ∧ F.add P (-P.1, P.2) = ((0 : Fin n), (1 : Fin n)) := by
  have he := hP.eq
  have ho : On d (-P.1, P.2) := ⟨by show P.2*P.2 - -P.1 * -P.1 = 1 + d * -P.1 * -P.1 * P.2 * P.2; grind⟩
  refine ⟨ho, F.add_eq hP ho ?_ ?_⟩
  · show 0 * (1 + d*P.1* -P.1*P.2*P.2) = P.1*P.2 + -P.1*P.2; grind
  · show 1 * (1 - d*P.1* -P.1*P.2*P.2) = P.2*P.2 + P.1* -P.1; grind
theorem Fld.dif {P Q : Fin n × Fin n} (hP : On d P) (hQ : On d Q) : Q.2*(1 + d*P.1*(F.add P Q).1*P.2*(F.add P Q).2) = P.2*(F.add P Q).2 - P.1*(F.add P Q).1 := by
  obtain ⟨o, e⟩ := F.add_neg hP
  have hS := F.add_on hP hQ
  have e2 : F.add (F.add P Q) (-P.1, P.2) = Q := by
    rw [F.add_comm P Q, F.add_assoc hQ hP o, e, F.add_o]
  have h := (F.add_spec hS o).2
  rw [e2] at h
  dsimp only at h
  generalize F.add P Q = S at *
  clear e2 e hS
  grind
end Go.Ed

namespace Go.Proofs.YtoigcbkclcbmpaaGreatDoor
open Go.Px Go.Ed
theorem A9b : Go.Px.IsPr 531581 := A7M 730 qD qD (by decide +kernel)
theorem A65 : Go.Px.IsPr 1224481 := A7M 1107 qD qD (by decide +kernel)
theorem prL1 : Go.Px.IsPr 1257559732178653 := A9R (F := 531581 * 1224481) qD qD fun s hs hd => Z3 A9b A65 qD (H9 (a := 2) qD qD A9b (by decide +kernel) s hs hd) (H9 (a := 2) qD qD A65 (by decide +kernel) s hs hd)
theorem prL2 : Go.Px.IsPr 4434155615661930479 := A9R (F := 1257559732178653) qD qD (H9 (a := 2) qD qD prL1 (by decide +kernel))
theorem prL3 : Go.Px.IsPr 172054593956031949258510691 := A9R (F := 4434155615661930479) qD qD (H9 (a := 2) qD qD prL2 (by decide +kernel))
theorem prL4 : Go.Px.IsPr 19757330305831588566944191468367130476339 := A9R (F := 172054593956031949258510691) qD qD (H9 (a := 2) qD qD prL3 (by decide +kernel))
theorem prL5 : Go.Px.IsPr 276602624281642239937218680557139826668747 := A9R (F := 19757330305831588566944191468367130476339) qD qD (H9 (a := 2) qD qD prL4 (by decide +kernel))
theorem prL : Go.Px.IsPr lN := A9R (F := 276602624281642239937218680557139826668747) qD qD (H9 (a := 2) qD qD prL5 (by decide +kernel))
structure LR (P : Fin p25 × Fin p25) (s : Lad) (m1 m2 : Nat) : Prop where
  r1 : RepU (fF s.a) (fF s.b) (FF.nsm m1 P)
  r2 : RepU (fF s.c) (fF s.d) (FF.nsm m2 P)
  la : s.a < p25
  lb : s.b < p25
  lc : s.c < p25
  ld : s.d < p25
theorem LR.sw {P : Fin p25 × Fin p25} {s : Lad} {m1 m2 : Nat} (h : LR P s m1 m2) : LR P ⟨s.c, s.d, s.a, s.b⟩ m2 m1 := ⟨h.r2, h.r1, h.lc, h.ld, h.la, h.lb⟩
theorem C15 : fF dN * (fF 121665 + 1) = -fF 121665 := by decide +kernel
theorem LR.step {P : Fin p25 × Fin p25} {u : Nat} {s : Lad} {m1 m2 : Nat} (hP : On (fF dN) P) (hU : fF u * (1 - P.2) = 1 + P.2) (h2 : 1 + P.2 ≠ 0) (h : LR P s m1 m2) (hm : m2 = m1 + 1 ∨ m1 = m2 + 1) : LR P (A4j u s) (m1 + m1) (m1 + m2) := by
  have o1 := FF.nsm_on hP m1
  have o2 := FF.nsm_on hP m2
  have hD : P.2*(1 + fF dN*(FF.nsm m1 P).1*(FF.nsm m2 P).1*(FF.nsm m1 P).2*(FF.nsm m2 P).2) = (FF.nsm m1 P).2*(FF.nsm m2 P).2 - (FF.nsm m1 P).1*(FF.nsm m2 P).1 := by
    rcases hm with rfl | rfl
    · exact FF.dif o1 hP
    · have h1 := FF.dif o2 hP
      rw [← FF.nsm_succ] at h1
      generalize FF.nsm m2 P = Q at *
      generalize FF.nsm (m2 + 1) P = R at *
      have e1 : fF dN*R.1*Q.1*R.2*Q.2 = fF dN*Q.1*R.1*Q.2*R.2 := by clear h1 h hU; grind
      have e2 : R.2*Q.2 - R.1*Q.1 = Q.2*R.2 - Q.1*R.1 := by clear h1 h hU; grind
      rw [e1, e2]; exact h1
  refine ⟨?_, ?_, A0b _ _, A0b _ _, A0b _ _, A0b _ _⟩
  · rw [FF.nsm_add hP]
    show RepU (fF (fM (fM (fA s.a s.b) (fA s.a s.b)) (fM (fS s.a s.b) (fS s.a s.b)))) (fF (fM (fS (fM (fA s.a s.b) (fA s.a s.b)) (fM (fS s.a s.b) (fS s.a s.b))) (fA (fM (fA s.a s.b) (fA s.a s.b)) (fM 121665 (fS (fM (fA s.a s.b) (fA s.a s.b)) (fM (fS s.a s.b) (fS s.a s.b))))))) _
    rw [A0k, A0k (fS _ _) (fA _ _), B0e, A0k 121665, B0f (A0b _ _)]
    exact FF.rep_dbl o1 h.r1 C15 (by rw [A0k, B0e]) (by rw [A0k, B0f h.lb])
  · rw [FF.nsm_add hP]
    show RepU (fF (fM (fA (fM (fS s.c s.d) (fA s.a s.b)) (fM (fA s.c s.d) (fS s.a s.b))) (fA (fM (fS s.c s.d) (fA s.a s.b)) (fM (fA s.c s.d) (fS s.a s.b))))) (fF (fM u (fM (fS (fM (fS s.c s.d) (fA s.a s.b)) (fM (fA s.c s.d) (fS s.a s.b))) (fS (fM (fS s.c s.d) (fA s.a s.b)) (fM (fA s.c s.d) (fS s.a s.b)))))) _
    rw [A0k (fA _ _), A0k u, A0k (fS _ _) (fS _ _), B0e (fM _ _), B0f (A0b _ _)]
    exact FF.rep_dif o1 o2 h.r1 h.r2 hD hU h2 (p := fF s.a + fF s.b) (q := fF s.a - fF s.b) rfl rfl (by rw [A0k, B0f h.ld, B0e]) (by rw [A0k, B0e, B0f h.lb])
theorem B2l {P : Fin p25 × Fin p25} {u : Nat} (hP : On (fF dN) P) (hu : u < p25) (hU : fF u * (1 - P.2) = 1 + P.2) (h1 : 1 - P.2 ≠ 0) (h2 : 1 + P.2 ≠ 0) {n : Nat} (hn : n < 2 ^ 255) : ∀ k, k ≤ 255 → LR P (A0l u n k) (n / 2 ^ (255 - k)) (n / 2 ^ (255 - k) + 1)
  | 0, _ => by
    rw [Nat.div_eq_of_lt hn]
    have i2 := FF.hinv _ FF.two
    have i1 := FF.hinv _ h1
    have ne : ∀ {a : Fin p25}, a ≠ 0 → FF.inv a ≠ 0 := fun {a} ha h => by
      have := FF.hinv _ ha
      rw [h] at this
      exact FF.one (by rw [← this]; grind)
    refine ⟨⟨FF.inv 2, ne FF.two, ?_, ?_⟩, ⟨FF.inv (1 - P.2), ne h1, ?_, ?_⟩, by show 1 < p25; decide, by show 0 < p25; decide, hu, by show 1 < p25; decide⟩
    · show fF 1 = FF.inv 2 * (1 + 1)
      rw [show (1 : Fin p25) + 1 = 2 from rfl, ← show (2 : Fin p25) * FF.inv 2 = FF.inv 2 * 2 by grind, i2]; rfl
    · show fF 0 = FF.inv 2 * (1 - 1)
      rw [show (1 : Fin p25) - 1 = 0 from rfl, show FF.inv 2 * (0 : Fin p25) = 0 by grind]; rfl
    · show fF u = FF.inv (1 - P.2) * (1 + (FF.add ((0 : Fin p25), (1 : Fin p25)) P).2)
      rw [FF.add_comm, FF.add_o, ← hU]
      have : FF.inv (1 - P.2) * (fF u * (1 - P.2)) = fF u * ((1 - P.2) * FF.inv (1 - P.2)) := by clear i1 i2 hU; grind
      rw [this, i1]; grind
    · show fF 1 = FF.inv (1 - P.2) * (1 - (FF.add ((0 : Fin p25), (1 : Fin p25)) P).2)
      rw [FF.add_comm, FF.add_o]
      have : FF.inv (1 - P.2) * (1 - P.2) = (1 - P.2) * FF.inv (1 - P.2) := by clear i1 i2 hU; grind
      rw [this, i1]; rfl
  | k + 1, hk => by
    have ih := B2l hP hu hU h1 h2 hn k qO
    have e1 : 255 - (k + 1) = 254 - k := by omega
    have e2 : n / 2 ^ (254 - k) = 2 * (n / 2 ^ (255 - k)) + n / 2 ^ (254 - k) % 2 := by
      have e3 : n / 2 ^ (255 - k) = n / 2 ^ (254 - k) / 2 := by rw [Nat.div_div_eq_div_mul, ← Nat.pow_succ]; congr 2; omega
      rw [e3]; omega
    rw [e1, e2]
    generalize n / 2 ^ (255 - k) = m at *
    show LR P (swL (decide (n / 2 ^ (254 - k) % 2 = 1)) (A4j u (swL (decide (n / 2 ^ (254 - k) % 2 = 1)) (A0l u n k)))) _ _
    by_cases hb : n / 2 ^ (254 - k) % 2 = 1
    · rw [hb]
      have h3 := (ih.sw.step hP hU h2 (.inr rfl)).sw
      rw [show m + 1 + m = 2 * m + 1 by omega, show m + 1 + (m + 1) = 2 * m + 1 + 1 by omega] at h3
      exact h3
    · rw [show n / 2 ^ (254 - k) % 2 = 0 by omega]
      have h3 := ih.step hP hU h2 (.inl rfl)
      rw [show m + m = 2 * m + 0 by omega, show m + (m + 1) = 2 * m + 0 + 1 by omega] at h3
      exact h3
noncomputable def uOf (P : Fin p25 × Fin p25) : Fin p25 := (1 + P.2) * FF.inv (1 - P.2)
theorem B4K : FF.inv 0 = 0 := by
  show fF (fI (0 : Fin p25).val) = 0
  rw [A5w, A2a qD]
  decide +kernel
theorem C0p {P : Fin p25 × Fin p25} {u : Nat} (hP : On (fF dN) P) (hu : u < p25) (hU : fF u * (1 - P.2) = 1 + P.2) (h1 : 1 - P.2 ≠ 0) (h2 : 1 + P.2 ≠ 0) {n : Nat} (hn : n < 2 ^ 255) : fM (A0l u n 255).a (fI (A0l u n 255).b) = (uOf (FF.nsm n P)).val := by
  have h := B2l hP hu hU h1 h2 hn 255 (Nat.le_refl _)
  rw [show 255 - 255 = 0 from rfl, Nat.pow_zero, Nat.div_one] at h
  obtain ⟨c, hc, e1, e2⟩ := h.r1
  have hb := h.lb
  generalize A0l u n 255 = s at *
  have e3 : fF (fM s.a (fI s.b)) = uOf (FF.nsm n P) := by
    rw [A0k, e1]
    have e4 : fF (fI s.b) = FF.inv (fF s.b) := by
      show _ = fF (fI (fF s.b).val)
      rw [A0j, Nat.mod_eq_of_lt hb]
    rw [e4, e2]
    unfold uOf
    generalize (FF.nsm n P).2 = y
    by_cases hy : 1 - y = 0
    · rw [hy, show c * (0 : Fin p25) = 0 by grind, B4K]; grind
    · have i1 := FF.hinv _ hy
      have i2 := FF.hinv _ (FF.mul_ne hc hy)
      have i3 : c * FF.inv (c * (1 - y)) = FF.inv (1 - y) := by
        refine FF.cancel hy ?_
        have e : (1 - y) * (c * FF.inv (c * (1 - y))) = c * (1 - y) * FF.inv (c * (1 - y)) := by
          generalize FF.inv (c * (1 - y)) = z
          clear i1 i2 e1 e2 e4
          grind
        rw [e, i2, i1]
      have : c * (1 + y) * FF.inv (c * (1 - y)) = (1 + y) * (c * FF.inv (c * (1 - y))) := by clear i1 i2 i3 e1 e2 e4; grind
      rw [this, i3]
  have := congrArg Fin.val e3
  rw [A0j, Nat.mod_eq_of_lt (A0b _ _)] at this
  exact this
theorem B8h {B : Fin p25 × Fin p25} (hB : On (fF dN) B) (hne : B ≠ ((0 : Fin p25), (1 : Fin p25))) (hL : FF.nsm lN B = ((0 : Fin p25), (1 : Fin p25))) {j : Nat} (h : FF.nsm j B = ((0 : Fin p25), (1 : Fin p25))) : lN ∣ j := by
  apply Decidable.byContradiction
  intro hd
  have hc := prL.cop hd
  -- gcd: some a * j = 1 + b * lN
  have key : ∀ a b : Nat, FF.nsm a B = ((0 : Fin p25), (1 : Fin p25)) → FF.nsm b B = ((0 : Fin p25), (1 : Fin p25)) → FF.nsm (Nat.gcd a b) B = ((0 : Fin p25), (1 : Fin p25)) := by
    intro a b
    induction a, b using Nat.gcd.induction with
    | H0 b => intro _ h; rwa [Nat.gcd_zero_left]
    | H1 a b ha ih =>
      intro h1 h2
      rw [Nat.gcd_rec]
      refine ih ?_ h1
      rw [FF.nsm_mod hB h1]; exact h2
  have h1 := key lN j hL h
  rw [hc] at h1
  apply hne
  have : FF.nsm 1 B = FF.add ((0 : Fin p25), (1 : Fin p25)) B := rfl
  rw [this, FF.add_comm, FF.add_o] at h1
  exact h1
theorem C16 {P : Fin p25 × Fin p25} (hP : On (fF dN) P) (h : P.2 * P.2 = 1) : FF.add P P = ((0 : Fin p25), (1 : Fin p25)) := by
  have hx := A4L hP.eq
  rw [h] at hx
  have hx0 : P.1 * P.1 * (1 + fF dN * 1) = 0 := by rw [hx]; grind
  have hn := FF.a_ne 1
  rw [show (1 : Fin p25) * 1 = 1 from rfl] at hn
  have h1 : P.1 * P.1 = 0 := (FF.mul0 _ _ hx0).resolve_right hn
  have h2 : P.1 = 0 := (FF.mul0 _ _ h1).elim id id
  obtain ⟨x, y⟩ := P
  dsimp only at h h2
  subst h2
  refine FF.add_eq hP hP ?_ ?_
  · show 0 * _ = 0 * y + 0 * y; grind
  · show 1 * (1 - fF dN * 0 * 0 * y * y) = y * y + 0 * 0
    rw [h]; grind
theorem y_ok {B : Fin p25 × Fin p25} (hB : On (fF dN) B) (hne : B ≠ ((0 : Fin p25), (1 : Fin p25))) (hL : FF.nsm lN B = ((0 : Fin p25), (1 : Fin p25))) {j : Nat} (hj : ¬ lN ∣ j + j) : 1 - (FF.nsm j B).2 ≠ 0 ∧ 1 + (FF.nsm j B).2 ≠ 0 := by
  have key : (FF.nsm j B).2 * (FF.nsm j B).2 ≠ 1 := fun h => hj (B8h hB hne hL (by rw [FF.nsm_add hB]; exact C16 (FF.nsm_on hB j) h))
  exact ⟨fun h => key (by grind), fun h => key (by grind)⟩
theorem B4L {B : Fin p25 × Fin p25} {b : Nat} (hB : On (fF dN) B) (hne : B ≠ ((0 : Fin p25), (1 : Fin p25))) (hL : FF.nsm lN B = ((0 : Fin p25), (1 : Fin p25))) (hb : b < p25) (hU : fF b * (1 - B.2) = 1 + B.2) (h1 : 1 - B.2 ≠ 0) (h2 : 1 + B.2 ≠ 0) {m k : Nat} (hm : m < 2 ^ 255) (hk : k < 2 ^ 255) (jm : ¬ lN ∣ m + m) (jk : ¬ lN ∣ k + k) {um uk : Nat} (em : um = fM (A0l b m 255).a (fI (A0l b m 255).b)) (ek : uk = fM (A0l b k 255).a (fI (A0l b k 255).b)) :
    fM (A0l um k 255).a (fI (A0l um k 255).b) = fM (A0l uk m 255).a (fI (A0l uk m 255).b) := by
  have go : ∀ {m k um : Nat}, m < 2 ^ 255 → k < 2 ^ 255 → ¬ lN ∣ m + m → um = fM (A0l b m 255).a (fI (A0l b m 255).b) → fM (A0l um k 255).a (fI (A0l um k 255).b) = (uOf (FF.nsm (k * m) B)).val := by
    intro m k um hm hk jm em
    rw [C0p hB hb hU h1 h2 hm] at em
    obtain ⟨y1, y2⟩ := y_ok hB hne hL jm
    rw [FF.nsm_mul hB]
    refine C0p (FF.nsm_on hB m) (by rw [em]; exact (uOf _).isLt) ?_ y1 y2 hk
    rw [em, A2S]
    unfold uOf
    have i1 := FF.hinv _ y1
    generalize (FF.nsm m B).2 = y at *
    have : (1 + y) * FF.inv (1 - y) * (1 - y) = (1 + y) * ((1 - y) * FF.inv (1 - y)) := by clear i1 hU; grind
    rw [this, i1]; grind
  rw [go hm hk jm em, go hk hm jk ek, Nat.mul_comm]
theorem rd32 {v : Nat} (h : v < p25) : rdN (X3 8 32 v 255) = v := by
  unfold rdN
  rw [if_pos (L4 _ _ _ _), A5u, show (57896044618658097711785492504343953926634992332820282019728792003956564819968 : Nat) = 2 ^ 255 from rfl, Nat.mod_mod, Nat.mod_eq_of_lt (a := v) (b := 2 ^ 255) (Nat.lt_trans h qD), Nat.mod_eq_of_lt h]
theorem B4M (x : Nat) : (x &&& 248) % 8 = 0 := by
  have := Nat.and_mod_two_pow (a := x) (b := 248) (n := 3)
  rw [show (2 : Nat) ^ 3 = 8 from rfl] at this
  rw [this]; simp
theorem B4N {w : LN} (h : ∀ x ∈ w, x < 256) : ∃ m, bv (H5 w) = 8 * m ∧ 2 ^ 251 ≤ m ∧ m < 2 ^ 252 := by
  have hl := A2A w
  have hlt := A61 h
  have hb := B7s hlt
  rw [hl] at hb
  have b0 := A7L hlt 0
  have b31 := A7L hlt 31
  have hf := U6 w 32
  have e0 : (H5 w).getD 0 0 = (R5 w 32).getD 0 0 &&& 248 := by
    unfold H5
    dsimp only
    rw [List.getD_eq_getElem?_getD, List.getElem?_set_ne qD, List.getElem?_set_self qO]
    rfl
  have e31 : ∃ z, (H5 w).getD 31 0 = z % 128 ||| 64 := by
    refine ⟨((R5 w 32).set 0 ((R5 w 32).getD 0 0 &&& 248)).getD 31 0, ?_⟩
    unfold H5
    dsimp only
    rw [List.getD_eq_getElem?_getD, List.getElem?_set_self (by rw [List.length_set]; omega)]
    rfl
  obtain ⟨z, e31⟩ := e31
  rw [e0] at b0
  rw [e31] at b31
  have z1 : 64 ≤ z % 128 ||| 64 := Nat.right_le_or
  have z2 : z % 128 ||| 64 < 2 ^ 7 := Nat.or_lt_two_pow (Nat.mod_lt _ qD) qD
  have c8 := B4M ((R5 w 32).getD 0 0)
  generalize (R5 w 32).getD 0 0 &&& 248 = c at *
  generalize z % 128 ||| 64 = y at *
  generalize bv (H5 w) = b at *
  clear e0 e31 hl hlt hf
  rw [Nat.pow_zero, Nat.div_one] at b0
  have d31 : b / 256 ^ 31 < 256 := Nat.div_lt_of_lt_mul (by rw [← Nat.pow_succ]; exact hb)
  rw [Nat.mod_eq_of_lt d31] at b31
  have l1 : 64 * 256 ^ 31 ≤ b := by have := (Nat.le_div_iff_mul_le (show 0 < 256 ^ 31 by decide)).1 (show 64 ≤ b / 256 ^ 31 by omega); exact this
  have l2 : b < 128 * 256 ^ 31 := by have := (Nat.div_lt_iff_lt_mul (show 0 < 256 ^ 31 by decide)).1 (show b / 256 ^ 31 < 128 by omega); exact this
  have h8 : b % 8 = 0 := by omega
  refine ⟨b / 8, by omega, ?_, ?_⟩
  · have : (64 : Nat) * 256 ^ 31 = 8 * 2 ^ 251 := by decide
    omega
  · have : (128 : Nat) * 256 ^ 31 = 8 * 2 ^ 252 := by decide
    omega
theorem A9c {w : LN} (h : ∀ x ∈ w, x < 256) : bv (H5 w) < 2 ^ 255 ∧ ¬ lN ∣ bv (H5 w) + bv (H5 w) := by
  obtain ⟨m, e, h1, h2⟩ := B4N h
  rw [e]
  refine ⟨by have : (2 : Nat) ^ 255 = 8 * 2 ^ 252 := by decide
             omega, fun hd => ?_⟩
  rw [show 8 * m + 8 * m = 16 * m by omega] at hd
  rcases prL.mul hd with h3 | h3
  · exact absurd (Nat.le_of_dvd qD h3) qD
  · have := Nat.le_of_dvd (by have : (0 : Nat) < 2 ^ 251 := by decide
                              omega) h3
    have : (2 : Nat) ^ 252 < lN := by decide
    omega
theorem b_u : fF 9 * (1 - bPt.2) = 1 + bPt.2 := by decide +kernel
theorem C17 : 1 - bPt.2 ≠ 0 ∧ 1 + bPt.2 ≠ 0 := by decide +kernel
theorem b_no : bPt ≠ ((0 : Fin p25), (1 : Fin p25)) := fun h => C17.1 (by rw [h]; rfl)
theorem B8i : rdN B4D = 9 := by decide +kernel
theorem A66 {t : LN} : rdN (V4 t) = fM (A0l 9 (bv (H5 t)) 255).a (fI (A0l 9 (bv (H5 t)) 255).b) := by
  unfold V4 x25
  rw [B8i]
  exact rd32 (A0b _ _)
theorem B4O {s t : LN} (hs : ∀ x ∈ s, x < 256) (ht : ∀ x ∈ t, x < 256) : x25 s (V4 t) = x25 t (V4 s) := by
  obtain ⟨s1, s2⟩ := A9c hs
  obtain ⟨t1, t2⟩ := A9c ht
  unfold x25
  rw [B4L A4i b_no A5L (b := 9) qD b_u C17.1 C17.2 t1 s1 t2 s2 (um := rdN (V4 t)) (uk := rdN (V4 s)) A66 A66]

theorem A71 {w : LN} {n : Nat} (h : w.length = n) : R5 w n = w := by
  unfold R5; rw [List.take_of_length_le qO, h, Nat.sub_self]; simp
theorem B2m (w : LN) : (V4 w).length = 32 := A5P _ _
theorem B4P (x y : Int) : srt x y = srt y x := by
  unfold srt
  rcases Int.lt_trichotomy x y with h | h | h
  · rw [if_neg qO, if_pos h]
  · subst h; rfl
  · rw [if_pos h, if_neg qO]
def B6n (i j : Nat) : Tm := ⟨4, srt ((i : Nat) : Int) ((j : Nat) : Int), [], 0⟩
theorem B8j {i j : Nat} (hi : i ≤ 1048576) (hj : j ≤ 1048576) : Tmo (B6n i j) := B05 (s := 0) (o := 0) (A1F _ _) (fun z hz => (B04 hz).elim (fun e => e ▸ A5S hi) (fun e => e ▸ A5S hj)) (.inl rfl)
def B8k (s : Ps) (a b k : LN) : Prop := ∃ i j m : Nat, i < s.ts.length ∧ j < s.ts.length ∧ a = bts ((i : Nat) : Int) ∧ b = bts ((j : Nat) : Int) ∧ s.ts[m]? = some (B6n i j) ∧ k = bts ((m : Nat) : Int)
def A31 (s : Ps) (a b k : LN) : Prop := if s.real then k = x25 (R5 a 32) (V4 (R5 b 32)) ∧ (∀ x ∈ a, x < 256) ∧ ∀ x ∈ b, x < 256 else B8k s a b k
theorem A31.t {s : Ps} (h : s.real = true) {a b k : LN} : A31 s a b k ↔ k = x25 (R5 a 32) (V4 (R5 b 32)) ∧ (∀ x ∈ a, x < 256) ∧ ∀ x ∈ b, x < 256 := by unfold A31; rw [if_pos h]
theorem A31.f {s : Ps} (h : s.real = false) {a b k : LN} : A31 s a b k ↔ B8k s a b k := by unfold A31; rw [if_neg (by rw [h]; decide)]
theorem B8k.ext {s s' : Ps} {a b k : LN} (h : B8k s a b k) (he : Pext s s') : B8k s' a b k := by
  obtain ⟨l, e⟩ := he.ts
  obtain ⟨i, j, m, h1, h2, h3, h4, h5, h6⟩ := h
  exact ⟨i, j, m, by rw [e, List.length_append]; omega, by rw [e, List.length_append]; omega, h3, h4, by rw [e]; exact A4E h5, h6⟩
theorem A31.ext {s s' : Ps} {a b k : LN} (h : A31 s a b k) (he : Pext s s') : A31 s' a b k := by
  cases hr : s.real with
  | true => rw [A31.t hr] at h; rw [A31.t (he.real.trans hr)]; exact h
  | false => rw [A31.f hr] at h; rw [A31.f (he.real.trans hr)]; exact h.ext he
theorem A31.comm {s : Ps} {a b k : LN} (h : A31 s a b k) : A31 s b a k := by
  cases hr : s.real with
  | true =>
    rw [A31.t hr] at h ⊢
    refine ⟨?_, h.2.2, h.2.1⟩
    rw [h.1]
    exact B4O (A2y h.2.1 32) (A2y h.2.2 32)
  | false =>
    rw [A31.f hr] at h ⊢
    obtain ⟨i, j, m, h1, h2, h3, h4, h5, h6⟩ := h
    exact ⟨j, i, m, h2, h1, h4, h3, by rw [h5]; unfold B6n; rw [B4P], h6⟩
theorem B8l {ts : List Tm} {i j p : Nat} (hp : ts[p]? = some (B0c ((j : Nat) : Int))) : agT ts ((i : Nat) : Int) ((p : Nat) : Int) = B6n i j := by
  rw [B03 (t := B0c ((j : Nat) : Int)) qO (by rw [Int.toNat_natCast]; exact hp) ⟨rfl, rfl⟩]
  rfl
theorem B2n {s : Ps} {i j p : Nat} (hi : i < s.ts.length) (hp : s.ts[p]? = some (B0c ((j : Nat) : Int))) (hl : s.ts.length ≤ 1048576) :
    B7m s (bts ((i : Nat) : Int)) (bts ((p : Nat) : Int)) = { s with ts := add s.ts (B6n i j) } ∧ B8P s (bts ((i : Nat) : Int)) (bts ((p : Nat) : Int)) = bts ((at_ s.ts (B6n i j) : Nat) : Int) := by
  have hpl := (List.getElem?_eq_some_iff.1 hp).1
  obtain ⟨a1, a2⟩ := A5q hi hl
  obtain ⟨b1, b2⟩ := A5q hpl hl
  unfold B7m B8P
  rw [a1, a2, b1, b2, B8l hp]
  exact ⟨rfl, rfl⟩
theorem A2B {s : Ps} (h : s.real = true) (a B : LN) : N0 s a B = s ∧ A3Z s a B = x25 (R5 a 32) (R5 B 32) := by unfold N0 A3Z; rw [if_pos h, if_pos h]; exact ⟨rfl, rfl⟩
theorem A2C {s : Ps} (h : s.real = false) (a B : LN) : N0 s a B = B7m s a B ∧ A3Z s a B = B8P s a B := by unfold N0 A3Z; rw [if_neg (by rw [h]; decide), if_neg (by rw [h]; decide)]; exact ⟨rfl, rfl⟩
theorem B6o (s : Ps) (a B : LN) : Ext s (N0 s a B) := by
  cases hr : s.real with
  | true => rw [(A2B hr a B).1]; exact Ext.refl s
  | false =>
    rw [(A2C hr a B).1]
    obtain ⟨l1, e1⟩ := A1K s.ts a
    obtain ⟨l2, e2⟩ := A1K (rdT s.ts a) B
    obtain ⟨l3, e3⟩ := A7Z (rdT (rdT s.ts a) B) (agT (rdT (rdT s.ts a) B) ((rdI s.ts a : Nat) : Int) ((rdI (rdT s.ts a) B : Nat) : Int))
    refine ⟨⟨rfl, l1 ++ (l2 ++ l3), ?_⟩, rfl, Nat.le_refl _⟩
    show add _ _ = _
    rw [e3, e2, e1]; simp
theorem U7 (s : Ps) (a B : LN) : (N0 s a B).ts.length ≤ s.ts.length + 3 := by
  cases hr : s.real with
  | true => rw [(A2B hr a B).1]; omega
  | false =>
    rw [(A2C hr a B).1]
    have h1 := U5 (ts := s.ts) (ws := a)
    have h2 := U5 (ts := rdT s.ts a) (ws := B)
    have h3 := A1E (ts := rdT (rdT s.ts a) B) (t := agT (rdT (rdT s.ts a) B) ((rdI s.ts a : Nat) : Int) ((rdI (rdT s.ts a) B : Nat) : Int))
    show (add _ _).length ≤ _
    omega
theorem B8m (s : Ps) (a B : LN) : (N0 s a B).n = s.n := by unfold N0; split <;> rfl
theorem Ar.agr {s : Ps} (h : Ar s.ts) (a B : LN) : Ar (N0 s a B).ts := by
  unfold N0
  split
  · exact h
  · refine ((h.rd a).rd B).add fun hk => ?_
    unfold agT at hk ⊢
    split <;> (try split) <;> (try split) <;> simp_all
theorem C0q {s : Ps} {a b B : LN} (ha : Kok s a) (hB : V1 s b B) (ht : Tok s.ts) (hl : s.ts.length ≤ 1048576) (h1 : ∀ x ∈ a, x < 256) (h2 : ∀ x ∈ b, x < 256) : A31 (N0 s a B) a b (A3Z s a B) ∧ Tok (N0 s a B).ts := by
  cases hr : s.real with
  | true =>
    rw [(A2B hr a B).1, (A2B hr a B).2, A31.t hr]
    unfold V1 at hB
    rw [if_pos hr] at hB
    rw [hB, A71 (B2m _)]
    exact ⟨⟨rfl, h1, h2⟩, ht⟩
  | false =>
    unfold V1 at hB
    rw [if_neg (by rw [hr]; decide)] at hB
    obtain ⟨i, hi, rfl⟩ := ha hr
    obtain ⟨j, p, hj, rfl, hp, rfl⟩ := hB
    obtain ⟨e1, e2⟩ := B2n hi hp hl
    rw [(A2C hr _ _).1, (A2C hr _ _).2, e1, e2]
    obtain ⟨l, g1, g2, g3, g4⟩ := A6D (B8j (show i ≤ 1048576 by omega) (show j ≤ 1048576 by omega)) ht
    exact ⟨(A31.f (s := { s with ts := add s.ts (B6n i j) }) hr).2 ⟨i, j, _, by show i < (add s.ts _).length; rw [g1, List.length_append]; omega, by show j < (add s.ts _).length; rw [g1, List.length_append]; omega, rfl, rfl, g3, rfl⟩, g4⟩
theorem A31.eq {s : Ps} {a b B k : LN} (h : A31 s a b k) (hB : V1 s b B) (ht : Tok s.ts) (hl : s.ts.length ≤ 1048576) : N0 s a B = s ∧ A3Z s a B = k := by
  cases hr : s.real with
  | true =>
    rw [A31.t hr] at h
    unfold V1 at hB
    rw [if_pos hr] at hB
    rw [(A2B hr a B).1, (A2B hr a B).2, hB, A71 (B2m _), h.1]
    exact ⟨rfl, rfl⟩
  | false =>
    rw [A31.f hr] at h
    unfold V1 at hB
    rw [if_neg (by rw [hr]; decide)] at hB
    obtain ⟨i, j, m, g1, g2, rfl, rfl, g3, rfl⟩ := h
    obtain ⟨j', p, hj, e, hp, rfl⟩ := hB
    have := A5p qO qO e
    subst this
    obtain ⟨e1, e2⟩ := B2n g1 hp hl
    obtain ⟨e3, e4⟩ := B3R ht g3
    rw [(A2C hr _ _).1, (A2C hr _ _).2, e1, e2, e3, e4]
    exact ⟨rfl, rfl⟩
theorem B8k.inj {s : Ps} {a b a' b' k : LN} (h : B8k s a b k) (h' : B8k s a' b' k) (hl : s.ts.length ≤ 1048576) : (a = a' ∧ b = b') ∨ (a = b' ∧ b = a') := by
  obtain ⟨i, j, m, g1, g2, rfl, rfl, g3, rfl⟩ := h
  obtain ⟨i', j', m', f1, f2, rfl, rfl, f3, e⟩ := h'
  have b1 := (List.getElem?_eq_some_iff.1 g3).1
  have b2 := (List.getElem?_eq_some_iff.1 f3).1
  have := A5p qO qO e
  subst this
  rw [g3] at f3
  have e2 := Option.some.inj f3
  unfold B6n at e2
  injection e2 with _ e3 _ _
  unfold srt at e3
  have e4 : (i = i' ∧ j = j') ∨ (i = j' ∧ j = i') := by split at e3 <;> split at e3 <;> simp at e3 <;> omega
  rcases e4 with ⟨rfl, rfl⟩ | ⟨rfl, rfl⟩
  · exact .inl ⟨rfl, rfl⟩
  · exact .inr ⟨rfl, rfl⟩
theorem A5T (seed : LN) (i : Nat) : A2R seed i = A1J (A1J [] seed) (([107, 101, 121] ++ A9J i) ++ [1]) := by
  unfold A2R
  rw [← A80]
  exact B4v _ _
def aw0 (r : Bool) : Ps := ⟨r, [115], 0, []⟩
noncomputable def aw2 (r : Bool) : Ps := D4 (D4 (aw0 r))
def bes (n k x : Nat) : LN := (List.range x).map fun j => n / 2 ^ (8 * (k - 1 - j)) % 256
def beN (n k : Nat) : LN := bes n k k
theorem B2o (n k x : Nat) : (bes n k x).length = x := by simp [bes]
theorem A32 (n k : Nat) : (beN n k).length = k := B2o n k k
theorem B4Q (n k x : Nat) : bes n k (x + 1) = bes n k x ++ [n / 2 ^ (8 * (k - 1 - x)) % 256] := by simp [bes, List.range_succ]
theorem C0r (n k x : Nat) : ∀ y ∈ bes n k x, y < 256 := by
  intro y hy
  simp only [bes, List.mem_map] at hy
  obtain ⟨j, _, rfl⟩ := hy
  exact Nat.mod_lt _ qD
theorem A9d (n k : Nat) : ∀ y ∈ beN n k, y < 256 := C0r n k k
theorem B6p {a b : LN} (ha : ∀ x ∈ a, x < 256) (hb : ∀ x ∈ b, x < 256) : ∀ x ∈ a ++ b, x < 256 := fun x hx => (List.mem_append.1 hx).elim (ha x) (hb x)
def bev (ws : LN) : Nat := ws.foldl (fun n b => n * 256 + b) 0
structure Wtr (wb : Nat) (ws : LN) (M : Mem) : Prop where
  ex : ∃ (v : Value) (B : Mem), M = (wb, blk [v] 96) :: B ∧ Sl 1 v ws.length (nums .u8 ws) B
  lt : ∀ x ∈ ws, x < 256
theorem Wtr.new {b : Nat} : Wtr b [] [(b, blk [vS] 96)] := ⟨⟨_, [], rfl, Sl.nil⟩, fun x h => by cases h⟩
theorem A67 (wb n k : Nat) (ws : LN) (M A : Mem) (hW : Wtr wb ws M) (hn : n < 18446744073709551616) (hk : k ≤ 8) (hl : ws.length ≤ 1099511627776) : FnX Tryz.prog 47 [(vP wb), .int .u64 ((n : Nat) : Int), (vI k)] M A fun q M J => q = (vP wb) ∧ Wtr wb (ws ++ beN n k) M := by
 obtain ⟨⟨v, B, rfl, hsl⟩, hlt⟩ := hW
 haveI := hsl.cel
 refine FnX.enterZ (N := 33) Tryz.func47 rfl rfl rfl fun w_ => ?_
 refine C4 (E2 0 1 2) (A3 (as_ (A0 (E2 0 1 2) (A5 (A3 (mv_ ?_))))))
 refine A4 (E3 ((k : Int) - 1) rfl rfl (Z9 rfl qO qO)) rfl ?_
 refine as_ (A0 (E2 0 1 7) (C0 ?_))
 refine F2 (α := Nat × Value × Mem) (fun x => [(0, (vP wb)), (1, .int .u64 ((n : Nat) : Int)), (7, .int .i64 ((k : Int) - 1 - (x.1 : Int)))]) (fun x => (wb, blk [x.2.1] 96) :: x.2.2) (fun _ => []) (fun x => x.1 ≤ k ∧ Sl 1 x.2.1 (ws ++ bes n k x.1).length (nums .u8 (ws ++ bes n k x.1)) x.2.2) (fun x => k - x.1) ⟨0, v, B⟩ ⟨Nat.zero_le _, by simpa [bes] using hsl⟩ (kq 0 (kq 1 (kp 7 (by simp; rfl) kn))) .rfl qI ?_
 clear hsl
 rintro ⟨x, v, B⟩ ⟨hx, hsl⟩
 dsimp only at hx hsl ⊢
 haveI := hsl.cel
 have hbl := B2o n k x
 have hll : (ws ++ bes n k x).length = ws.length + x := by rw [List.length_append, hbl]
 refine A5 (A3 (mv_ ?_))
 refine A4 (F1 rfl rfl rfl) rfl ?_
 refine mv_ ?_
 refine A0d (t := 12) rfl (fun hb => ?_) (fun hb => ?_)
 ·
  have hltx : x < k := by simp at hb; omega
  obtain ⟨m, hm, hm2⟩ : ∃ m : Nat, ((k : Int) - 1 - (x : Int)) = (m : Int) ∧ m = k - 1 - x := ⟨k - 1 - x, by omega, rfl⟩
  rw [hm]
  refine G2 rfl rfl (OpQ.opL qm_ rfl ?_)
  refine G2 rfl rfl (OpQ.opL (F4 true rfl rfl (ltT qO)) rfl ?_)
  refine A4 (I5 rfl rfl) rfl ?_
  refine A0 (E7 0 1 7 15) ?_
  refine E0 rfl ?_
  refine A9 (nx (E2 0 1 7) (A5 (C0 ?_)))
  refine I9 [0, 1, 2, 3, 4, 5, 6, 7, 8, 9, 10, 12, 13] (zp 0 [0, 0, 0, 0, 1, 0, 0, 0, 0, 0, 2, 2, 0, 0, 2]) kR kR fun hs => ?_
  refine fm_ hs ?_
  refine fm_ hs ?_
  refine D1 hs rfl (F9 rfl) rfl ?_
  refine D1 hs rfl (qf_ 0 0) rfl ?_
  refine F7 hs rfl ql_ rfl ?_
  refine fm_ hs ?_
  refine fm_ hs ?_
  refine D1 hs rfl (A1q (a := 8) rfl rfl rfl rfl qO) rfl ?_
  refine D1 hs rfl (A2K (a := n) (b := 8 * m) rfl rfl rfl rfl (by show _ ≤ 64; omega)) rfl ?_
  refine D1 hs rfl (A3o rfl kR) rfl ?_
  refine B9f rfl rfl fun _ => (C6 (e := 5) (sz := 1) (z := [.int .u8 0]) kR (eS rfl e0) (bdS 0 1 rfl qR bd0) rfl fun b28 => ?_)
  refine G5 rfl rfl rfl (I3 (e := 5) (sz := 1) (by_ := 1) rfl rfl kR rfl (by first | assumption | exact Sl.nil) (Rd.whole (n := 1) At.mem qR) (by first | (simp [Value.oneCell']; done) | (intro c hc; simp only [List.mem_singleton] at hc; subst hc; first | exact Rd.one (by assumption) | exact Sl.one (by assumption))) qP (by unfold maxLen; omega) qO rfl fun v29 B29 hs29 => ?_)
  refine D1 hs rfl (F9 rfl) rfl ?_
  refine D1 hs rfl (qf_ 0 0) rfl ?_
  refine G5 rfl rfl rfl (D6 rfl rfl hs29.one kR SetC.set UpC.upd ?_)
  refine V3 (nb (nx (E2 0 1 7) (C2 (mv_ ?_))))
  refine A4 (E3 ((m : Int) - 1) rfl rfl (Z9 rfl qO qO)) rfl ?_
  refine as_ (D0 ?_)
  exact rn ⟨x + 1, v29, B29⟩ ⟨by dsimp only; omega, by dsimp only; rw [B4Q, ← List.append_assoc, ← hm2]; exact A0s hs29 (by simp only [List.length_append, List.length_singleton]) (by simp [nums])⟩ (by dsimp only; omega) (kq 0 (kq 1 (kp 7 (by dsimp only; rw [show ((k : Int) - 1 - ((x + 1 : Nat) : Int)) = (m : Int) - 1 by omega]; rfl) kn))) (Fit.pick (B := [_]) qP (Fit.last qP)) (fun _ h => by first | exact h | cases h)
 ·
  have hge : x = k := by simp at hb; omega
  subst hge
  refine L9 rfl rfl rfl rfl ?_
  refine L9 rfl rfl rfl rfl ?_
  refine A4 (E9 rfl rfl) rfl ?_
  refine A0 (E7 0 1 7 15) ?_
  refine D3 rfl ?_
  refine E6 (te (re (be rfl (nx (D8 0) (A3 (mv_ (as_ (A0 (D8 6) ?_))))))))
  refine C3 ?_
  exact ⟨_, (wb, blk [v] 96) :: B, [], K2 rfl rfl, Fit.none (Fit.last qP), rfl, ⟨⟨v, B, rfl, hsl⟩, B6p hlt (A9d n x)⟩⟩
theorem A33 (wb : Nat) (p : Value) (w ws : LN) (M A : Mem) (hW : Wtr wb ws M) (hp : By A p w) (hl : ws.length ≤ 1099511620000) : FnX Tryz.prog 46 [(vP wb), p] M A fun q M J => q = (vP wb) ∧ Wtr wb (ws ++ beN w.length 4 ++ w) M := by
 haveI := hp.cel
 have hpl := hp.len
 refine FnX.enterZ (N := 20) Tryz.func46 rfl rfl rfl fun w_ => ?_
 refine C4 (D5 0 1) (A3 (as_ (A0 (D5 0 1) (A3 (mv_ (mv_ ?_))))))
 refine A4 (K1 (sz := 1) rfl kR hp.rd) rfl ?_
 refine A4 (B0q rfl kR) rfl ?_
 rw [Nat.mod_eq_of_lt (show w.length < 18446744073709551616 by omega)]
 refine A6 rfl (E1 (Mc := _) (R := _) (aS rfl (aS rfl (aS rfl (a0)))) kR qP (A67 wb w.length 4 ws _ _ hW qO qD qO) rfl ?_)
 rintro v9 M9 J9 ⟨rfl, hW9⟩
 obtain ⟨⟨v, B, rfl, hsl⟩, hlt⟩ := hW9
 haveI := hsl.cel
 have hbl := A32 w.length 4
 have hll : (ws ++ beN w.length 4).length = ws.length + 4 := by rw [List.length_append, hbl]
 refine A0 (D5 0 1) (A3 (mv_ (mv_ ?_)))
 refine A4 (F9 rfl) rfl ?_
 refine A4 (qf_ 0 0) rfl ?_
 refine A4 ql_ rfl ?_
 refine mv_ ?_
 refine A6 rfl (I3 (e := 5) (sz := 1) (by_ := 1) rfl rfl kR rfl hsl (hp.rd.mono qS) E8 qP (by unfold maxLen; omega) qO rfl fun v16 B16 hs16 => ?_)
 refine A4 (F9 rfl) rfl ?_
 refine A4 (qf_ 0 0) rfl ?_
 refine A6 rfl (D6 rfl rfl hs16.one kR SetC.set UpC.upd ?_)
 refine A0 (D8 0) (A3 (mv_ (as_ (A0 (D8 4) (C3 ?_)))))
 exact ⟨_, (wb, blk [v16] 96) :: B16, [], K2 rfl rfl, Fit.none (Fit.pick (B := [_]) qP (Fit.last qP)), rfl, ⟨⟨v16, B16, rfl, A0s hs16 (by simp only [List.length_append]) (by simp [nums])⟩, B6p hlt hp.lt⟩⟩
theorem A9Z (wb : Nat) (ws : LN) (M A : Mem) (hW : Wtr wb ws M) (hl : ws.length ≤ 16777216) : FnX Tryz.prog 48 [(vP wb)] M A fun q M J => Wtr wb ws M ∧ By J q ws := by
 obtain ⟨⟨v, B, rfl, hsl⟩, hlt⟩ := hW
 haveI := hsl.cel
 refine FnX.enterZ (N := 8) Tryz.func48 rfl rfl rfl fun w_ => ?_
 refine C4 (D8 0) (A3 (as_ (A0 (D8 0) (A3 (mv_ ?_)))))
 refine A4 (F9 rfl) rfl ?_
 refine A4 (qf_ 0 0) rfl ?_
 refine A4 ql_ rfl ?_
 refine A6 rfl (I3 (e := 5) (sz := 1) (by_ := 1) rfl rfl kR rfl Sl.nil (hsl.rd qS) E8 qP (by unfold maxLen; omega) qO rfl fun v7 B7 hs7 => ?_)
 refine as_ (A0 (D8 2) (C3 ?_))
 exact ⟨_, (wb, blk [v] 96) :: B, B7, K2 rfl rfl, Fit.pick qP (Fit.last qP), ⟨⟨v, B, rfl, hsl⟩, hlt⟩, ⟨by simpa using hs7.rd (R := B7) qS, hlt, hl⟩⟩

def A0U (n : Nat) (w : LN) : LN := beN 6 4 ++ [112, 114, 101, 107, 101, 121] ++ beN n 4 ++ (beN w.length 4 ++ w)
theorem B4R (n : Nat) (w : LN) : (A0U n w).length = w.length + 18 := by simp [A0U, A32]; omega
theorem B8n {n : Nat} (h : n < 4294967296) : IntKind.u64.wrap (n : Int) = (n : Int) := A4Z qO qO
theorem B8o {R : Mem} {b n : Nat} {w : LN} {e : TypeId} {fr : Nat × Nat} (hm : (b, Obj.cells (nums .u8 w).toArray e fr) ∈ R) (hn : w.length = n) (hlt : ∀ x ∈ w, x < 256) (hl : w.length ≤ 16777216) : By R (.slice (some ⟨b, 0, none⟩) n n) w := by
  subst hn
  exact ⟨Rd.whole (n := w.length) hm qM, hlt, hl⟩
theorem A68 (n : Nat) (v : Value) (w : LN) (A : Mem) (hn : n < 4294967296) (hv : By A v w) (hl : w.length ≤ 1000000) : FnX Tryz.prog 27 [(vU n), v] [] A fun q M J => M = [] ∧ By J q (A0U n w) := by
 haveI := hv.cel
 refine FnX.enterZ (N := 18) Tryz.func27 rfl rfl rfl fun w_ => ?_
 refine C4 (D5 0 1) (A3 (as_ (A0 (D5 0 1) (A3 ?_))))
 refine A4 (F3 (place := fun x => #[(0, 1)][x]?) (z := [vS]) (fun _ => by kernel_rfl) e0 bd0) rfl ?_
 refine A6 rfl (bx_ fun b7 => ?_)
 refine as_ (A0 (E2 0 1 5) (A3 (mv_ ?_)))
 refine A6 rfl (C6 (e := 5) (sz := 1) (z := [zu8, zu8, zu8, zu8, zu8, zu8]) kR (eS rfl (eS rfl (eS rfl (eS rfl (eS rfl (eS rfl e0)))))) (bdS 0 1 rfl qR (bdS 1 1 rfl qR (bdS 2 1 rfl qR (bdS 3 1 rfl qR (bdS 4 1 rfl qR (bdS 5 1 rfl qR bd0)))))) rfl fun b9 => ?_)
 refine A6 rfl (A4s rfl kR UpC.upd rfl ?_)
 refine A6 rfl (E1 (Mc := [(b7, blk [vS] 96)]) (R := _) (aS rfl (aS rfl (a0))) kR qP (A33 b7 _ [112, 114, 101, 107, 101, 121] [] _ _ Wtr.new (B8o At.mem qR qD qD) qD) rfl ?_)
 rintro v11 M11 J11 ⟨rfl, hW11⟩
 refine mv_ ?_
 refine A4 (Q3 (k' := .u64) n rfl kR (B8n qO)) rfl ?_
 refine A6 rfl (E1 (Mc := M11) (R := _) (aS rfl (aS rfl (aS rfl (a0)))) kR qP (A67 b7 n 4 _ _ _ hW11 qO qD (by simp [A32])) rfl ?_)
 rintro v14 M14 J14 ⟨rfl, hW14⟩
 refine mv_ ?_
 refine A6 rfl (E1 (Mc := M14) (R := _) (aS rfl (aS rfl (a0))) kR qP (A33 b7 v w _ _ _ hW14 (hv.mono qS) (by simp [A32])) rfl ?_)
 rintro v16 M16 J16 ⟨rfl, hW16⟩
 refine A6 rfl (E1 (Mc := M16) (R := _) (aS rfl (a0)) kR qP (A9Z b7 _ _ _ hW16 (by simp [A32]; omega)) rfl ?_)
 rintro v17 M17 J17 ⟨hW17, hb17⟩
 haveI := hb17.cel
 refine as_ (A0 (D8 4) (C3 ?_))
 exact ⟨_, [], [], K2 rfl rfl, qZ, rfl, by simpa [A0U, List.append_assoc] using hb17.mono qS⟩

theorem B2p {P : Program} {f : FuncId} {args : List Value} {A A' : Mem} {v : Value} (h : FnV P f args A v) (hs : ∀ x, x ∈ A → x ∈ A') : FnV P f args A' v := by
  intro w hw
  refine Calls.mono (h w ⟨hw.os, hw.tape, hw.output, hw.size, hw.frame, fun b o hb => hw.mem b o (by simpa using hs _ (by simpa using hb)), hw.nodup, hw.own, hw.sepJ, fun b o hb => hw.sepA b o (hs _ hb), hw.old⟩) ?_
  rintro e w' ⟨r, M', J', rfl, ⟨rfl, rfl, rfl⟩, h2⟩
  refine ⟨_, [], [], rfl, ⟨rfl, rfl, rfl⟩, ⟨h2.os, h2.tape, h2.output, h2.size, h2.frame, fun b o hb => ?_, h2.nodup, h2.own, h2.sepJ, fun b o hb => hw.sepA b o hb, h2.old⟩⟩
  have hb' : (b, o) ∈ A' := by simpa using hb
  have h3 := h2.frame b (hw.sepA b o hb').2 qM
  rw [h3]
  exact hw.mem b o (by simpa using hb')
structure Pr where
  n : Nat
  sec : LN
  sig : LN
structure Nm where
  n : Nat
  id : LN
def prR (R : Mem) (x : Pr) (r : List Value) : Prop := ∃ vs vg, r = [(vU x.n), vs, vg] ∧ By R vs x.sec ∧ By R vg x.sig ∧ x.n < 4294967296
theorem prT : RowT 3 prR := ⟨fun R R' x r hR ⟨vo, vk, h1, h2, h3, h4⟩ => ⟨vo, vk, h1, h2.mono hR, h3.mono hR, h4⟩, fun R x r ⟨vo, vk, h1, _⟩ => by rw [h1]; rfl, fun R x r ⟨vo, vk, h1, h2, h3, _⟩ c hc => by
  rw [h1] at hc
  simp only [List.mem_cons, List.not_mem_nil, or_false] at hc
  rcases hc with rfl | rfl | rfl
  · rfl
  · exact h2.one
  · exact h3.one⟩
def nmR (R : Mem) (x : Nm) (r : List Value) : Prop := ∃ vi, r = [(vU x.n), vi] ∧ By R vi x.id ∧ x.n < 4294967296
theorem nmT : RowT 2 nmR := ⟨fun R R' x r hR ⟨vi, h1, h2, h4⟩ => ⟨vi, h1, h2.mono hR, h4⟩, fun R x r ⟨vi, h1, _⟩ => by rw [h1]; rfl, fun R x r ⟨vi, h1, h2, _⟩ c hc => by
  rw [h1] at hc
  simp only [List.mem_cons, List.not_mem_nil, or_false] at hc
  rcases hc with rfl | rfl
  · rfl
  · exact h2.one⟩
theorem eq32 (a b : Nat) : K4 .eql .u32 ((a : Nat) : Int) ((b : Nat) : Int) = some (.bool (decide (a = b))) := by
  by_cases h : a = b
  · rw [decide_eq_true h]; exact eqT qO
  · rw [decide_eq_false h]; exact eqF qO
theorem A4M (v : Value) (rows : List (List Value)) (f : FuncId) (cs : List Value) (p : Nat → Bool) (A : Mem) (hv : Rd A 3 v rows.length rows.flatten) (hl : ∀ r ∈ rows, r.length = 3) (hn : rows.length ≤ 1099511627776) (hc_ : K5 Tryz.prog f = true) (hf : ∀ (j : Nat) (r : List Value), rows[j]? = some r → FnV Tryz.prog f (.agg r.toArray :: cs) A (.bool (p j))) : FnV Tryz.prog 79 [v, .func (.func f) #[] cs.toArray] A (.int .i64 (A7j p rows.length)) := by
 haveI := hv.cel
 refine FnX.enter (N := 19) Tryz.func79 rfl rfl rfl fun w => ?_
 refine C4 (D5 0 1) (A3 (as_ (A0 (D5 0 1) (A5 (A3 (mv_ ?_))))))
 refine A4 (K1 (sz := 3) rfl kR hv) rfl ?_
 refine mv_ (A0 (E7 0 1 7 8) (C0 ?_))
 refine F2 (α := Nat) (fun i => [(0, v), (1, .func (.func f) #[] cs.toArray), (7, (vI rows.length)), (8, .int .i64 (i : Int))]) (fun _ => []) (fun _ => []) (fun i => i ≤ rows.length ∧ ∀ j, j < i → p j = false) (fun i => rows.length - i) 0 ⟨Nat.zero_le _, fun j h => absurd h (Nat.not_lt_zero j)⟩ (E7 0 1 7 8) .rfl qI ?_
 rintro i ⟨hi, hp⟩
 refine A3 ?_
 refine A4 (F1 rfl rfl rfl) rfl ?_
 refine A0 (F5 0 1 7 8 9) (A5 ?_)
 refine C7 rfl ?_ ?_ <;> intro hc
 ·
  have hlt : i < rows.length := by simp at hc; omega
  obtain ⟨r, hr⟩ : ∃ r, rows[i]? = some r := ⟨_, List.getElem?_eq_getElem hlt⟩
  refine A9 (nx (E7 0 1 7 8) (A5 (C0 (A3 (mv_ (as_ (A0 (F5 0 1 5 7 8) (A3 ?_))))))))
  refine mv_ (mv_ (mv_ ?_))
  refine A4 (K0 (sz := 3) rfl rfl kR rfl hv hlt) rfl ?_
  refine A4 (A0Q rfl kR (hv.mono qS) hl qD hr) rfl ?_
  refine A6 rfl (A2d rfl (aS rfl a0) hc_ (hf i r hr) rfl ?_)
  refine A0 (I1 0 1 5 7 8 16) ?_
  refine C7 rfl ?_ ?_ <;> intro hc
  ·
   refine A3 (mv_ (as_ (A0 (D8 4) (C3 (br (tr (rr (br ?_))))))))
   refine tr ?_
   exact ⟨_, [], [], K2 rfl rfl, List.nil_sublist _, by simp, by rw [A2e hlt hp hc], rfl, rfl⟩
  ·
   refine A9 (nb (nx (E7 0 1 7 8) (C2 ?_)))
   refine A4 (N8 (b := 1) rfl rfl rfl rfl qO) rfl ?_
   refine mv_ (D0 ?_)
   exact rn (i + 1) ⟨hlt, fun j hj => by rcases Nat.lt_succ_iff_lt_or_eq.1 hj with h | h; exact hp j h; rw [h]; exact hc⟩ qO (E7 0 1 7 8) .rfl qI
 ·
  have hge : i = rows.length := by simp at hc; omega
  subst hge
  refine E6 (te (re (be rfl (nx kn (A3 (as_ (A0 (D8 4) ?_)))))))
  refine C3 ?_
  exact ⟨_, [], [], K2 rfl rfl, List.nil_sublist _, by simp, by rw [A2f hp], rfl, rfl⟩
theorem A90 (v : Value) (rows : List (List Value)) (f : FuncId) (cs : List Value) (p : Nat → Bool) (A : Mem) (hv : Rd A 2 v rows.length rows.flatten) (hl : ∀ r ∈ rows, r.length = 2) (hn : rows.length ≤ 1099511627776) (hc_ : K5 Tryz.prog f = true) (hf : ∀ (j : Nat) (r : List Value), rows[j]? = some r → FnV Tryz.prog f (.agg r.toArray :: cs) A (.bool (p j))) : FnV Tryz.prog 83 [v, .func (.func f) #[] cs.toArray] A (.int .i64 (A7j p rows.length)) := by
 haveI := hv.cel
 refine FnX.enter (N := 19) Tryz.func83 rfl rfl rfl fun w => ?_
 refine C4 (D5 0 1) (A3 (as_ (A0 (D5 0 1) (A5 (A3 (mv_ ?_))))))
 refine A4 (K1 (sz := 2) rfl kR hv) rfl ?_
 refine mv_ (A0 (E7 0 1 7 8) (C0 ?_))
 refine F2 (α := Nat) (fun i => [(0, v), (1, .func (.func f) #[] cs.toArray), (7, (vI rows.length)), (8, .int .i64 (i : Int))]) (fun _ => []) (fun _ => []) (fun i => i ≤ rows.length ∧ ∀ j, j < i → p j = false) (fun i => rows.length - i) 0 ⟨Nat.zero_le _, fun j h => absurd h (Nat.not_lt_zero j)⟩ (E7 0 1 7 8) .rfl qI ?_
 rintro i ⟨hi, hp⟩
 refine A3 ?_
 refine A4 (F1 rfl rfl rfl) rfl ?_
 refine A0 (F5 0 1 7 8 9) (A5 ?_)
 refine C7 rfl ?_ ?_ <;> intro hc
 ·
  have hlt : i < rows.length := by simp at hc; omega
  obtain ⟨r, hr⟩ : ∃ r, rows[i]? = some r := ⟨_, List.getElem?_eq_getElem hlt⟩
  refine A9 (nx (E7 0 1 7 8) (A5 (C0 (A3 (mv_ (as_ (A0 (F5 0 1 5 7 8) (A3 ?_))))))))
  refine mv_ (mv_ (mv_ ?_))
  refine A4 (K0 (sz := 2) rfl rfl kR rfl hv hlt) rfl ?_
  refine A4 (A0Q rfl kR (hv.mono qS) hl qD hr) rfl ?_
  refine A6 rfl (A2d rfl (aS rfl a0) hc_ (hf i r hr) rfl ?_)
  refine A0 (I1 0 1 5 7 8 16) ?_
  refine C7 rfl ?_ ?_ <;> intro hc
  ·
   refine A3 (mv_ (as_ (A0 (D8 4) (C3 (br (tr (rr (br ?_))))))))
   refine tr ?_
   exact ⟨_, [], [], K2 rfl rfl, List.nil_sublist _, by simp, by rw [A2e hlt hp hc], rfl, rfl⟩
  ·
   refine A9 (nb (nx (E7 0 1 7 8) (C2 ?_)))
   refine A4 (N8 (b := 1) rfl rfl rfl rfl qO) rfl ?_
   refine mv_ (D0 ?_)
   exact rn (i + 1) ⟨hlt, fun j hj => by rcases Nat.lt_succ_iff_lt_or_eq.1 hj with h | h; exact hp j h; rw [h]; exact hc⟩ qO (E7 0 1 7 8) .rfl qI
 ·
  have hge : i = rows.length := by simp at hc; omega
  subst hge
  refine E6 (te (re (be rfl (nx kn (A3 (as_ (A0 (D8 4) ?_)))))))
  refine C3 ?_
  exact ⟨_, [], [], K2 rfl rfl, List.nil_sublist _, by simp, by rw [A2f hp], rfl, rfl⟩
theorem A1L (v : Value) (w : LN) (A : Mem) (h : By A v w) : FnX Tryz.prog 40 [v] [] A fun r M J => M = [] ∧ By J r w := by
 haveI := h.cel
 have hwl := h.len
 refine FnX.enterZ (N := 8) Tryz.func40 rfl rfl rfl fun w_ => ?_
 refine C4 (D8 0) (A3 (as_ (A0 (D8 0) (A5 (A3 (mv_ ?_))))))
 refine A4 (A6n (e := 5) rfl kR (by first | assumption | exact Sl.rd (by assumption) qI | exact By.rd (by assumption))) rfl ?_
 refine A0 (D5 0 4) ?_
 refine C7 rfl ?_ ?_ <;> intro hc
 ·
  have h0 := h.rd.isNil hc
  obtain rfl : w = [] := List.eq_nil_of_length_eq_zero h0
  refine A3 (as_ (A0 (D8 2) (C3 (tr ?_))))
  exact ⟨_, [], [], K2 rfl rfl, qZ, rfl, By.nil⟩
 ·
  refine A9 (nx (D8 0) (A3 ?_))
  refine A6 rfl (C6 (e := 5) (sz := 1) (z := []) kR e0 bd0 rfl fun b5 => ?_)
  refine mv_ ?_
  refine A6 rfl (I3 (e := 5) (sz := 1) (by_ := 1) rfl rfl kR rfl (Sl.fresh (n := 0) (cs := []) (e := 5) rfl qD) (h.rd.mono qS) E8 qP (by unfold maxLen; omega) qO rfl fun v7 B7 hs7 => ?_)
  refine as_ (A0 (D8 2) (C3 ?_))
  exact ⟨_, [], B7, K2 rfl rfl, Fit.pick qP qZ, rfl, ⟨A1n (hs7.rd fun x hx => by simp [hx]) qO qM, h.lt, h.len⟩⟩
theorem B4S {k : IntKind} (c : Int) : K4 .geq k c 0 = some (.bool (decide (0 ≤ c))) := by
  by_cases h : 0 ≤ c
  · rw [decide_eq_true h]; exact geT h
  · rw [decide_eq_false h]; exact geF qO
theorem A5U (v : Value) (rows : List (List Value)) (f : FuncId) (cs : List Value) (p : Nat → Bool) (A : Mem) (hv : Rd A 3 v rows.length rows.flatten) (hl : ∀ r ∈ rows, r.length = 3) (hn : rows.length ≤ 1099511627776) (hc_ : K5 Tryz.prog f = true) (hf : ∀ (j : Nat) (r : List Value), rows[j]? = some r → FnV Tryz.prog f (.agg r.toArray :: cs) A (.bool (p j))) : FnV Tryz.prog 56 [v, .func (.func f) #[] cs.toArray] A (.bool (decide (0 ≤ A7j p rows.length))) := by
 haveI := hv.cel
 refine FnX.enter (N := 9) Tryz.func56 rfl rfl rfl fun w => ?_
 refine C4 (D5 0 1) (A3 (as_ (A0 (D5 0 1) (A3 (mv_ (mv_ ?_))))))
 refine F6 (aS rfl (aS rfl a0)) kR (A4M v rows f cs p _ (hv.mono qS) hl hn hc_ (fun j r hr => B2p (hf j r hr) qS)) rfl ?_
 refine A4 (F4 (decide (0 ≤ A7j p rows.length)) rfl rfl (B4S _)) rfl ?_
 refine as_ (A0 (D8 4) (C3 ?_))
 exact ⟨_, [], [], K2 rfl rfl, List.nil_sublist _, by simp, rfl, rfl, rfl⟩
theorem A91 (vs vg : Value) (x : Pr) (n b : Nat) (A : Mem) (hs : By A vs x.sec) (hg : By A vg x.sig) (hb : (b, blk [(vU n)] 30) ∈ A) : FnV Tryz.prog 80 [.agg #[(vU x.n), vs, vg], (vP b)] A (.bool (decide (x.n = n))) := by
 haveI := hs.cel
 haveI := hg.cel
 refine FnX.enter (N := 8) Tryz.func80 rfl rfl rfl fun w => ?_
 refine C4 (D5 0 1) (A3 ?_)
 refine A6 rfl (bx_ fun b2 => ?_)
 refine as_ (A0 (D5 1 2) (A3 ?_))
 refine A4 (qf_ 0 0) rfl ?_
 refine A4 ql_ rfl ?_
 refine A4 (I2 rfl kR (mA hb) qR) rfl ?_
 refine A4 (F4 (decide (x.n = n)) rfl rfl (eq32 _ _)) rfl ?_
 refine as_ (A0 (D8 3) (C3 ?_))
 exact ⟨_, [], [], K2 rfl rfl, List.nil_sublist _, by simp, rfl, rfl, rfl⟩
theorem A72 (vs vg vi : Value) (x : Pr) (n b : Nat) (A : Mem) (hs : By A vs x.sec) (hg : By A vg x.sig) (hvi : Cel vi [vi]) (hb : (b, blk [(vU n), vi] 106) ∈ A) : FnV Tryz.prog 57 [.agg #[(vU x.n), vs, vg], (vP b)] A (.bool (decide (x.n = n))) := by
 haveI := hs.cel
 haveI := hg.cel
 refine FnX.enter (N := 9) Tryz.func57 rfl rfl rfl fun w => ?_
 refine C4 (D5 0 1) (A3 ?_)
 refine A6 rfl (bx_ fun b2 => ?_)
 refine as_ (A0 (D5 1 2) (A3 ?_))
 refine A4 (qf_ 0 0) rfl ?_
 refine A4 ql_ rfl ?_
 refine A4 (qf_ 0 0) rfl ?_
 refine A4 (I2 rfl kR (mA hb) qR) rfl ?_
 refine A4 (F4 (decide (x.n = n)) rfl rfl (eq32 _ _)) rfl ?_
 refine as_ (A0 (D8 3) (C3 ?_))
 exact ⟨_, [], [], K2 rfl rfl, List.nil_sublist _, by simp, rfl, rfl, rfl⟩

structure Ks where
  user : Int
  dev : Int
  agree : LN
  sign : LN
  signed : List Pr
  once : List Pr
  next : Nat
  met : List Nm
def A2k (n : Nat) (x : Pr) : Bool := decide (x.n = n)
def tstN (n : Nat) (w : LN) (x : Nm) : Bool := decide (x.n = n) && decide (x.id = w)
def A2W (l : List Pr) (n : Nat) : Option (LN) := if A1H (A2k n) l < 0 then none else (l[(A1H (A2k n) l).toNat]?).map (·.sec)
theorem A5V {l : List Pr} {n : Nat} (h : A1H (A2k n) l = -1) : A2W l n = none := if_pos (by rw [h]; decide)
theorem A1l {l : List Pr} {n i : Nat} {x : Pr} (h : A1H (A2k n) l = (i : Int)) (hx : l[i]? = some x) : A2W l n = some x.sec := by
  unfold A2W; rw [h, if_neg qO, Int.toNat_natCast, hx]; rfl
def kyC (k : Ks) (va vg vs vo vm : Value) : List Value := [.int .i64 k.user, .int .i64 k.dev, va, vg, vs, vo, (vU k.next), vm]
structure KyR (R : Mem) (kb : Nat) (k : Ks) (va vg vs vo vm : Value) (rs ro rm : List (List Value)) : Prop where
  blk_ : (kb, blk [.int .i64 k.user, .int .i64 k.dev, va, vg, vs, vo, (vU k.next), vm] 59) ∈ R
  agree : By R va k.agree
  sign : By R vg k.sign
  signed : Rd R 3 vs k.signed.length rs.flatten
  signedR : RwL prR R rs k.signed
  once : Rd R 3 vo k.once.length ro.flatten
  onceR : RwL prR R ro k.once
  met : Rd R 2 vm k.met.length rm.flatten
  metR : RwL nmR R rm k.met
  next : k.next < 4294967296
  l1 : k.signed.length ≤ 1000000
  l2 : k.once.length ≤ 1000000
  l3 : k.met.length ≤ 1000000
theorem KyR.mono {R R' : Mem} {kb : Nat} {k : Ks} {va vg vs vo vm : Value} {rs ro rm : List (List Value)} (h : KyR R kb k va vg vs vo vm rs ro rm) (hR : ∀ x, x ∈ R → x ∈ R') : KyR R' kb k va vg vs vo vm rs ro rm :=
  ⟨hR _ h.blk_, h.agree.mono hR, h.sign.mono hR, h.signed.mono hR, h.signedR.mono prT hR, h.once.mono hR, h.onceR.mono prT hR, h.met.mono hR, h.metR.mono nmT hR, h.next, h.l1, h.l2, h.l3⟩
theorem B2q {l : List Pr} {rows : List (List Value)} {n b : Nat} {A : Mem} (hR : RwL prR A rows l) (hb : (b, blk [(vU n)] 30) ∈ A) :
    ∀ (j : Nat) (r : List Value), rows[j]? = some r → FnV Tryz.prog 80 (.agg r.toArray :: [(vP b)]) A (.bool ((fun j => (l[j]?.map (A2k n)).getD false) j)) := fun j r hr => by
  obtain ⟨x, hx, vs, vg, rfl, hs, hg, _⟩ := hR.of hr
  dsimp only
  rw [hx]
  exact A91 vs vg x n b _ hs hg hb
theorem C0s (v : Value) (rows : List (List Value)) (l : List Pr) (n : Nat) (A : Mem) (hv : Rd A 3 v l.length rows.flatten) (hR : RwL prR A rows l) (hl : l.length ≤ 1000000) : FnX Tryz.prog 49 [v, (vU n)] [] A fun r M J => M = [] ∧ ∃ q, r = .tuple #[q, .bool (A2W l n).isSome] ∧ By J q ((A2W l n).getD []) := by
 haveI := hv.cel
 refine FnX.enterZ (N := 18) Tryz.func49 rfl rfl rfl fun w_ => ?_
 refine C4 (D5 0 1) (A3 ?_)
 refine A6 rfl (bx_ fun b3 => ?_)
 refine as_ (as_ (A0 (D5 0 3) (A3 (mv_ ?_))))
 refine A4 (A5z (aS rfl a0)) rfl ?_
 refine F6 (aS rfl (aS rfl a0)) kR (A4M v rows 80 [(vP b3)] (fun j => (l[j]?.map (A2k n)).getD false) _ (by rw [hR.len]; exact hv.mono qS) (hR.lens prT) (by rw [hR.len]; omega) kR (B2q (hR.mono prT qS) At.mem)) rfl ?_
 rw [hR.len, show A7j (fun j => (l[j]?.map (A2k n)).getD false) l.length = A1H (A2k n) l from rfl]
 refine as_ (A0 (D5 0 6) (A5 (A3 (mv_ ?_))))
 refine A4 (F1 rfl rfl rfl) rfl ?_
 refine A0 (E2 0 6 11) ?_
 refine C7 rfl ?_ ?_ <;> intro hc
 ·
  have hf : A1H (A2k n) l = -1 := by
   obtain ⟨hf, hz⟩ | ⟨i, x, hf, hxi, hq, hmin⟩ := A0I (A2k n) l
   · exact hf
   · rw [hf] at hc; (simp at hc) <;> omega
  refine A3 (as_ (as_ (A0 (D5 4 5) (C3 (tr ?_)))))
  exact ⟨_, [], [], A7m rfl rfl rfl, qZ, rfl, _, by rw [A5V hf]; rfl, by rw [A5V hf]; exact By.nil⟩
 ·
  obtain ⟨hf, hz⟩ | ⟨i, x, hf, hxi, hq, hmin⟩ := A0I (A2k n) l
  · rw [hf] at hc; simp at hc
  have hil := (List.getElem?_eq_some_iff.1 hxi).1
  rw [hf]
  obtain ⟨r, hr, vs, vg, rfl, hs, hg, hxn⟩ := hR.get i x hxi
  haveI := hs.cel
  refine A9 (nx (D5 0 6) (A3 (mv_ (mv_ ?_))))
  refine A4 (K0 (sz := 3) rfl rfl kR rfl hv hil) rfl ?_
  refine A4 (B5I (off := 1) rfl hv hil kR) rfl ?_
  refine A4 (B5J (u := vs) rfl (hv.mono qS) qO kR (by rw [A2Y (hR.lens prT) hr 1 qD]; rfl)) rfl ?_
  refine C9 (aS rfl a0) kR (A1L vs x.sec _ (hs.mono qS)) rfl ?_
  rintro v17 M17 J17 ⟨rfl, h17⟩
  haveI := h17.cel
  refine as_ (as_ (A0 (D5 4 5) (C3 ?_)))
  exact ⟨_, [], [], A7m rfl rfl rfl, qZ, rfl, _, by rw [A1l hf hxi]; rfl, by rw [A1l hf hxi]; exact h17.mono qS⟩
theorem B4T (kb : Nat) (k : Ks) (va vg vs vo vm : Value) (rs ro rm : List (List Value)) (n : Nat) (A : Mem) (hK : KyR A kb k va vg vs vo vm rs ro rm) : FnX Tryz.prog 28 [(vP kb), (vU n)] [] A fun r M J => M = [] ∧ ∃ q, r = .tuple #[q, .bool (A2W k.signed n).isSome] ∧ By J q ((A2W k.signed n).getD []) := by
 have hkb := hK.blk_
 haveI := hK.agree.cel
 haveI := hK.sign.cel
 haveI := hK.signed.cel
 haveI := hK.once.cel
 haveI := hK.met.cel
 refine FnX.enterZ (N := 16) Tryz.func28 rfl rfl rfl fun w_ => ?_
 refine C4 (D5 0 1) (A3 (as_ (as_ (A0 (D5 0 1) (A5 (A3 (mv_ ?_)))))))
 refine A4 (F0 (e := 59) rfl rfl kR) rfl ?_
 refine A0 (E2 0 1 7) ?_
 refine D3 rfl ?_
 refine A9 (nx (D5 0 1) (A3 (mv_ ?_)))
 refine A4 (F9 rfl) rfl ?_
 refine A4 (qf_ 4 4) rfl ?_
 refine A4 (I2 rfl kR (mA hkb) qR) rfl ?_
 refine mv_ ?_
 refine C9 (aS rfl (aS rfl a0)) kR (C0s vs rs k.signed n _ (hK.signed.mono qS) (hK.signedR.mono prT qS) hK.l1) rfl ?_
 rintro r13 M13 J13 ⟨rfl, q, rfl, hq⟩
 haveI := hq.cel
 refine A4 (A4e rfl) rfl ?_
 refine A4 (A38 rfl) rfl ?_
 refine as_ (as_ (A0 (D5 4 5) (C3 ?_)))
 exact ⟨_, [], [], A7m rfl rfl rfl, qZ, rfl, _, rfl, hq.mono qS⟩
theorem A9e (kb : Nat) (k : Ks) (va vg vs vo vm : Value) (rs ro rm : List (List Value)) (A : Mem) (hK : KyR A kb k va vg vs vo vm rs ro rm) : FnX Tryz.prog 24 [(vP kb)] [] A fun r M J => M = [] ∧ By J r k.agree := by
 have hkb := hK.blk_
 haveI := hK.agree.cel
 haveI := hK.sign.cel
 haveI := hK.signed.cel
 haveI := hK.once.cel
 haveI := hK.met.cel
 refine FnX.enterZ (N := 10) Tryz.func24 rfl rfl rfl fun w_ => ?_
 refine C4 (D8 0) (A3 (as_ (A0 (D8 0) (A5 (A3 (mv_ ?_))))))
 refine A4 (F0 (e := 59) rfl rfl kR) rfl ?_
 refine A0 (D5 0 4) ?_
 refine D3 rfl ?_
 refine A9 (nx (D8 0) (A3 (mv_ ?_)))
 refine A4 (F9 rfl) rfl ?_
 refine A4 (qf_ 2 2) rfl ?_
 refine A4 (I2 rfl kR (mA hkb) qR) rfl ?_
 refine C9 (aS rfl a0) kR (A1L va k.agree _ (hK.agree.mono qS)) rfl ?_
 rintro r9 M9 J9 ⟨rfl, h9⟩
 haveI := h9.cel
 refine as_ (A0 (D8 2) (C3 ?_))
 exact ⟨_, [], [], K2 rfl rfl, qZ, rfl, h9.mono qS⟩

end Go.Proofs.YtoigcbkclcbmpaaGreatDoor
