/- Part 16 of the texts of this claim, one behind the other. -/
import Derived.Test.YthbhpfefdnffaaaGreatDoorB15
import Derived.Test.YthbhpfefdnffaaaGreatDoorRows
set_option linter.unusedVariables false
set_option linter.unusedSimpArgs false
set_option maxRecDepth 100000
namespace Go.Proofs.YthbhpfefdnffaaaGreatDoor
open Go.Px
theorem B9L {k : IntKind} (a b : Nat) : K1 .eql k ((a : Nat) : Int) ((b : Nat) : Int) = some (.bool (decide (a = b))) := by
  by_cases h : a = b
  · rw [decide_eq_true h]; exact eqT (by omega)
  · rw [decide_eq_false h]; exact eqF (by omega)
theorem A8H {l : List Int} (h : 0 < l.length) : (A1h l)[0]? = some (.int .i64 (l.getD 0 0)) := by
  rw [List.getD_eq_getElem?_getD, A1h, List.getElem?_map, List.getElem?_eq_getElem h]; rfl
theorem B3R {ts : List Tm} {p m g : List Nat} (h : ¬ g.length = 64) : B1v ts p m g = false := by
  unfold B1v; rw [decide_eq_false h, Bool.false_and]
theorem B7o {ts : List Tm} {p m g : List Nat} (h : plc g ts.length = none) : B1v ts p m g = false := by
  unfold B1v; rw [h]; simp
theorem B7p {ts : List Tm} {p m g : List Nat} (h : plc p ts.length = none) : B1v ts p m g = false := by
  unfold B1v; rw [h]; split <;> simp_all
theorem B3S {ts : List Tm} {p m g : List Nat} {t u : Tm} {i k : Nat} (h64 : g.length = 64) (hi : plc g ts.length = some i) (hk : plc p ts.length = some k) (ht : ts[i]? = some t) (hu : ts[k]? = some u) :
    B1v ts p m g = (decide (p.length = 32) && (decide (t.kind = 7) && (decide (t.text = m) && (decide (u.kind = 3) && (u.of.getD 0 0 == t.of.getD 0 0))))) := by
  unfold B1v
  rw [hi, hk, decide_eq_true h64]
  simp only [ht, hu, Bool.true_and, Bool.and_assoc]
  congr 4
theorem B5t {s : Ps} (h : s.real = true) (p m g : List Nat) : B2l s p m g = A7r p m g := by unfold B2l; rw [if_pos h]
theorem A2w {s : Ps} (h : s.real = false) (p m g : List Nat) : B2l s p m g = B1v s.ts p m g := by unfold B2l; rw [if_neg (by rw [h]; decide)]
theorem B3T {s : Ps} {p m g : List Nat} (h : ¬ g.length = 64) : B2l s p m g = false := by
  cases hr : s.real with
  | true => rw [B5t hr]; exact B1o h
  | false => rw [A2w hr]; exact B3R h
theorem neN8 {k : IntKind} (a b : Nat) : K1 .neq k ((a : Nat) : Int) ((b : Nat) : Int) = some (.bool (!decide (a = b))) := by
  by_cases h : a = b
  · rw [decide_eq_true h]; exact neF (by omega)
  · rw [decide_eq_false h]; exact neT (by omega)
theorem B3U (pb : Nat) (s : Ps) (v1 v2 v3 : Value) (wp wm wg : List Nat) (MP A : Mem) (hP : Prm pb s MP) (hsub : ∀ x, x ∈ MP → x ∈ A) (har : Ar s.ts) (hn : s.ts.length ≤ 1048576) (hp : By A v1 wp) (hm : By A v2 wm) (hg : By A v3 wg) (hG : Glb A) : FnV Tryz.prog 63 [.pointer (some ⟨pb, 0, none⟩), v1, v2, v3] A (.bool (B2l s wp wm wg)) := by
 obtain ⟨sv, bt, bm, B, MT, rfl, hby, hT⟩ := hP.ex
 have hpb := hsub _ List.mem_cons_self
 have hMT : ∀ x, x ∈ MT → x ∈ A := fun x hx => hsub x (by simp [hx])
 haveI := hp.cel
 haveI := hm.cel
 haveI := hg.cel
 haveI := hby.cel
 have hpl := hp.len
 have hml := hm.len
 have hgl := hg.len
 refine FnX.enter (N := 106) Tryz.func63 rfl rfl rfl fun w_ => ?_
 refine C4 (E7 0 1 2 3) (A3 (as_ (A0 (E7 0 1 2 3) (A5 (A3 (mv_ ?_))))))
 refine A4 (F0 (e := 117) rfl rfl kR) rfl ?_
 refine mv_ ?_
 refine F4 rfl rfl (OpQ.opL qm_ rfl ?_)
 refine F4 rfl rfl (OpQ.opL (I3 (sz := 1) rfl kR (by first | assumption | exact Sl.rd (by assumption) (fun _ h => h) | exact By.rd (by assumption))) rfl ?_)
 refine F4 rfl rfl (OpQ.opL (F9 (!decide (wg.length = 64)) rfl rfl (neN8 _ 64)) rfl ?_)
 refine A4 (E9 rfl rfl) rfl ?_
 refine A0 (F7 0 1 2 3 23) ?_
 refine C8 rfl (fun hc => ?_) (fun hc => ?_)
 ·
  have h64 : ¬ wg.length = 64 := by simpa using hc
  refine A3 (as_ (A0 (D8 8) (C2 (tr ?_))))
  exact ⟨_, [], [], I4 rfl rfl, List.nil_sublist _, by simp, by rw [B3T h64], rfl, rfl⟩
 ·
  have h64 : wg.length = 64 := by simpa using hc
  refine A9 (nx (E7 0 1 2 3) (A5 (A3 (mv_ ?_))))
  refine A4 (F5 rfl) rfl ?_
  refine A4 (qf_ 0 0) rfl ?_
  refine A4 (I2 rfl kR (mA hpb) (by rfl)) rfl ?_
  refine A4 (F1 rfl rfl rfl) rfl ?_
  refine A0 (F7 0 1 2 3 28) ?_
  refine C8 rfl (fun hc => ?_) (fun hc => ?_)
  ·
   have hr : s.real = true := by cases hq : s.real with | true => rfl | false => rw [hq] at hc; exact absurd hc (by decide)
   refine A3 (mv_ (mv_ (mv_ ?_)))
   refine F8 (aS rfl (aS rfl (aS rfl a0))) kR (B7e v1 v2 v3 wp wm wg _ (hp.mono SubC.sub) (hm.mono SubC.sub) (hg.mono SubC.sub) hG.s.up) rfl ?_
   refine as_ (A0 (D8 8) (C2 (tr ?_)))
   exact ⟨_, [], [], I4 rfl rfl, List.nil_sublist _, by simp, by rw [B5t hr], rfl, rfl⟩
  ·
   have hr : s.real = false := by cases hq : s.real with | false => rfl | true => rw [hq] at hc; exact absurd hc (by decide)
   refine A9 (nx (E7 0 1 2 3) (A3 (mv_ ?_)))
   refine A4 (F5 rfl) rfl ?_
   refine A4 (qf_ 3 3) rfl ?_
   refine A4 (I2 rfl kR (mA hpb) (by rfl)) rfl ?_
   refine mv_ ?_
   refine F8 (aS rfl (aS rfl a0)) kR (A2e bt bm s.ts v3 wg MT _ hT (fun x hx => SubC.sub _ (hMT x hx)) hn (hg.rd.mono SubC.sub) hg.lt hg.max) rfl ?_
   refine mv_ ?_
   refine A4 (A2O rfl) rfl ?_
   refine A4 (A2z rfl) rfl ?_
   refine as_ (as_ (A0 (F7 0 1 2 9 10) (A3 (mv_ ?_))))
   refine A4 (F5 rfl) rfl ?_
   refine A4 (qf_ 3 3) rfl ?_
   refine A4 (I2 rfl kR (mA hpb) (by rfl)) rfl ?_
   refine mv_ ?_
   refine C9 (aS rfl (aS rfl a0)) kR (A3n bt bm s.ts _ MT _ hT (fun x hx => SubC.sub _ (hMT x hx))) rfl ?_
   rintro v48 M48 J48 ⟨rfl, rfl, c48, ok48, rfl, hg1a, hg2a⟩
   obtain ⟨voa, ta, rfl, hvoa, hza, htka, hoka, hnoa⟩ := A3p hT.tok.tmo hg1a hg2a
   haveI := hvoa.cel
   refine mv_ ?_
   refine A4 (A2O rfl) rfl ?_
   refine A4 (A2z rfl) rfl ?_
   refine A6 rfl (C5 (cs := [.int .u8 0, .slice none 0 0, .string ByteArray.empty, .int .i64 0]) kR rfl fun b11 => ?_)
   refine A6 rfl (A8 (vs := tmc ta.kind voa ta.text ta.n) rfl rfl rfl kR (by rfl) (by intro c hc; simp only [tmc, List.mem_cons, List.not_mem_nil, or_false] at hc; rcases hc with rfl | rfl | rfl | rfl <;> first | rfl | exact hvoa.one) UpC.upd ?_)
   dsimp only [tmc]
   refine as_ (A0 (F7 0 1 2 10 11) (A3 (mv_ ?_)))
   refine A4 (F5 rfl) rfl ?_
   refine A4 (qf_ 3 3) rfl ?_
   refine A4 (I2 rfl kR (mA hpb) (by rfl)) rfl ?_
   refine mv_ ?_
   refine F8 (aS rfl (aS rfl a0)) kR (A2e bt bm s.ts v1 wp MT _ hT (fun x hx => SubC.sub _ (hMT x hx)) hn (hp.rd.mono SubC.sub) hp.lt hp.max) rfl ?_
   refine mv_ ?_
   refine A4 (A2O rfl) rfl ?_
   refine A4 (A2z rfl) rfl ?_
   refine as_ (as_ (A0 (X3 0 1 2 10 11 13 14) (A3 (mv_ ?_))))
   refine A4 (F5 rfl) rfl ?_
   refine A4 (qf_ 3 3) rfl ?_
   refine A4 (I2 rfl kR (mA hpb) (by rfl)) rfl ?_
   refine mv_ ?_
   refine C9 (aS rfl (aS rfl a0)) kR (A3n bt bm s.ts _ MT _ hT (fun x hx => SubC.sub _ (hMT x hx))) rfl ?_
   rintro v66 M66 J66 ⟨rfl, rfl, c66, ok66, rfl, hg1b, hg2b⟩
   obtain ⟨vob, tb, rfl, hvob, hzb, htkb, hokb, hnob⟩ := A3p hT.tok.tmo hg1b hg2b
   haveI := hvob.cel
   refine mv_ ?_
   refine A4 (A2O rfl) rfl ?_
   refine A4 (A2z rfl) rfl ?_
   refine A6 rfl (C5 (cs := [.int .u8 0, .slice none 0 0, .string ByteArray.empty, .int .i64 0]) kR rfl fun b15 => ?_)
   refine A6 rfl (A8 (vs := tmc tb.kind vob tb.text tb.n) rfl rfl rfl kR (by rfl) (by intro c hc; simp only [tmc, List.mem_cons, List.not_mem_nil, or_false] at hc; rcases hc with rfl | rfl | rfl | rfl <;> first | rfl | exact hvob.one) UpC.upd ?_)
   dsimp only [tmc]
   refine as_ (A0 (I5 1 2 10 11 14 15) ?_)
   refine D2 (.range 38) (zp 0 [0, 0, 0, 0, 0, 0, 0, 0, 0, 0, 0, 1, 0, 0, 0, 0, 1, 0, 1, 0, 0, 0, 0, 1, 0, 0, 0, 0, 1, 0, 1, 0, 1, 0, 1, 0, 0, 0]) kR kR fun hs => ?_
   refine fm_ hs ?_
   refine fm_ hs ?_
   refine V9 (t := 70) rfl (fun hb => ?_) (fun hb => ?_)
   ·
    obtain ⟨i, hi⟩ := Option.isSome_iff_exists.1 hb
    refine N3 hs rfl rfl rfl rfl qm_ rfl ?_
    refine D1 hs rfl (H4 rfl rfl) rfl ?_
    refine fm_ hs ?_
    refine V9 (t := 73) rfl (fun hb => ?_) (fun hb => ?_)
    ·
     obtain ⟨k, hk⟩ := Option.isSome_iff_exists.1 hb
     have hta : s.ts[i]? = some ta := by
      have hl := (A79 hi).1
      rw [hi] at hoka hnoa
      cases ok48 with
      | true => have := (hoka rfl).2; rwa [Option.getD_some, Int.toNat_natCast] at this
      | false => exact absurd ⟨by rw [Option.getD_some]; omega, by rw [Option.getD_some]; omega⟩ (hnoa rfl)
     have htb : s.ts[k]? = some tb := by
      have hl := (A79 hk).1
      rw [hk] at hokb hnob
      cases ok66 with
      | true => have := (hokb rfl).2; rwa [Option.getD_some, Int.toNat_natCast] at this
      | false => exact absurd ⟨by rw [Option.getD_some]; omega, by rw [Option.getD_some]; omega⟩ (hnob rfl)
     have hcv := B3S (m := wm) h64 hi hk hta htb
     refine N3 hs rfl rfl rfl rfl qm_ rfl ?_
     refine N3 hs rfl rfl rfl rfl (I3 (sz := 1) rfl kR (by first | assumption | exact Sl.rd (by assumption) (fun _ h => h) | exact By.rd (by assumption))) rfl ?_
     refine N3 hs rfl rfl rfl rfl (F9 (decide (wp.length = 32)) rfl rfl (B9L _ 32)) rfl ?_
     refine D1 hs rfl (H4 rfl rfl) rfl ?_
     refine fm_ hs ?_
     refine V9 (t := 78) rfl (fun hb => ?_) (fun hb => ?_)
     ·
      rw [hb, Bool.true_and] at hcv
      refine N3 hs rfl rfl rfl rfl (qf_ 0 0) rfl ?_
      refine A0d hs rfl rfl rfl rfl ql_ rfl ?_
      refine N3 hs rfl rfl rfl rfl (F9 (decide (ta.kind = 7)) rfl rfl (B9L _ 7)) rfl ?_
      refine D1 hs rfl (H4 rfl rfl) rfl ?_
      refine fm_ hs ?_
      refine V9 (t := 83) rfl (fun hb => ?_) (fun hb => ?_)
      ·
       rw [hb, Bool.true_and] at hcv
       have ha0 : 0 < ta.of.length := har ta (List.mem_of_getElem? hta) (.inr (.inr (of_decide_eq_true hb)))
       refine N3 hs rfl rfl rfl rfl (qf_ 2 2) rfl ?_
       refine A0d hs rfl rfl rfl rfl ql_ rfl ?_
       refine N3 hs rfl rfl rfl rfl qm_ rfl ?_
       refine A0d hs rfl rfl rfl rfl (Q6 rfl kR (hm.rd.mono SubC.sub)) rfl ?_
       refine N3 hs rfl rfl rfl rfl (B8h rfl rfl rfl rfl (hT.tok.tmo ta (List.mem_of_getElem? hta)).text.lt hm.lt) rfl ?_
       refine D1 hs rfl (H4 rfl rfl) rfl ?_
       refine fm_ hs ?_
       refine V9 (t := 90) rfl (fun hb => ?_) (fun hb => ?_)
       ·
        rw [hb, Bool.true_and] at hcv
        refine N3 hs rfl rfl rfl rfl (qf_ 0 0) rfl ?_
        refine A0d hs rfl rfl rfl rfl ql_ rfl ?_
        refine N3 hs rfl rfl rfl rfl (F9 (decide (tb.kind = 3)) rfl rfl (B9L _ 3)) rfl ?_
        refine D1 hs rfl (H4 rfl rfl) rfl ?_
        refine fm_ hs ?_
        refine V9 (t := 95) rfl (fun hb => ?_) (fun hb => ?_)
        ·
         rw [hb, Bool.true_and] at hcv
         have hb0 : 0 < tb.of.length := har tb (List.mem_of_getElem? htb) (.inl (of_decide_eq_true hb))
         refine N3 hs rfl rfl rfl rfl (qf_ 1 1) rfl ?_
         refine A0d hs rfl rfl rfl rfl ql_ rfl ?_
         refine N3 hs rfl rfl rfl rfl (I7 (sz := 1) (a := 0) rfl rfl kR rfl hvob hb0) rfl ?_
         refine A0d hs rfl rfl rfl rfl (A1b (j := 0) (u := .int .i64 (tb.of.getD 0 0)) (hvob.mono SubC.sub) rfl kR (A8H hb0)) rfl ?_
         refine N3 hs rfl rfl rfl rfl (qf_ 1 1) rfl ?_
         refine A0d hs rfl rfl rfl rfl ql_ rfl ?_
         refine N3 hs rfl rfl rfl rfl (I7 (sz := 1) (a := 0) rfl rfl kR rfl hvoa ha0) rfl ?_
         refine A0d hs rfl rfl rfl rfl (A1b (j := 0) (u := .int .i64 (ta.of.getD 0 0)) (hvoa.mono SubC.sub) rfl kR (A8H ha0)) rfl ?_
         refine N3 hs rfl rfl rfl rfl (F1 rfl rfl rfl) rfl ?_
         refine D1 hs rfl (H4 rfl rfl) rfl ?_
         refine fa_ hs ?_
         refine E3 (D8 8) (C2 ?_)
         exact ⟨_, [], [], I4 rfl rfl, List.nil_sublist _, by simp, by rw [A2w hr, hcv], rfl, rfl⟩
        ·
         rw [hb, Bool.false_and] at hcv
         refine L4 hs ?_
         refine T9 hs ?_
         refine L4 hs ?_
         refine T9 hs ?_
         refine L4 hs ?_
         refine T9 hs ?_
         refine L4 hs ?_
         refine T9 hs ?_
         refine L4 hs ?_
         refine D1 hs rfl (E9 rfl rfl) rfl ?_
         refine fa_ hs ?_
         refine E3 (D8 8) (C2 ?_)
         exact ⟨_, [], [], I4 rfl rfl, List.nil_sublist _, by simp, by rw [A2w hr, hcv], rfl, rfl⟩
       ·
        rw [hb, Bool.false_and] at hcv
        refine L4 hs ?_
        refine T9 hs ?_
        refine L4 hs ?_
        refine D1 hs rfl (E9 rfl rfl) rfl ?_
        refine fm_ hs ?_
        refine L4 hs ?_
        refine T9 hs ?_
        refine L4 hs ?_
        refine T9 hs ?_
        refine L4 hs ?_
        refine T9 hs ?_
        refine L4 hs ?_
        refine T9 hs ?_
        refine L4 hs ?_
        refine D1 hs rfl (E9 rfl rfl) rfl ?_
        refine fa_ hs ?_
        refine E3 (D8 8) (C2 ?_)
        exact ⟨_, [], [], I4 rfl rfl, List.nil_sublist _, by simp, by rw [A2w hr, hcv], rfl, rfl⟩
      ·
       rw [hb, Bool.false_and] at hcv
       refine L4 hs ?_
       refine T9 hs ?_
       refine L4 hs ?_
       refine T9 hs ?_
       refine L4 hs ?_
       refine D1 hs rfl (E9 rfl rfl) rfl ?_
       refine fm_ hs ?_
       refine L4 hs ?_
       refine T9 hs ?_
       refine L4 hs ?_
       refine D1 hs rfl (E9 rfl rfl) rfl ?_
       refine fm_ hs ?_
       refine L4 hs ?_
       refine T9 hs ?_
       refine L4 hs ?_
       refine T9 hs ?_
       refine L4 hs ?_
       refine T9 hs ?_
       refine L4 hs ?_
       refine T9 hs ?_
       refine L4 hs ?_
       refine D1 hs rfl (E9 rfl rfl) rfl ?_
       refine fa_ hs ?_
       refine E3 (D8 8) (C2 ?_)
       exact ⟨_, [], [], I4 rfl rfl, List.nil_sublist _, by simp, by rw [A2w hr, hcv], rfl, rfl⟩
     ·
      rw [hb, Bool.false_and] at hcv
      refine L4 hs ?_
      refine T9 hs ?_
      refine L4 hs ?_
      refine D1 hs rfl (E9 rfl rfl) rfl ?_
      refine fm_ hs ?_
      refine L4 hs ?_
      refine T9 hs ?_
      refine L4 hs ?_
      refine T9 hs ?_
      refine L4 hs ?_
      refine D1 hs rfl (E9 rfl rfl) rfl ?_
      refine fm_ hs ?_
      refine L4 hs ?_
      refine T9 hs ?_
      refine L4 hs ?_
      refine D1 hs rfl (E9 rfl rfl) rfl ?_
      refine fm_ hs ?_
      refine L4 hs ?_
      refine T9 hs ?_
      refine L4 hs ?_
      refine T9 hs ?_
      refine L4 hs ?_
      refine T9 hs ?_
      refine L4 hs ?_
      refine T9 hs ?_
      refine L4 hs ?_
      refine D1 hs rfl (E9 rfl rfl) rfl ?_
      refine fa_ hs ?_
      refine E3 (D8 8) (C2 ?_)
      exact ⟨_, [], [], I4 rfl rfl, List.nil_sublist _, by simp, by rw [A2w hr, hcv], rfl, rfl⟩
    ·
     have hcv := B7p (g := wg) (m := wm) (Option.not_isSome_iff_eq_none.1 (by rw [hb]; decide))
     refine L4 hs ?_
     refine L4 hs ?_
     refine L4 hs ?_
     refine D1 hs rfl (E9 rfl rfl) rfl ?_
     refine fm_ hs ?_
     refine L4 hs ?_
     refine T9 hs ?_
     refine L4 hs ?_
     refine D1 hs rfl (E9 rfl rfl) rfl ?_
     refine fm_ hs ?_
     refine L4 hs ?_
     refine T9 hs ?_
     refine L4 hs ?_
     refine T9 hs ?_
     refine L4 hs ?_
     refine D1 hs rfl (E9 rfl rfl) rfl ?_
     refine fm_ hs ?_
     refine L4 hs ?_
     refine T9 hs ?_
     refine L4 hs ?_
     refine D1 hs rfl (E9 rfl rfl) rfl ?_
     refine fm_ hs ?_
     refine L4 hs ?_
     refine T9 hs ?_
     refine L4 hs ?_
     refine T9 hs ?_
     refine L4 hs ?_
     refine T9 hs ?_
     refine L4 hs ?_
     refine T9 hs ?_
     refine L4 hs ?_
     refine D1 hs rfl (E9 rfl rfl) rfl ?_
     refine fa_ hs ?_
     refine E3 (D8 8) (C2 ?_)
     exact ⟨_, [], [], I4 rfl rfl, List.nil_sublist _, by simp, by rw [A2w hr, hcv], rfl, rfl⟩
   ·
    have hcv := B7o (p := wp) (m := wm) (Option.not_isSome_iff_eq_none.1 (by rw [hb]; decide))
    refine L4 hs ?_
    refine D1 hs rfl (E9 rfl rfl) rfl ?_
    refine fm_ hs ?_
    refine L4 hs ?_
    refine L4 hs ?_
    refine L4 hs ?_
    refine D1 hs rfl (E9 rfl rfl) rfl ?_
    refine fm_ hs ?_
    refine L4 hs ?_
    refine T9 hs ?_
    refine L4 hs ?_
    refine D1 hs rfl (E9 rfl rfl) rfl ?_
    refine fm_ hs ?_
    refine L4 hs ?_
    refine T9 hs ?_
    refine L4 hs ?_
    refine T9 hs ?_
    refine L4 hs ?_
    refine D1 hs rfl (E9 rfl rfl) rfl ?_
    refine fm_ hs ?_
    refine L4 hs ?_
    refine T9 hs ?_
    refine L4 hs ?_
    refine D1 hs rfl (E9 rfl rfl) rfl ?_
    refine fm_ hs ?_
    refine L4 hs ?_
    refine T9 hs ?_
    refine L4 hs ?_
    refine T9 hs ?_
    refine L4 hs ?_
    refine T9 hs ?_
    refine L4 hs ?_
    refine T9 hs ?_
    refine L4 hs ?_
    refine D1 hs rfl (E9 rfl rfl) rfl ?_
    refine fa_ hs ?_
    refine E3 (D8 8) (C2 ?_)
    exact ⟨_, [], [], I4 rfl rfl, List.nil_sublist _, by simp, by rw [A2w hr, hcv], rfl, rfl⟩

end Go.Proofs.YthbhpfefdnffaaaGreatDoor
set_option maxRecDepth 10000
namespace Go.Ed
variable {n : Nat} [NeZero n]
theorem A4s {x y d : Fin n} (h : y*y - x*x = 1 + d*x*x*y*y) : x*x*(1 + d*(y*y)) = y*y - 1 := by grind
theorem C0E (x2 y2 x3 y3 d : Fin n) (h2 : y2*y2 - x2*x2 = 1 + d*x2*x2*y2*y2) (h3 : y3*y3 - x3*x3 = 1 + d*x3*x3*y3*y3) :
    (1 + d*(y2*y2))*(1 + d*(y3*y3))*((1 - y2*y3 - (d*x2*x3*y2*y3 + x2*x3))*(1 - y2*y3 + (d*x2*x3*y2*y3 + x2*x3))) = (y2 - y3)*(y2 - y3)*((1 + d)*(1 + d*(y2*y3)*(y2*y3))) := by
  have e2 := A4s h2
  have e3 := A4s h3
  have e : (1 + d*(y2*y2))*(1 + d*(y3*y3))*((1 - y2*y3 - (d*x2*x3*y2*y3 + x2*x3))*(1 - y2*y3 + (d*x2*x3*y2*y3 + x2*x3))) = (1 + d*(y2*y2))*(1 + d*(y3*y3))*((1 - y2*y3)*(1 - y2*y3)) - (x2*x2*(1 + d*(y2*y2)))*(x3*x3*(1 + d*(y3*y3)))*((1 + d*(y2*y3))*(1 + d*(y2*y3))) := by clear h2 h3 e2 e3; grind
  rw [e, e2, e3]
  clear h2 h3 e2 e3 e
  grind
theorem C0F (x2 y2 x3 y3 d : Fin n) (h2 : y2*y2 - x2*x2 = 1 + d*x2*x2*y2*y2) (h3 : y3*y3 - x3*x3 = 1 + d*x3*x3*y3*y3) :
    (1 + d*(y2*y2))*(1 + d*(y3*y3))*((1 + y2*y3 + (x2*x3 - d*x2*x3*y2*y3))*(1 + y2*y3 - (x2*x3 - d*x2*x3*y2*y3))) = (y2 + y3)*(y2 + y3)*((1 + d)*(1 + d*(y2*y3)*(y2*y3))) := by
  have e2 := A4s h2
  have e3 := A4s h3
  have e : (1 + d*(y2*y2))*(1 + d*(y3*y3))*((1 + y2*y3 + (x2*x3 - d*x2*x3*y2*y3))*(1 + y2*y3 - (x2*x3 - d*x2*x3*y2*y3))) = (1 + d*(y2*y2))*(1 + d*(y3*y3))*((1 + y2*y3)*(1 + y2*y3)) - (x2*x2*(1 + d*(y2*y2)))*(x3*x3*(1 + d*(y3*y3)))*((1 - d*(y2*y3))*(1 - d*(y2*y3))) := by clear h2 h3 e2 e3; grind
  rw [e, e2, e3]
  clear h2 h3 e2 e3 e
  grind
theorem pf1 {m k t S t2 : Fin n} (h : 1 - t = t2) (s : S*t2 = m + k) : 1 - m - (t + k) = (1 - S)*t2 := by grind
theorem pf2 {m k t y t1 : Fin n} (h : 1 + t = t1) (s : y*t1 = m - k) : 1 - m + (t + k) = (1 - y)*t1 := by grind
theorem pf3 {m k t S t2 : Fin n} (h : 1 - t = t2) (s : S*t2 = m + k) : 1 + m + (k - t) = (1 + S)*t2 := by grind
theorem pf4 {m k t y t1 : Fin n} (h : 1 + t = t1) (s : y*t1 = m - k) : 1 + m - (k - t) = (1 + y)*t1 := by grind
theorem pf5 {a b y z : Fin n} : (b*(1 + z) - b*(1 - z))*(a*(1 + y) + a*(1 - y)) + (b*(1 + z) + b*(1 - z))*(a*(1 + y) - a*(1 - y)) = 4*(a*b)*(y + z) := by grind
theorem pf6 {a b y z : Fin n} : (b*(1 + z) - b*(1 - z))*(a*(1 + y) + a*(1 - y)) - (b*(1 + z) + b*(1 - z))*(a*(1 + y) - a*(1 - y)) = 4*(a*b)*(z - y) := by grind
theorem pf7 {Y L M I : Fin n} (h : L = Y*M) (hi : M*I = 1) : Y = L*I := by grind
theorem pf8 {c y a2 a3 S t2 t1 v I : Fin n} (h : y*y = a2*a3*((1 + S)*t2*((1 + v)*t1))*I) : 4*c*y*(4*c*y) = 16*(c*c)*(t1*t2)*(a2*a3)*I*(1 + v)*(1 + S) := by
  have : 4*c*y*(4*c*y) = 16*(c*c)*(y*y) := by grind
  rw [this, h]; clear this h; grind
theorem pf9 {c y a2 a3 S t2 t1 v I u : Fin n} (h : y*y = a2*a3*((1 - S)*t2*((1 - v)*t1))*I) (hu : u*(1 - v) = 1 + v) : u*(4*c*y*(4*c*y)) = 16*(c*c)*(t1*t2)*(a2*a3)*I*(1 + v)*(1 - S) := by
  have e : u*(4*c*y*(4*c*y)) = u*(16*(c*c)*(y*y)) := by clear h hu; grind
  have e2 : u*(16*(c*c)*(a2*a3*((1 - S)*t2*((1 - v)*t1))*I)) = (u*(1 - v))*(16*(c*c)*(a2*a3*((1 - S)*t2*t1)*I)) := by clear h hu e; grind
  rw [e, h, e2, hu]; clear h hu e e2; grind
theorem pg1 {a y : Fin n} : (a*(1 + y) + a*(1 - y))*(a*(1 + y) + a*(1 - y)) = 4*(a*a) := by grind
theorem pg2 {a y : Fin n} : (a*(1 + y) - a*(1 - y))*(a*(1 + y) - a*(1 - y)) = 4*(a*a)*(y*y) := by grind
theorem pg3 {d k y : Fin n} (h : d*(k + 1) = -k) : (1 + d)*(1 + k*(1 - y*y)) = 1 + d*(y*y) := by grind
theorem pg4 {d w x y : Fin n} (h : (1 + d)*w = 1 + d*(y*y)) (hx : x*x*(1 + d*(y*y)) = y*y - 1) : (1 + d)*((1 + x*x)*w) = (1 + d)*(y*y) := by
  have : (1 + d)*((1 + x*x)*w) = (1 + x*x)*((1 + d)*w) := by clear h hx; grind
  rw [this, h]; clear this h; grind
theorem pg5 {d x y D S : Fin n} (he : y*y - x*x = 1 + d*x*x*y*y) (hD : 1 - d*x*x*y*y = D) (s : S*D = y*y + x*x) : D*(1 + S) = 2 + 2*(x*x) ∧ D*(1 - S) = 2 - 2*(y*y) := by
  have : D = 2 - y*y + x*x := by grind
  constructor
  · have : D*(1 + S) = D + S*D := by clear s he hD this; grind
    rw [this, s]; clear this s; grind
  · have : D*(1 - S) = D - S*D := by clear s he hD this; grind
    rw [this, s]; clear this s; grind
theorem pg6 {a w D S x y : Fin n} (g : D*(1 + S) = 2 + 2*(x*x)) (h : (1 + x*x)*w = y*y) : 4*(a*a)*(4*(a*a)*(y*y)) = 8*(a*a*(a*a))*w*D*(1 + S) := by
  have e : 8*(a*a*(a*a))*w*D*(1 + S) = 8*(a*a*(a*a))*w*(D*(1 + S)) := by clear g h; grind
  have e2 : 8*(a*a*(a*a))*w*(2 + 2*(x*x)) = 16*(a*a*(a*a))*((1 + x*x)*w) := by clear g h e; grind
  rw [e, g, e2, h]; clear g h e e2; grind
theorem pg7 {a k D S y : Fin n} (g : D*(1 - S) = 2 - 2*(y*y)) : (4*(a*a) - 4*(a*a)*(y*y))*(4*(a*a) + k*(4*(a*a) - 4*(a*a)*(y*y))) = 8*(a*a*(a*a))*(1 + k*(1 - y*y))*D*(1 - S) := by
  have e : 8*(a*a*(a*a))*(1 + k*(1 - y*y))*D*(1 - S) = 8*(a*a*(a*a))*(1 + k*(1 - y*y))*(D*(1 - S)) := by clear g; grind
  rw [e, g]; clear g e; grind
variable {d : Fin n} (F : Fld n d)
structure RepU (X Z : Fin n) (P : Fin n × Fin n) : Prop where
  ex : ∃ c, c ≠ 0 ∧ X = c * (1 + P.2) ∧ Z = c * (1 - P.2)
include F
theorem Fld.four : (4 : Fin n) ≠ 0 := fun h => F.two ((F.mul0 2 2 (by grind)).elim id id)
theorem Fld.a_ne (y : Fin n) : 1 + d*(y*y) ≠ 0 := fun h => F.dy_ne (y := y) (by grind)
theorem Fld.rep_dif {A B C D u yD : Fin n} {P Q : Fin n × Fin n} (hP : On d P) (hQ : On d Q) (h1 : RepU A B P) (h2 : RepU C D Q) (hD : yD*(1 + d*P.1*Q.1*P.2*Q.2) = P.2*Q.2 - P.1*Q.1) (hu : u*(1 - yD) = 1 + yD) (hy : 1 + yD ≠ 0) {p q da cb : Fin n} (hp : p = A + B) (hq : q = A - B) (hda : da = (C - D)*p) (hcb : cb = (C + D)*q) :
    RepU ((da + cb)*(da + cb)) (u*((da - cb)*(da - cb))) (F.add P Q) := by
  obtain ⟨a, ha, rfl, rfl⟩ := h1
  obtain ⟨b, hb, rfl, rfl⟩ := h2
  obtain ⟨k1, k2⟩ := F.complete hP hQ
  obtain ⟨-, s2⟩ := F.add_spec hP hQ
  have hL := C0E P.1 P.2 Q.1 Q.2 d hP.eq hQ.eq
  have hR := C0F P.1 P.2 Q.1 Q.2 d hP.eq hQ.eq
  have n2 := F.a_ne P.2
  have n3 := F.a_ne Q.2
  have n4 : (1 + d) ≠ 0 := by have := F.a_ne 1; rwa [show d * ((1 : Fin n) * 1) = d by grind] at this
  have n5 : 1 + d*(P.2*Q.2)*(P.2*Q.2) ≠ 0 := by have := F.a_ne (P.2*Q.2); rwa [← show d*(P.2*Q.2)*(P.2*Q.2) = d*((P.2*Q.2)*(P.2*Q.2)) by grind] at this
  have n6 := F.mul_ne n4 n5
  have hi := F.hinv _ n6
  generalize F.add P Q = S at *
  have hI : F.inv ((1 + d)*(1 + d*(P.2*Q.2)*(P.2*Q.2))) ≠ 0 := fun h => by rw [h] at hi; exact F.one (by rw [← hi]; grind)
  rw [pf1 (S := S.2) rfl s2, pf2 rfl hD] at hL
  rw [pf3 (S := S.2) rfl s2, pf4 rfl hD] at hR
  have g : (16 : Fin n) ≠ 0 := fun h => F.four ((F.mul0 4 4 (by grind)).elim id id)
  refine ⟨16*(a*b*(a*b))*((1 + d*P.1*Q.1*P.2*Q.2)*(1 - d*P.1*Q.1*P.2*Q.2))*((1 + d*(P.2*P.2))*(1 + d*(Q.2*Q.2)))*F.inv ((1 + d)*(1 + d*(P.2*Q.2)*(P.2*Q.2)))*(1 + yD), ?_, ?_, ?_⟩
  · exact F.mul_ne (F.mul_ne (F.mul_ne (F.mul_ne (F.mul_ne g (F.mul_ne (F.mul_ne ha hb) (F.mul_ne ha hb))) (F.mul_ne k1 k2)) (F.mul_ne n2 n3)) hI) hy
  · subst hp hq hda hcb
    rw [pf5]
    exact pf8 (pf7 hR hi)
  · subst hp hq hda hcb
    rw [pf6]
    have e : (Q.2 - P.2)*(Q.2 - P.2) = (P.2 - Q.2)*(P.2 - Q.2) := by clear hL hR hi s2 hD hu; grind
    exact pf9 (e.trans (pf7 hL hi)) hu
theorem Fld.rep_dbl {A B k : Fin n} {P : Fin n × Fin n} (hP : On d P) (h1 : RepU A B P) (hk : d*(k + 1) = -k) {ss tt : Fin n} (hs : ss = (A + B)*(A + B)) (ht : tt = (A - B)*(A - B)) :
    RepU (ss*tt) ((ss - tt)*(ss + k*(ss - tt))) (F.add P P) := by
  obtain ⟨a, ha, rfl, rfl⟩ := h1
  obtain ⟨k1, k2⟩ := F.complete hP hP
  obtain ⟨-, s2⟩ := F.add_spec hP hP
  have n2 := F.a_ne P.2
  have n4 : (1 + d) ≠ 0 := by have := F.a_ne 1; rwa [show d * ((1 : Fin n) * 1) = d by grind] at this
  have hk1 := pg3 (y := P.2) hk
  have hw : 1 + k*(1 - P.2*P.2) ≠ 0 := fun h => by rw [h] at hk1; exact n2 (by rw [← hk1]; grind)
  have hx1 := F.cancel n4 (pg4 hk1 (A4s hP.eq))
  obtain ⟨g1, g2⟩ := pg5 hP.eq rfl s2
  rw [pg1] at hs
  rw [pg2] at ht
  subst hs ht
  have g : (8 : Fin n) ≠ 0 := fun h => F.two ((F.mul0 2 4 (by grind)).elim id fun h => absurd h F.four)
  exact ⟨8*(a*a*(a*a))*(1 + k*(1 - P.2*P.2))*(1 - d*P.1*P.1*P.2*P.2), F.mul_ne (F.mul_ne (F.mul_ne g (F.mul_ne (F.mul_ne ha ha) (F.mul_ne ha ha))) hw) k2, pg6 g1 hx1, pg7 g2⟩
theorem Fld.add_neg {P : Fin n × Fin n} (hP : On d P) : On d (-P.1, P.2) ∧ F.add P (-P.1, P.2) = ((0 : Fin n), (1 : Fin n)) := by
  have he := hP.eq
  have ho : On d (-P.1, P.2) := ⟨by show P.2*P.2 - -P.1 * -P.1 = 1 + d * -P.1 * -P.1 * P.2 * P.2; grind⟩
  refine ⟨ho, F.add_eq hP ho ?_ ?_⟩
  · show 0 * (1 + d*P.1* -P.1*P.2*P.2) = P.1*P.2 + -P.1*P.2; grind
  · show 1 * (1 - d*P.1* -P.1*P.2*P.2) = P.2*P.2 + P.1* -P.1; grind
theorem Fld.dif {P Q : Fin n × Fin n} (hP : On d P) (hQ : On d Q) : Q.2*(1 + d*P.1*(F.add P Q).1*P.2*(F.add P Q).2) = P.2*(F.add P Q).2 - P.1*(F.add P Q).1 := by
  obtain ⟨o, e⟩ := F.add_neg hP
  have hS := F.add_on hP hQ
  have e2 : F.add (F.add P Q) (-P.1, P.2) = Q := by
    rw [F.add_comm P Q, F.add_assoc hQ hP o, e, F.add_o]
  have h := (F.add_spec hS o).2
  rw [e2] at h
  dsimp only at h
  generalize F.add P Q = S at *
  clear e2 e hS
  grind
end Go.Ed

namespace Go.Proofs.YthbhpfefdnffaaaGreatDoor
open Go.Px Go.Ed
theorem A8I : Go.Px.IsPr 531581 := A7f 730 (by decide) (by decide) (by decide +kernel)
theorem A6B : Go.Px.IsPr 1224481 := A7f 1107 (by decide) (by decide) (by decide +kernel)
theorem prL1 : Go.Px.IsPr 1257559732178653 := A9i (F := 531581 * 1224481) (by decide) (by decide) fun s hs hd => Y5 A8I A6B (by decide) (H3 (a := 2) (by decide) (by decide) A8I (by decide +kernel) s hs hd) (H3 (a := 2) (by decide) (by decide) A6B (by decide +kernel) s hs hd)
theorem prL2 : Go.Px.IsPr 4434155615661930479 := A9i (F := 1257559732178653) (by decide) (by decide) (H3 (a := 2) (by decide) (by decide) prL1 (by decide +kernel))
theorem prL3 : Go.Px.IsPr 172054593956031949258510691 := A9i (F := 4434155615661930479) (by decide) (by decide) (H3 (a := 2) (by decide) (by decide) prL2 (by decide +kernel))
theorem prL4 : Go.Px.IsPr 19757330305831588566944191468367130476339 := A9i (F := 172054593956031949258510691) (by decide) (by decide) (H3 (a := 2) (by decide) (by decide) prL3 (by decide +kernel))
theorem prL5 : Go.Px.IsPr 276602624281642239937218680557139826668747 := A9i (F := 19757330305831588566944191468367130476339) (by decide) (by decide) (H3 (a := 2) (by decide) (by decide) prL4 (by decide +kernel))
theorem prL : Go.Px.IsPr lN := A9i (F := 276602624281642239937218680557139826668747) (by decide) (by decide) (H3 (a := 2) (by decide) (by decide) prL5 (by decide +kernel))
structure LR (P : Fin p25 × Fin p25) (s : Lad) (m1 m2 : Nat) : Prop where
  r1 : RepU (fF s.a) (fF s.b) (FF.nsm m1 P)
  r2 : RepU (fF s.c) (fF s.d) (FF.nsm m2 P)
  la : s.a < p25
  lb : s.b < p25
  lc : s.c < p25
  ld : s.d < p25
theorem LR.sw {P : Fin p25 × Fin p25} {s : Lad} {m1 m2 : Nat} (h : LR P s m1 m2) : LR P ⟨s.c, s.d, s.a, s.b⟩ m2 m1 := ⟨h.r2, h.r1, h.lc, h.ld, h.la, h.lb⟩
theorem C0G : fF dN * (fF 121665 + 1) = -fF 121665 := by decide +kernel
theorem LR.step {P : Fin p25 × Fin p25} {u : Nat} {s : Lad} {m1 m2 : Nat} (hP : On (fF dN) P) (hU : fF u * (1 - P.2) = 1 + P.2) (h2 : 1 + P.2 ≠ 0) (h : LR P s m1 m2) (hm : m2 = m1 + 1 ∨ m1 = m2 + 1) : LR P (A31 u s) (m1 + m1) (m1 + m2) := by
  have o1 := FF.nsm_on hP m1
  have o2 := FF.nsm_on hP m2
  have hD : P.2*(1 + fF dN*(FF.nsm m1 P).1*(FF.nsm m2 P).1*(FF.nsm m1 P).2*(FF.nsm m2 P).2) = (FF.nsm m1 P).2*(FF.nsm m2 P).2 - (FF.nsm m1 P).1*(FF.nsm m2 P).1 := by
    rcases hm with rfl | rfl
    · exact FF.dif o1 hP
    · have h1 := FF.dif o2 hP
      rw [← FF.nsm_succ] at h1
      generalize FF.nsm m2 P = Q at *
      generalize FF.nsm (m2 + 1) P = R at *
      have e1 : fF dN*R.1*Q.1*R.2*Q.2 = fF dN*Q.1*R.1*Q.2*R.2 := by clear h1 h hU; grind
      have e2 : R.2*Q.2 - R.1*Q.1 = Q.2*R.2 - Q.1*R.1 := by clear h1 h hU; grind
      rw [e1, e2]; exact h1
  refine ⟨?_, ?_, Y9 _ _, Y9 _ _, Y9 _ _, Y9 _ _⟩
  · rw [FF.nsm_add hP]
    show RepU (fF (fM (fM (fA s.a s.b) (fA s.a s.b)) (fM (fS s.a s.b) (fS s.a s.b)))) (fF (fM (fS (fM (fA s.a s.b) (fA s.a s.b)) (fM (fS s.a s.b) (fS s.a s.b))) (fA (fM (fA s.a s.b) (fA s.a s.b)) (fM 121665 (fS (fM (fA s.a s.b) (fA s.a s.b)) (fM (fS s.a s.b) (fS s.a s.b))))))) _
    rw [A06, A06 (fS _ _) (fA _ _), B1b, A06 121665, B2h (Y9 _ _)]
    exact FF.rep_dbl o1 h.r1 C0G (by rw [A06, B1b]) (by rw [A06, B2h h.lb])
  · rw [FF.nsm_add hP]
    show RepU (fF (fM (fA (fM (fS s.c s.d) (fA s.a s.b)) (fM (fA s.c s.d) (fS s.a s.b))) (fA (fM (fS s.c s.d) (fA s.a s.b)) (fM (fA s.c s.d) (fS s.a s.b))))) (fF (fM u (fM (fS (fM (fS s.c s.d) (fA s.a s.b)) (fM (fA s.c s.d) (fS s.a s.b))) (fS (fM (fS s.c s.d) (fA s.a s.b)) (fM (fA s.c s.d) (fS s.a s.b)))))) _
    rw [A06 (fA _ _), A06 u, A06 (fS _ _) (fS _ _), B1b (fM _ _), B2h (Y9 _ _)]
    exact FF.rep_dif o1 o2 h.r1 h.r2 hD hU h2 (p := fF s.a + fF s.b) (q := fF s.a - fF s.b) rfl rfl (by rw [A06, B2h h.ld, B1b]) (by rw [A06, B1b, B2h h.lb])
theorem B1z {P : Fin p25 × Fin p25} {u : Nat} (hP : On (fF dN) P) (hu : u < p25) (hU : fF u * (1 - P.2) = 1 + P.2) (h1 : 1 - P.2 ≠ 0) (h2 : 1 + P.2 ≠ 0) {n : Nat} (hn : n < 2 ^ 255) : ∀ k, k ≤ 255 → LR P (A0b u n k) (n / 2 ^ (255 - k)) (n / 2 ^ (255 - k) + 1)
  | 0, _ => by
    rw [Nat.div_eq_of_lt hn]
    have i2 := FF.hinv _ FF.two
    have i1 := FF.hinv _ h1
    have ne : ∀ {a : Fin p25}, a ≠ 0 → FF.inv a ≠ 0 := fun {a} ha h => by
      have := FF.hinv _ ha
      rw [h] at this
      exact FF.one (by rw [← this]; grind)
    refine ⟨⟨FF.inv 2, ne FF.two, ?_, ?_⟩, ⟨FF.inv (1 - P.2), ne h1, ?_, ?_⟩, by show 1 < p25; decide, by show 0 < p25; decide, hu, by show 1 < p25; decide⟩
    · show fF 1 = FF.inv 2 * (1 + 1)
      rw [show (1 : Fin p25) + 1 = 2 from rfl, ← show (2 : Fin p25) * FF.inv 2 = FF.inv 2 * 2 by grind, i2]; rfl
    · show fF 0 = FF.inv 2 * (1 - 1)
      rw [show (1 : Fin p25) - 1 = 0 from rfl, show FF.inv 2 * (0 : Fin p25) = 0 by grind]; rfl
    · show fF u = FF.inv (1 - P.2) * (1 + (FF.add ((0 : Fin p25), (1 : Fin p25)) P).2)
      rw [FF.add_comm, FF.add_o, ← hU]
      have : FF.inv (1 - P.2) * (fF u * (1 - P.2)) = fF u * ((1 - P.2) * FF.inv (1 - P.2)) := by clear i1 i2 hU; grind
      rw [this, i1]; grind
    · show fF 1 = FF.inv (1 - P.2) * (1 - (FF.add ((0 : Fin p25), (1 : Fin p25)) P).2)
      rw [FF.add_comm, FF.add_o]
      have : FF.inv (1 - P.2) * (1 - P.2) = (1 - P.2) * FF.inv (1 - P.2) := by clear i1 i2 hU; grind
      rw [this, i1]; rfl
  | k + 1, hk => by
    have ih := B1z hP hu hU h1 h2 hn k (by omega)
    have e1 : 255 - (k + 1) = 254 - k := by omega
    have e2 : n / 2 ^ (254 - k) = 2 * (n / 2 ^ (255 - k)) + n / 2 ^ (254 - k) % 2 := by
      have e3 : n / 2 ^ (255 - k) = n / 2 ^ (254 - k) / 2 := by rw [Nat.div_div_eq_div_mul, ← Nat.pow_succ]; congr 2; omega
      rw [e3]; omega
    rw [e1, e2]
    generalize n / 2 ^ (255 - k) = m at *
    show LR P (swL (decide (n / 2 ^ (254 - k) % 2 = 1)) (A31 u (swL (decide (n / 2 ^ (254 - k) % 2 = 1)) (A0b u n k)))) _ _
    by_cases hb : n / 2 ^ (254 - k) % 2 = 1
    · rw [hb]
      have h3 := (ih.sw.step hP hU h2 (.inr rfl)).sw
      rw [show m + 1 + m = 2 * m + 1 by omega, show m + 1 + (m + 1) = 2 * m + 1 + 1 by omega] at h3
      exact h3
    · rw [show n / 2 ^ (254 - k) % 2 = 0 by omega]
      have h3 := ih.step hP hU h2 (.inl rfl)
      rw [show m + m = 2 * m + 0 by omega, show m + (m + 1) = 2 * m + 0 + 1 by omega] at h3
      exact h3
noncomputable def uOf (P : Fin p25 × Fin p25) : Fin p25 := (1 + P.2) * FF.inv (1 - P.2)
theorem B3V : FF.inv 0 = 0 := by
  show fF (fI (0 : Fin p25).val) = 0
  rw [A9j, A4o (by decide)]
  decide +kernel
theorem B9k {P : Fin p25 × Fin p25} {u : Nat} (hP : On (fF dN) P) (hu : u < p25) (hU : fF u * (1 - P.2) = 1 + P.2) (h1 : 1 - P.2 ≠ 0) (h2 : 1 + P.2 ≠ 0) {n : Nat} (hn : n < 2 ^ 255) : fM (A0b u n 255).a (fI (A0b u n 255).b) = (uOf (FF.nsm n P)).val := by
  have h := B1z hP hu hU h1 h2 hn 255 (Nat.le_refl _)
  rw [show 255 - 255 = 0 from rfl, Nat.pow_zero, Nat.div_one] at h
  obtain ⟨c, hc, e1, e2⟩ := h.r1
  have hb := h.lb
  generalize A0b u n 255 = s at *
  have e3 : fF (fM s.a (fI s.b)) = uOf (FF.nsm n P) := by
    rw [A06, e1]
    have e4 : fF (fI s.b) = FF.inv (fF s.b) := by
      show _ = fF (fI (fF s.b).val)
      rw [A0H, Nat.mod_eq_of_lt hb]
    rw [e4, e2]
    unfold uOf
    generalize (FF.nsm n P).2 = y
    by_cases hy : 1 - y = 0
    · rw [hy, show c * (0 : Fin p25) = 0 by grind, B3V]; grind
    · have i1 := FF.hinv _ hy
      have i2 := FF.hinv _ (FF.mul_ne hc hy)
      have i3 : c * FF.inv (c * (1 - y)) = FF.inv (1 - y) := by
        refine FF.cancel hy ?_
        have e : (1 - y) * (c * FF.inv (c * (1 - y))) = c * (1 - y) * FF.inv (c * (1 - y)) := by
          generalize FF.inv (c * (1 - y)) = z
          clear i1 i2 e1 e2 e4
          grind
        rw [e, i2, i1]
      have : c * (1 + y) * FF.inv (c * (1 - y)) = (1 + y) * (c * FF.inv (c * (1 - y))) := by clear i1 i2 i3 e1 e2 e4; grind
      rw [this, i3]
  have := congrArg Fin.val e3
  rw [A0H, Nat.mod_eq_of_lt (Y9 _ _)] at this
  exact this
theorem B7q {B : Fin p25 × Fin p25} (hB : On (fF dN) B) (hne : B ≠ ((0 : Fin p25), (1 : Fin p25))) (hL : FF.nsm lN B = ((0 : Fin p25), (1 : Fin p25))) {j : Nat} (h : FF.nsm j B = ((0 : Fin p25), (1 : Fin p25))) : lN ∣ j := by
  apply Decidable.byContradiction
  intro hd
  have hc := prL.cop hd
  -- gcd: some a * j = 1 + b * lN
  have key : ∀ a b : Nat, FF.nsm a B = ((0 : Fin p25), (1 : Fin p25)) → FF.nsm b B = ((0 : Fin p25), (1 : Fin p25)) → FF.nsm (Nat.gcd a b) B = ((0 : Fin p25), (1 : Fin p25)) := by
    intro a b
    induction a, b using Nat.gcd.induction with
    | H0 b => intro _ h; rwa [Nat.gcd_zero_left]
    | H1 a b ha ih =>
      intro h1 h2
      rw [Nat.gcd_rec]
      refine ih ?_ h1
      rw [FF.nsm_mod hB h1]; exact h2
  have h1 := key lN j hL h
  rw [hc] at h1
  apply hne
  have : FF.nsm 1 B = FF.add ((0 : Fin p25), (1 : Fin p25)) B := rfl
  rw [this, FF.add_comm, FF.add_o] at h1
  exact h1
theorem C0H {P : Fin p25 × Fin p25} (hP : On (fF dN) P) (h : P.2 * P.2 = 1) : FF.add P P = ((0 : Fin p25), (1 : Fin p25)) := by
  have hx := A4s hP.eq
  rw [h] at hx
  have hx0 : P.1 * P.1 * (1 + fF dN * 1) = 0 := by rw [hx]; grind
  have hn := FF.a_ne 1
  rw [show (1 : Fin p25) * 1 = 1 from rfl] at hn
  have h1 : P.1 * P.1 = 0 := (FF.mul0 _ _ hx0).resolve_right hn
  have h2 : P.1 = 0 := (FF.mul0 _ _ h1).elim id id
  obtain ⟨x, y⟩ := P
  dsimp only at h h2
  subst h2
  refine FF.add_eq hP hP ?_ ?_
  · show 0 * _ = 0 * y + 0 * y; grind
  · show 1 * (1 - fF dN * 0 * 0 * y * y) = y * y + 0 * 0
    rw [h]; grind
theorem y_ok {B : Fin p25 × Fin p25} (hB : On (fF dN) B) (hne : B ≠ ((0 : Fin p25), (1 : Fin p25))) (hL : FF.nsm lN B = ((0 : Fin p25), (1 : Fin p25))) {j : Nat} (hj : ¬ lN ∣ j + j) : 1 - (FF.nsm j B).2 ≠ 0 ∧ 1 + (FF.nsm j B).2 ≠ 0 := by
  have key : (FF.nsm j B).2 * (FF.nsm j B).2 ≠ 1 := fun h => hj (B7q hB hne hL (by rw [FF.nsm_add hB]; exact C0H (FF.nsm_on hB j) h))
  exact ⟨fun h => key (by grind), fun h => key (by grind)⟩
theorem B3W {B : Fin p25 × Fin p25} {b : Nat} (hB : On (fF dN) B) (hne : B ≠ ((0 : Fin p25), (1 : Fin p25))) (hL : FF.nsm lN B = ((0 : Fin p25), (1 : Fin p25))) (hb : b < p25) (hU : fF b * (1 - B.2) = 1 + B.2) (h1 : 1 - B.2 ≠ 0) (h2 : 1 + B.2 ≠ 0) {m k : Nat} (hm : m < 2 ^ 255) (hk : k < 2 ^ 255) (jm : ¬ lN ∣ m + m) (jk : ¬ lN ∣ k + k) {um uk : Nat} (em : um = fM (A0b b m 255).a (fI (A0b b m 255).b)) (ek : uk = fM (A0b b k 255).a (fI (A0b b k 255).b)) :
    fM (A0b um k 255).a (fI (A0b um k 255).b) = fM (A0b uk m 255).a (fI (A0b uk m 255).b) := by
  have go : ∀ {m k um : Nat}, m < 2 ^ 255 → k < 2 ^ 255 → ¬ lN ∣ m + m → um = fM (A0b b m 255).a (fI (A0b b m 255).b) → fM (A0b um k 255).a (fI (A0b um k 255).b) = (uOf (FF.nsm (k * m) B)).val := by
    intro m k um hm hk jm em
    rw [B9k hB hb hU h1 h2 hm] at em
    obtain ⟨y1, y2⟩ := y_ok hB hne hL jm
    rw [FF.nsm_mul hB]
    refine B9k (FF.nsm_on hB m) (by rw [em]; exact (uOf _).isLt) ?_ y1 y2 hk
    rw [em, A2A]
    unfold uOf
    have i1 := FF.hinv _ y1
    generalize (FF.nsm m B).2 = y at *
    have : (1 + y) * FF.inv (1 - y) * (1 - y) = (1 + y) * ((1 - y) * FF.inv (1 - y)) := by clear i1 hU; grind
    rw [this, i1]; grind
  rw [go hm hk jm em, go hk hm jk ek, Nat.mul_comm]
theorem rd32 {v : Nat} (h : v < p25) : rdN (W3 8 32 v 255) = v := by
  unfold rdN
  rw [if_pos (L1 _ _ _ _), A48, show (57896044618658097711785492504343953926634992332820282019728792003956564819968 : Nat) = 2 ^ 255 from rfl, Nat.mod_mod, Nat.mod_eq_of_lt (a := v) (b := 2 ^ 255) (Nat.lt_trans h (by decide)), Nat.mod_eq_of_lt h]
theorem B3X (x : Nat) : (x &&& 248) % 8 = 0 := by
  have := Nat.and_mod_two_pow (a := x) (b := 248) (n := 3)
  rw [show (2 : Nat) ^ 3 = 8 from rfl] at this
  rw [this]; simp
theorem B3Y {w : List Nat} (h : ∀ x ∈ w, x < 256) : ∃ m, bv (G8 w) = 8 * m ∧ 2 ^ 251 ≤ m ∧ m < 2 ^ 252 := by
  have hl := A2h w
  have hlt := A6x h
  have hb := B6w hlt
  rw [hl] at hb
  have b0 := A7e hlt 0
  have b31 := A7e hlt 31
  have hf := T7 w 32
  have e0 : (G8 w).getD 0 0 = (P6 w 32).getD 0 0 &&& 248 := by
    unfold G8
    dsimp only
    rw [List.getD_eq_getElem?_getD, List.getElem?_set_ne (by decide), List.getElem?_set_self (by omega)]
    rfl
  have e31 : ∃ z, (G8 w).getD 31 0 = z % 128 ||| 64 := by
    refine ⟨((P6 w 32).set 0 ((P6 w 32).getD 0 0 &&& 248)).getD 31 0, ?_⟩
    unfold G8
    dsimp only
    rw [List.getD_eq_getElem?_getD, List.getElem?_set_self (by rw [List.length_set]; omega)]
    rfl
  obtain ⟨z, e31⟩ := e31
  rw [e0] at b0
  rw [e31] at b31
  have z1 : 64 ≤ z % 128 ||| 64 := Nat.right_le_or
  have z2 : z % 128 ||| 64 < 2 ^ 7 := Nat.or_lt_two_pow (Nat.mod_lt _ (by decide)) (by decide)
  have c8 := B3X ((P6 w 32).getD 0 0)
  generalize (P6 w 32).getD 0 0 &&& 248 = c at *
  generalize z % 128 ||| 64 = y at *
  generalize bv (G8 w) = b at *
  clear e0 e31 hl hlt hf
  rw [Nat.pow_zero, Nat.div_one] at b0
  have d31 : b / 256 ^ 31 < 256 := Nat.div_lt_of_lt_mul (by rw [← Nat.pow_succ]; exact hb)
  rw [Nat.mod_eq_of_lt d31] at b31
  have l1 : 64 * 256 ^ 31 ≤ b := by have := (Nat.le_div_iff_mul_le (show 0 < 256 ^ 31 by decide)).1 (show 64 ≤ b / 256 ^ 31 by omega); exact this
  have l2 : b < 128 * 256 ^ 31 := by have := (Nat.div_lt_iff_lt_mul (show 0 < 256 ^ 31 by decide)).1 (show b / 256 ^ 31 < 128 by omega); exact this
  have h8 : b % 8 = 0 := by omega
  refine ⟨b / 8, by omega, ?_, ?_⟩
  · have : (64 : Nat) * 256 ^ 31 = 8 * 2 ^ 251 := by decide
    omega
  · have : (128 : Nat) * 256 ^ 31 = 8 * 2 ^ 252 := by decide
    omega
theorem A8J {w : List Nat} (h : ∀ x ∈ w, x < 256) : bv (G8 w) < 2 ^ 255 ∧ ¬ lN ∣ bv (G8 w) + bv (G8 w) := by
  obtain ⟨m, e, h1, h2⟩ := B3Y h
  rw [e]
  refine ⟨by have : (2 : Nat) ^ 255 = 8 * 2 ^ 252 := by decide
             omega, fun hd => ?_⟩
  rw [show 8 * m + 8 * m = 16 * m by omega] at hd
  rcases prL.mul hd with h3 | h3
  · exact absurd (Nat.le_of_dvd (by decide) h3) (by decide)
  · have := Nat.le_of_dvd (by have : (0 : Nat) < 2 ^ 251 := by decide
                              omega) h3
    have : (2 : Nat) ^ 252 < lN := by decide
    omega
theorem b_u : fF 9 * (1 - bPt.2) = 1 + bPt.2 := by decide +kernel
theorem C0I : 1 - bPt.2 ≠ 0 ∧ 1 + bPt.2 ≠ 0 := by decide +kernel
theorem b_no : bPt ≠ ((0 : Fin p25), (1 : Fin p25)) := fun h => C0I.1 (by rw [h]; rfl)
theorem B7r : rdN B3O = 9 := by decide +kernel
theorem A6C {t : List Nat} : rdN (V3 t) = fM (A0b 9 (bv (G8 t)) 255).a (fI (A0b 9 (bv (G8 t)) 255).b) := by
  unfold V3 x25
  rw [B7r]
  exact rd32 (Y9 _ _)
theorem B3Z {s t : List Nat} (hs : ∀ x ∈ s, x < 256) (ht : ∀ x ∈ t, x < 256) : x25 s (V3 t) = x25 t (V3 s) := by
  obtain ⟨s1, s2⟩ := A8J hs
  obtain ⟨t1, t2⟩ := A8J ht
  unfold x25
  rw [B3W B5h b_no A7p (b := 9) (by decide) b_u C0I.1 C0I.2 t1 s1 t2 s2 (um := rdN (V3 t)) (uk := rdN (V3 s)) A6C A6C]

theorem B1A {w : List Nat} {n : Nat} (h : w.length = n) : P6 w n = w := by
  unfold P6; rw [List.take_of_length_le (by omega), h, Nat.sub_self]; simp
theorem B1B (w : List Nat) : (V3 w).length = 32 := A5l _ _
theorem B39 (x y : Int) : srt x y = srt y x := by
  unfold srt
  rcases Int.lt_trichotomy x y with h | h | h
  · rw [if_neg (by omega), if_pos h]
  · subst h; rfl
  · rw [if_pos h, if_neg (by omega)]
def B5u (i j : Nat) : Tm := ⟨4, srt ((i : Nat) : Int) ((j : Nat) : Int), [], 0⟩
theorem B7s {i j : Nat} (hi : i ≤ 1048576) (hj : j ≤ 1048576) : Tmo (B5u i j) := B0s (s := 0) (o := 0) (A1s _ _) (fun z hz => (B0r hz).elim (fun e => e ▸ A5o hi) (fun e => e ▸ A5o hj)) (.inl rfl)
def B7t (s : Ps) (a b k : List Nat) : Prop := ∃ i j m : Nat, i < s.ts.length ∧ j < s.ts.length ∧ a = bts ((i : Nat) : Int) ∧ b = bts ((j : Nat) : Int) ∧ s.ts[m]? = some (B5u i j) ∧ k = bts ((m : Nat) : Int)
def A3L (s : Ps) (a b k : List Nat) : Prop := if s.real then k = x25 (P6 a 32) (V3 (P6 b 32)) ∧ (∀ x ∈ a, x < 256) ∧ ∀ x ∈ b, x < 256 else B7t s a b k
theorem A3L.t {s : Ps} (h : s.real = true) {a b k : List Nat} : A3L s a b k ↔ k = x25 (P6 a 32) (V3 (P6 b 32)) ∧ (∀ x ∈ a, x < 256) ∧ ∀ x ∈ b, x < 256 := by unfold A3L; rw [if_pos h]
theorem A3L.f {s : Ps} (h : s.real = false) {a b k : List Nat} : A3L s a b k ↔ B7t s a b k := by unfold A3L; rw [if_neg (by rw [h]; decide)]
theorem B7t.ext {s s' : Ps} {a b k : List Nat} (h : B7t s a b k) (he : Pext s s') : B7t s' a b k := by
  obtain ⟨l, e⟩ := he.ts
  obtain ⟨i, j, m, h1, h2, h3, h4, h5, h6⟩ := h
  exact ⟨i, j, m, by rw [e, List.length_append]; omega, by rw [e, List.length_append]; omega, h3, h4, by rw [e]; exact A4k h5, h6⟩
theorem A3L.ext {s s' : Ps} {a b k : List Nat} (h : A3L s a b k) (he : Pext s s') : A3L s' a b k := by
  cases hr : s.real with
  | true => rw [A3L.t hr] at h; rw [A3L.t (he.real.trans hr)]; exact h
  | false => rw [A3L.f hr] at h; rw [A3L.f (he.real.trans hr)]; exact h.ext he
theorem A3L.comm {s : Ps} {a b k : List Nat} (h : A3L s a b k) : A3L s b a k := by
  cases hr : s.real with
  | true =>
    rw [A3L.t hr] at h ⊢
    refine ⟨?_, h.2.2, h.2.1⟩
    rw [h.1]
    exact B3Z (A2f h.2.1 32) (A2f h.2.2 32)
  | false =>
    rw [A3L.f hr] at h ⊢
    obtain ⟨i, j, m, h1, h2, h3, h4, h5, h6⟩ := h
    exact ⟨j, i, m, h2, h1, h4, h3, by rw [h5]; unfold B5u; rw [B39], h6⟩
theorem B7u {ts : List Tm} {i j p : Nat} (hp : ts[p]? = some (A9D ((j : Nat) : Int))) : agT ts ((i : Nat) : Int) ((p : Nat) : Int) = B5u i j := by
  rw [B0q (t := A9D ((j : Nat) : Int)) (by omega) (by rw [Int.toNat_natCast]; exact hp) ⟨rfl, rfl⟩]
  rfl
theorem B1C {s : Ps} {i j p : Nat} (hi : i < s.ts.length) (hp : s.ts[p]? = some (A9D ((j : Nat) : Int))) (hl : s.ts.length ≤ 1048576) :
    B6q s (bts ((i : Nat) : Int)) (bts ((p : Nat) : Int)) = { s with ts := add s.ts (B5u i j) } ∧ B7S s (bts ((i : Nat) : Int)) (bts ((p : Nat) : Int)) = bts ((at_ s.ts (B5u i j) : Nat) : Int) := by
  have hpl := (List.getElem?_eq_some_iff.1 hp).1
  obtain ⟨a1, a2⟩ := A44 hi hl
  obtain ⟨b1, b2⟩ := A44 hpl hl
  unfold B6q B7S
  rw [a1, a2, b1, b2, B7u hp]
  exact ⟨rfl, rfl⟩
theorem A2j {s : Ps} (h : s.real = true) (a B : List Nat) : L3 s a B = s ∧ A2i s a B = x25 (P6 a 32) (P6 B 32) := by unfold L3 A2i; rw [if_pos h, if_pos h]; exact ⟨rfl, rfl⟩
theorem A2k {s : Ps} (h : s.real = false) (a B : List Nat) : L3 s a B = B6q s a B ∧ A2i s a B = B7S s a B := by unfold L3 A2i; rw [if_neg (by rw [h]; decide), if_neg (by rw [h]; decide)]; exact ⟨rfl, rfl⟩
theorem B1D (s : Ps) (a B : List Nat) : Ext s (L3 s a B) := by
  cases hr : s.real with
  | true => rw [(A2j hr a B).1]; exact Ext.refl s
  | false =>
    rw [(A2k hr a B).1]
    obtain ⟨l1, e1⟩ := A1x s.ts a
    obtain ⟨l2, e2⟩ := A1x (rdT s.ts a) B
    obtain ⟨l3, e3⟩ := A7w (rdT (rdT s.ts a) B) (agT (rdT (rdT s.ts a) B) ((rdI s.ts a : Nat) : Int) ((rdI (rdT s.ts a) B : Nat) : Int))
    refine ⟨⟨rfl, l1 ++ (l2 ++ l3), ?_⟩, rfl, Nat.le_refl _⟩
    show add _ _ = _
    rw [e3, e2, e1]; simp
theorem T8 (s : Ps) (a B : List Nat) : (L3 s a B).ts.length ≤ s.ts.length + 3 := by
  cases hr : s.real with
  | true => rw [(A2j hr a B).1]; omega
  | false =>
    rw [(A2k hr a B).1]
    have h1 := T6 (ts := s.ts) (ws := a)
    have h2 := T6 (ts := rdT s.ts a) (ws := B)
    have h3 := A1r (ts := rdT (rdT s.ts a) B) (t := agT (rdT (rdT s.ts a) B) ((rdI s.ts a : Nat) : Int) ((rdI (rdT s.ts a) B : Nat) : Int))
    show (add _ _).length ≤ _
    omega
theorem B7v (s : Ps) (a B : List Nat) : (L3 s a B).n = s.n := by unfold L3; split <;> rfl
theorem Ar.agr {s : Ps} (h : Ar s.ts) (a B : List Nat) : Ar (L3 s a B).ts := by
  unfold L3
  split
  · exact h
  · refine ((h.rd a).rd B).add fun hk => ?_
    unfold agT at hk ⊢
    split <;> (try split) <;> (try split) <;> simp_all
theorem B9l {s : Ps} {a b B : List Nat} (ha : Kok s a) (hB : U2 s b B) (ht : Tok s.ts) (hl : s.ts.length ≤ 1048576) (h1 : ∀ x ∈ a, x < 256) (h2 : ∀ x ∈ b, x < 256) : A3L (L3 s a B) a b (A2i s a B) ∧ Tok (L3 s a B).ts := by
  cases hr : s.real with
  | true =>
    rw [(A2j hr a B).1, (A2j hr a B).2, A3L.t hr]
    unfold U2 at hB
    rw [if_pos hr] at hB
    rw [hB, B1A (B1B _)]
    exact ⟨⟨rfl, h1, h2⟩, ht⟩
  | false =>
    unfold U2 at hB
    rw [if_neg (by rw [hr]; decide)] at hB
    obtain ⟨i, hi, rfl⟩ := ha hr
    obtain ⟨j, p, hj, rfl, hp, rfl⟩ := hB
    obtain ⟨e1, e2⟩ := B1C hi hp hl
    rw [(A2k hr _ _).1, (A2k hr _ _).2, e1, e2]
    obtain ⟨l, g1, g2, g3, g4⟩ := A6b (B7s (show i ≤ 1048576 by omega) (show j ≤ 1048576 by omega)) ht
    exact ⟨(A3L.f (s := { s with ts := add s.ts (B5u i j) }) hr).2 ⟨i, j, _, by show i < (add s.ts _).length; rw [g1, List.length_append]; omega, by show j < (add s.ts _).length; rw [g1, List.length_append]; omega, rfl, rfl, g3, rfl⟩, g4⟩
theorem A3L.eq {s : Ps} {a b B k : List Nat} (h : A3L s a b k) (hB : U2 s b B) (ht : Tok s.ts) (hl : s.ts.length ≤ 1048576) : L3 s a B = s ∧ A2i s a B = k := by
  cases hr : s.real with
  | true =>
    rw [A3L.t hr] at h
    unfold U2 at hB
    rw [if_pos hr] at hB
    rw [(A2j hr a B).1, (A2j hr a B).2, hB, B1A (B1B _), h.1]
    exact ⟨rfl, rfl⟩
  | false =>
    rw [A3L.f hr] at h
    unfold U2 at hB
    rw [if_neg (by rw [hr]; decide)] at hB
    obtain ⟨i, j, m, g1, g2, rfl, rfl, g3, rfl⟩ := h
    obtain ⟨j', p, hj, e, hp, rfl⟩ := hB
    have := A43 (by omega) (by omega) e
    subst this
    obtain ⟨e1, e2⟩ := B1C g1 hp hl
    obtain ⟨e3, e4⟩ := B2Z ht g3
    rw [(A2k hr _ _).1, (A2k hr _ _).2, e1, e2, e3, e4]
    exact ⟨rfl, rfl⟩
theorem B7t.inj {s : Ps} {a b a' b' k : List Nat} (h : B7t s a b k) (h' : B7t s a' b' k) (hl : s.ts.length ≤ 1048576) : (a = a' ∧ b = b') ∨ (a = b' ∧ b = a') := by
  obtain ⟨i, j, m, g1, g2, rfl, rfl, g3, rfl⟩ := h
  obtain ⟨i', j', m', f1, f2, rfl, rfl, f3, e⟩ := h'
  have b1 := (List.getElem?_eq_some_iff.1 g3).1
  have b2 := (List.getElem?_eq_some_iff.1 f3).1
  have := A43 (by omega) (by omega) e
  subst this
  rw [g3] at f3
  have e2 := Option.some.inj f3
  unfold B5u at e2
  injection e2 with _ e3 _ _
  unfold srt at e3
  have e4 : (i = i' ∧ j = j') ∨ (i = j' ∧ j = i') := by split at e3 <;> split at e3 <;> simp at e3 <;> omega
  rcases e4 with ⟨rfl, rfl⟩ | ⟨rfl, rfl⟩
  · exact .inl ⟨rfl, rfl⟩
  · exact .inr ⟨rfl, rfl⟩
theorem B7w (seed : List Nat) (i : Nat) : Y0 seed i = A1w (A1w [] seed) (([107, 101, 121] ++ B2X i) ++ [1]) := by
  unfold Y0
  rw [← A2W]
  exact A8A _ _
def aw0 (r : Bool) : Ps := ⟨r, [115], 0, []⟩
noncomputable def aw2 (r : Bool) : Ps := D3 (D3 (aw0 r))
def bes (n k x : Nat) : List Nat := (List.range x).map fun j => n / 2 ^ (8 * (k - 1 - j)) % 256
def beN (n k : Nat) : List Nat := bes n k k
theorem B1E (n k x : Nat) : (bes n k x).length = x := by simp [bes]
theorem A3M (n k : Nat) : (beN n k).length = k := B1E n k k
theorem B4a (n k x : Nat) : bes n k (x + 1) = bes n k x ++ [n / 2 ^ (8 * (k - 1 - x)) % 256] := by simp [bes, List.range_succ]
theorem B9m (n k x : Nat) : ∀ y ∈ bes n k x, y < 256 := by
  intro y hy
  simp only [bes, List.mem_map] at hy
  obtain ⟨j, _, rfl⟩ := hy
  exact Nat.mod_lt _ (by decide)
theorem A8K (n k : Nat) : ∀ y ∈ beN n k, y < 256 := B9m n k k
theorem B5v {a b : List Nat} (ha : ∀ x ∈ a, x < 256) (hb : ∀ x ∈ b, x < 256) : ∀ x ∈ a ++ b, x < 256 := fun x hx => (List.mem_append.1 hx).elim (ha x) (hb x)
def bev (ws : List Nat) : Nat := ws.foldl (fun n b => n * 256 + b) 0
structure Wtr (wb : Nat) (ws : List Nat) (M : Mem) : Prop where
  ex : ∃ (v : Value) (B : Mem), M = (wb, blk [v] 100) :: B ∧ Sl 1 v ws.length (nums .u8 ws) B
  lt : ∀ x ∈ ws, x < 256
theorem Wtr.new {b : Nat} : Wtr b [] [(b, blk [.slice none 0 0] 100)] := ⟨⟨_, [], rfl, Sl.nil⟩, fun x h => by cases h⟩
theorem A6D (wb n k : Nat) (ws : List Nat) (M A : Mem) (hW : Wtr wb ws M) (hn : n < 18446744073709551616) (hk : k ≤ 8) (hl : ws.length ≤ 1099511627776) : FnX Tryz.prog 76 [.pointer (some ⟨wb, 0, none⟩), .int .u64 ((n : Nat) : Int), .int .i64 ((k : Nat) : Int)] M A fun q M J => q = .pointer (some ⟨wb, 0, none⟩) ∧ Wtr wb (ws ++ beN n k) M := by
 obtain ⟨⟨v, B, rfl, hsl⟩, hlt⟩ := hW
 haveI := hsl.cel
 refine FnX.enterZ (N := 33) Tryz.func76 rfl rfl rfl fun w_ => ?_
 refine C4 (E1 0 1 2) (A3 (as_ (A0 (E1 0 1 2) (A5 (A3 (mv_ ?_))))))
 refine A4 (E4 ((k : Int) - 1) rfl rfl (Y8 rfl (by omega) (by omega))) rfl ?_
 refine as_ (A0 (E1 0 1 7) (C0 ?_))
 refine F2 (α := Nat × Value × Mem) (fun x => [(0, .pointer (some ⟨wb, 0, none⟩)), (1, .int .u64 ((n : Nat) : Int)), (7, .int .i64 ((k : Int) - 1 - (x.1 : Int)))]) (fun x => (wb, blk [x.2.1] 100) :: x.2.2) (fun _ => []) (fun x => x.1 ≤ k ∧ Sl 1 x.2.1 (ws ++ bes n k x.1).length (nums .u8 (ws ++ bes n k x.1)) x.2.2) (fun x => k - x.1) ⟨0, v, B⟩ ⟨Nat.zero_le _, by simpa [bes] using hsl⟩ (kq 0 (kq 1 (kp 7 (by simp; rfl) kn))) .rfl (fun _ h => h) ?_
 clear hsl
 rintro ⟨x, v, B⟩ ⟨hx, hsl⟩
 dsimp only at hx hsl ⊢
 haveI := hsl.cel
 have hbl := B1E n k x
 have hll : (ws ++ bes n k x).length = ws.length + x := by rw [List.length_append, hbl]
 refine A5 (A3 (mv_ ?_))
 refine A4 (F1 rfl rfl rfl) rfl ?_
 refine mv_ ?_
 refine Z3 (t := 12) rfl (fun hb => ?_) (fun hb => ?_)
 ·
  have hltx : x < k := by simp at hb; omega
  obtain ⟨m, hm, hm2⟩ : ∃ m : Nat, ((k : Int) - 1 - (x : Int)) = (m : Int) ∧ m = k - 1 - x := ⟨k - 1 - x, by omega, rfl⟩
  rw [hm]
  refine F4 rfl rfl (OpQ.opL qm_ rfl ?_)
  refine F4 rfl rfl (OpQ.opL (F9 true rfl rfl (ltT (by omega))) rfl ?_)
  refine A4 (H4 rfl rfl) rfl ?_
  refine A0 (E7 0 1 7 15) ?_
  refine E2 rfl ?_
  refine A9 (nx (E1 0 1 7) (A5 (C0 ?_)))
  refine I6 [0, 1, 2, 3, 4, 5, 6, 7, 8, 9, 10, 12, 13] (zp 0 [0, 0, 0, 0, 1, 0, 0, 0, 0, 0, 2, 2, 0, 0, 2]) kR kR fun hs => ?_
  refine fm_ hs ?_
  refine fm_ hs ?_
  refine D1 hs rfl (F5 rfl) rfl ?_
  refine D1 hs rfl (qf_ 0 0) rfl ?_
  refine F6 hs rfl ql_ rfl ?_
  refine fm_ hs ?_
  refine fm_ hs ?_
  refine D1 hs rfl (A1e (a := 8) rfl rfl rfl rfl (by omega)) rfl ?_
  refine D1 hs rfl (A2t (a := n) (b := 8 * m) rfl rfl rfl rfl (by show _ ≤ 64; omega)) rfl ?_
  refine D1 hs rfl (A25 rfl kR) rfl ?_
  refine B8c rfl rfl fun _ => (C6 (e := 5) (sz := 1) (z := [.int .u8 0]) kR (eS rfl e0) (bdS 0 1 rfl (by rfl) bd0) rfl fun b28 => ?_)
  refine G2 rfl rfl rfl (I8 (e := 5) (sz := 1) (by_ := 1) rfl rfl kR rfl (by first | assumption | exact Sl.nil) (Rd.whole (n := 1) At.mem (by rfl)) (by first | (simp [Value.oneCell']; done) | (intro c hc; simp only [List.mem_singleton] at hc; subst hc; first | exact Rd.one (by assumption) | exact Sl.one (by assumption))) PickC.perm (by unfold maxLen; omega) (by omega) rfl fun v29 B29 hs29 => ?_)
  refine D1 hs rfl (F5 rfl) rfl ?_
  refine D1 hs rfl (qf_ 0 0) rfl ?_
  refine G2 rfl rfl rfl (D9 rfl rfl hs29.one kR SetC.set UpC.upd ?_)
  refine V0 (nb (nx (E1 0 1 7) (C3 (mv_ ?_))))
  refine A4 (E4 ((m : Int) - 1) rfl rfl (Y8 rfl (by omega) (by omega))) rfl ?_
  refine as_ (D0 ?_)
  exact rn ⟨x + 1, v29, B29⟩ ⟨by dsimp only; omega, by dsimp only; rw [B4a, ← List.append_assoc, ← hm2]; exact A0i hs29 (by simp only [List.length_append, List.length_singleton]) (by simp [nums])⟩ (by dsimp only; omega) (kq 0 (kq 1 (kp 7 (by dsimp only; rw [show ((k : Int) - 1 - ((x + 1 : Nat) : Int)) = (m : Int) - 1 by omega]; rfl) kn))) (Fit.pick (B := [_]) PickC.perm (Fit.last PickC.perm)) (fun _ h => by first | exact h | cases h)
 ·
  have hge : x = k := by simp at hb; omega
  subst hge
  refine L5 rfl rfl rfl rfl ?_
  refine L5 rfl rfl rfl rfl ?_
  refine A4 (E9 rfl rfl) rfl ?_
  refine A0 (E7 0 1 7 15) ?_
  refine D4 rfl ?_
  refine E6 (te (re (be rfl (nx (D8 0) (A3 (mv_ (as_ (A0 (D8 6) ?_))))))))
  refine C2 ?_
  exact ⟨_, (wb, blk [v] 100) :: B, [], I4 rfl rfl, Fit.none (Fit.last PickC.perm), rfl, ⟨⟨v, B, rfl, hsl⟩, B5v hlt (A8K n x)⟩⟩
theorem A3N (wb : Nat) (p : Value) (w ws : List Nat) (M A : Mem) (hW : Wtr wb ws M) (hp : By A p w) (hl : ws.length ≤ 1099511620000) : FnX Tryz.prog 77 [.pointer (some ⟨wb, 0, none⟩), p] M A fun q M J => q = .pointer (some ⟨wb, 0, none⟩) ∧ Wtr wb (ws ++ beN w.length 4 ++ w) M := by
 haveI := hp.cel
 have hpl := hp.len
 refine FnX.enterZ (N := 20) Tryz.func77 rfl rfl rfl fun w_ => ?_
 refine C4 (D5 0 1) (A3 (as_ (A0 (D5 0 1) (A3 (mv_ (mv_ ?_))))))
 refine A4 (I3 (sz := 1) rfl kR hp.rd) rfl ?_
 refine A4 (A9O rfl kR) rfl ?_
 rw [Nat.mod_eq_of_lt (show w.length < 18446744073709551616 by omega)]
 refine A6 rfl (E0 (Mc := _) (R := _) (aS rfl (aS rfl (aS rfl (a0)))) kR PickC.perm (A6D wb w.length 4 ws _ _ hW (by omega) (by decide) (by omega)) rfl ?_)
 rintro v9 M9 J9 ⟨rfl, hW9⟩
 obtain ⟨⟨v, B, rfl, hsl⟩, hlt⟩ := hW9
 haveI := hsl.cel
 have hbl := A3M w.length 4
 have hll : (ws ++ beN w.length 4).length = ws.length + 4 := by rw [List.length_append, hbl]
 refine A0 (D5 0 1) (A3 (mv_ (mv_ ?_)))
 refine A4 (F5 rfl) rfl ?_
 refine A4 (qf_ 0 0) rfl ?_
 refine A4 ql_ rfl ?_
 refine mv_ ?_
 refine A6 rfl (I8 (e := 5) (sz := 1) (by_ := 1) rfl rfl kR rfl hsl (hp.rd.mono SubC.sub) E8 PickC.perm (by unfold maxLen; omega) (by omega) rfl fun v16 B16 hs16 => ?_)
 refine A4 (F5 rfl) rfl ?_
 refine A4 (qf_ 0 0) rfl ?_
 refine A6 rfl (D9 rfl rfl hs16.one kR SetC.set UpC.upd ?_)
 refine A0 (D8 0) (A3 (mv_ (as_ (A0 (D8 4) (C2 ?_)))))
 exact ⟨_, (wb, blk [v16] 100) :: B16, [], I4 rfl rfl, Fit.none (Fit.pick (B := [_]) PickC.perm (Fit.last PickC.perm)), rfl, ⟨⟨v16, B16, rfl, A0i hs16 (by simp only [List.length_append]) (by simp [nums])⟩, B5v hlt hp.lt⟩⟩
theorem A9t (wb : Nat) (ws : List Nat) (M A : Mem) (hW : Wtr wb ws M) (hl : ws.length ≤ 16777216) : FnX Tryz.prog 47 [.pointer (some ⟨wb, 0, none⟩)] M A fun q M J => Wtr wb ws M ∧ By J q ws := by
 obtain ⟨⟨v, B, rfl, hsl⟩, hlt⟩ := hW
 haveI := hsl.cel
 refine FnX.enterZ (N := 8) Tryz.func47 rfl rfl rfl fun w_ => ?_
 refine C4 (D8 0) (A3 (as_ (A0 (D8 0) (A3 (mv_ ?_)))))
 refine A4 (F5 rfl) rfl ?_
 refine A4 (qf_ 0 0) rfl ?_
 refine A4 ql_ rfl ?_
 refine A6 rfl (I8 (e := 5) (sz := 1) (by_ := 1) rfl rfl kR rfl Sl.nil (hsl.rd SubC.sub) E8 PickC.perm (by unfold maxLen; omega) (by omega) rfl fun v7 B7 hs7 => ?_)
 refine as_ (A0 (D8 2) (C2 ?_))
 exact ⟨_, (wb, blk [v] 100) :: B, B7, I4 rfl rfl, Fit.pick PickC.perm (Fit.last PickC.perm), ⟨⟨v, B, rfl, hsl⟩, hlt⟩, ⟨by simpa using hs7.rd (R := B7) SubC.sub, hlt, hl⟩⟩

def A5F (n : Nat) (w : List Nat) : List Nat := beN 6 4 ++ [112, 114, 101, 107, 101, 121] ++ beN n 4 ++ (beN w.length 4 ++ w)
theorem B4b (n : Nat) (w : List Nat) : (A5F n w).length = w.length + 18 := by simp [A5F, A3M]; omega
theorem B7x {n : Nat} (h : n < 4294967296) : IntKind.u64.wrap (n : Int) = (n : Int) := A4E (by omega) (by omega)
theorem B7y {R : Mem} {b n : Nat} {w : List Nat} {e : TypeId} {fr : Nat × Nat} (hm : (b, Obj.cells (nums .u8 w).toArray e fr) ∈ R) (hn : w.length = n) (hlt : ∀ x ∈ w, x < 256) (hl : w.length ≤ 16777216) : By R (.slice (some ⟨b, 0, none⟩) n n) w := by
  subst hn
  exact ⟨Rd.whole (n := w.length) hm (by simp), hlt, hl⟩
theorem A6E (n : Nat) (v : Value) (w : List Nat) (A : Mem) (hn : n < 4294967296) (hv : By A v w) (hl : w.length ≤ 1000000) : FnX Tryz.prog 64 [.int .u32 ((n : Nat) : Int), v] [] A fun q M J => M = [] ∧ By J q (A5F n w) := by
 haveI := hv.cel
 refine FnX.enterZ (N := 18) Tryz.func64 rfl rfl rfl fun w_ => ?_
 refine C4 (D5 0 1) (A3 (as_ (A0 (D5 0 1) (A3 ?_))))
 refine A4 (F3 (place := fun x => #[(0, 1)][x]?) (z := [.slice none 0 0]) (fun _ => by kernel_rfl) e0 bd0) rfl ?_
 refine A6 rfl (bx_ fun b7 => ?_)
 refine as_ (A0 (E1 0 1 5) (A3 (mv_ ?_)))
 refine A6 rfl (C6 (e := 5) (sz := 1) (z := [zu8, zu8, zu8, zu8, zu8, zu8]) kR (eS rfl (eS rfl (eS rfl (eS rfl (eS rfl (eS rfl e0)))))) (bdS 0 1 rfl (by rfl) (bdS 1 1 rfl (by rfl) (bdS 2 1 rfl (by rfl) (bdS 3 1 rfl (by rfl) (bdS 4 1 rfl (by rfl) (bdS 5 1 rfl (by rfl) bd0)))))) rfl fun b9 => ?_)
 refine A6 rfl (A38 rfl kR UpC.upd rfl ?_)
 refine A6 rfl (E0 (Mc := [(b7, blk [.slice none 0 0] 100)]) (R := _) (aS rfl (aS rfl (a0))) kR PickC.perm (A3N b7 _ [112, 114, 101, 107, 101, 121] [] _ _ Wtr.new (B7y At.mem (by rfl) (by decide) (by decide)) (by decide)) rfl ?_)
 rintro v11 M11 J11 ⟨rfl, hW11⟩
 refine mv_ ?_
 refine A4 (P3 (k' := .u64) n rfl kR (B7x (by omega))) rfl ?_
 refine A6 rfl (E0 (Mc := M11) (R := _) (aS rfl (aS rfl (aS rfl (a0)))) kR PickC.perm (A6D b7 n 4 _ _ _ hW11 (by omega) (by decide) (by simp [A3M])) rfl ?_)
 rintro v14 M14 J14 ⟨rfl, hW14⟩
 refine mv_ ?_
 refine A6 rfl (E0 (Mc := M14) (R := _) (aS rfl (aS rfl (a0))) kR PickC.perm (A3N b7 v w _ _ _ hW14 (hv.mono SubC.sub) (by simp [A3M])) rfl ?_)
 rintro v16 M16 J16 ⟨rfl, hW16⟩
 refine A6 rfl (E0 (Mc := M16) (R := _) (aS rfl (a0)) kR PickC.perm (A9t b7 _ _ _ hW16 (by simp [A3M]; omega)) rfl ?_)
 rintro v17 M17 J17 ⟨hW17, hb17⟩
 haveI := hb17.cel
 refine as_ (A0 (D8 4) (C2 ?_))
 exact ⟨_, [], [], I4 rfl rfl, Fit.sub (List.nil_sublist _), rfl, by simpa [A5F, List.append_assoc] using hb17.mono SubC.sub⟩

theorem B1F {P : Program} {f : FuncId} {args : List Value} {A A' : Mem} {v : Value} (h : FnV P f args A v) (hs : ∀ x, x ∈ A → x ∈ A') : FnV P f args A' v := by
  intro w hw
  refine Calls.mono (h w ⟨hw.os, hw.tape, hw.output, hw.size, hw.frame, fun b o hb => hw.mem b o (by simpa using hs _ (by simpa using hb)), hw.nodup, hw.own, hw.sepJ, fun b o hb => hw.sepA b o (hs _ hb), hw.old⟩) ?_
  rintro e w' ⟨r, M', J', rfl, ⟨rfl, rfl, rfl⟩, h2⟩
  refine ⟨_, [], [], rfl, ⟨rfl, rfl, rfl⟩, ⟨h2.os, h2.tape, h2.output, h2.size, h2.frame, fun b o hb => ?_, h2.nodup, h2.own, h2.sepJ, fun b o hb => hw.sepA b o hb, h2.old⟩⟩
  have hb' : (b, o) ∈ A' := by simpa using hb
  have h3 := h2.frame b (hw.sepA b o hb').2 (by simp)
  rw [h3]
  exact hw.mem b o (by simpa using hb')
structure Pr where
  n : Nat
  sec : List Nat
  sig : List Nat
structure Nm where
  n : Nat
  id : List Nat
def prR (R : Mem) (x : Pr) (r : List Value) : Prop := ∃ vs vg, r = [.int .u32 ((x.n : Nat) : Int), vs, vg] ∧ By R vs x.sec ∧ By R vg x.sig ∧ x.n < 4294967296
theorem prT : RowT 3 prR := ⟨fun R R' x r hR ⟨vo, vk, h1, h2, h3, h4⟩ => ⟨vo, vk, h1, h2.mono hR, h3.mono hR, h4⟩, fun R x r ⟨vo, vk, h1, _⟩ => by rw [h1]; rfl, fun R x r ⟨vo, vk, h1, h2, h3, _⟩ c hc => by
  rw [h1] at hc
  simp only [List.mem_cons, List.not_mem_nil, or_false] at hc
  rcases hc with rfl | rfl | rfl
  · rfl
  · exact h2.one
  · exact h3.one⟩
def nmR (R : Mem) (x : Nm) (r : List Value) : Prop := ∃ vi, r = [.int .u32 ((x.n : Nat) : Int), vi] ∧ By R vi x.id ∧ x.n < 4294967296
theorem nmT : RowT 2 nmR := ⟨fun R R' x r hR ⟨vi, h1, h2, h4⟩ => ⟨vi, h1, h2.mono hR, h4⟩, fun R x r ⟨vi, h1, _⟩ => by rw [h1]; rfl, fun R x r ⟨vi, h1, h2, _⟩ c hc => by
  rw [h1] at hc
  simp only [List.mem_cons, List.not_mem_nil, or_false] at hc
  rcases hc with rfl | rfl
  · rfl
  · exact h2.one⟩
theorem eq32 (a b : Nat) : K1 .eql .u32 ((a : Nat) : Int) ((b : Nat) : Int) = some (.bool (decide (a = b))) := by
  by_cases h : a = b
  · rw [decide_eq_true h]; exact eqT (by omega)
  · rw [decide_eq_false h]; exact eqF (by omega)
theorem A4t (v : Value) (rows : List (List Value)) (f : FuncId) (cs : List Value) (p : Nat → Bool) (A : Mem) (hv : Rd A 3 v rows.length rows.flatten) (hl : ∀ r ∈ rows, r.length = 3) (hn : rows.length ≤ 1099511627776) (hc_ : K2 Tryz.prog f = true) (hf : ∀ (j : Nat) (r : List Value), rows[j]? = some r → FnV Tryz.prog f (.agg r.toArray :: cs) A (.bool (p j))) : FnV Tryz.prog 116 [v, .func (.func f) #[] cs.toArray] A (.int .i64 (A6M p rows.length)) := by
 haveI := hv.cel
 refine FnX.enter (N := 19) Tryz.func116 rfl rfl rfl fun w => ?_
 refine C4 (D5 0 1) (A3 (as_ (A0 (D5 0 1) (A5 (A3 (mv_ ?_))))))
 refine A4 (I3 (sz := 3) rfl kR hv) rfl ?_
 refine mv_ (A0 (E7 0 1 7 8) (C0 ?_))
 refine F2 (α := Nat) (fun i => [(0, v), (1, .func (.func f) #[] cs.toArray), (7, .int .i64 ((rows.length : Nat) : Int)), (8, .int .i64 (i : Int))]) (fun _ => []) (fun _ => []) (fun i => i ≤ rows.length ∧ ∀ j, j < i → p j = false) (fun i => rows.length - i) 0 ⟨Nat.zero_le _, fun j h => absurd h (Nat.not_lt_zero j)⟩ (E7 0 1 7 8) .rfl (fun _ h => h) ?_
 rintro i ⟨hi, hp⟩
 refine A3 ?_
 refine A4 (F1 rfl rfl rfl) rfl ?_
 refine A0 (F7 0 1 7 8 9) (A5 ?_)
 refine C8 rfl (fun hc => ?_) (fun hc => ?_)
 ·
  have hlt : i < rows.length := by simp at hc; omega
  obtain ⟨r, hr⟩ : ∃ r, rows[i]? = some r := ⟨_, List.getElem?_eq_getElem hlt⟩
  refine A9 (nx (E7 0 1 7 8) (A5 (C0 (A3 (mv_ (as_ (A0 (F7 0 1 5 7 8) (A3 ?_))))))))
  refine mv_ (mv_ (mv_ ?_))
  refine A4 (I7 (sz := 3) rfl rfl kR rfl hv hlt) rfl ?_
  refine A4 (A0F rfl kR (hv.mono SubC.sub) hl (by decide) hr) rfl ?_
  refine A6 rfl (A1X rfl (aS rfl a0) hc_ (hf i r hr) rfl ?_)
  refine A0 (I5 0 1 5 7 8 16) ?_
  refine C8 rfl (fun hc => ?_) (fun hc => ?_)
  ·
   refine A3 (mv_ (as_ (A0 (D8 4) (C2 (br (tr (rr (br ?_))))))))
   refine tr ?_
   exact ⟨_, [], [], I4 rfl rfl, List.nil_sublist _, by simp, by rw [A1Y hlt hp hc], rfl, rfl⟩
  ·
   refine A9 (nb (nx (E7 0 1 7 8) (C3 ?_)))
   refine A4 (N4 (b := 1) rfl rfl rfl rfl (by omega)) rfl ?_
   refine mv_ (D0 ?_)
   exact rn (i + 1) ⟨hlt, fun j hj => by rcases Nat.lt_succ_iff_lt_or_eq.1 hj with h | h; exact hp j h; rw [h]; exact hc⟩ (by omega) (E7 0 1 7 8) .rfl (fun _ h => h)
 ·
  have hge : i = rows.length := by simp at hc; omega
  subst hge
  refine E6 (te (re (be rfl (nx kn (A3 (as_ (A0 (D8 4) ?_)))))))
  refine C2 ?_
  exact ⟨_, [], [], I4 rfl rfl, List.nil_sublist _, by simp, by rw [A1Z hp], rfl, rfl⟩
theorem A9u (v : Value) (rows : List (List Value)) (f : FuncId) (cs : List Value) (p : Nat → Bool) (A : Mem) (hv : Rd A 2 v rows.length rows.flatten) (hl : ∀ r ∈ rows, r.length = 2) (hn : rows.length ≤ 1099511627776) (hc_ : K2 Tryz.prog f = true) (hf : ∀ (j : Nat) (r : List Value), rows[j]? = some r → FnV Tryz.prog f (.agg r.toArray :: cs) A (.bool (p j))) : FnV Tryz.prog 115 [v, .func (.func f) #[] cs.toArray] A (.int .i64 (A6M p rows.length)) := by
 haveI := hv.cel
 refine FnX.enter (N := 19) Tryz.func115 rfl rfl rfl fun w => ?_
 refine C4 (D5 0 1) (A3 (as_ (A0 (D5 0 1) (A5 (A3 (mv_ ?_))))))
 refine A4 (I3 (sz := 2) rfl kR hv) rfl ?_
 refine mv_ (A0 (E7 0 1 7 8) (C0 ?_))
 refine F2 (α := Nat) (fun i => [(0, v), (1, .func (.func f) #[] cs.toArray), (7, .int .i64 ((rows.length : Nat) : Int)), (8, .int .i64 (i : Int))]) (fun _ => []) (fun _ => []) (fun i => i ≤ rows.length ∧ ∀ j, j < i → p j = false) (fun i => rows.length - i) 0 ⟨Nat.zero_le _, fun j h => absurd h (Nat.not_lt_zero j)⟩ (E7 0 1 7 8) .rfl (fun _ h => h) ?_
 rintro i ⟨hi, hp⟩
 refine A3 ?_
 refine A4 (F1 rfl rfl rfl) rfl ?_
 refine A0 (F7 0 1 7 8 9) (A5 ?_)
 refine C8 rfl (fun hc => ?_) (fun hc => ?_)
 ·
  have hlt : i < rows.length := by simp at hc; omega
  obtain ⟨r, hr⟩ : ∃ r, rows[i]? = some r := ⟨_, List.getElem?_eq_getElem hlt⟩
  refine A9 (nx (E7 0 1 7 8) (A5 (C0 (A3 (mv_ (as_ (A0 (F7 0 1 5 7 8) (A3 ?_))))))))
  refine mv_ (mv_ (mv_ ?_))
  refine A4 (I7 (sz := 2) rfl rfl kR rfl hv hlt) rfl ?_
  refine A4 (A0F rfl kR (hv.mono SubC.sub) hl (by decide) hr) rfl ?_
  refine A6 rfl (A1X rfl (aS rfl a0) hc_ (hf i r hr) rfl ?_)
  refine A0 (I5 0 1 5 7 8 16) ?_
  refine C8 rfl (fun hc => ?_) (fun hc => ?_)
  ·
   refine A3 (mv_ (as_ (A0 (D8 4) (C2 (br (tr (rr (br ?_))))))))
   refine tr ?_
   exact ⟨_, [], [], I4 rfl rfl, List.nil_sublist _, by simp, by rw [A1Y hlt hp hc], rfl, rfl⟩
  ·
   refine A9 (nb (nx (E7 0 1 7 8) (C3 ?_)))
   refine A4 (N4 (b := 1) rfl rfl rfl rfl (by omega)) rfl ?_
   refine mv_ (D0 ?_)
   exact rn (i + 1) ⟨hlt, fun j hj => by rcases Nat.lt_succ_iff_lt_or_eq.1 hj with h | h; exact hp j h; rw [h]; exact hc⟩ (by omega) (E7 0 1 7 8) .rfl (fun _ h => h)
 ·
  have hge : i = rows.length := by simp at hc; omega
  subst hge
  refine E6 (te (re (be rfl (nx kn (A3 (as_ (A0 (D8 4) ?_)))))))
  refine C2 ?_
  exact ⟨_, [], [], I4 rfl rfl, List.nil_sublist _, by simp, by rw [A1Z hp], rfl, rfl⟩
theorem A1y (v : Value) (w : List Nat) (A : Mem) (h : By A v w) : FnX Tryz.prog 83 [v] [] A fun r M J => M = [] ∧ By J r w := by
 haveI := h.cel
 have hwl := h.len
 refine FnX.enterZ (N := 8) Tryz.func83 rfl rfl rfl fun w_ => ?_
 refine C4 (D8 0) (A3 (as_ (A0 (D8 0) (A5 (A3 (mv_ ?_))))))
 refine A4 (A5V (e := 5) rfl kR (by first | assumption | exact Sl.rd (by assumption) (fun _ h => h) | exact By.rd (by assumption))) rfl ?_
 refine A0 (D5 0 4) ?_
 refine C8 rfl (fun hc => ?_) (fun hc => ?_)
 ·
  have h0 := h.rd.isNil hc
  obtain rfl : w = [] := List.eq_nil_of_length_eq_zero h0
  refine A3 (as_ (A0 (D8 2) (C2 (tr ?_))))
  exact ⟨_, [], [], I4 rfl rfl, Fit.sub (List.nil_sublist _), rfl, By.nil⟩
 ·
  refine A9 (nx (D8 0) (A3 ?_))
  refine A6 rfl (C6 (e := 5) (sz := 1) (z := []) kR e0 bd0 rfl fun b5 => ?_)
  refine mv_ ?_
  refine A6 rfl (I8 (e := 5) (sz := 1) (by_ := 1) rfl rfl kR rfl (Sl.fresh (n := 0) (cs := []) (e := 5) rfl (by decide)) (h.rd.mono SubC.sub) E8 PickC.perm (by unfold maxLen; omega) (by omega) rfl fun v7 B7 hs7 => ?_)
  refine as_ (A0 (D8 2) (C2 ?_))
  exact ⟨_, [], B7, I4 rfl rfl, Fit.pick PickC.perm (Fit.sub (List.nil_sublist _)), rfl, ⟨A1c (hs7.rd fun x hx => by simp [hx]) (by omega) (by simp), h.lt, h.len⟩⟩
theorem B4c {k : IntKind} (c : Int) : K1 .geq k c 0 = some (.bool (decide (0 ≤ c))) := by
  by_cases h : 0 ≤ c
  · rw [decide_eq_true h]; exact geT h
  · rw [decide_eq_false h]; exact geF (by omega)
theorem A5p (v : Value) (rows : List (List Value)) (f : FuncId) (cs : List Value) (p : Nat → Bool) (A : Mem) (hv : Rd A 3 v rows.length rows.flatten) (hl : ∀ r ∈ rows, r.length = 3) (hn : rows.length ≤ 1099511627776) (hc_ : K2 Tryz.prog f = true) (hf : ∀ (j : Nat) (r : List Value), rows[j]? = some r → FnV Tryz.prog f (.agg r.toArray :: cs) A (.bool (p j))) : FnV Tryz.prog 71 [v, .func (.func f) #[] cs.toArray] A (.bool (decide (0 ≤ A6M p rows.length))) := by
 haveI := hv.cel
 refine FnX.enter (N := 9) Tryz.func71 rfl rfl rfl fun w => ?_
 refine C4 (D5 0 1) (A3 (as_ (A0 (D5 0 1) (A3 (mv_ (mv_ ?_))))))
 refine F8 (aS rfl (aS rfl a0)) kR (A4t v rows f cs p _ (hv.mono SubC.sub) hl hn hc_ (fun j r hr => B1F (hf j r hr) SubC.sub)) rfl ?_
 refine A4 (F9 (decide (0 ≤ A6M p rows.length)) rfl rfl (B4c _)) rfl ?_
 refine as_ (A0 (D8 4) (C2 ?_))
 exact ⟨_, [], [], I4 rfl rfl, List.nil_sublist _, by simp, rfl, rfl, rfl⟩
theorem A9v (vs vg : Value) (x : Pr) (n b : Nat) (A : Mem) (hs : By A vs x.sec) (hg : By A vg x.sig) (hb : (b, blk [.int .u32 ((n : Nat) : Int)] 30) ∈ A) : FnV Tryz.prog 151 [.agg #[.int .u32 ((x.n : Nat) : Int), vs, vg], .pointer (some ⟨b, 0, none⟩)] A (.bool (decide (x.n = n))) := by
 haveI := hs.cel
 haveI := hg.cel
 refine FnX.enter (N := 8) Tryz.func151 rfl rfl rfl fun w => ?_
 refine C4 (D5 0 1) (A3 ?_)
 refine A6 rfl (bx_ fun b2 => ?_)
 refine as_ (A0 (D5 1 2) (A3 ?_))
 refine A4 (qf_ 0 0) rfl ?_
 refine A4 ql_ rfl ?_
 refine A4 (I2 rfl kR (mA hb) (by rfl)) rfl ?_
 refine A4 (F9 (decide (x.n = n)) rfl rfl (eq32 _ _)) rfl ?_
 refine as_ (A0 (D8 3) (C2 ?_))
 exact ⟨_, [], [], I4 rfl rfl, List.nil_sublist _, by simp, rfl, rfl, rfl⟩
theorem A7y (vs vg vi : Value) (x : Pr) (n b : Nat) (A : Mem) (hs : By A vs x.sec) (hg : By A vg x.sig) (hvi : Cel vi [vi]) (hb : (b, blk [.int .u32 ((n : Nat) : Int), vi] 134) ∈ A) : FnV Tryz.prog 72 [.agg #[.int .u32 ((x.n : Nat) : Int), vs, vg], .pointer (some ⟨b, 0, none⟩)] A (.bool (decide (x.n = n))) := by
 haveI := hs.cel
 haveI := hg.cel
 refine FnX.enter (N := 9) Tryz.func72 rfl rfl rfl fun w => ?_
 refine C4 (D5 0 1) (A3 ?_)
 refine A6 rfl (bx_ fun b2 => ?_)
 refine as_ (A0 (D5 1 2) (A3 ?_))
 refine A4 (qf_ 0 0) rfl ?_
 refine A4 ql_ rfl ?_
 refine A4 (qf_ 0 0) rfl ?_
 refine A4 (I2 rfl kR (mA hb) (by rfl)) rfl ?_
 refine A4 (F9 (decide (x.n = n)) rfl rfl (eq32 _ _)) rfl ?_
 refine as_ (A0 (D8 3) (C2 ?_))
 exact ⟨_, [], [], I4 rfl rfl, List.nil_sublist _, by simp, rfl, rfl, rfl⟩

structure Ks where
  user : Int
  dev : Int
  agree : List Nat
  sign : List Nat
  signed : List Pr
  once : List Pr
  next : Nat
  met : List Nm
def A13 (n : Nat) (x : Pr) : Bool := decide (x.n = n)
def tstN (n : Nat) (w : List Nat) (x : Nm) : Bool := decide (x.n = n) && decide (x.id = w)
def A15 (l : List Pr) (n : Nat) : Option (List Nat) := if A1u (A13 n) l < 0 then none else (l[(A1u (A13 n) l).toNat]?).map (·.sec)
theorem A5q {l : List Pr} {n : Nat} (h : A1u (A13 n) l = -1) : A15 l n = none := if_pos (by rw [h]; decide)
theorem A08 {l : List Pr} {n i : Nat} {x : Pr} (h : A1u (A13 n) l = (i : Int)) (hx : l[i]? = some x) : A15 l n = some x.sec := by
  unfold A15; rw [h, if_neg (by omega), Int.toNat_natCast, hx]; rfl
def kyC (k : Ks) (va vg vs vo vm : Value) : List Value := [.int .i64 k.user, .int .i64 k.dev, va, vg, vs, vo, .int .u32 ((k.next : Nat) : Int), vm]
structure KyR (R : Mem) (kb : Nat) (k : Ks) (va vg vs vo vm : Value) (rs ro rm : List (List Value)) : Prop where
  blk_ : (kb, blk [.int .i64 k.user, .int .i64 k.dev, va, vg, vs, vo, .int .u32 ((k.next : Nat) : Int), vm] 114) ∈ R
  agree : By R va k.agree
  sign : By R vg k.sign
  signed : Rd R 3 vs k.signed.length rs.flatten
  signedR : RwL prR R rs k.signed
  once : Rd R 3 vo k.once.length ro.flatten
  onceR : RwL prR R ro k.once
  met : Rd R 2 vm k.met.length rm.flatten
  metR : RwL nmR R rm k.met
  next : k.next < 4294967296
  l1 : k.signed.length ≤ 1000000
  l2 : k.once.length ≤ 1000000
  l3 : k.met.length ≤ 1000000
theorem KyR.mono {R R' : Mem} {kb : Nat} {k : Ks} {va vg vs vo vm : Value} {rs ro rm : List (List Value)} (h : KyR R kb k va vg vs vo vm rs ro rm) (hR : ∀ x, x ∈ R → x ∈ R') : KyR R' kb k va vg vs vo vm rs ro rm :=
  ⟨hR _ h.blk_, h.agree.mono hR, h.sign.mono hR, h.signed.mono hR, h.signedR.mono prT hR, h.once.mono hR, h.onceR.mono prT hR, h.met.mono hR, h.metR.mono nmT hR, h.next, h.l1, h.l2, h.l3⟩
theorem B1G {l : List Pr} {rows : List (List Value)} {n b : Nat} {A : Mem} (hR : RwL prR A rows l) (hb : (b, blk [.int .u32 ((n : Nat) : Int)] 30) ∈ A) :
    ∀ (j : Nat) (r : List Value), rows[j]? = some r → FnV Tryz.prog 151 (.agg r.toArray :: [.pointer (some ⟨b, 0, none⟩)]) A (.bool ((fun j => (l[j]?.map (A13 n)).getD false) j)) := fun j r hr => by
  obtain ⟨x, hx, vs, vg, rfl, hs, hg, _⟩ := hR.of hr
  dsimp only
  rw [hx]
  exact A9v vs vg x n b _ hs hg hb
theorem B9n (v : Value) (rows : List (List Value)) (l : List Pr) (n : Nat) (A : Mem) (hv : Rd A 3 v l.length rows.flatten) (hR : RwL prR A rows l) (hl : l.length ≤ 1000000) : FnX Tryz.prog 110 [v, .int .u32 ((n : Nat) : Int)] [] A fun r M J => M = [] ∧ ∃ q, r = .tuple #[q, .bool (A15 l n).isSome] ∧ By J q ((A15 l n).getD []) := by
 haveI := hv.cel
 refine FnX.enterZ (N := 18) Tryz.func110 rfl rfl rfl fun w_ => ?_
 refine C4 (D5 0 1) (A3 ?_)
 refine A6 rfl (bx_ fun b3 => ?_)
 refine as_ (as_ (A0 (D5 0 3) (A3 (mv_ ?_))))
 refine A4 (A5c (aS rfl a0)) rfl ?_
 refine F8 (aS rfl (aS rfl a0)) kR (A4t v rows 151 [.pointer (some ⟨b3, 0, none⟩)] (fun j => (l[j]?.map (A13 n)).getD false) _ (by rw [hR.len]; exact hv.mono SubC.sub) (hR.lens prT) (by rw [hR.len]; omega) kR (B1G (hR.mono prT SubC.sub) At.mem)) rfl ?_
 rw [hR.len, show A6M (fun j => (l[j]?.map (A13 n)).getD false) l.length = A1u (A13 n) l from rfl]
 refine as_ (A0 (D5 0 6) (A5 (A3 (mv_ ?_))))
 refine A4 (F1 rfl rfl rfl) rfl ?_
 refine A0 (E1 0 6 11) ?_
 refine C8 rfl (fun hc => ?_) (fun hc => ?_)
 ·
  have hf : A1u (A13 n) l = -1 := by
   obtain ⟨hf, hz⟩ | ⟨i, x, hf, hxi, hq, hmin⟩ := A0z (A13 n) l
   · exact hf
   · rw [hf] at hc; (simp at hc) <;> omega
  refine A3 (as_ (as_ (A0 (D5 4 5) (C2 (tr ?_)))))
  exact ⟨_, [], [], A6P rfl rfl rfl, Fit.sub (List.nil_sublist _), rfl, _, by rw [A5q hf]; rfl, by rw [A5q hf]; exact By.nil⟩
 ·
  obtain ⟨hf, hz⟩ | ⟨i, x, hf, hxi, hq, hmin⟩ := A0z (A13 n) l
  · rw [hf] at hc; simp at hc
  have hil := (List.getElem?_eq_some_iff.1 hxi).1
  rw [hf]
  obtain ⟨r, hr, vs, vg, rfl, hs, hg, hxn⟩ := hR.get i x hxi
  haveI := hs.cel
  refine A9 (nx (D5 0 6) (A3 (mv_ (mv_ ?_))))
  refine A4 (I7 (sz := 3) rfl rfl kR rfl hv hil) rfl ?_
  refine A4 (B4I (off := 1) rfl hv hil kR) rfl ?_
  refine A4 (B4J (u := vs) rfl (hv.mono SubC.sub) (by omega) kR (by rw [A2D (hR.lens prT) hr 1 (by decide)]; rfl)) rfl ?_
  refine C9 (aS rfl a0) kR (A1y vs x.sec _ (hs.mono SubC.sub)) rfl ?_
  rintro v17 M17 J17 ⟨rfl, h17⟩
  haveI := h17.cel
  refine as_ (as_ (A0 (D5 4 5) (C2 ?_)))
  exact ⟨_, [], [], A6P rfl rfl rfl, Fit.sub (List.nil_sublist _), rfl, _, by rw [A08 hf hxi]; rfl, by rw [A08 hf hxi]; exact h17.mono SubC.sub⟩
theorem B4d (kb : Nat) (k : Ks) (va vg vs vo vm : Value) (rs ro rm : List (List Value)) (n : Nat) (A : Mem) (hK : KyR A kb k va vg vs vo vm rs ro rm) : FnX Tryz.prog 66 [.pointer (some ⟨kb, 0, none⟩), .int .u32 ((n : Nat) : Int)] [] A fun r M J => M = [] ∧ ∃ q, r = .tuple #[q, .bool (A15 k.signed n).isSome] ∧ By J q ((A15 k.signed n).getD []) := by
 have hkb := hK.blk_
 haveI := hK.agree.cel
 haveI := hK.sign.cel
 haveI := hK.signed.cel
 haveI := hK.once.cel
 haveI := hK.met.cel
 refine FnX.enterZ (N := 16) Tryz.func66 rfl rfl rfl fun w_ => ?_
 refine C4 (D5 0 1) (A3 (as_ (as_ (A0 (D5 0 1) (A5 (A3 (mv_ ?_)))))))
 refine A4 (F0 (e := 114) rfl rfl kR) rfl ?_
 refine A0 (E1 0 1 7) ?_
 refine D4 rfl ?_
 refine A9 (nx (D5 0 1) (A3 (mv_ ?_)))
 refine A4 (F5 rfl) rfl ?_
 refine A4 (qf_ 4 4) rfl ?_
 refine A4 (I2 rfl kR (mA hkb) (by rfl)) rfl ?_
 refine mv_ ?_
 refine C9 (aS rfl (aS rfl a0)) kR (B9n vs rs k.signed n _ (hK.signed.mono SubC.sub) (hK.signedR.mono prT SubC.sub) hK.l1) rfl ?_
 rintro r13 M13 J13 ⟨rfl, q, rfl, hq⟩
 haveI := hq.cel
 refine A4 (A2O rfl) rfl ?_
 refine A4 (A2z rfl) rfl ?_
 refine as_ (as_ (A0 (D5 4 5) (C2 ?_)))
 exact ⟨_, [], [], A6P rfl rfl rfl, Fit.sub (List.nil_sublist _), rfl, _, rfl, hq.mono SubC.sub⟩
theorem A8L (kb : Nat) (k : Ks) (va vg vs vo vm : Value) (rs ro rm : List (List Value)) (A : Mem) (hK : KyR A kb k va vg vs vo vm rs ro rm) : FnX Tryz.prog 61 [.pointer (some ⟨kb, 0, none⟩)] [] A fun r M J => M = [] ∧ By J r k.agree := by
 have hkb := hK.blk_
 haveI := hK.agree.cel
 haveI := hK.sign.cel
 haveI := hK.signed.cel
 haveI := hK.once.cel
 haveI := hK.met.cel
 refine FnX.enterZ (N := 10) Tryz.func61 rfl rfl rfl fun w_ => ?_
 refine C4 (D8 0) (A3 (as_ (A0 (D8 0) (A5 (A3 (mv_ ?_))))))
 refine A4 (F0 (e := 114) rfl rfl kR) rfl ?_
 refine A0 (D5 0 4) ?_
 refine D4 rfl ?_
 refine A9 (nx (D8 0) (A3 (mv_ ?_)))
 refine A4 (F5 rfl) rfl ?_
 refine A4 (qf_ 2 2) rfl ?_
 refine A4 (I2 rfl kR (mA hkb) (by rfl)) rfl ?_
 refine C9 (aS rfl a0) kR (A1y va k.agree _ (hK.agree.mono SubC.sub)) rfl ?_
 rintro r9 M9 J9 ⟨rfl, h9⟩
 haveI := h9.cel
 refine as_ (A0 (D8 2) (C2 ?_))
 exact ⟨_, [], [], I4 rfl rfl, Fit.sub (List.nil_sublist _), rfl, h9.mono SubC.sub⟩

end Go.Proofs.YthbhpfefdnffaaaGreatDoor
