/- Part 8 of the texts of this claim, one behind the other. -/
import Derived.Test.YtpemeceacdhacaaGreatDoorB7
import Derived.Test.YtpemeceacdhacaaGreatDoorRows
set_option linter.unusedVariables false
set_option linter.unusedSimpArgs false
set_option maxRecDepth 100000
namespace Go.Proofs.YtpemeceacdhacaaGreatDoor
open Go.Px
theorem B2R {k : IntKind} (a b : Nat) : G4 .eql k ((a : Nat) : Int) ((b : Nat) : Int) = some (.bool (decide (a = b))) := by
  by_cases h : a = b
  · rw [decide_eq_true h]; exact eqT qO
  · rw [decide_eq_false h]; exact eqF qO
theorem A4x {l : List Int} (h : 0 < l.length) : (Y6 l)[0]? = some (.int .i64 (l.getD 0 0)) := by
  rw [List.getD_eq_getElem?_getD, Y6, List.getElem?_map, List.getElem?_eq_getElem h]; rfl
theorem A8e {ts : List Tm} {p m g : LN} (h : ¬ g.length = 64) : A7w ts p m g = false := by
  unfold A7w; rw [decide_eq_false h, Bool.false_and]
theorem B0q {ts : List Tm} {p m g : LN} (h : plc g ts.length = none) : A7w ts p m g = false := by
  unfold A7w; rw [h]; simp
theorem B0r {ts : List Tm} {p m g : LN} (h : plc p ts.length = none) : A7w ts p m g = false := by
  unfold A7w; rw [h]; split <;> simp_all
theorem A8f {ts : List Tm} {p m g : LN} {t u : Tm} {i k : Nat} (h64 : g.length = 64) (hi : plc g ts.length = some i) (hk : plc p ts.length = some k) (ht : ts[i]? = some t) (hu : ts[k]? = some u) :
    A7w ts p m g = (decide (p.length = 32) && (decide (t.kind = 7) && (decide (t.text = m) && (decide (u.kind = 3) && (u.of.getD 0 0 == t.of.getD 0 0))))) := by
  unfold A7w
  rw [hi, hk, decide_eq_true h64]
  simp only [ht, hu, Bool.true_and, Bool.and_assoc]
  congr 4
theorem B2d {s : Ps} (h : s.real = true) (p m g : LN) : A9o s p m g = B3r p m g := by unfold A9o; rw [if_pos h]
theorem A0M {s : Ps} (h : s.real = false) (p m g : LN) : A9o s p m g = A7w s.ts p m g := by unfold A9o; rw [if_neg (by rw [h]; decide)]
theorem A8g {s : Ps} {p m g : LN} (h : ¬ g.length = 64) : A9o s p m g = false := by
  cases hr : s.real with
  | true => rw [B2d hr]; exact B0d h
  | false => rw [A0M hr]; exact A8e h
theorem neN8 {k : IntKind} (a b : Nat) : G4 .neq k ((a : Nat) : Int) ((b : Nat) : Int) = some (.bool (!decide (a = b))) := by
  by_cases h : a = b
  · rw [decide_eq_true h]; exact neF qO
  · rw [decide_eq_false h]; exact neT qO
theorem A8h (pb : Nat) (s : Ps) (v1 v2 v3 : Value) (wp wm wg : LN) (MP A : Mem) (hP : Prm pb s MP) (hsub : ∀ x, x ∈ MP → x ∈ A) (har : Ar s.ts) (hn : s.ts.length ≤ 1048576) (hp : By A v1 wp) (hm : By A v2 wm) (hg : By A v3 wg) (hG : Glb A) : FnV Tryz.prog 92 [(vP pb), v1, v2, v3] A (.bool (A9o s wp wm wg)) := by
 have hr : s.real = false := rfl
 obtain ⟨sv, bt, bm, B, MT, rfl, hby, hT⟩ := hP.ex
 have hpb := hsub _ qK
 have hMT : ∀ x, x ∈ MT → x ∈ A := fun x hx => hsub x (by simp [hx])
 haveI := hp.cel
 haveI := hm.cel
 haveI := hg.cel
 haveI := hby.cel
 have hpl := hp.len
 have hml := hm.len
 have hgl := hg.len
 refine FnX.enter (N := 106) Tryz.func92 rfl rfl rfl fun w_ => ?_
 refine A7 (F2 0 1 2 3) (A1 (as_ (A0 (F2 0 1 2 3) (A6 (A1 (mv_ ?_))))))
 refine A3 (D0 (e := 93) rfl rfl kR) rfl ?_
 refine mv_ ?_
 refine C6 rfl rfl (OpQ.opL qm_ rfl ?_)
 refine C6 rfl rfl (OpQ.opL (E5 (sz := 1) rfl kR (by first | assumption | exact Sl.rd (by assumption) qI | exact By.rd (by assumption))) rfl ?_)
 refine C6 rfl rfl (OpQ.opL (E7 (!decide (wg.length = 64)) rfl rfl (neN8 _ 64)) rfl ?_)
 refine A3 (D1 rfl rfl) rfl ?_
 refine A0 (H5 0 1 2 3 23) ?_
 refine C1 rfl ?_ ?_ <;> intro hc
 ·
  have h64 : ¬ wg.length = 64 := by simpa using hc
  refine A1 (as_ (A0 (C9 8) (A8 (tr ?_))))
  exact ⟨_, [], [], G5 rfl rfl, List.nil_sublist _, by simp, by rw [A8g h64], rfl, rfl⟩
 ·
  have h64 : wg.length = 64 := by simpa using hc
  refine A5 (nx (F2 0 1 2 3) (A6 (A1 (mv_ ?_))))
  refine A3 (D2 rfl) rfl ?_
  refine A3 (qf_ 0 0) rfl ?_
  refine A3 (G7 rfl kR (mA hpb) qR) rfl ?_
  refine A3 (E9 rfl rfl rfl) rfl ?_
  refine A0 (H5 0 1 2 3 28) ?_
  refine B0 rfl ?_
  refine A5 (nx (F2 0 1 2 3) (A1 (mv_ ?_)))
  refine A3 (D2 rfl) rfl ?_
  refine A3 (qf_ 3 3) rfl ?_
  refine A3 (G7 rfl kR (mA hpb) qR) rfl ?_
  refine mv_ ?_
  refine D6 (aS rfl (aS rfl a0)) kR (V6 bt bm s.ts v3 wg MT _ hT (fun x hx => qS _ (hMT x hx)) hn (hg.rd.mono qS) hg.lt hg.max) rfl ?_
  refine mv_ ?_
  refine A3 (U6 rfl) rfl ?_
  refine A3 (U0 rfl) rfl ?_
  refine as_ (as_ (A0 (H5 0 1 2 9 10) (A1 (mv_ ?_))))
  refine A3 (D2 rfl) rfl ?_
  refine A3 (qf_ 3 3) rfl ?_
  refine A3 (G7 rfl kR (mA hpb) qR) rfl ?_
  refine mv_ ?_
  refine E4 (aS rfl (aS rfl a0)) kR (A0q bt bm s.ts _ MT _ hT (fun x hx => qS _ (hMT x hx))) rfl ?_
  rintro v48 M48 J48 ⟨rfl, rfl, c48, ok48, rfl, hg1a, hg2a⟩
  obtain ⟨voa, ta, rfl, hvoa, hza, htka, hoka, hnoa⟩ := A0r hT.tok.tmo hg1a hg2a
  haveI := hvoa.cel
  refine mv_ ?_
  refine A3 (U6 rfl) rfl ?_
  refine A3 (U0 rfl) rfl ?_
  refine A4 rfl (C5 (cs := [.int .u8 0, vS, .string ByteArray.empty, .int .i64 0]) kR rfl fun b11 => ?_)
  refine A4 rfl (A9 (vs := tmc ta.kind voa ta.text ta.n) rfl rfl rfl kR qR (by intro c hc; simp only [tmc, List.mem_cons, List.not_mem_nil, or_false] at hc; rcases hc with rfl | rfl | rfl | rfl <;> first | rfl | exact hvoa.one) UpC.upd ?_)
  dsimp only [tmc]
  refine as_ (A0 (H5 0 1 2 10 11) (A1 (mv_ ?_)))
  refine A3 (D2 rfl) rfl ?_
  refine A3 (qf_ 3 3) rfl ?_
  refine A3 (G7 rfl kR (mA hpb) qR) rfl ?_
  refine mv_ ?_
  refine D6 (aS rfl (aS rfl a0)) kR (V6 bt bm s.ts v1 wp MT _ hT (fun x hx => qS _ (hMT x hx)) hn (hp.rd.mono qS) hp.lt hp.max) rfl ?_
  refine mv_ ?_
  refine A3 (U6 rfl) rfl ?_
  refine A3 (U0 rfl) rfl ?_
  refine as_ (as_ (A0 (R8 0 1 2 10 11 13 14) (A1 (mv_ ?_))))
  refine A3 (D2 rfl) rfl ?_
  refine A3 (qf_ 3 3) rfl ?_
  refine A3 (G7 rfl kR (mA hpb) qR) rfl ?_
  refine mv_ ?_
  refine E4 (aS rfl (aS rfl a0)) kR (A0q bt bm s.ts _ MT _ hT (fun x hx => qS _ (hMT x hx))) rfl ?_
  rintro v66 M66 J66 ⟨rfl, rfl, c66, ok66, rfl, hg1b, hg2b⟩
  obtain ⟨vob, tb, rfl, hvob, hzb, htkb, hokb, hnob⟩ := A0r hT.tok.tmo hg1b hg2b
  haveI := hvob.cel
  refine mv_ ?_
  refine A3 (U6 rfl) rfl ?_
  refine A3 (U0 rfl) rfl ?_
  refine A4 rfl (C5 (cs := [.int .u8 0, vS, .string ByteArray.empty, .int .i64 0]) kR rfl fun b15 => ?_)
  refine A4 rfl (A9 (vs := tmc tb.kind vob tb.text tb.n) rfl rfl rfl kR qR (by intro c hc; simp only [tmc, List.mem_cons, List.not_mem_nil, or_false] at hc; rcases hc with rfl | rfl | rfl | rfl <;> first | rfl | exact hvob.one) UpC.upd ?_)
  dsimp only [tmc]
  refine as_ (A0 (I8 1 2 10 11 14 15) ?_)
  refine F4 (.range 38) (zp 0 [0, 0, 0, 0, 0, 0, 0, 0, 0, 0, 0, 1, 0, 0, 0, 0, 1, 0, 1, 0, 0, 0, 0, 1, 0, 0, 0, 0, 1, 0, 1, 0, 1, 0, 1, 0, 0, 0]) kR kR fun hs => ?_
  refine fm_ hs ?_
  refine fm_ hs ?_
  refine T9 (t := 70) rfl (fun hb => ?_) (fun hb => ?_)
  ·
   obtain ⟨i, hi⟩ := Option.isSome_iff_exists.1 hb
   refine F7 hs rfl rfl rfl rfl qm_ rfl ?_
   refine D4 hs rfl (E6 rfl rfl) rfl ?_
   refine fm_ hs ?_
   refine T9 (t := 73) rfl (fun hb => ?_) (fun hb => ?_)
   ·
    obtain ⟨k, hk⟩ := Option.isSome_iff_exists.1 hb
    have hta : s.ts[i]? = some ta := by
     have hl := (A2Y hi).1
     rw [hi] at hoka hnoa
     cases ok48 with
     | true => have := (hoka rfl).2; rwa [Option.getD_some, Int.toNat_natCast] at this
     | false => exact absurd ⟨by rw [Option.getD_some]; omega, by rw [Option.getD_some]; omega⟩ (hnoa rfl)
    have htb : s.ts[k]? = some tb := by
     have hl := (A2Y hk).1
     rw [hk] at hokb hnob
     cases ok66 with
     | true => have := (hokb rfl).2; rwa [Option.getD_some, Int.toNat_natCast] at this
     | false => exact absurd ⟨by rw [Option.getD_some]; omega, by rw [Option.getD_some]; omega⟩ (hnob rfl)
    have hcv := A8f (m := wm) h64 hi hk hta htb
    refine F7 hs rfl rfl rfl rfl qm_ rfl ?_
    refine F7 hs rfl rfl rfl rfl (E5 (sz := 1) rfl kR (by first | assumption | exact Sl.rd (by assumption) qI | exact By.rd (by assumption))) rfl ?_
    refine F7 hs rfl rfl rfl rfl (E7 (decide (wp.length = 32)) rfl rfl (B2R _ 32)) rfl ?_
    refine D4 hs rfl (E6 rfl rfl) rfl ?_
    refine fm_ hs ?_
    refine T9 (t := 78) rfl (fun hb => ?_) (fun hb => ?_)
    ·
     rw [hb, Bool.true_and] at hcv
     refine F7 hs rfl rfl rfl rfl (qf_ 0 0) rfl ?_
     refine T5 hs rfl rfl rfl rfl ql_ rfl ?_
     refine F7 hs rfl rfl rfl rfl (E7 (decide (ta.kind = 7)) rfl rfl (B2R _ 7)) rfl ?_
     refine D4 hs rfl (E6 rfl rfl) rfl ?_
     refine fm_ hs ?_
     refine T9 (t := 83) rfl (fun hb => ?_) (fun hb => ?_)
     ·
      rw [hb, Bool.true_and] at hcv
      have ha0 : 0 < ta.of.length := har ta (List.mem_of_getElem? hta) (.inr (.inr (of_decide_eq_true hb)))
      refine F7 hs rfl rfl rfl rfl (qf_ 2 2) rfl ?_
      refine T5 hs rfl rfl rfl rfl ql_ rfl ?_
      refine F7 hs rfl rfl rfl rfl qm_ rfl ?_
      refine T5 hs rfl rfl rfl rfl (Q8 rfl kR (hm.rd.mono qS)) rfl ?_
      refine F7 hs rfl rfl rfl rfl (B1C rfl rfl rfl rfl (hT.tok.tmo ta (List.mem_of_getElem? hta)).text.lt hm.lt) rfl ?_
      refine D4 hs rfl (E6 rfl rfl) rfl ?_
      refine fm_ hs ?_
      refine T9 (t := 90) rfl (fun hb => ?_) (fun hb => ?_)
      ·
       rw [hb, Bool.true_and] at hcv
       refine F7 hs rfl rfl rfl rfl (qf_ 0 0) rfl ?_
       refine T5 hs rfl rfl rfl rfl ql_ rfl ?_
       refine F7 hs rfl rfl rfl rfl (E7 (decide (tb.kind = 3)) rfl rfl (B2R _ 3)) rfl ?_
       refine D4 hs rfl (E6 rfl rfl) rfl ?_
       refine fm_ hs ?_
       refine T9 (t := 95) rfl (fun hb => ?_) (fun hb => ?_)
       ·
        rw [hb, Bool.true_and] at hcv
        have hb0 : 0 < tb.of.length := har tb (List.mem_of_getElem? htb) (.inl (of_decide_eq_true hb))
        refine F7 hs rfl rfl rfl rfl (qf_ 1 1) rfl ?_
        refine T5 hs rfl rfl rfl rfl ql_ rfl ?_
        refine F7 hs rfl rfl rfl rfl (F1 (sz := 1) (a := 0) rfl rfl kR rfl hvob hb0) rfl ?_
        refine T5 hs rfl rfl rfl rfl (W4 (j := 0) (u := .int .i64 (tb.of.getD 0 0)) (hvob.mono qS) rfl kR (A4x hb0)) rfl ?_
        refine F7 hs rfl rfl rfl rfl (qf_ 1 1) rfl ?_
        refine T5 hs rfl rfl rfl rfl ql_ rfl ?_
        refine F7 hs rfl rfl rfl rfl (F1 (sz := 1) (a := 0) rfl rfl kR rfl hvoa ha0) rfl ?_
        refine T5 hs rfl rfl rfl rfl (W4 (j := 0) (u := .int .i64 (ta.of.getD 0 0)) (hvoa.mono qS) rfl kR (A4x ha0)) rfl ?_
        refine F7 hs rfl rfl rfl rfl (E9 rfl rfl rfl) rfl ?_
        refine D4 hs rfl (E6 rfl rfl) rfl ?_
        refine fa_ hs ?_
        refine G8 (C9 8) (A8 ?_)
        exact ⟨_, [], [], G5 rfl rfl, List.nil_sublist _, by simp, by rw [A0M hr, hcv], rfl, rfl⟩
       ·
        rw [hb, Bool.false_and] at hcv
        refine K3 hs ?_
        refine T3 hs ?_
        refine K3 hs ?_
        refine T3 hs ?_
        refine K3 hs ?_
        refine T3 hs ?_
        refine K3 hs ?_
        refine T3 hs ?_
        refine K3 hs ?_
        refine D4 hs rfl (D1 rfl rfl) rfl ?_
        refine fa_ hs ?_
        refine G8 (C9 8) (A8 ?_)
        exact ⟨_, [], [], G5 rfl rfl, List.nil_sublist _, by simp, by rw [A0M hr, hcv], rfl, rfl⟩
      ·
       rw [hb, Bool.false_and] at hcv
       refine K3 hs ?_
       refine T3 hs ?_
       refine K3 hs ?_
       refine D4 hs rfl (D1 rfl rfl) rfl ?_
       refine fm_ hs ?_
       refine K3 hs ?_
       refine T3 hs ?_
       refine K3 hs ?_
       refine T3 hs ?_
       refine K3 hs ?_
       refine T3 hs ?_
       refine K3 hs ?_
       refine T3 hs ?_
       refine K3 hs ?_
       refine D4 hs rfl (D1 rfl rfl) rfl ?_
       refine fa_ hs ?_
       refine G8 (C9 8) (A8 ?_)
       exact ⟨_, [], [], G5 rfl rfl, List.nil_sublist _, by simp, by rw [A0M hr, hcv], rfl, rfl⟩
     ·
      rw [hb, Bool.false_and] at hcv
      refine K3 hs ?_
      refine T3 hs ?_
      refine K3 hs ?_
      refine T3 hs ?_
      refine K3 hs ?_
      refine D4 hs rfl (D1 rfl rfl) rfl ?_
      refine fm_ hs ?_
      refine K3 hs ?_
      refine T3 hs ?_
      refine K3 hs ?_
      refine D4 hs rfl (D1 rfl rfl) rfl ?_
      refine fm_ hs ?_
      refine K3 hs ?_
      refine T3 hs ?_
      refine K3 hs ?_
      refine T3 hs ?_
      refine K3 hs ?_
      refine T3 hs ?_
      refine K3 hs ?_
      refine T3 hs ?_
      refine K3 hs ?_
      refine D4 hs rfl (D1 rfl rfl) rfl ?_
      refine fa_ hs ?_
      refine G8 (C9 8) (A8 ?_)
      exact ⟨_, [], [], G5 rfl rfl, List.nil_sublist _, by simp, by rw [A0M hr, hcv], rfl, rfl⟩
    ·
     rw [hb, Bool.false_and] at hcv
     refine K3 hs ?_
     refine T3 hs ?_
     refine K3 hs ?_
     refine D4 hs rfl (D1 rfl rfl) rfl ?_
     refine fm_ hs ?_
     refine K3 hs ?_
     refine T3 hs ?_
     refine K3 hs ?_
     refine T3 hs ?_
     refine K3 hs ?_
     refine D4 hs rfl (D1 rfl rfl) rfl ?_
     refine fm_ hs ?_
     refine K3 hs ?_
     refine T3 hs ?_
     refine K3 hs ?_
     refine D4 hs rfl (D1 rfl rfl) rfl ?_
     refine fm_ hs ?_
     refine K3 hs ?_
     refine T3 hs ?_
     refine K3 hs ?_
     refine T3 hs ?_
     refine K3 hs ?_
     refine T3 hs ?_
     refine K3 hs ?_
     refine T3 hs ?_
     refine K3 hs ?_
     refine D4 hs rfl (D1 rfl rfl) rfl ?_
     refine fa_ hs ?_
     refine G8 (C9 8) (A8 ?_)
     exact ⟨_, [], [], G5 rfl rfl, List.nil_sublist _, by simp, by rw [A0M hr, hcv], rfl, rfl⟩
   ·
    have hcv := B0r (g := wg) (m := wm) (Option.not_isSome_iff_eq_none.1 (by rw [hb]; decide))
    refine K3 hs ?_
    refine K3 hs ?_
    refine K3 hs ?_
    refine D4 hs rfl (D1 rfl rfl) rfl ?_
    refine fm_ hs ?_
    refine K3 hs ?_
    refine T3 hs ?_
    refine K3 hs ?_
    refine D4 hs rfl (D1 rfl rfl) rfl ?_
    refine fm_ hs ?_
    refine K3 hs ?_
    refine T3 hs ?_
    refine K3 hs ?_
    refine T3 hs ?_
    refine K3 hs ?_
    refine D4 hs rfl (D1 rfl rfl) rfl ?_
    refine fm_ hs ?_
    refine K3 hs ?_
    refine T3 hs ?_
    refine K3 hs ?_
    refine D4 hs rfl (D1 rfl rfl) rfl ?_
    refine fm_ hs ?_
    refine K3 hs ?_
    refine T3 hs ?_
    refine K3 hs ?_
    refine T3 hs ?_
    refine K3 hs ?_
    refine T3 hs ?_
    refine K3 hs ?_
    refine T3 hs ?_
    refine K3 hs ?_
    refine D4 hs rfl (D1 rfl rfl) rfl ?_
    refine fa_ hs ?_
    refine G8 (C9 8) (A8 ?_)
    exact ⟨_, [], [], G5 rfl rfl, List.nil_sublist _, by simp, by rw [A0M hr, hcv], rfl, rfl⟩
  ·
   have hcv := B0q (p := wp) (m := wm) (Option.not_isSome_iff_eq_none.1 (by rw [hb]; decide))
   refine K3 hs ?_
   refine D4 hs rfl (D1 rfl rfl) rfl ?_
   refine fm_ hs ?_
   refine K3 hs ?_
   refine K3 hs ?_
   refine K3 hs ?_
   refine D4 hs rfl (D1 rfl rfl) rfl ?_
   refine fm_ hs ?_
   refine K3 hs ?_
   refine T3 hs ?_
   refine K3 hs ?_
   refine D4 hs rfl (D1 rfl rfl) rfl ?_
   refine fm_ hs ?_
   refine K3 hs ?_
   refine T3 hs ?_
   refine K3 hs ?_
   refine T3 hs ?_
   refine K3 hs ?_
   refine D4 hs rfl (D1 rfl rfl) rfl ?_
   refine fm_ hs ?_
   refine K3 hs ?_
   refine T3 hs ?_
   refine K3 hs ?_
   refine D4 hs rfl (D1 rfl rfl) rfl ?_
   refine fm_ hs ?_
   refine K3 hs ?_
   refine T3 hs ?_
   refine K3 hs ?_
   refine T3 hs ?_
   refine K3 hs ?_
   refine T3 hs ?_
   refine K3 hs ?_
   refine T3 hs ?_
   refine K3 hs ?_
   refine D4 hs rfl (D1 rfl rfl) rfl ?_
   refine fa_ hs ?_
   refine G8 (C9 8) (A8 ?_)
   exact ⟨_, [], [], G5 rfl rfl, List.nil_sublist _, by simp, by rw [A0M hr, hcv], rfl, rfl⟩

def agOf (i j : Nat) : Tm := ⟨4, srt ((i : Nat) : Int) ((j : Nat) : Int), [], 0⟩
def B0s (s : Ps) (a b k : LN) : Prop := ∃ i j m : Nat, i < s.ts.length ∧ j < s.ts.length ∧ a = bts ((i : Nat) : Int) ∧ b = bts ((j : Nat) : Int) ∧ s.ts[m]? = some (agOf i j) ∧ k = bts ((m : Nat) : Int)
def A25 (s : Ps) (a b k : LN) : Prop := if s.real then k = x25 (A0f a 32) (A4p (A0f b 32)) ∧ (∀ x ∈ a, x < 256) ∧ ∀ x ∈ b, x < 256 else B0s s a b k
theorem A25.t {s : Ps} (h : s.real = true) {a b k : LN} : A25 s a b k ↔ k = x25 (A0f a 32) (A4p (A0f b 32)) ∧ (∀ x ∈ a, x < 256) ∧ ∀ x ∈ b, x < 256 := by unfold A25; rw [if_pos h]
theorem A25.f {s : Ps} (h : s.real = false) {a b k : LN} : A25 s a b k ↔ B0s s a b k := by unfold A25; rw [if_neg (by rw [h]; decide)]
theorem B0s.ext {s s' : Ps} {a b k : LN} (h : B0s s a b k) (he : Pext s s') : B0s s' a b k := by
  obtain ⟨l, e⟩ := he.ts
  obtain ⟨i, j, m, h1, h2, h3, h4, h5, h6⟩ := h
  exact ⟨i, j, m, by rw [e, List.length_append]; omega, by rw [e, List.length_append]; omega, h3, h4, by rw [e]; exact A10 h5, h6⟩
theorem A25.ext {s s' : Ps} {a b k : LN} (h : A25 s a b k) (he : Pext s s') : A25 s' a b k := by
  cases hr : s.real with
  | true => rw [A25.t hr] at h; rw [A25.t (he.real.trans hr)]; exact h
  | false => rw [A25.f hr] at h; rw [A25.f (he.real.trans hr)]; exact h.ext he
theorem B0t {s : Ps} (h : s.real = true) (a B : LN) : K0 s a B = s ∧ A0G s a B = x25 (A0f a 32) (A0f B 32) := by unfold K0 A0G; rw [if_pos h, if_pos h]; exact ⟨rfl, rfl⟩
theorem B0u {s : Ps} (h : s.real = false) (a B : LN) : K0 s a B = B2M s a B ∧ A0G s a B = B2N s a B := by unfold K0 A0G; rw [if_neg (by rw [h]; decide), if_neg (by rw [h]; decide)]; exact ⟨rfl, rfl⟩
theorem N3 (s : Ps) (a B : LN) : (K0 s a B).ts.length ≤ s.ts.length + 3 := by
  cases hr : s.real with
  | true => rw [(B0t hr a B).1]; omega
  | false =>
    rw [(B0u hr a B).1]
    have h1 := L9 (ts := s.ts) (ws := a)
    have h2 := L9 (ts := rdT s.ts a) (ws := B)
    have h3 := W7 (ts := rdT (rdT s.ts a) B) (t := agT (rdT (rdT s.ts a) B) ((rdI s.ts a : Nat) : Int) ((rdI (rdT s.ts a) B : Nat) : Int))
    show (add _ _).length ≤ _
    omega
theorem A6D (s : Ps) (a B : LN) : (K0 s a B).n = s.n := by unfold K0; split <;> rfl
theorem Ar.agr {s : Ps} (h : Ar s.ts) (a B : LN) : Ar (K0 s a B).ts := by
  unfold K0
  split
  · exact h
  · refine ((h.rd a).rd B).add fun hk => ?_
    unfold agT at hk ⊢
    split <;> (try split) <;> (try split) <;> simp_all
theorem B0s.inj {s : Ps} {a b a' b' k : LN} (h : B0s s a b k) (h' : B0s s a' b' k) (hl : s.ts.length ≤ 1048576) : (a = a' ∧ b = b') ∨ (a = b' ∧ b = a') := by
  obtain ⟨i, j, m, g1, g2, rfl, rfl, g3, rfl⟩ := h
  obtain ⟨i', j', m', f1, f2, rfl, rfl, f3, e⟩ := h'
  have b1 := (List.getElem?_eq_some_iff.1 g3).1
  have b2 := (List.getElem?_eq_some_iff.1 f3).1
  have := A6o qO qO e
  subst this
  rw [g3] at f3
  have e2 := Option.some.inj f3
  unfold agOf at e2
  injection e2 with _ e3 _ _
  unfold srt at e3
  have e4 : (i = i' ∧ j = j') ∨ (i = j' ∧ j = i') := by split at e3 <;> split at e3 <;> simp at e3 <;> omega
  rcases e4 with ⟨rfl, rfl⟩ | ⟨rfl, rfl⟩
  · exact .inl ⟨rfl, rfl⟩
  · exact .inr ⟨rfl, rfl⟩
def bes (n k x : Nat) : LN := (List.range x).map fun j => n / 2 ^ (8 * (k - 1 - j)) % 256
def beN (n k : Nat) : LN := bes n k k
theorem A6E (n k x : Nat) : (bes n k x).length = x := by simp [bes]
theorem G6 (n k : Nat) : (beN n k).length = k := A6E n k k
theorem A8i (n k x : Nat) : bes n k (x + 1) = bes n k x ++ [n / 2 ^ (8 * (k - 1 - x)) % 256] := by simp [bes, List.range_succ]
theorem B2e (n k x : Nat) : ∀ y ∈ bes n k x, y < 256 := by
  intro y hy
  simp only [bes, List.mem_map] at hy
  obtain ⟨j, _, rfl⟩ := hy
  exact Nat.mod_lt _ qD
theorem B2f (n k : Nat) : ∀ y ∈ beN n k, y < 256 := B2e n k k
theorem A9r {a b : LN} (ha : ∀ x ∈ a, x < 256) (hb : ∀ x ∈ b, x < 256) : ∀ x ∈ a ++ b, x < 256 := fun x hx => (List.mem_append.1 hx).elim (ha x) (hb x)
def bev (ws : LN) : Nat := ws.foldl (fun n b => n * 256 + b) 0
structure Wtr (wb : Nat) (ws : LN) (M : Mem) : Prop where
  ex : ∃ (v : Value) (B : Mem), M = (wb, blk [v] 143) :: B ∧ Sl 1 v ws.length (I2 .u8 ws) B
  lt : ∀ x ∈ ws, x < 256
theorem Wtr.new {b : Nat} : Wtr b [] [(b, blk [vS] 143)] := ⟨⟨_, [], rfl, Sl.nil⟩, fun x h => by cases h⟩
theorem Wtr.eq {wb : Nat} {ws ws' : LN} {M : Mem} (h : Wtr wb ws M) (e : ws = ws') : Wtr wb ws' M := e ▸ h
theorem K5 (wb n k : Nat) (ws : LN) (M A : Mem) (hW : Wtr wb ws M) (hn : n < 18446744073709551616) (hk : k ≤ 8) (hl : ws.length ≤ 1099511627776) : FnX Tryz.prog 65 [(vP wb), .int .u64 ((n : Nat) : Int), (vI k)] M A fun q M J => q = (vP wb) ∧ Wtr wb (ws ++ beN n k) M := by
 obtain ⟨⟨v, B, rfl, hsl⟩, hlt⟩ := hW
 haveI := hsl.cel
 refine FnX.enterZ (N := 33) Tryz.func65 rfl rfl rfl fun w_ => ?_
 refine A7 (E0 0 1 2) (A1 (as_ (A0 (E0 0 1 2) (A6 (A1 (mv_ ?_))))))
 refine A3 (K7 ((k : Int) - 1) rfl rfl (A5A rfl qO qO)) rfl ?_
 refine as_ (A0 (E0 0 1 7) (C3 ?_))
 refine H1 (α := Nat × Value × Mem) (fun x => [(0, (vP wb)), (1, .int .u64 ((n : Nat) : Int)), (7, .int .i64 ((k : Int) - 1 - (x.1 : Int)))]) (fun x => (wb, blk [x.2.1] 143) :: x.2.2) (fun _ => []) (fun x => x.1 ≤ k ∧ Sl 1 x.2.1 (ws ++ bes n k x.1).length (I2 .u8 (ws ++ bes n k x.1)) x.2.2) (fun x => k - x.1) ⟨0, v, B⟩ ⟨Nat.zero_le _, by simpa [bes] using hsl⟩ (kq 0 (kq 1 (kp 7 (by simp; rfl) kn))) .rfl qI ?_
 clear hsl
 rintro ⟨x, v, B⟩ ⟨hx, hsl⟩
 dsimp only at hx hsl ⊢
 haveI := hsl.cel
 have hbl := A6E n k x
 have hll : (ws ++ bes n k x).length = ws.length + x := by rw [List.length_append, hbl]
 refine A6 (A1 (mv_ ?_))
 refine A3 (E9 rfl rfl rfl) rfl ?_
 refine mv_ ?_
 refine P8 (t := 12) rfl (fun hb => ?_) (fun hb => ?_)
 ·
  have hltx : x < k := by simp at hb; omega
  obtain ⟨m, hm, hm2⟩ : ∃ m : Nat, ((k : Int) - 1 - (x : Int)) = (m : Int) ∧ m = k - 1 - x := ⟨k - 1 - x, by omega, rfl⟩
  rw [hm]
  refine C6 rfl rfl (OpQ.opL qm_ rfl ?_)
  refine C6 rfl rfl (OpQ.opL (E7 true rfl rfl (ltT qO)) rfl ?_)
  refine A3 (E6 rfl rfl) rfl ?_
  refine A0 (F2 0 1 7 15) ?_
  refine F3 rfl ?_
  refine A5 (nx (E0 0 1 7) (A6 (C3 ?_)))
  refine N0 [0, 1, 2, 3, 4, 5, 6, 7, 8, 9, 10, 12, 13] (zp 0 [0, 0, 0, 0, 1, 0, 0, 0, 0, 0, 2, 2, 0, 0, 2]) kR kR fun hs => ?_
  refine fm_ hs ?_
  refine fm_ hs ?_
  refine D4 hs rfl (D2 rfl) rfl ?_
  refine D4 hs rfl (qf_ 0 0) rfl ?_
  refine S0 hs rfl ql_ rfl ?_
  refine fm_ hs ?_
  refine fm_ hs ?_
  refine D4 hs rfl (A1j (a := 8) rfl rfl rfl rfl qO) rfl ?_
  refine D4 hs rfl (A5O (a := n) (b := 8 * m) rfl rfl rfl rfl (by show _ ≤ 64; omega)) rfl ?_
  refine D4 hs rfl (A9M rfl kR) rfl ?_
  refine A5J rfl rfl fun _ => (C0 (e := 5) (sz := 1) (z := [.int .u8 0]) kR (eS rfl e0) (bdS 0 1 rfl qR bd0) rfl fun b28 => ?_)
  refine I3 rfl rfl rfl (F9 (e := 5) (sz := 1) (by_ := 1) rfl rfl kR rfl (by first | assumption | exact Sl.nil) (Rd.whole (n := 1) At.mem qR) (by first | (simp [Value.oneCell']; done) | (intro c hc; simp only [List.mem_singleton] at hc; subst hc; first | exact Rd.one (by assumption) | exact Sl.one (by assumption))) qP (by unfold maxLen; omega) qO rfl fun v29 B29 hs29 => ?_)
  refine D4 hs rfl (D2 rfl) rfl ?_
  refine D4 hs rfl (qf_ 0 0) rfl ?_
  refine I3 rfl rfl rfl (F0 rfl rfl hs29.one kR SetC.set UpC.upd ?_)
  refine A1d (nb (nx (E0 0 1 7) (C8 (mv_ ?_))))
  refine A3 (K7 ((m : Int) - 1) rfl rfl (A5A rfl qO qO)) rfl ?_
  refine as_ (E3 ?_)
  exact rn ⟨x + 1, v29, B29⟩ ⟨by dsimp only; omega, by dsimp only; rw [A8i, ← List.append_assoc, ← hm2]; exact A9N hs29 (by simp only [List.length_append, List.length_singleton]) (by simp [I2])⟩ (by dsimp only; omega) (kq 0 (kq 1 (kp 7 (by dsimp only; rw [show ((k : Int) - 1 - ((x + 1 : Nat) : Int)) = (m : Int) - 1 by omega]; rfl) kn))) (Fit.pick (B := [_]) qP (Fit.last qP)) (fun _ h => by first | exact h | cases h)
 ·
  have hge : x = k := by simp at hb; omega
  subst hge
  refine H2 rfl rfl rfl rfl ?_
  refine H2 rfl rfl rfl rfl ?_
  refine A3 (D1 rfl rfl) rfl ?_
  refine A0 (F2 0 1 7 15) ?_
  refine B0 rfl ?_
  refine H0 (te (re (be rfl (nx (C9 0) (A1 (mv_ (as_ (A0 (C9 6) ?_))))))))
  refine A8 ?_
  exact ⟨_, (wb, blk [v] 143) :: B, [], G5 rfl rfl, Fit.none (Fit.last qP), rfl, ⟨⟨v, B, rfl, hsl⟩, A9r hlt (B2f n x)⟩⟩
theorem I7 (wb : Nat) (p : Value) (w ws : LN) (M A : Mem) (hW : Wtr wb ws M) (hp : By A p w) (hl : ws.length ≤ 1099511620000) : FnX Tryz.prog 66 [(vP wb), p] M A fun q M J => q = (vP wb) ∧ Wtr wb (ws ++ beN w.length 4 ++ w) M := by
 haveI := hp.cel
 have hpl := hp.len
 refine FnX.enterZ (N := 20) Tryz.func66 rfl rfl rfl fun w_ => ?_
 refine A7 (C7 0 1) (A1 (as_ (A0 (C7 0 1) (A1 (mv_ (mv_ ?_))))))
 refine A3 (E5 (sz := 1) rfl kR hp.rd) rfl ?_
 refine A3 (A86 rfl kR) rfl ?_
 rw [Nat.mod_eq_of_lt (show w.length < 18446744073709551616 by omega)]
 refine A4 rfl (B3 (Mc := _) (R := _) (aS rfl (aS rfl (aS rfl (a0)))) kR qP (K5 wb w.length 4 ws _ _ hW qO qD qO) rfl ?_)
 rintro v9 M9 J9 ⟨rfl, hW9⟩
 obtain ⟨⟨v, B, rfl, hsl⟩, hlt⟩ := hW9
 haveI := hsl.cel
 have hbl := G6 w.length 4
 have hll : (ws ++ beN w.length 4).length = ws.length + 4 := by rw [List.length_append, hbl]
 refine A0 (C7 0 1) (A1 (mv_ (mv_ ?_)))
 refine A3 (D2 rfl) rfl ?_
 refine A3 (qf_ 0 0) rfl ?_
 refine A3 ql_ rfl ?_
 refine mv_ ?_
 refine A4 rfl (F9 (e := 5) (sz := 1) (by_ := 1) rfl rfl kR rfl hsl (hp.rd.mono qS) T8 qP (by unfold maxLen; omega) qO rfl fun v16 B16 hs16 => ?_)
 refine A3 (D2 rfl) rfl ?_
 refine A3 (qf_ 0 0) rfl ?_
 refine A4 rfl (F0 rfl rfl hs16.one kR SetC.set UpC.upd ?_)
 refine A0 (C9 0) (A1 (mv_ (as_ (A0 (C9 4) (A8 ?_)))))
 exact ⟨_, (wb, blk [v16] 143) :: B16, [], G5 rfl rfl, Fit.none (Fit.pick (B := [_]) qP (Fit.last qP)), rfl, ⟨⟨v16, B16, rfl, A9N hs16 (by simp only [List.length_append]) (by simp [I2])⟩, A9r hlt hp.lt⟩⟩
theorem R4 (wb : Nat) (ws : LN) (M A : Mem) (hW : Wtr wb ws M) (hl : ws.length ≤ 16777216) : FnX Tryz.prog 67 [(vP wb)] M A fun q M J => Wtr wb ws M ∧ By J q ws := by
 obtain ⟨⟨v, B, rfl, hsl⟩, hlt⟩ := hW
 haveI := hsl.cel
 refine FnX.enterZ (N := 8) Tryz.func67 rfl rfl rfl fun w_ => ?_
 refine A7 (C9 0) (A1 (as_ (A0 (C9 0) (A1 (mv_ ?_)))))
 refine A3 (D2 rfl) rfl ?_
 refine A3 (qf_ 0 0) rfl ?_
 refine A3 ql_ rfl ?_
 refine A4 rfl (F9 (e := 5) (sz := 1) (by_ := 1) rfl rfl kR rfl Sl.nil (hsl.rd qS) T8 qP (by unfold maxLen; omega) qO rfl fun v7 B7 hs7 => ?_)
 refine as_ (A0 (C9 2) (A8 ?_))
 exact ⟨_, (wb, blk [v] 143) :: B, B7, G5 rfl rfl, Fit.pick qP (Fit.last qP), ⟨⟨v, B, rfl, hsl⟩, hlt⟩, ⟨by simpa using hs7.rd (R := B7) qS, hlt, hl⟩⟩

def A6F (n : Nat) (w : LN) : LN := beN 6 4 ++ [112, 114, 101, 107, 101, 121] ++ beN n 4 ++ (beN w.length 4 ++ w)
theorem B0v {n : Nat} (h : n < 4294967296) : IntKind.u64.wrap (n : Int) = (n : Int) := A19 qO qO
theorem B0w {R : Mem} {b n : Nat} {w : LN} {e : TypeId} {fr : Nat × Nat} (hm : (b, Obj.cells (I2 .u8 w).toArray e fr) ∈ R) (hn : w.length = n) (hlt : ∀ x ∈ w, x < 256) (hl : w.length ≤ 16777216) : By R (.slice (some ⟨b, 0, none⟩) n n) w := by
  subst hn
  exact ⟨Rd.whole (n := w.length) hm qM, hlt, hl⟩
theorem A26 (n : Nat) (v : Value) (w : LN) (A : Mem) (hn : n < 4294967296) (hv : By A v w) (hl : w.length ≤ 1000000) : FnX Tryz.prog 52 [(vU n), v] [] A fun q M J => M = [] ∧ By J q (A6F n w) := by
 haveI := hv.cel
 refine FnX.enterZ (N := 18) Tryz.func52 rfl rfl rfl fun w_ => ?_
 refine A7 (C7 0 1) (A1 (as_ (A0 (C7 0 1) (A1 ?_))))
 refine A3 (D7 (place := fun x => #[(0, 1)][x]?) (z := [vS]) (fun _ => by kernel_rfl) e0 bd0) rfl ?_
 refine A4 rfl (bx_ fun b7 => ?_)
 refine as_ (A0 (E0 0 1 5) (A1 (mv_ ?_)))
 refine A4 rfl (C0 (e := 5) (sz := 1) (z := [zu8, zu8, zu8, zu8, zu8, zu8]) kR (eS rfl (eS rfl (eS rfl (eS rfl (eS rfl (eS rfl e0)))))) (bdS 0 1 rfl qR (bdS 1 1 rfl qR (bdS 2 1 rfl qR (bdS 3 1 rfl qR (bdS 4 1 rfl qR (bdS 5 1 rfl qR bd0)))))) rfl fun b9 => ?_)
 refine A4 rfl (A5G rfl kR UpC.upd rfl ?_)
 refine A4 rfl (B3 (Mc := [(b7, blk [vS] 143)]) (R := _) (aS rfl (aS rfl (a0))) kR qP (I7 b7 _ [112, 114, 101, 107, 101, 121] [] _ _ Wtr.new (B0w At.mem qR qD qD) qD) rfl ?_)
 rintro v11 M11 J11 ⟨rfl, hW11⟩
 refine mv_ ?_
 refine A3 (L0 (k' := .u64) n rfl kR (B0v qO)) rfl ?_
 refine A4 rfl (B3 (Mc := M11) (R := _) (aS rfl (aS rfl (aS rfl (a0)))) kR qP (K5 b7 n 4 _ _ _ hW11 qO qD (by simp [G6])) rfl ?_)
 rintro v14 M14 J14 ⟨rfl, hW14⟩
 refine mv_ ?_
 refine A4 rfl (B3 (Mc := M14) (R := _) (aS rfl (aS rfl (a0))) kR qP (I7 b7 v w _ _ _ hW14 (hv.mono qS) (by simp [G6])) rfl ?_)
 rintro v16 M16 J16 ⟨rfl, hW16⟩
 refine A4 rfl (B3 (Mc := M16) (R := _) (aS rfl (a0)) kR qP (R4 b7 _ _ _ hW16 (by simp [G6]; omega)) rfl ?_)
 rintro v17 M17 J17 ⟨hW17, hb17⟩
 haveI := hb17.cel
 refine as_ (A0 (C9 4) (A8 ?_))
 exact ⟨_, [], [], G5 rfl rfl, qZ, rfl, by simpa [A6F, List.append_assoc] using hb17.mono qS⟩

end Go.Proofs.YtpemeceacdhacaaGreatDoor
namespace Go.Px
def mkB (P : Program) (t : TypeId) : Option (TypeId × Nat) :=
  match P.underlying t with
  | some (.slice e) => match P.info? e with
    | some i => match i.zero with
      | some (.bool false) => if i.size = 1 then some (e, i.bytes) else none
      | _ => none
    | none => none
  | _ => none
def B2g (h : List Bool) : List Value := h.map .bool
@[simp] theorem bools_len (h : List Bool) : (B2g h).length = h.length := by simp [B2g]
def appB (P : Program) (t tn : TypeId) : Option (TypeId × Nat) :=
  match P.underlying tn with
  | some (.int _) => mkB P t
  | _ => none
section zb
variable {C : Cx} {l : Env} {M J : Mem} {K : Env → Mem → Mem → Prop} {d : Nat} {ty t tn e : TypeId} {pos : String} {af : Array Edge} {g : Option (Nat × Bool)} {x y : Operand}
end zb
section call
variable {C : Cx} {l : Env} {M J : Mem} {K : Env → Mem → Mem → Prop} {d : Nat} {ty : TypeId} {pos : String} {af : Array Edge} {g : Option (Nat × Bool)} {x : Operand} {f : FuncId} {xs : List Operand} {us vs cs : List Value} {ts : Array TypeId}
end call
end Go.Px

namespace Go.Proofs.YtpemeceacdhacaaGreatDoor
open Go.Px
theorem A6G {P : Program} {f : FuncId} {args : List Value} {A A' : Mem} {v : Value} (h : FnV P f args A v) (hs : ∀ x, x ∈ A → x ∈ A') : FnV P f args A' v := by
  intro w hw
  refine Calls.mono (h w ⟨hw.os, hw.tape, hw.output, hw.size, hw.frame, fun b o hb => hw.mem b o (by simpa using hs _ (by simpa using hb)), hw.nodup, hw.own, hw.sepJ, fun b o hb => hw.sepA b o (hs _ hb), hw.old⟩) ?_
  rintro e w' ⟨r, M', J', rfl, ⟨rfl, rfl, rfl⟩, h2⟩
  refine ⟨_, [], [], rfl, ⟨rfl, rfl, rfl⟩, ⟨h2.os, h2.tape, h2.output, h2.size, h2.frame, fun b o hb => ?_, h2.nodup, h2.own, h2.sepJ, fun b o hb => hw.sepA b o hb, h2.old⟩⟩
  have hb' : (b, o) ∈ A' := by simpa using hb
  have h3 := h2.frame b (hw.sepA b o hb').2 qM
  rw [h3]
  exact hw.mem b o (by simpa using hb')
structure Pr where
  n : Nat
  sec : LN
  sig : LN
structure Nm where
  n : Nat
  id : LN
def prR (R : Mem) (x : Pr) (r : List Value) : Prop := ∃ vs vg, r = [(vU x.n), vs, vg] ∧ By R vs x.sec ∧ By R vg x.sig ∧ x.n < 4294967296
theorem prT : RowT 3 prR := ⟨fun R R' x r hR ⟨vo, vk, h1, h2, h3, h4⟩ => ⟨vo, vk, h1, h2.mono hR, h3.mono hR, h4⟩, fun R x r ⟨vo, vk, h1, _⟩ => by rw [h1]; rfl, fun R x r ⟨vo, vk, h1, h2, h3, _⟩ c hc => by
  rw [h1] at hc
  simp only [List.mem_cons, List.not_mem_nil, or_false] at hc
  rcases hc with rfl | rfl | rfl
  · rfl
  · exact h2.one
  · exact h3.one⟩
def nmR (R : Mem) (x : Nm) (r : List Value) : Prop := ∃ vi, r = [(vU x.n), vi] ∧ By R vi x.id ∧ x.n < 4294967296
theorem nmT : RowT 2 nmR := ⟨fun R R' x r hR ⟨vi, h1, h2, h4⟩ => ⟨vi, h1, h2.mono hR, h4⟩, fun R x r ⟨vi, h1, _⟩ => by rw [h1]; rfl, fun R x r ⟨vi, h1, h2, _⟩ c hc => by
  rw [h1] at hc
  simp only [List.mem_cons, List.not_mem_nil, or_false] at hc
  rcases hc with rfl | rfl
  · rfl
  · exact h2.one⟩
theorem eq32 (a b : Nat) : G4 .eql .u32 ((a : Nat) : Int) ((b : Nat) : Int) = some (.bool (decide (a = b))) := by
  by_cases h : a = b
  · rw [decide_eq_true h]; exact eqT qO
  · rw [decide_eq_false h]; exact eqF qO
theorem A11 (v : Value) (rows : List (List Value)) (f : FuncId) (cs : List Value) (p : Nat → Bool) (A : Mem) (hv : Rd A 3 v rows.length rows.flatten) (hl : ∀ r ∈ rows, r.length = 3) (hn : rows.length ≤ 1099511627776) (hc_ : H3 Tryz.prog f = true) (hf : ∀ (j : Nat) (r : List Value), rows[j]? = some r → FnV Tryz.prog f (.agg r.toArray :: cs) A (.bool (p j))) : FnV Tryz.prog 88 [v, .func (.func f) #[] cs.toArray] A (.int .i64 (A2F p rows.length)) := by
 haveI := hv.cel
 refine FnX.enter (N := 19) Tryz.func88 rfl rfl rfl fun w => ?_
 refine A7 (C7 0 1) (A1 (as_ (A0 (C7 0 1) (A6 (A1 (mv_ ?_))))))
 refine A3 (E5 (sz := 3) rfl kR hv) rfl ?_
 refine mv_ (A0 (F2 0 1 7 8) (C3 ?_))
 refine H1 (α := Nat) (fun i => [(0, v), (1, .func (.func f) #[] cs.toArray), (7, (vI rows.length)), (8, .int .i64 (i : Int))]) (fun _ => []) (fun _ => []) (fun i => i ≤ rows.length ∧ ∀ j, j < i → p j = false) (fun i => rows.length - i) 0 ⟨Nat.zero_le _, fun j h => absurd h (Nat.not_lt_zero j)⟩ (F2 0 1 7 8) .rfl qI ?_
 rintro i ⟨hi, hp⟩
 refine A1 ?_
 refine A3 (E9 rfl rfl rfl) rfl ?_
 refine A0 (H5 0 1 7 8 9) (A6 ?_)
 refine C1 rfl ?_ ?_ <;> intro hc
 ·
  have hlt : i < rows.length := by simp at hc; omega
  obtain ⟨r, hr⟩ : ∃ r, rows[i]? = some r := ⟨_, List.getElem?_eq_getElem hlt⟩
  refine A5 (nx (F2 0 1 7 8) (A6 (C3 (A1 (mv_ (as_ (A0 (H5 0 1 5 7 8) (A1 ?_))))))))
  refine mv_ (mv_ (mv_ ?_))
  refine A3 (F1 (sz := 3) rfl rfl kR rfl hv hlt) rfl ?_
  refine A3 (U1 rfl kR (hv.mono qS) hl qD hr) rfl ?_
  refine A4 rfl (W8 rfl (aS rfl a0) hc_ (hf i r hr) rfl ?_)
  refine A0 (I8 0 1 5 7 8 16) ?_
  refine C1 rfl ?_ ?_ <;> intro hc
  ·
   refine A1 (mv_ (as_ (A0 (C9 4) (A8 (br (tr (rr (br ?_))))))))
   refine tr ?_
   exact ⟨_, [], [], G5 rfl rfl, List.nil_sublist _, by simp, by rw [S5 hlt hp hc], rfl, rfl⟩
  ·
   refine A5 (nb (nx (F2 0 1 7 8) (C8 ?_)))
   refine A3 (H6 (b := 1) rfl rfl rfl rfl qO) rfl ?_
   refine mv_ (E3 ?_)
   exact rn (i + 1) ⟨hlt, fun j hj => by rcases Nat.lt_succ_iff_lt_or_eq.1 hj with h | h; exact hp j h; rw [h]; exact hc⟩ qO (F2 0 1 7 8) .rfl qI
 ·
  have hge : i = rows.length := by simp at hc; omega
  subst hge
  refine H0 (te (re (be rfl (nx kn (A1 (as_ (A0 (C9 4) ?_)))))))
  refine A8 ?_
  exact ⟨_, [], [], G5 rfl rfl, List.nil_sublist _, by simp, by rw [S6 hp], rfl, rfl⟩
theorem A48 (v : Value) (rows : List (List Value)) (f : FuncId) (cs : List Value) (p : Nat → Bool) (A : Mem) (hv : Rd A 2 v rows.length rows.flatten) (hl : ∀ r ∈ rows, r.length = 2) (hn : rows.length ≤ 1099511627776) (hc_ : H3 Tryz.prog f = true) (hf : ∀ (j : Nat) (r : List Value), rows[j]? = some r → FnV Tryz.prog f (.agg r.toArray :: cs) A (.bool (p j))) : FnV Tryz.prog 87 [v, .func (.func f) #[] cs.toArray] A (.int .i64 (A2F p rows.length)) := by
 haveI := hv.cel
 refine FnX.enter (N := 19) Tryz.func87 rfl rfl rfl fun w => ?_
 refine A7 (C7 0 1) (A1 (as_ (A0 (C7 0 1) (A6 (A1 (mv_ ?_))))))
 refine A3 (E5 (sz := 2) rfl kR hv) rfl ?_
 refine mv_ (A0 (F2 0 1 7 8) (C3 ?_))
 refine H1 (α := Nat) (fun i => [(0, v), (1, .func (.func f) #[] cs.toArray), (7, (vI rows.length)), (8, .int .i64 (i : Int))]) (fun _ => []) (fun _ => []) (fun i => i ≤ rows.length ∧ ∀ j, j < i → p j = false) (fun i => rows.length - i) 0 ⟨Nat.zero_le _, fun j h => absurd h (Nat.not_lt_zero j)⟩ (F2 0 1 7 8) .rfl qI ?_
 rintro i ⟨hi, hp⟩
 refine A1 ?_
 refine A3 (E9 rfl rfl rfl) rfl ?_
 refine A0 (H5 0 1 7 8 9) (A6 ?_)
 refine C1 rfl ?_ ?_ <;> intro hc
 ·
  have hlt : i < rows.length := by simp at hc; omega
  obtain ⟨r, hr⟩ : ∃ r, rows[i]? = some r := ⟨_, List.getElem?_eq_getElem hlt⟩
  refine A5 (nx (F2 0 1 7 8) (A6 (C3 (A1 (mv_ (as_ (A0 (H5 0 1 5 7 8) (A1 ?_))))))))
  refine mv_ (mv_ (mv_ ?_))
  refine A3 (F1 (sz := 2) rfl rfl kR rfl hv hlt) rfl ?_
  refine A3 (U1 rfl kR (hv.mono qS) hl qD hr) rfl ?_
  refine A4 rfl (W8 rfl (aS rfl a0) hc_ (hf i r hr) rfl ?_)
  refine A0 (I8 0 1 5 7 8 16) ?_
  refine C1 rfl ?_ ?_ <;> intro hc
  ·
   refine A1 (mv_ (as_ (A0 (C9 4) (A8 (br (tr (rr (br ?_))))))))
   refine tr ?_
   exact ⟨_, [], [], G5 rfl rfl, List.nil_sublist _, by simp, by rw [S5 hlt hp hc], rfl, rfl⟩
  ·
   refine A5 (nb (nx (F2 0 1 7 8) (C8 ?_)))
   refine A3 (H6 (b := 1) rfl rfl rfl rfl qO) rfl ?_
   refine mv_ (E3 ?_)
   exact rn (i + 1) ⟨hlt, fun j hj => by rcases Nat.lt_succ_iff_lt_or_eq.1 hj with h | h; exact hp j h; rw [h]; exact hc⟩ qO (F2 0 1 7 8) .rfl qI
 ·
  have hge : i = rows.length := by simp at hc; omega
  subst hge
  refine H0 (te (re (be rfl (nx kn (A1 (as_ (A0 (C9 4) ?_)))))))
  refine A8 ?_
  exact ⟨_, [], [], G5 rfl rfl, List.nil_sublist _, by simp, by rw [S6 hp], rfl, rfl⟩
theorem K2 (v : Value) (w : LN) (A : Mem) (h : By A v w) : FnX Tryz.prog 40 [v] [] A fun r M J => M = [] ∧ By J r w := by
 haveI := h.cel
 have hwl := h.len
 refine FnX.enterZ (N := 8) Tryz.func40 rfl rfl rfl fun w_ => ?_
 refine A7 (C9 0) (A1 (as_ (A0 (C9 0) (A6 (A1 (mv_ ?_))))))
 refine A3 (V4 (e := 5) rfl kR (by first | assumption | exact Sl.rd (by assumption) qI | exact By.rd (by assumption))) rfl ?_
 refine A0 (C7 0 4) ?_
 refine C1 rfl ?_ ?_ <;> intro hc
 ·
  have h0 := h.rd.isNil hc
  obtain rfl : w = [] := List.eq_nil_of_length_eq_zero h0
  refine A1 (as_ (A0 (C9 2) (A8 (tr ?_))))
  exact ⟨_, [], [], G5 rfl rfl, qZ, rfl, By.nil⟩
 ·
  refine A5 (nx (C9 0) (A1 ?_))
  refine A4 rfl (C0 (e := 5) (sz := 1) (z := []) kR e0 bd0 rfl fun b5 => ?_)
  refine mv_ ?_
  refine A4 rfl (F9 (e := 5) (sz := 1) (by_ := 1) rfl rfl kR rfl (Sl.fresh (n := 0) (cs := []) (e := 5) rfl qD) (h.rd.mono qS) T8 qP (by unfold maxLen; omega) qO rfl fun v7 B7 hs7 => ?_)
  refine as_ (A0 (C9 2) (A8 ?_))
  exact ⟨_, [], B7, G5 rfl rfl, Fit.pick qP qZ, rfl, ⟨A3x (hs7.rd fun x hx => by simp [hx]) qO qM, h.lt, h.len⟩⟩
theorem S7 (va vb : Value) (a b : LN) (A : Mem) (ha : By A va a) (hb : By A vb b) : FnV Tryz.prog 26 [va, vb] A (.bool (decide (a = b))) := by
 haveI := ha.cel
 haveI := hb.cel
 refine FnX.enter (N := 10) Tryz.func26 rfl rfl rfl fun w => ?_
 refine A7 (C7 0 1) (A1 (as_ (A0 (C7 0 1) (A1 (mv_ ?_)))))
 refine A3 (Q8 rfl kR (ha.rd.mono qS)) rfl ?_
 refine mv_ ?_
 refine A3 (Q8 rfl kR (hb.rd.mono qS)) rfl ?_
 refine A3 (B1C rfl rfl rfl rfl ha.lt hb.lt) rfl ?_
 refine as_ (A0 (C9 4) (A8 ?_))
 exact ⟨_, [], [], G5 rfl rfl, List.nil_sublist _, by simp, rfl, rfl, rfl⟩
theorem A8j {k : IntKind} (c : Int) : G4 .geq k c 0 = some (.bool (decide (0 ≤ c))) := by
  by_cases h : 0 ≤ c
  · rw [decide_eq_true h]; exact geT h
  · rw [decide_eq_false h]; exact geF qO
theorem A2t (v : Value) (rows : List (List Value)) (f : FuncId) (cs : List Value) (p : Nat → Bool) (A : Mem) (hv : Rd A 3 v rows.length rows.flatten) (hl : ∀ r ∈ rows, r.length = 3) (hn : rows.length ≤ 1099511627776) (hc_ : H3 Tryz.prog f = true) (hf : ∀ (j : Nat) (r : List Value), rows[j]? = some r → FnV Tryz.prog f (.agg r.toArray :: cs) A (.bool (p j))) : FnV Tryz.prog 55 [v, .func (.func f) #[] cs.toArray] A (.bool (decide (0 ≤ A2F p rows.length))) := by
 haveI := hv.cel
 refine FnX.enter (N := 9) Tryz.func55 rfl rfl rfl fun w => ?_
 refine A7 (C7 0 1) (A1 (as_ (A0 (C7 0 1) (A1 (mv_ (mv_ ?_))))))
 refine D6 (aS rfl (aS rfl a0)) kR (A11 v rows f cs p _ (hv.mono qS) hl hn hc_ (fun j r hr => A6G (hf j r hr) qS)) rfl ?_
 refine A3 (E7 (decide (0 ≤ A2F p rows.length)) rfl rfl (A8j _)) rfl ?_
 refine as_ (A0 (C9 4) (A8 ?_))
 exact ⟨_, [], [], G5 rfl rfl, List.nil_sublist _, by simp, rfl, rfl, rfl⟩
theorem A49 (vs vg : Value) (x : Pr) (n b : Nat) (A : Mem) (hs : By A vs x.sec) (hg : By A vg x.sig) (hb : (b, blk [(vU n)] 31) ∈ A) : FnV Tryz.prog 143 [.agg #[(vU x.n), vs, vg], (vP b)] A (.bool (decide (x.n = n))) := by
 haveI := hs.cel
 haveI := hg.cel
 refine FnX.enter (N := 8) Tryz.func143 rfl rfl rfl fun w => ?_
 refine A7 (C7 0 1) (A1 ?_)
 refine A4 rfl (bx_ fun b2 => ?_)
 refine as_ (A0 (C7 1 2) (A1 ?_))
 refine A3 (qf_ 0 0) rfl ?_
 refine A3 ql_ rfl ?_
 refine A3 (G7 rfl kR (mA hb) qR) rfl ?_
 refine A3 (E7 (decide (x.n = n)) rfl rfl (eq32 _ _)) rfl ?_
 refine as_ (A0 (C9 3) (A8 ?_))
 exact ⟨_, [], [], G5 rfl rfl, List.nil_sublist _, by simp, rfl, rfl, rfl⟩
theorem A3K (vs vg vi : Value) (x : Pr) (n b : Nat) (A : Mem) (hs : By A vs x.sec) (hg : By A vg x.sig) (hvi : Cel vi [vi]) (hb : (b, blk [(vU n), vi] 133) ∈ A) : FnV Tryz.prog 56 [.agg #[(vU x.n), vs, vg], (vP b)] A (.bool (decide (x.n = n))) := by
 haveI := hs.cel
 haveI := hg.cel
 refine FnX.enter (N := 9) Tryz.func56 rfl rfl rfl fun w => ?_
 refine A7 (C7 0 1) (A1 ?_)
 refine A4 rfl (bx_ fun b2 => ?_)
 refine as_ (A0 (C7 1 2) (A1 ?_))
 refine A3 (qf_ 0 0) rfl ?_
 refine A3 ql_ rfl ?_
 refine A3 (qf_ 0 0) rfl ?_
 refine A3 (G7 rfl kR (mA hb) qR) rfl ?_
 refine A3 (E7 (decide (x.n = n)) rfl rfl (eq32 _ _)) rfl ?_
 refine as_ (A0 (C9 3) (A8 ?_))
 exact ⟨_, [], [], G5 rfl rfl, List.nil_sublist _, by simp, rfl, rfl, rfl⟩

structure Ks where
  user : Int
  dev : Int
  agree : LN
  sign : LN
  signed : List Pr
  once : List Pr
  next : Nat
  met : List Nm
def A1x (n : Nat) (x : Pr) : Bool := decide (x.n = n)
def tstN (n : Nat) (w : LN) (x : Nm) : Bool := decide (x.n = n) && decide (x.id = w)
def A12 (l : List Pr) (n : Nat) : Option (LN) := if K1 (A1x n) l < 0 then none else (l[(K1 (A1x n) l).toNat]?).map (·.sec)
theorem A2u {l : List Pr} {n : Nat} (h : K1 (A1x n) l = -1) : A12 l n = none := if_pos (by rw [h]; decide)
theorem A04 {l : List Pr} {n i : Nat} {x : Pr} (h : K1 (A1x n) l = (i : Int)) (hx : l[i]? = some x) : A12 l n = some x.sec := by
  unfold A12; rw [h, if_neg qO, Int.toNat_natCast, hx]; rfl
def kyC (k : Ks) (va vg vs vo vm : Value) : List Value := [.int .i64 k.user, .int .i64 k.dev, va, vg, vs, vo, (vU k.next), vm]
structure KyR (R : Mem) (kb : Nat) (k : Ks) (va vg vs vo vm : Value) (rs ro rm : List (List Value)) : Prop where
  blk_ : (kb, blk [.int .i64 k.user, .int .i64 k.dev, va, vg, vs, vo, (vU k.next), vm] 98) ∈ R
  agree : By R va k.agree
  sign : By R vg k.sign
  signed : Rd R 3 vs k.signed.length rs.flatten
  signedR : RwL prR R rs k.signed
  once : Rd R 3 vo k.once.length ro.flatten
  onceR : RwL prR R ro k.once
  met : Rd R 2 vm k.met.length rm.flatten
  metR : RwL nmR R rm k.met
  next : k.next < 4294967296
  l1 : k.signed.length ≤ 1000000
  l2 : k.once.length ≤ 1000000
  l3 : k.met.length ≤ 1000000
theorem KyR.mono {R R' : Mem} {kb : Nat} {k : Ks} {va vg vs vo vm : Value} {rs ro rm : List (List Value)} (h : KyR R kb k va vg vs vo vm rs ro rm) (hR : ∀ x, x ∈ R → x ∈ R') : KyR R' kb k va vg vs vo vm rs ro rm :=
  ⟨hR _ h.blk_, h.agree.mono hR, h.sign.mono hR, h.signed.mono hR, h.signedR.mono prT hR, h.once.mono hR, h.onceR.mono prT hR, h.met.mono hR, h.metR.mono nmT hR, h.next, h.l1, h.l2, h.l3⟩
theorem A6H {l : List Pr} {rows : List (List Value)} {n b : Nat} {A : Mem} (hR : RwL prR A rows l) (hb : (b, blk [(vU n)] 31) ∈ A) :
    ∀ (j : Nat) (r : List Value), rows[j]? = some r → FnV Tryz.prog 143 (.agg r.toArray :: [(vP b)]) A (.bool ((fun j => (l[j]?.map (A1x n)).getD false) j)) := fun j r hr => by
  obtain ⟨x, hx, vs, vg, rfl, hs, hg, _⟩ := hR.of hr
  dsimp only
  rw [hx]
  exact A49 vs vg x n b _ hs hg hb
theorem B2h (v : Value) (rows : List (List Value)) (l : List Pr) (n : Nat) (A : Mem) (hv : Rd A 3 v l.length rows.flatten) (hR : RwL prR A rows l) (hl : l.length ≤ 1000000) : FnX Tryz.prog 104 [v, (vU n)] [] A fun r M J => M = [] ∧ ∃ q, r = .tuple #[q, .bool (A12 l n).isSome] ∧ By J q ((A12 l n).getD []) := by
 haveI := hv.cel
 refine FnX.enterZ (N := 18) Tryz.func104 rfl rfl rfl fun w_ => ?_
 refine A7 (C7 0 1) (A1 ?_)
 refine A4 rfl (bx_ fun b3 => ?_)
 refine as_ (as_ (A0 (C7 0 3) (A1 (mv_ ?_))))
 refine A3 (A0v (aS rfl a0)) rfl ?_
 refine D6 (aS rfl (aS rfl a0)) kR (A11 v rows 143 [(vP b3)] (fun j => (l[j]?.map (A1x n)).getD false) _ (by rw [hR.len]; exact hv.mono qS) (hR.lens prT) (by rw [hR.len]; omega) kR (A6H (hR.mono prT qS) At.mem)) rfl ?_
 rw [hR.len, show A2F (fun j => (l[j]?.map (A1x n)).getD false) l.length = K1 (A1x n) l from rfl]
 refine as_ (A0 (C7 0 6) (A6 (A1 (mv_ ?_))))
 refine A3 (E9 rfl rfl rfl) rfl ?_
 refine A0 (E0 0 6 11) ?_
 refine C1 rfl ?_ ?_ <;> intro hc
 ·
  have hf : K1 (A1x n) l = -1 := by
   obtain ⟨hf, hz⟩ | ⟨i, x, hf, hxi, hq, hmin⟩ := I6 (A1x n) l
   · exact hf
   · rw [hf] at hc; (simp at hc) <;> omega
  refine A1 (as_ (as_ (A0 (C7 4 5) (A8 (tr ?_)))))
  exact ⟨_, [], [], A0K rfl rfl rfl, qZ, rfl, _, by rw [A2u hf]; rfl, by rw [A2u hf]; exact By.nil⟩
 ·
  obtain ⟨hf, hz⟩ | ⟨i, x, hf, hxi, hq, hmin⟩ := I6 (A1x n) l
  · rw [hf] at hc; simp at hc
  have hil := (List.getElem?_eq_some_iff.1 hxi).1
  rw [hf]
  obtain ⟨r, hr, vs, vg, rfl, hs, hg, hxn⟩ := hR.get i x hxi
  haveI := hs.cel
  refine A5 (nx (C7 0 6) (A1 (mv_ (mv_ ?_))))
  refine A3 (F1 (sz := 3) rfl rfl kR rfl hv hil) rfl ?_
  refine A3 (A4k (off := 1) rfl hv hil kR) rfl ?_
  refine A3 (A4l (u := vs) rfl (hv.mono qS) qO kR (by rw [W3 (hR.lens prT) hr 1 qD]; rfl)) rfl ?_
  refine E4 (aS rfl a0) kR (K2 vs x.sec _ (hs.mono qS)) rfl ?_
  rintro v17 M17 J17 ⟨rfl, h17⟩
  haveI := h17.cel
  refine as_ (as_ (A0 (C7 4 5) (A8 ?_)))
  exact ⟨_, [], [], A0K rfl rfl rfl, qZ, rfl, _, by rw [A04 hf hxi]; rfl, by rw [A04 hf hxi]; exact h17.mono qS⟩
theorem A8k (kb : Nat) (k : Ks) (va vg vs vo vm : Value) (rs ro rm : List (List Value)) (n : Nat) (A : Mem) (hK : KyR A kb k va vg vs vo vm rs ro rm) : FnX Tryz.prog 76 [(vP kb), (vU n)] [] A fun r M J => M = [] ∧ ∃ q, r = .tuple #[q, .bool (A12 k.signed n).isSome] ∧ By J q ((A12 k.signed n).getD []) := by
 have hkb := hK.blk_
 haveI := hK.agree.cel
 haveI := hK.sign.cel
 haveI := hK.signed.cel
 haveI := hK.once.cel
 haveI := hK.met.cel
 refine FnX.enterZ (N := 16) Tryz.func76 rfl rfl rfl fun w_ => ?_
 refine A7 (C7 0 1) (A1 (as_ (as_ (A0 (C7 0 1) (A6 (A1 (mv_ ?_)))))))
 refine A3 (D0 (e := 98) rfl rfl kR) rfl ?_
 refine A0 (E0 0 1 7) ?_
 refine B0 rfl ?_
 refine A5 (nx (C7 0 1) (A1 (mv_ ?_)))
 refine A3 (D2 rfl) rfl ?_
 refine A3 (qf_ 4 4) rfl ?_
 refine A3 (G7 rfl kR (mA hkb) qR) rfl ?_
 refine mv_ ?_
 refine E4 (aS rfl (aS rfl a0)) kR (B2h vs rs k.signed n _ (hK.signed.mono qS) (hK.signedR.mono prT qS) hK.l1) rfl ?_
 rintro r13 M13 J13 ⟨rfl, q, rfl, hq⟩
 haveI := hq.cel
 refine A3 (U6 rfl) rfl ?_
 refine A3 (U0 rfl) rfl ?_
 refine as_ (as_ (A0 (C7 4 5) (A8 ?_)))
 exact ⟨_, [], [], A0K rfl rfl rfl, qZ, rfl, _, rfl, hq.mono qS⟩
theorem B2i (kb : Nat) (k : Ks) (va vg vs vo vm : Value) (rs ro rm : List (List Value)) (A : Mem) (hK : KyR A kb k va vg vs vo vm rs ro rm) : FnV Tryz.prog 37 [(vP kb)] A (.agg #[.int .i64 k.user, .int .i64 k.dev]) := by
 have hkb := hK.blk_
 haveI := hK.agree.cel
 haveI := hK.sign.cel
 haveI := hK.signed.cel
 haveI := hK.once.cel
 haveI := hK.met.cel
 refine FnX.enter (N := 10) Tryz.func37 rfl rfl rfl fun w => ?_
 refine A7 (C9 0) (A1 ?_)
 refine A4 rfl (C5 (cs := [.int .i64 0, .int .i64 0]) kR rfl fun b2 => ?_)
 refine A0 (C7 0 2) (A6 (A1 (mv_ ?_)))
 refine A3 (D0 (e := 98) rfl rfl kR) rfl ?_
 refine A0 (E0 0 2 4) ?_
 refine B0 rfl ?_
 refine A5 (nx (C7 0 2) (A1 (mv_ ?_)))
 refine A3 (D2 rfl) rfl ?_
 refine A3 (qf_ 0 0) rfl ?_
 refine A3 (A1i (n := 2) rfl kR (mA hkb) TakeC.take) rfl ?_
 refine A4 rfl (A9 rfl rfl Cel.cel kR ln2 al2 UpC.upd ?_)
 refine A0 (C9 2) (A8 ?_)
 exact ⟨_, [], [], B1l rfl rfl kR At.mem qR, List.nil_sublist _, by simp, rfl, rfl, rfl⟩
theorem A4y (kb : Nat) (k : Ks) (va vg vs vo vm : Value) (rs ro rm : List (List Value)) (A : Mem) (hK : KyR A kb k va vg vs vo vm rs ro rm) : FnX Tryz.prog 63 [(vP kb)] [] A fun r M J => M = [] ∧ By J r k.agree := by
 have hkb := hK.blk_
 haveI := hK.agree.cel
 haveI := hK.sign.cel
 haveI := hK.signed.cel
 haveI := hK.once.cel
 haveI := hK.met.cel
 refine FnX.enterZ (N := 10) Tryz.func63 rfl rfl rfl fun w_ => ?_
 refine A7 (C9 0) (A1 (as_ (A0 (C9 0) (A6 (A1 (mv_ ?_))))))
 refine A3 (D0 (e := 98) rfl rfl kR) rfl ?_
 refine A0 (C7 0 4) ?_
 refine B0 rfl ?_
 refine A5 (nx (C9 0) (A1 (mv_ ?_)))
 refine A3 (D2 rfl) rfl ?_
 refine A3 (qf_ 2 2) rfl ?_
 refine A3 (G7 rfl kR (mA hkb) qR) rfl ?_
 refine E4 (aS rfl a0) kR (K2 va k.agree _ (hK.agree.mono qS)) rfl ?_
 rintro r9 M9 J9 ⟨rfl, h9⟩
 haveI := h9.cel
 refine as_ (A0 (C9 2) (A8 ?_))
 exact ⟨_, [], [], G5 rfl rfl, qZ, rfl, h9.mono qS⟩

def A8l (a b : Nat) : Int := if a < b then -1 else if b < a then 1 else 0
theorem A3L {a b : Nat} (h : a < b) : A8l a b = -1 := if_pos h
theorem A3M {a b : Nat} (h : b < a) : A8l a b = 1 := by unfold A8l; rw [if_neg qO, if_pos h]
theorem A3N {a b : Nat} (h : a = b) : A8l a b = 0 := by unfold A8l; rw [if_neg qO, if_neg qO]
theorem A8m (a b : Nat) : G4 .lss .i64 (A8l a b) 0 = some (.bool (decide (a < b))) := by
  rcases Nat.lt_trichotomy a b with h | h | h
  · rw [A3L h, decide_eq_true h]; rfl
  · rw [A3N h, decide_eq_false qO]; rfl
  · rw [A3M h, decide_eq_false qO]; rfl
theorem A8n (a b : Nat) : G4 .eql .i64 (A8l a b) 0 = some (.bool (decide (a = b))) := by
  rcases Nat.lt_trichotomy a b with h | h | h
  · rw [A3L h, decide_eq_false qO]; rfl
  · rw [A3N h, decide_eq_true h]; rfl
  · rw [A3M h, decide_eq_false qO]; rfl
theorem lt32 (a b : Nat) : G4 .lss .u32 ((a : Nat) : Int) ((b : Nat) : Int) = some (.bool (decide (a < b))) := by
  by_cases h : a < b
  · rw [decide_eq_true h]; exact ltT qO
  · rw [decide_eq_false h]; exact ltF qO
theorem gt32 (a b : Nat) : G4 .gtr .u32 ((a : Nat) : Int) ((b : Nat) : Int) = some (.bool (decide (b < a))) := by
  by_cases h : b < a
  · rw [decide_eq_true h]; exact gtT qO
  · rw [decide_eq_false h]; exact gtF qO
def A9s (l : List Pr) : Prop := ∀ (i j : Nat) (x y : Pr), i < j → l[i]? = some x → l[j]? = some y → x.n < y.n
theorem A8o {l : List Pr} {n i : Nat} {x : Pr} (hx : l[i]? = some x) (hn : x.n = n) (h : ∀ (j : Nat) (y : Pr), j < i → l[j]? = some y → y.n < n) : K1 (A1x n) l = (i : Int) := by
  have hil := (List.getElem?_eq_some_iff.1 hx).1
  refine S5 hil (fun j hj => ?_) (by rw [hx]; simp [A1x, hn])
  have hjl : j < l.length := by omega
  rw [List.getElem?_eq_getElem hjl]
  have := h j _ hj (List.getElem?_eq_getElem hjl)
  simp [A1x]; omega
theorem A5a {l : List Pr} {n : Nat} (h : ∀ (j : Nat) (y : Pr), l[j]? = some y → y.n ≠ n) : K1 (A1x n) l = -1 := by
  refine S6 fun j hj => ?_
  rw [List.getElem?_eq_getElem hj]
  have := h j _ (List.getElem?_eq_getElem hj)
  simp [A1x, this]
structure BsR (l : List Pr) (n i : Nat) (b : Bool) : Prop where
  le : i ≤ l.length
  lt : ∀ (j : Nat) (y : Pr), j < i → l[j]? = some y → y.n < n
  ge : ∀ (j : Nat) (y : Pr), i ≤ j → l[j]? = some y → n ≤ y.n
  at_ : b = true ↔ ∃ x, l[i]? = some x ∧ x.n = n
theorem BsR.yes {l : List Pr} {n i : Nat} (h : BsR l n i true) : ∃ x, l[i]? = some x ∧ K1 (A1x n) l = (i : Int) := by
  obtain ⟨x, hx, hn⟩ := h.at_.1 rfl
  exact ⟨x, hx, A8o hx hn h.lt⟩
theorem BsR.no {l : List Pr} {n i : Nat} (hr : A9s l) (h : BsR l n i false) : K1 (A1x n) l = -1 := by
  refine A5a fun j y hy hn => ?_
  rcases Nat.lt_trichotomy j i with hj | hj | hj
  · have := h.lt j y hj hy; omega
  · subst hj
    have := h.at_.2 ⟨y, hy, hn⟩
    cases this
  · have hjl := (List.getElem?_eq_some_iff.1 hy).1
    have hil : i < l.length := by omega
    have h1 := h.ge i _ (Nat.le_refl _) (List.getElem?_eq_getElem hil)
    have h2 := hr i j _ y hj (List.getElem?_eq_getElem hil) hy
    omega
theorem A27 (x : Int) (A : Mem) : FnV Tryz.prog 144 [.int .u32 x] A (.bool false) := by
 refine FnX.enter (N := 6) Tryz.func144 rfl rfl rfl fun w => ?_
 refine A7 (C9 0) (A1 (as_ (A0 (C9 0) (A1 (mv_ (mv_ ?_))))))
 refine A3 (E7 false rfl rfl (neF rfl)) rfl ?_
 refine as_ (A0 (C9 2) (A8 ?_))
 exact ⟨_, [], [], G5 rfl rfl, List.nil_sublist _, by simp, rfl, rfl, rfl⟩
theorem A3O (a b : Nat) (A : Mem) : FnV Tryz.prog 107 [(vU a), (vU b)] A (.int .i64 (A8l a b)) := by
 refine FnX.enter (N := 20) Tryz.func107 rfl rfl rfl fun w => ?_
 refine A7 (C7 0 1) (A1 (as_ (A0 (C7 0 1) (A1 (mv_ ?_)))))
 refine D6 (aS rfl a0) kR (A27 _ _) rfl ?_
 refine as_ (A0 (E0 0 1 5) (A1 (mv_ ?_)))
 refine D6 (aS rfl a0) kR (A27 _ _) rfl ?_
 refine as_ (A0 (F2 0 1 5 6) (A6 (A1 (mv_ (A0 (F2 0 1 6 11) ?_)))))
 refine B0 rfl ?_
 refine A5 (nx (E0 0 1 6) (A6 (A1 (mv_ (A0 (E0 0 1 13) ?_)))))
 refine B0 rfl ?_
 refine A5 (nx (C7 0 1) (A6 (A1 (mv_ (mv_ ?_)))))
 refine A3 (E7 (decide (a < b)) rfl rfl (lt32 _ _)) rfl ?_
 refine A0 (E0 0 1 16) ?_
 refine C1 rfl ?_ ?_ <;> intro hc
 ·
  have hab : a < b := of_decide_eq_true hc
  refine A1 (as_ (A0 (C9 4) (A8 (tr ?_))))
  exact ⟨_, [], [], G5 rfl rfl, List.nil_sublist _, by simp, by rw [A3L hab], rfl, rfl⟩
 ·
  have hab : ¬ a < b := of_decide_eq_false hc
  refine A5 (nx (C7 0 1) (A6 (A1 (mv_ (mv_ ?_)))))
  refine A3 (E7 (decide (b < a)) rfl rfl (gt32 _ _)) rfl ?_
  refine A0 (C9 19) ?_
  refine C1 rfl ?_ ?_ <;> intro hc
  ·
   have hba : b < a := of_decide_eq_true hc
   refine A1 (as_ (A0 (C9 4) (A8 (tr ?_))))
   exact ⟨_, [], [], G5 rfl rfl, List.nil_sublist _, by simp, by rw [A3M hba], rfl, rfl⟩
  ·
   have hba : ¬ b < a := of_decide_eq_false hc
   refine A5 (nx kn (A1 (as_ (A0 (C9 4) (A8 ?_)))))
   exact ⟨_, [], [], G5 rfl rfl, List.nil_sublist _, by simp, by rw [A3N qO], rfl, rfl⟩
theorem A13 (vs vg : Value) (x : Pr) (n : Nat) (A : Mem) (hs : By A vs x.sec) (hg : By A vg x.sig) : FnV Tryz.prog 106 [.agg #[(vU x.n), vs, vg], (vU n)] A (.int .i64 (A8l x.n n)) := by
 haveI := hs.cel
 haveI := hg.cel
 refine FnX.enter (N := 9) Tryz.func106 rfl rfl rfl fun w => ?_
 refine A7 (C7 0 1) (A1 ?_)
 refine A4 rfl (bx_ fun b2 => ?_)
 refine as_ (A0 (C7 1 2) (A1 ?_))
 refine A3 (qf_ 0 0) rfl ?_
 refine A3 ql_ rfl ?_
 refine mv_ ?_
 refine D6 (aS rfl (aS rfl a0)) kR (A3O x.n n _) rfl ?_
 refine as_ (A0 (C9 4) (A8 ?_))
 exact ⟨_, [], [], G5 rfl rfl, List.nil_sublist _, by simp, rfl, rfl, rfl⟩
theorem A6I (v : Value) (rows : List (List Value)) (l : List Pr) (n : Nat) (A : Mem) (hv : Rd A 3 v l.length rows.flatten) (hR : RwL prR A rows l) (hrise : A9s l) (hl : l.length ≤ 1000000) : FnX Tryz.prog 105 [v, (vU n), .func (.func 106) #[] #[]] [] A fun r M J => M = [] ∧ J = [] ∧ ∃ i b, r = .tuple #[(vI i), .bool b] ∧ BsR l n i b := by
  haveI := hv.cel
  refine FnX.enter (N := 49) Tryz.func105 rfl rfl rfl fun w => ?_
  refine A7 (E0 0 1 2) (A1 (as_ (as_ (A0 (E0 0 1 2) (A1 (mv_ ?_))))))
  refine A3 (E5 (sz := 3) rfl kR hv) rfl ?_
  refine as_ (A0 (F2 0 1 2 8) (A1 (mv_ (as_ (as_ (A0 (I8 0 1 2 8 9 10) (A6 (C3 ?_))))))))
  refine H1 (α := Nat × Nat) (fun y => [(0, v), (1, (vU n)), (2, .func (.func 106) #[] #[]), (8, (vI l.length)), (9, (vI y.1)), (10, (vI y.2))]) (fun _ => []) (fun _ => []) (fun y => y.1 ≤ y.2 ∧ y.2 ≤ l.length ∧ (∀ (j : Nat) (z : Pr), j < y.1 → l[j]? = some z → z.n < n) ∧ (∀ (j : Nat) (z : Pr), y.2 ≤ j → l[j]? = some z → n ≤ z.n)) (fun y => y.2 - y.1) (0, l.length) ⟨Nat.zero_le _, Nat.le_refl _, fun j z h => by omega, fun j z h1 h2 => by have := (List.getElem?_eq_some_iff.1 h2).1; omega⟩ (I8 0 1 2 8 9 10) .rfl qI ?_
  rintro ⟨lo, hi⟩ ⟨h1, h2, h3, h4⟩
  dsimp only at h1 h2 h3 h4 ⊢
  refine A6 (A1 (mv_ (mv_ ?_)))
  refine A3 (E9 rfl rfl rfl) rfl ?_
  refine A0 (R8 0 1 2 8 9 10 17) ?_
  refine C1 rfl ?_ ?_ <;> intro hc
  ·
    have hlt : lo < hi := by simp at hc; omega
    obtain ⟨h, hh⟩ : ∃ h, (lo + hi) / 2 ^ 1 = h := ⟨_, rfl⟩
    have hh1 : lo ≤ h ∧ h < hi := by omega
    obtain ⟨x, hx⟩ : ∃ x, l[h]? = some x := ⟨_, List.getElem?_eq_getElem qO⟩
    obtain ⟨r, hr, vs, vg, rfl, hs_, hg_, hxn⟩ := hR.get h x hx
    haveI := hs_.cel
    haveI := hg_.cel
    refine A5 (nx (I8 0 1 2 8 9 10) (C3 (A1 (mv_ (mv_ ?_)))))
    refine A3 (K7 ((lo + hi : Nat) : Int) rfl rfl (T4 qO qO qO)) rfl ?_
    refine A3 (L0 (k' := .u64) (lo + hi) rfl kR (A19 qO qO)) rfl ?_
    refine A3 (hh ▸ A5O (a := lo + hi) (b := 1) rfl rfl rfl rfl qD) rfl ?_
    refine A3 (L0 (k' := .i64) h rfl kR (B1r qO)) rfl ?_
    refine as_ (A0 (R8 0 1 2 8 9 10 11) (A1 (mv_ (mv_ (mv_ ?_)))))
    refine A3 (F1 (sz := 3) rfl rfl kR rfl hv (show h < l.length by omega)) rfl ?_
    refine A3 (U1 rfl kR (hv.mono qS) (hR.lens prT) qD hr) rfl ?_
    refine mv_ ?_
    refine A4 rfl (W8 rfl (aS rfl (aS rfl a0)) kR (A13 vs vg x n _ (hs_.mono qS) (hg_.mono qS)) rfl ?_)
    refine A3 (E7 (decide (x.n < n)) rfl rfl (A8m _ _)) rfl ?_
    refine A0 (A0e 0 1 2 8 9 10 11 31) ?_
    refine C1 rfl ?_ ?_ <;> intro hc
    ·
      have hxl : x.n < n := of_decide_eq_true hc
      refine C8 (mv_ ?_)
      refine A3 (K7 ((h + 1 : Nat) : Int) rfl rfl (T4 qO qO qO)) rfl ?_
      refine as_ (E3 (nb ?_))
      exact rn (h + 1, hi) ⟨by dsimp only; omega, h2, fun j z hj hz => by
        dsimp only at hj
        rcases Nat.lt_or_ge j h with hjh | hjh
        · have := hrise j h z x hjh hz hx; omega
        · obtain rfl : j = h := by omega
          rw [hx] at hz; cases hz; exact hxl, h4⟩ (by dsimp only; omega) (I8 0 1 2 8 9 10) .rfl qI
    ·
      have hxl : ¬ x.n < n := of_decide_eq_false hc
      refine C8 (mv_ (as_ (E3 (nb ?_))))
      exact rn (lo, h) ⟨by dsimp only; omega, by dsimp only; omega, h3, fun j z hj hz => by
        dsimp only at hj
        rcases Nat.lt_or_ge h j with hjh | hjh
        · have := hrise h j x z hjh hx hz; omega
        · obtain rfl : j = h := by omega
          rw [hx] at hz; cases hz; omega⟩ (by dsimp only; omega) (I8 0 1 2 8 9 10) .rfl qI
  ·
    have hlt : lo = hi := by simp at hc; omega
    subst hlt
    refine H0 (te (re (be rfl (nx (H5 0 1 2 8 9) (A1 (mv_ (mv_ (mv_ ?_))))))))
    refine A3 (E9 rfl rfl rfl) rfl ?_
    refine mv_ ?_
    refine P8 (t := 39) rfl (fun hb => ?_) (fun hb => ?_)
    ·
      have hlo : lo < l.length := by simp at hb; omega
      obtain ⟨x, hx⟩ : ∃ x, l[lo]? = some x := ⟨_, List.getElem?_eq_getElem hlo⟩
      obtain ⟨r, hr, vs, vg, rfl, hs_, hg_, hxn⟩ := hR.get lo x hx
      haveI := hs_.cel
      haveI := hg_.cel
      refine C6 rfl rfl (OpQ.opL qm_ rfl ?_)
      refine C6 rfl rfl (OpQ.opL qm_ rfl ?_)
      refine C6 rfl rfl (OpQ.opL qm_ rfl ?_)
      refine C6 rfl rfl (OpQ.opL (F1 (sz := 3) rfl rfl kR rfl hv hlo) rfl ?_)
      refine C6 rfl rfl (OpQ.opL (U1 rfl kR (hv.mono qS) (hR.lens prT) qD hr) rfl ?_)
      refine C6 rfl rfl (OpQ.opL qm_ rfl ?_)
      refine C6 rfl rfl (W8 rfl (aS rfl (aS rfl a0)) kR (A13 vs vg x n _ (hs_.mono qS) (hg_.mono qS)) rfl ?_)
      refine C6 rfl rfl (OpQ.opL (E7 (decide (x.n = n)) rfl rfl (A8n _ _)) rfl ?_)
      refine A3 (E6 rfl rfl) rfl ?_
      refine as_ (as_ (A0 (C7 6 7) (A8 ?_)))
      exact ⟨_, [], [], A0K rfl rfl rfl, List.nil_sublist _, by simp, rfl, rfl, lo, _, rfl, h2, h3, h4, by rw [hx]; simp⟩
    ·
      have hlo : ¬ lo < l.length := by simp at hb; omega
      refine H2 rfl rfl rfl rfl ?_
      refine H2 rfl rfl rfl rfl ?_
      refine H2 rfl rfl rfl rfl ?_
      refine H2 rfl rfl rfl rfl ?_
      refine H2 rfl rfl rfl rfl ?_
      refine H2 rfl rfl rfl rfl ?_
      refine H2 rfl rfl rfl rfl ?_
      refine H2 rfl rfl rfl rfl ?_
      refine A3 (D1 rfl rfl) rfl ?_
      refine as_ (as_ (A0 (C7 6 7) (A8 ?_)))
      exact ⟨_, [], [], A0K rfl rfl rfl, List.nil_sublist _, by simp, rfl, rfl, lo, _, rfl, h2, h3, h4, by rw [List.getElem?_eq_none qO]; simp⟩
theorem B2j (kb : Nat) (k : Ks) (va vg vs vo vm : Value) (rs ro rm : List (List Value)) (n : Nat) (A : Mem) (hK : KyR A kb k va vg vs vo vm rs ro rm) (hrise : A9s k.once) : FnX Tryz.prog 77 [(vP kb), (vU n)] [] A fun r M J => M = [] ∧ ∃ q, r = .tuple #[q, .bool (A12 k.once n).isSome] ∧ By J q ((A12 k.once n).getD []) := by
 have hkb := hK.blk_
 haveI := hK.agree.cel
 haveI := hK.sign.cel
 haveI := hK.signed.cel
 haveI := hK.once.cel
 haveI := hK.met.cel
 refine FnX.enterZ (N := 30) Tryz.func77 rfl rfl rfl fun w_ => ?_
 refine A7 (C7 0 1) (A1 (as_ (as_ (A0 (C7 0 1) (A6 (A1 (mv_ ?_)))))))
 refine A3 (D0 (e := 98) rfl rfl kR) rfl ?_
 refine A0 (E0 0 1 9) ?_
 refine B0 rfl ?_
 refine A5 (nx (C7 0 1) (A1 (mv_ ?_)))
 refine A3 (D2 rfl) rfl ?_
 refine A3 (qf_ 5 5) rfl ?_
 refine A3 (G7 rfl kR (mA hkb) qR) rfl ?_
 refine mv_ ?_
 refine E4 (aS rfl (aS rfl (aS rfl a0))) kR (A6I vo ro k.once n _ (hK.once.mono qS) (hK.onceR.mono prT qS) hrise hK.l2) rfl ?_
 rintro r16 M16 J16 ⟨rfl, rfl, i, b, rfl, hb⟩
 refine mv_ ?_
 refine A3 (U6 rfl) rfl ?_
 refine A3 (U0 rfl) rfl ?_
 refine as_ (as_ (A0 (E0 0 6 7) (A6 ?_)))
 cases b
 ·
  have hf := hb.no hrise
  refine A1 (mv_ ?_)
  refine A3 (P2 rfl) rfl ?_
  refine A0 (E0 0 6 20) ?_
  refine F3 rfl ?_
  refine A1 (as_ (as_ (A0 (C7 4 5) (A8 (tr ?_)))))
  exact ⟨_, [], [], A0K rfl rfl rfl, qZ, rfl, _, by rw [A2u hf]; rfl, by rw [A2u hf]; exact By.nil⟩
 ·
  obtain ⟨x, hx, hf⟩ := hb.yes
  have hil := (List.getElem?_eq_some_iff.1 hx).1
  obtain ⟨r, hr, vs_, vg_, rfl, hs_, hg_, hxn⟩ := hK.onceR.get i x hx
  haveI := hs_.cel
  refine A1 (mv_ ?_)
  refine A3 (P2 rfl) rfl ?_
  refine A0 (E0 0 6 20) ?_
  refine B0 rfl ?_
  refine A5 (nx (C7 0 6) (A1 (mv_ ?_)))
  refine A3 (D2 rfl) rfl ?_
  refine A3 (qf_ 5 5) rfl ?_
  refine A3 (G7 rfl kR (mA hkb) qR) rfl ?_
  refine mv_ ?_
  refine A3 (F1 (sz := 3) rfl rfl kR rfl hK.once hil) rfl ?_
  refine A3 (A4k (off := 1) rfl hK.once hil kR) rfl ?_
  refine A3 (A4l (u := vs_) rfl (hK.once.mono qS) qO kR (by rw [W3 (hK.onceR.lens prT) hr 1 qD]; rfl)) rfl ?_
  refine E4 (aS rfl a0) kR (K2 vs_ x.sec _ (hs_.mono qS)) rfl ?_
  rintro r29 M29 J29 ⟨rfl, h29⟩
  haveI := h29.cel
  refine as_ (as_ (A0 (C7 4 5) (A8 ?_)))
  exact ⟨_, [], [], A0K rfl rfl rfl, qZ, rfl, _, by rw [A04 hf hx]; rfl, by rw [A04 hf hx]; exact h29.mono qS⟩

structure Kys (R : Mem) (kb : Nat) (k : Ks) (M : Mem) : Prop where
  ex : ∃ (va vg vs vo vm : Value) (rs ro rm : List (List Value)) (Bs Bo Bm : Mem), M = (kb, blk [.int .i64 k.user, .int .i64 k.dev, va, vg, vs, vo, (vU k.next), vm] 98) :: (Bs ++ (Bo ++ Bm)) ∧
    By R va k.agree ∧ By R vg k.sign ∧ Sl 3 vs k.signed.length rs.flatten Bs ∧ RwL prR R rs k.signed ∧ Sl 3 vo k.once.length ro.flatten Bo ∧ RwL prR R ro k.once ∧ Sl 2 vm k.met.length rm.flatten Bm ∧ RwL nmR R rm k.met ∧ k.next < 4294967296 ∧ k.signed.length ≤ 2 ∧ k.once.length ≤ 100 ∧ k.met.length ≤ 100000
theorem Kys.mono {R R' : Mem} {kb : Nat} {k : Ks} {M : Mem} (h : Kys R kb k M) (hR : ∀ x, x ∈ R → x ∈ R') : Kys R' kb k M := by
  obtain ⟨va, vg, vs, vo, vm, rs, ro, rm, Bs, Bo, Bm, h1, h2, h3, h4, h5, h6, h7, h8, h9, h10⟩ := h.ex
  exact ⟨va, vg, vs, vo, vm, rs, ro, rm, Bs, Bo, Bm, h1, h2.mono hR, h3.mono hR, h4, h5.mono prT hR, h6, h7.mono prT hR, h8, h9.mono nmT hR, h10⟩
theorem Kys.r {R : Mem} {kb : Nat} {k : Ks} {M : Mem} (h : Kys R kb k M) : ∃ va vg vs vo vm rs ro rm, ∀ R', (∀ x, x ∈ R → x ∈ R') → (∀ x, x ∈ M → x ∈ R') → KyR R' kb k va vg vs vo vm rs ro rm := by
  obtain ⟨va, vg, vs, vo, vm, rs, ro, rm, Bs, Bo, Bm, rfl, h2, h3, h4, h5, h6, h7, h8, h9, h10, h11, h12, h13⟩ := h.ex
  refine ⟨va, vg, vs, vo, vm, rs, ro, rm, fun R' hR hM => ⟨hM _ qK, h2.mono hR, h3.mono hR, h4.rd fun x hx => hM x (by simp [hx]), h5.mono prT hR, h6.rd fun x hx => hM x (by simp [hx]), h7.mono prT hR, h8.rd fun x hx => hM x (by simp [hx]), h9.mono nmT hR, by omega, by omega, by omega, by omega⟩⟩
noncomputable def S8 (k : Ks) (s : Ps) : Nat → Ks × Ps
  | 0 => (k, s)
  | i + 1 => ({ (S8 k s i).1 with once := (S8 k s i).1.once ++ [⟨(S8 k s i).1.next, E1 (S8 k s i).2, []⟩], next := (S8 k s i).1.next + 1 }, D8 (S8 k s i).2)
theorem A14 (k : Ks) (s : Ps) : ∀ i, (S8 k s i).1.once.length = k.once.length + i
  | 0 => rfl
  | i + 1 => by simp [S8, A14 k s i]; omega
theorem Y4 (k : Ks) (s : Ps) : ∀ i, (S8 k s i).1.next = k.next + i
  | 0 => rfl
  | i + 1 => by simp [S8, Y4 k s i]; omega
theorem A4z (k : Ks) (s : Ps) : ∀ i, (S8 k s i).1 = { k with once := (S8 k s i).1.once, next := k.next + i }
  | 0 => rfl
  | i + 1 => by
    have h := A4z k s i
    have hn := Y4 k s i
    simp only [S8, hn]
    rw [h]
    simp [Nat.add_assoc]
theorem L6 (s : Ps) : (D8 s).ts.length ≤ s.ts.length + 1 ∧ (D8 s).n = s.n + 1 := by
  unfold D8
  split
  · exact ⟨by simp, rfl⟩
  · refine ⟨?_, rfl⟩
    show (add s.ts _).length ≤ _
    unfold add
    split <;> simp
theorem A2v (k : Ks) (s : Ps) : ∀ i, (S8 k s i).2.ts.length ≤ s.ts.length + i ∧ (S8 k s i).2.n = s.n + i
  | 0 => ⟨Nat.le_refl _, rfl⟩
  | i + 1 => by
    have h := A2v k s i
    have h2 := L6 (S8 k s i).2
    simp only [S8]
    omega
noncomputable def A28 (k : Ks) (s : Ps) : Ks × Ps := S8 k s (4 - k.once.length)
theorem B2k (kb pb : Nat) (k : Ks) (s : Ps) (MK MP A : Mem) (hK : Kys A kb k MK) (hP : Prm pb s MP) (hn : s.ts.length + 100 ≤ 1048576) (hk : s.n < 1000000000) (hnx : k.next + 100 < 4000000000) (hG : Glb A) : FnX Tryz.prog 32 [(vP kb), (vP pb)] (MK ++ MP) A fun q M J => q = .int .i64 ((4 - k.once.length : Nat) : Int) ∧ ∃ MK2 MP2, M = MK2 ++ MP2 ∧ Kys (J ++ A) kb (A28 k s).1 MK2 ∧ Prm pb (A28 k s).2 MP2 := by
 obtain ⟨va, vg, vs, vo, vm, rs, ro, rm, Bs, Bo, Bm, rfl, hva, hvg, hss, hrs, hso, hro, hsm, hrm, hn1, hn2, hn3, hn4⟩ := hK.ex
 haveI := hva.cel
 haveI := hvg.cel
 haveI := hss.cel
 haveI := hso.cel
 haveI := hsm.cel
 refine FnX.enterZ (N := 42) Tryz.func32 rfl rfl rfl fun w_ => ?_
 refine A7 (C7 0 1) (A1 (as_ (A0 (C7 0 1) (A1 (as_ (A0 (E0 0 1 5) (A6 ?_)))))))
 refine C3 ?_
 refine H1 (α := Nat × (Value × List (List Value) × Mem) × Mem × Mem) (fun y => [(0, (vP kb)), (1, (vP pb)), (5, (vI y.1))]) (fun y => (kb, blk [.int .i64 k.user, .int .i64 k.dev, va, vg, vs, y.2.1.1, .int .u32 ((k.next + y.1 : Nat) : Int), vm] 98) :: (Bs ++ (y.2.1.2.2 ++ (Bm ++ y.2.2.1)))) (fun y => y.2.2.2) (fun y => y.1 + k.once.length ≤ max 4 k.once.length ∧ Sl 3 y.2.1.1 (k.once.length + y.1) y.2.1.2.1.flatten y.2.1.2.2 ∧ RwL prR (y.2.2.2 ++ A) y.2.1.2.1 (S8 k s y.1).1.once ∧ Prm pb (S8 k s y.1).2 y.2.2.1) (fun y => 4 - (k.once.length + y.1)) (0, (vo, ro, Bo), MP, []) ⟨by dsimp only; omega, hso, hro, hP⟩ (E0 0 1 5) (Fit.pick (B := [_]) qP (Fit.pick qP (Fit.pick qP (Fit.pick qP (Fit.last qP))))) qI ?_
 rintro ⟨i, ⟨voi, roi, Boi⟩, MPi, Ji⟩ ⟨hi, hsi, hri, hPi⟩
 dsimp only at hi hsi hri hPi ⊢
 haveI := hsi.cel
 have hps := A2v k s i
 have hnx := Y4 k s i
 have hol := A14 k s i
 refine A6 (A1 (mv_ ?_))
 refine A3 (A4O (e := 98) rfl rfl kR) rfl ?_
 refine mv_ ?_
 refine C6 rfl rfl (OpQ.opL qm_ rfl ?_)
 refine C6 rfl rfl (OpQ.opL (D2 rfl) rfl ?_)
 refine C6 rfl rfl (OpQ.opL (qf_ 5 5) rfl ?_)
 refine C6 rfl rfl (OpQ.opL ql_ rfl ?_)
 refine C6 rfl rfl (OpQ.opL (E5 (sz := 3) rfl kR (hsi.rd (R := Boi) fun _ h => h)) rfl ?_)
 refine C6 rfl rfl (OpQ.opL (E9 rfl rfl rfl) rfl ?_)
 refine A3 (E6 rfl rfl) rfl ?_
 refine A0 (F2 0 1 5 15) ?_
 refine C1 rfl ?_ ?_ <;> intro hc
 ·
  have hlt : k.once.length + i < 4 := by simp at hc; omega
  refine A5 (nx (E0 0 1 5) (A6 (C3 ?_)))
  refine D9 (MPi) (_) true [0, 1, 2, 3, 4, 5, 6, 7, 8, 9, 10, 11, 12, 14, 15] (zp 0 [0, 0, 0, 0, 1, 0, 0, 0, 1, 0, 2, 0, 2, 2, 0, 0, 2]) kR kR qP fun hs K n0 hKm hKs hKn => ?_
  refine km_ hs ?_
  refine km_ hs ?_
  refine E2 hs rfl (D2 rfl) rfl ?_
  refine E2 hs rfl (qf_ 5 5) rfl ?_
  refine H4 hs rfl hKs ql_ ?_
  refine km_ hs ?_
  refine E2 hs rfl (D2 rfl) rfl ?_
  refine E2 hs rfl (qf_ 6 6) rfl ?_
  refine H4 hs rfl hKs ql_ ?_
  refine km_ hs ?_
  refine F5 _ _ rfl rfl (List.Perm.refl _) hKm fun w0 => (B3 (Mc := MPi) (R := _) (aS rfl a0) kR qP (P6 pb (S8 k s i).2 MPi _ hPi qO qO hG.up) rfl ?_)
  rintro v28 M28 J28 ⟨hP28, h28⟩ hKx
  haveI := h28.cel
  refine E2 hs rfl (D7 (place := fun x => #[(0, 1), (1, 1), (2, 1)][x]?) (z := [.int .u32 0, vS, vS]) (fun _ => by kernel_rfl) (eS rfl (eS rfl e0)) (bdS 0 1 rfl qR (bdS 1 1 rfl qR bd0))) rfl ?_
  refine F5 [] _ rfl rfl (List.Perm.refl _) (fun _ h => by cases h) fun w0 => (C0 (e := 102) (sz := 3) (z := [.int .u32 0, vS, vS]) kR (eS rfl e0) (bdS 0 3 rfl qR bd0) rfl fun b30 => fun _ => ?_)
  refine Z7 (M' := (b30, blk [.int .u32 ((k.next + i : Nat) : Int), v28, vS] 102) :: (M28 ++ ((kb, blk [.int .i64 k.user, .int .i64 k.dev, va, vg, vs, voi, .int .u32 ((k.next + i : Nat) : Int), vm] 98) :: (Bs ++ (Boi ++ (Bm ++ [])))))) qM ?_
  refine I4 rfl rfl rfl (F9 (e := 102) (sz := 3) (by_ := 56) rfl rfl kR rfl hsi (Rd.whole (n := 1) At.mem qR) (by intro c hc; simp only [List.mem_cons, List.not_mem_nil, or_false] at hc; rcases hc with rfl | rfl | rfl; rfl; exact h28.one; rfl) qP (by unfold maxLen; omega) qO rfl fun v31 B31 hs31 => ?_)
  haveI := hs31.cel
  refine E2 hs rfl (D2 rfl) rfl ?_
  refine E2 hs rfl (qf_ 5 5) rfl ?_
  refine I4 rfl rfl rfl (F0 rfl rfl hs31.one kR SetC.set UpC.upd ?_)
  refine G2 (E0 0 1 5) (C8 (mv_ ?_))
  refine A3 (D2 rfl) rfl ?_
  refine A3 (qf_ 6 6) rfl ?_
  refine A3 ql_ rfl ?_
  refine A3 (A88 4294967296 (a := k.next + i) (b := 1) rfl rfl rfl rfl rfl rfl qO) rfl ?_
  refine A3 (D2 rfl) rfl ?_
  refine A3 (qf_ 6 6) rfl ?_
  refine A4 rfl (F0 rfl rfl rfl kR SetC.set UpC.upd ?_)
  refine E3 (nb (nx (E0 0 1 5) (C8 (mv_ ?_))))
  refine A3 (K7 ((i + 1 : Nat) : Int) rfl rfl (T4 qO qO qO)) rfl ?_
  refine as_ (E3 ?_)
  exact rn (i + 1, (v31, roi ++ [[.int .u32 ((k.next + i : Nat) : Int), v28, vS]], B31), _, _) ⟨by dsimp only; omega, by simpa [Nat.add_assoc] using hs31, (hri.mono prT qS).snoc ⟨v28, vS, by rw [hnx], h28.mono qS, By.nil, by dsimp only; omega⟩, hP28⟩ (by dsimp only; omega) (E0 0 1 5) (Fit.pick (B := [_]) qP (Fit.pick qP (Fit.pick qP (Fit.pick qP (Fit.last qP))))) qI
 ·
  have hge : 4 ≤ k.once.length + i := by simp at hc; omega
  obtain rfl : i = 4 - k.once.length := by omega
  refine H0 (te (re (be rfl (nx (C9 5) (A1 (mv_ (as_ (A0 (C9 4) ?_))))))))
  refine A8 ?_
  have hfe := A4z k s (4 - k.once.length)
  refine ⟨_, (kb, blk [.int .i64 k.user, .int .i64 k.dev, va, vg, vs, voi, .int .u32 ((k.next + (4 - k.once.length) : Nat) : Int), vm] 98) :: (Bs ++ (Boi ++ (Bm ++ MPi))), [], G5 rfl rfl, Fit.none (Fit.eq qM), rfl, (kb, blk [.int .i64 k.user, .int .i64 k.dev, va, vg, vs, voi, .int .u32 ((k.next + (4 - k.once.length) : Nat) : Int), vm] 98) :: (Bs ++ (Boi ++ Bm)), MPi, by simp, ⟨⟨va, vg, vs, voi, vm, rs, roi, rm, Bs, Boi, Bm, ?_⟩⟩, hPi⟩
  unfold A28
  rw [hfe]
  exact ⟨rfl, hva.mono qS, hvg.mono qS, hss, hrs.mono prT qS, by show Sl 3 voi (S8 k s (4 - k.once.length)).1.once.length _ _; rw [hol]; exact hsi, hri, hsm, hrm.mono nmT qS, by dsimp only; omega, hn2, by show (S8 k s (4 - k.once.length)).1.once.length ≤ 100; rw [hol]; omega, hn4⟩

end Go.Proofs.YtpemeceacdhacaaGreatDoor
