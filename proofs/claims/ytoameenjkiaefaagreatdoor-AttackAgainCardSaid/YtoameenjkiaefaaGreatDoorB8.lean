/- Part 8 of the texts of this claim, one behind the other. -/
import Derived.Test.YtoameenjkiaefaaGreatDoorB7
import Derived.Test.YtoameenjkiaefaaGreatDoorRows
set_option linter.unusedVariables false
set_option linter.unusedSimpArgs false
set_option maxRecDepth 100000
namespace Go.Proofs.YtoameenjkiaefaaGreatDoor
open Go.Px
theorem B2H {k : IntKind} (a b : Nat) : I8 .eql k ((a : Nat) : Int) ((b : Nat) : Int) = some (.bool (decide (a = b))) := by
  by_cases h : a = b
  · rw [decide_eq_true h]; exact eqT qO
  · rw [decide_eq_false h]; exact eqF qO
theorem A4m {l : List Int} (h : 0 < l.length) : (V2 l)[0]? = some (.int .i64 (l.getD 0 0)) := by
  rw [List.getD_eq_getElem?_getD, V2, List.getElem?_map, List.getElem?_eq_getElem h]; rfl
theorem A7R {ts : List Tm} {p m g : LN} (h : ¬ g.length = 64) : A7c ts p m g = false := by
  unfold A7c; rw [decide_eq_false h, Bool.false_and]
theorem A9X {ts : List Tm} {p m g : LN} (h : plc g ts.length = none) : A7c ts p m g = false := by
  unfold A7c; rw [h]; simp
theorem A9Y {ts : List Tm} {p m g : LN} (h : plc p ts.length = none) : A7c ts p m g = false := by
  unfold A7c; rw [h]; split <;> simp_all
theorem A7S {ts : List Tm} {p m g : LN} {t u : Tm} {i k : Nat} (h64 : g.length = 64) (hi : plc g ts.length = some i) (hk : plc p ts.length = some k) (ht : ts[i]? = some t) (hu : ts[k]? = some u) :
    A7c ts p m g = (decide (p.length = 32) && (decide (t.kind = 7) && (decide (t.text = m) && (decide (u.kind = 3) && (u.of.getD 0 0 == t.of.getD 0 0))))) := by
  unfold A7c
  rw [hi, hk, decide_eq_true h64]
  simp only [ht, hu, Bool.true_and, Bool.and_assoc]
  congr 4
theorem B1I {s : Ps} (h : s.real = true) (p m g : LN) : A8Y s p m g = B3r p m g := by unfold A8Y; rw [if_pos h]
theorem A0z {s : Ps} (h : s.real = false) (p m g : LN) : A8Y s p m g = A7c s.ts p m g := by unfold A8Y; rw [if_neg (by rw [h]; decide)]
theorem A7T {s : Ps} {p m g : LN} (h : ¬ g.length = 64) : A8Y s p m g = false := by
  cases hr : s.real with
  | true => rw [B1I hr]; exact A9K h
  | false => rw [A0z hr]; exact A7R h
theorem neN8 {k : IntKind} (a b : Nat) : I8 .neq k ((a : Nat) : Int) ((b : Nat) : Int) = some (.bool (!decide (a = b))) := by
  by_cases h : a = b
  · rw [decide_eq_true h]; exact neF qO
  · rw [decide_eq_false h]; exact neT qO
theorem A7U (pb : Nat × Nat) (s : Ps) (v1 v2 v3 : Value) (wp wm wg : LN) (MP A : Mem) (hP : Prm pb s MP) (hsub : ∀ x, x ∈ MP → x ∈ A) (har : Ar s.ts) (hn : s.ts.length ≤ 1048576) (hp : By A v1 wp) (hm : By A v2 wm) (hg : By A v3 wg) (hG : Glb A) : FnV Tryz.prog 158 [.pointer (some ⟨pb.1, 0, none⟩), v1, v2, v3] A (.bool (A8Y s wp wm wg)) := by
 have hr : s.real = false := rfl
 obtain ⟨sv, bt, bm, B, MT, rfl, hby, hT⟩ := hP.ex
 have hpb := hsub _ qK
 have hMT : ∀ x, x ∈ MT → x ∈ A := fun x hx => hsub x (by simp [hx])
 haveI := hp.cel
 haveI := hm.cel
 haveI := hg.cel
 haveI := hby.cel
 have hpl := hp.len
 have hml := hm.len
 have hgl := hg.len
 refine FnX.enter (N := 106) Tryz.func158 rfl rfl rfl fun w_ => ?_
 refine A8 (F8 0 1 2 3) (A1 (as_ (A0 (F8 0 1 2 3) (A7 (A1 (mv_ ?_))))))
 refine A2 (C9 (e := 118) rfl rfl kR) rfl ?_
 refine mv_ ?_
 refine B0 rfl rfl (OpQ.opL qm_ rfl ?_)
 refine B0 rfl rfl (OpQ.opL (E1 (sz := 1) rfl kR (by first | assumption | exact Sl.rd (by assumption) qI | exact By.rd (by assumption))) rfl ?_)
 refine B0 rfl rfl (OpQ.opL (F6 (!decide (wg.length = 64)) rfl rfl (neN8 _ 64)) rfl ?_)
 refine A2 (C7 rfl rfl) rfl ?_
 refine A0 (H9 0 1 2 3 23) ?_
 refine C4 rfl ?_ ?_ <;> intro hc
 ·
  have h64 : ¬ wg.length = 64 := by simpa using hc
  refine A1 (as_ (A0 (C8 8) (A6 (tr ?_))))
  exact ⟨_, [], [], F4 rfl rfl, List.nil_sublist _, by simp, by rw [A7T h64], rfl, rfl⟩
 ·
  have h64 : wg.length = 64 := by simpa using hc
  refine A5 (nx (F8 0 1 2 3) (A7 (A1 (mv_ ?_))))
  refine A2 (D5 rfl) rfl ?_
  refine A2 (qf_ 0 0) rfl ?_
  refine A2 (G7 rfl kR (mA hpb) qR) rfl ?_
  refine A2 (F1 rfl rfl rfl) rfl ?_
  refine A0 (H9 0 1 2 3 28) ?_
  refine B8 rfl ?_
  refine A5 (nx (F8 0 1 2 3) (A1 (mv_ ?_)))
  refine A2 (D5 rfl) rfl ?_
  refine A2 (qf_ 3 3) rfl ?_
  refine A2 (G7 rfl kR (mA hpb) qR) rfl ?_
  refine mv_ ?_
  refine E2 (aS rfl (aS rfl a0)) kR (W9 bt bm s.ts v3 wg MT _ hT (fun x hx => qS _ (hMT x hx)) hn (hg.rd.mono qS) hg.lt hg.max) rfl ?_
  refine mv_ ?_
  refine A2 (Y3 rfl) rfl ?_
  refine A2 (X5 rfl) rfl ?_
  refine as_ (as_ (A0 (H9 0 1 2 9 10) (A1 (mv_ ?_))))
  refine A2 (D5 rfl) rfl ?_
  refine A2 (qf_ 3 3) rfl ?_
  refine A2 (G7 rfl kR (mA hpb) qR) rfl ?_
  refine mv_ ?_
  refine F0 (aS rfl (aS rfl a0)) kR (W0 bt bm s.ts _ MT _ hT (fun x hx => qS _ (hMT x hx))) rfl ?_
  rintro v48 M48 J48 ⟨rfl, rfl, c48, ok48, rfl, hg1a, hg2a⟩
  obtain ⟨voa, ta, rfl, hvoa, hza, htka, hoka, hnoa⟩ := A06 hT.tok.tmo hg1a hg2a
  haveI := hvoa.cel
  refine mv_ ?_
  refine A2 (Y3 rfl) rfl ?_
  refine A2 (X5 rfl) rfl ?_
  refine A4 rfl (D3 (cs := [.int .u8 0, vS, .string ByteArray.empty, .int .i64 0]) kR rfl fun b11 => ?_)
  refine A4 rfl (C0 (vs := tmc ta.kind voa ta.text ta.n) rfl rfl rfl kR qR (by intro c hc; simp only [tmc, List.mem_cons, List.not_mem_nil, or_false] at hc; rcases hc with rfl | rfl | rfl | rfl <;> first | rfl | exact hvoa.one) UpC.upd ?_)
  dsimp only [tmc]
  refine as_ (A0 (H9 0 1 2 10 11) (A1 (mv_ ?_)))
  refine A2 (D5 rfl) rfl ?_
  refine A2 (qf_ 3 3) rfl ?_
  refine A2 (G7 rfl kR (mA hpb) qR) rfl ?_
  refine mv_ ?_
  refine E2 (aS rfl (aS rfl a0)) kR (W9 bt bm s.ts v1 wp MT _ hT (fun x hx => qS _ (hMT x hx)) hn (hp.rd.mono qS) hp.lt hp.max) rfl ?_
  refine mv_ ?_
  refine A2 (Y3 rfl) rfl ?_
  refine A2 (X5 rfl) rfl ?_
  refine as_ (as_ (A0 (V0 0 1 2 10 11 13 14) (A1 (mv_ ?_))))
  refine A2 (D5 rfl) rfl ?_
  refine A2 (qf_ 3 3) rfl ?_
  refine A2 (G7 rfl kR (mA hpb) qR) rfl ?_
  refine mv_ ?_
  refine F0 (aS rfl (aS rfl a0)) kR (W0 bt bm s.ts _ MT _ hT (fun x hx => qS _ (hMT x hx))) rfl ?_
  rintro v66 M66 J66 ⟨rfl, rfl, c66, ok66, rfl, hg1b, hg2b⟩
  obtain ⟨vob, tb, rfl, hvob, hzb, htkb, hokb, hnob⟩ := A06 hT.tok.tmo hg1b hg2b
  haveI := hvob.cel
  refine mv_ ?_
  refine A2 (Y3 rfl) rfl ?_
  refine A2 (X5 rfl) rfl ?_
  refine A4 rfl (D3 (cs := [.int .u8 0, vS, .string ByteArray.empty, .int .i64 0]) kR rfl fun b15 => ?_)
  refine A4 rfl (C0 (vs := tmc tb.kind vob tb.text tb.n) rfl rfl rfl kR qR (by intro c hc; simp only [tmc, List.mem_cons, List.not_mem_nil, or_false] at hc; rcases hc with rfl | rfl | rfl | rfl <;> first | rfl | exact hvob.one) UpC.upd ?_)
  dsimp only [tmc]
  refine as_ (A0 (L1 1 2 10 11 14 15) ?_)
  refine F5 (.range 38) (zp 0 [0, 0, 0, 0, 0, 0, 0, 0, 0, 0, 0, 1, 0, 0, 0, 0, 1, 0, 1, 0, 0, 0, 0, 1, 0, 0, 0, 0, 1, 0, 1, 0, 1, 0, 1, 0, 0, 0]) kR kR fun hs => ?_
  refine fm_ hs ?_
  refine fm_ hs ?_
  refine S9 (t := 70) rfl (fun hb => ?_) (fun hb => ?_)
  ·
   obtain ⟨i, hi⟩ := Option.isSome_iff_exists.1 hb
   refine H8 hs rfl rfl rfl rfl qm_ rfl ?_
   refine D9 hs rfl (D8 rfl rfl) rfl ?_
   refine fm_ hs ?_
   refine S9 (t := 73) rfl (fun hb => ?_) (fun hb => ?_)
   ·
    obtain ⟨k, hk⟩ := Option.isSome_iff_exists.1 hb
    have hta : s.ts[i]? = some ta := by
     have hl := (A38 hi).1
     rw [hi] at hoka hnoa
     cases ok48 with
     | true => have := (hoka rfl).2; rwa [Option.getD_some, Int.toNat_natCast] at this
     | false => exact absurd ⟨by rw [Option.getD_some]; omega, by rw [Option.getD_some]; omega⟩ (hnoa rfl)
    have htb : s.ts[k]? = some tb := by
     have hl := (A38 hk).1
     rw [hk] at hokb hnob
     cases ok66 with
     | true => have := (hokb rfl).2; rwa [Option.getD_some, Int.toNat_natCast] at this
     | false => exact absurd ⟨by rw [Option.getD_some]; omega, by rw [Option.getD_some]; omega⟩ (hnob rfl)
    have hcv := A7S (m := wm) h64 hi hk hta htb
    refine H8 hs rfl rfl rfl rfl qm_ rfl ?_
    refine H8 hs rfl rfl rfl rfl (E1 (sz := 1) rfl kR (by first | assumption | exact Sl.rd (by assumption) qI | exact By.rd (by assumption))) rfl ?_
    refine H8 hs rfl rfl rfl rfl (F6 (decide (wp.length = 32)) rfl rfl (B2H _ 32)) rfl ?_
    refine D9 hs rfl (D8 rfl rfl) rfl ?_
    refine fm_ hs ?_
    refine S9 (t := 78) rfl (fun hb => ?_) (fun hb => ?_)
    ·
     rw [hb, Bool.true_and] at hcv
     refine H8 hs rfl rfl rfl rfl (qf_ 0 0) rfl ?_
     refine T6 hs rfl rfl rfl rfl ql_ rfl ?_
     refine H8 hs rfl rfl rfl rfl (F6 (decide (ta.kind = 7)) rfl rfl (B2H _ 7)) rfl ?_
     refine D9 hs rfl (D8 rfl rfl) rfl ?_
     refine fm_ hs ?_
     refine S9 (t := 83) rfl (fun hb => ?_) (fun hb => ?_)
     ·
      rw [hb, Bool.true_and] at hcv
      have ha0 : 0 < ta.of.length := har ta (List.mem_of_getElem? hta) (.inr (.inr (of_decide_eq_true hb)))
      refine H8 hs rfl rfl rfl rfl (qf_ 2 2) rfl ?_
      refine T6 hs rfl rfl rfl rfl ql_ rfl ?_
      refine H8 hs rfl rfl rfl rfl qm_ rfl ?_
      refine T6 hs rfl rfl rfl rfl (P8 rfl kR (hm.rd.mono qS)) rfl ?_
      refine H8 hs rfl rfl rfl rfl (A7s rfl rfl rfl rfl (hT.tok.tmo ta (List.mem_of_getElem? hta)).text.lt hm.lt) rfl ?_
      refine D9 hs rfl (D8 rfl rfl) rfl ?_
      refine fm_ hs ?_
      refine S9 (t := 90) rfl (fun hb => ?_) (fun hb => ?_)
      ·
       rw [hb, Bool.true_and] at hcv
       refine H8 hs rfl rfl rfl rfl (qf_ 0 0) rfl ?_
       refine T6 hs rfl rfl rfl rfl ql_ rfl ?_
       refine H8 hs rfl rfl rfl rfl (F6 (decide (tb.kind = 3)) rfl rfl (B2H _ 3)) rfl ?_
       refine D9 hs rfl (D8 rfl rfl) rfl ?_
       refine fm_ hs ?_
       refine S9 (t := 95) rfl (fun hb => ?_) (fun hb => ?_)
       ·
        rw [hb, Bool.true_and] at hcv
        have hb0 : 0 < tb.of.length := har tb (List.mem_of_getElem? htb) (.inl (of_decide_eq_true hb))
        refine H8 hs rfl rfl rfl rfl (qf_ 1 1) rfl ?_
        refine T6 hs rfl rfl rfl rfl ql_ rfl ?_
        refine H8 hs rfl rfl rfl rfl (E9 (sz := 1) (a := 0) rfl rfl kR rfl hvob hb0) rfl ?_
        refine T6 hs rfl rfl rfl rfl (N4 (j := 0) (u := .int .i64 (tb.of.getD 0 0)) (hvob.mono qS) rfl kR (A4m hb0)) rfl ?_
        refine H8 hs rfl rfl rfl rfl (qf_ 1 1) rfl ?_
        refine T6 hs rfl rfl rfl rfl ql_ rfl ?_
        refine H8 hs rfl rfl rfl rfl (E9 (sz := 1) (a := 0) rfl rfl kR rfl hvoa ha0) rfl ?_
        refine T6 hs rfl rfl rfl rfl (N4 (j := 0) (u := .int .i64 (ta.of.getD 0 0)) (hvoa.mono qS) rfl kR (A4m ha0)) rfl ?_
        refine H8 hs rfl rfl rfl rfl (F1 rfl rfl rfl) rfl ?_
        refine D9 hs rfl (D8 rfl rfl) rfl ?_
        refine fa_ hs ?_
        refine H4 (C8 8) (A6 ?_)
        exact ⟨_, [], [], F4 rfl rfl, List.nil_sublist _, by simp, by rw [A0z hr, hcv], rfl, rfl⟩
       ·
        rw [hb, Bool.false_and] at hcv
        refine K3 hs ?_
        refine S4 hs ?_
        refine K3 hs ?_
        refine S4 hs ?_
        refine K3 hs ?_
        refine S4 hs ?_
        refine K3 hs ?_
        refine S4 hs ?_
        refine K3 hs ?_
        refine D9 hs rfl (C7 rfl rfl) rfl ?_
        refine fa_ hs ?_
        refine H4 (C8 8) (A6 ?_)
        exact ⟨_, [], [], F4 rfl rfl, List.nil_sublist _, by simp, by rw [A0z hr, hcv], rfl, rfl⟩
      ·
       rw [hb, Bool.false_and] at hcv
       refine K3 hs ?_
       refine S4 hs ?_
       refine K3 hs ?_
       refine D9 hs rfl (C7 rfl rfl) rfl ?_
       refine fm_ hs ?_
       refine K3 hs ?_
       refine S4 hs ?_
       refine K3 hs ?_
       refine S4 hs ?_
       refine K3 hs ?_
       refine S4 hs ?_
       refine K3 hs ?_
       refine S4 hs ?_
       refine K3 hs ?_
       refine D9 hs rfl (C7 rfl rfl) rfl ?_
       refine fa_ hs ?_
       refine H4 (C8 8) (A6 ?_)
       exact ⟨_, [], [], F4 rfl rfl, List.nil_sublist _, by simp, by rw [A0z hr, hcv], rfl, rfl⟩
     ·
      rw [hb, Bool.false_and] at hcv
      refine K3 hs ?_
      refine S4 hs ?_
      refine K3 hs ?_
      refine S4 hs ?_
      refine K3 hs ?_
      refine D9 hs rfl (C7 rfl rfl) rfl ?_
      refine fm_ hs ?_
      refine K3 hs ?_
      refine S4 hs ?_
      refine K3 hs ?_
      refine D9 hs rfl (C7 rfl rfl) rfl ?_
      refine fm_ hs ?_
      refine K3 hs ?_
      refine S4 hs ?_
      refine K3 hs ?_
      refine S4 hs ?_
      refine K3 hs ?_
      refine S4 hs ?_
      refine K3 hs ?_
      refine S4 hs ?_
      refine K3 hs ?_
      refine D9 hs rfl (C7 rfl rfl) rfl ?_
      refine fa_ hs ?_
      refine H4 (C8 8) (A6 ?_)
      exact ⟨_, [], [], F4 rfl rfl, List.nil_sublist _, by simp, by rw [A0z hr, hcv], rfl, rfl⟩
    ·
     rw [hb, Bool.false_and] at hcv
     refine K3 hs ?_
     refine S4 hs ?_
     refine K3 hs ?_
     refine D9 hs rfl (C7 rfl rfl) rfl ?_
     refine fm_ hs ?_
     refine K3 hs ?_
     refine S4 hs ?_
     refine K3 hs ?_
     refine S4 hs ?_
     refine K3 hs ?_
     refine D9 hs rfl (C7 rfl rfl) rfl ?_
     refine fm_ hs ?_
     refine K3 hs ?_
     refine S4 hs ?_
     refine K3 hs ?_
     refine D9 hs rfl (C7 rfl rfl) rfl ?_
     refine fm_ hs ?_
     refine K3 hs ?_
     refine S4 hs ?_
     refine K3 hs ?_
     refine S4 hs ?_
     refine K3 hs ?_
     refine S4 hs ?_
     refine K3 hs ?_
     refine S4 hs ?_
     refine K3 hs ?_
     refine D9 hs rfl (C7 rfl rfl) rfl ?_
     refine fa_ hs ?_
     refine H4 (C8 8) (A6 ?_)
     exact ⟨_, [], [], F4 rfl rfl, List.nil_sublist _, by simp, by rw [A0z hr, hcv], rfl, rfl⟩
   ·
    have hcv := A9Y (g := wg) (m := wm) (Option.not_isSome_iff_eq_none.1 (by rw [hb]; decide))
    refine K3 hs ?_
    refine K3 hs ?_
    refine K3 hs ?_
    refine D9 hs rfl (C7 rfl rfl) rfl ?_
    refine fm_ hs ?_
    refine K3 hs ?_
    refine S4 hs ?_
    refine K3 hs ?_
    refine D9 hs rfl (C7 rfl rfl) rfl ?_
    refine fm_ hs ?_
    refine K3 hs ?_
    refine S4 hs ?_
    refine K3 hs ?_
    refine S4 hs ?_
    refine K3 hs ?_
    refine D9 hs rfl (C7 rfl rfl) rfl ?_
    refine fm_ hs ?_
    refine K3 hs ?_
    refine S4 hs ?_
    refine K3 hs ?_
    refine D9 hs rfl (C7 rfl rfl) rfl ?_
    refine fm_ hs ?_
    refine K3 hs ?_
    refine S4 hs ?_
    refine K3 hs ?_
    refine S4 hs ?_
    refine K3 hs ?_
    refine S4 hs ?_
    refine K3 hs ?_
    refine S4 hs ?_
    refine K3 hs ?_
    refine D9 hs rfl (C7 rfl rfl) rfl ?_
    refine fa_ hs ?_
    refine H4 (C8 8) (A6 ?_)
    exact ⟨_, [], [], F4 rfl rfl, List.nil_sublist _, by simp, by rw [A0z hr, hcv], rfl, rfl⟩
  ·
   have hcv := A9X (p := wp) (m := wm) (Option.not_isSome_iff_eq_none.1 (by rw [hb]; decide))
   refine K3 hs ?_
   refine D9 hs rfl (C7 rfl rfl) rfl ?_
   refine fm_ hs ?_
   refine K3 hs ?_
   refine K3 hs ?_
   refine K3 hs ?_
   refine D9 hs rfl (C7 rfl rfl) rfl ?_
   refine fm_ hs ?_
   refine K3 hs ?_
   refine S4 hs ?_
   refine K3 hs ?_
   refine D9 hs rfl (C7 rfl rfl) rfl ?_
   refine fm_ hs ?_
   refine K3 hs ?_
   refine S4 hs ?_
   refine K3 hs ?_
   refine S4 hs ?_
   refine K3 hs ?_
   refine D9 hs rfl (C7 rfl rfl) rfl ?_
   refine fm_ hs ?_
   refine K3 hs ?_
   refine S4 hs ?_
   refine K3 hs ?_
   refine D9 hs rfl (C7 rfl rfl) rfl ?_
   refine fm_ hs ?_
   refine K3 hs ?_
   refine S4 hs ?_
   refine K3 hs ?_
   refine S4 hs ?_
   refine K3 hs ?_
   refine S4 hs ?_
   refine K3 hs ?_
   refine S4 hs ?_
   refine K3 hs ?_
   refine D9 hs rfl (C7 rfl rfl) rfl ?_
   refine fa_ hs ?_
   refine H4 (C8 8) (A6 ?_)
   exact ⟨_, [], [], F4 rfl rfl, List.nil_sublist _, by simp, by rw [A0z hr, hcv], rfl, rfl⟩

def agOf (i j : Nat) : Tm := ⟨4, srt ((i : Nat) : Int) ((j : Nat) : Int), [], 0⟩
def A9Z (s : Ps) (a b k : LN) : Prop := ∃ i j m : Nat, i < s.ts.length ∧ j < s.ts.length ∧ a = bts ((i : Nat) : Int) ∧ b = bts ((j : Nat) : Int) ∧ s.ts[m]? = some (agOf i j) ∧ k = bts ((m : Nat) : Int)
def A2P (s : Ps) (a b k : LN) : Prop := if s.real then k = x25 (Z3 a 32) (A4a (Z3 b 32)) ∧ (∀ x ∈ a, x < 256) ∧ ∀ x ∈ b, x < 256 else A9Z s a b k
theorem A2P.t {s : Ps} (h : s.real = true) {a b k : LN} : A2P s a b k ↔ k = x25 (Z3 a 32) (A4a (Z3 b 32)) ∧ (∀ x ∈ a, x < 256) ∧ ∀ x ∈ b, x < 256 := by unfold A2P; rw [if_pos h]
theorem A2P.f {s : Ps} (h : s.real = false) {a b k : LN} : A2P s a b k ↔ A9Z s a b k := by unfold A2P; rw [if_neg (by rw [h]; decide)]
theorem A9Z.ext {s s' : Ps} {a b k : LN} (h : A9Z s a b k) (he : Pext s s') : A9Z s' a b k := by
  obtain ⟨l, e⟩ := he.ts
  obtain ⟨i, j, m, h1, h2, h3, h4, h5, h6⟩ := h
  exact ⟨i, j, m, by rw [e, List.length_append]; omega, by rw [e, List.length_append]; omega, h3, h4, by rw [e]; exact A1G h5, h6⟩
theorem A2P.ext {s s' : Ps} {a b k : LN} (h : A2P s a b k) (he : Pext s s') : A2P s' a b k := by
  cases hr : s.real with
  | true => rw [A2P.t hr] at h; rw [A2P.t (he.real.trans hr)]; exact h
  | false => rw [A2P.f hr] at h; rw [A2P.f (he.real.trans hr)]; exact h.ext he
theorem A90 {s : Ps} (h : s.real = true) (a B : LN) : L4 s a B = s ∧ A1q s a B = x25 (Z3 a 32) (Z3 B 32) := by unfold L4 A1q; rw [if_pos h, if_pos h]; exact ⟨rfl, rfl⟩
theorem A91 {s : Ps} (h : s.real = false) (a B : LN) : L4 s a B = B2C s a B ∧ A1q s a B = B2D s a B := by unfold L4 A1q; rw [if_neg (by rw [h]; decide), if_neg (by rw [h]; decide)]; exact ⟨rfl, rfl⟩
theorem U0 (s : Ps) (a B : LN) : (L4 s a B).ts.length ≤ s.ts.length + 3 := by
  cases hr : s.real with
  | true => rw [(A90 hr a B).1]; omega
  | false =>
    rw [(A91 hr a B).1]
    have h1 := K9 (ts := s.ts) (ws := a)
    have h2 := K9 (ts := rdT s.ts a) (ws := B)
    have h3 := U7 (ts := rdT (rdT s.ts a) B) (t := agT (rdT (rdT s.ts a) B) ((rdI s.ts a : Nat) : Int) ((rdI (rdT s.ts a) B : Nat) : Int))
    show (add _ _).length ≤ _
    omega
theorem A92 (s : Ps) (a B : LN) : (L4 s a B).n = s.n := by unfold L4; split <;> rfl
theorem Ar.agr {s : Ps} (h : Ar s.ts) (a B : LN) : Ar (L4 s a B).ts := by
  unfold L4
  split
  · exact h
  · refine ((h.rd a).rd B).add fun hk => ?_
    unfold agT at hk ⊢
    split <;> (try split) <;> (try split) <;> simp_all
theorem A9Z.inj {s : Ps} {a b a' b' k : LN} (h : A9Z s a b k) (h' : A9Z s a' b' k) (hl : s.ts.length ≤ 1048576) : (a = a' ∧ b = b') ∨ (a = b' ∧ b = a') := by
  obtain ⟨i, j, m, g1, g2, rfl, rfl, g3, rfl⟩ := h
  obtain ⟨i', j', m', f1, f2, rfl, rfl, f3, e⟩ := h'
  have b1 := (List.getElem?_eq_some_iff.1 g3).1
  have b2 := (List.getElem?_eq_some_iff.1 f3).1
  have := A6i qO qO e
  subst this
  rw [g3] at f3
  have e2 := Option.some.inj f3
  unfold agOf at e2
  injection e2 with _ e3 _ _
  unfold srt at e3
  have e4 : (i = i' ∧ j = j') ∨ (i = j' ∧ j = i') := by split at e3 <;> split at e3 <;> simp at e3 <;> omega
  rcases e4 with ⟨rfl, rfl⟩ | ⟨rfl, rfl⟩
  · exact .inl ⟨rfl, rfl⟩
  · exact .inr ⟨rfl, rfl⟩
def bes (n k x : Nat) : LN := (List.range x).map fun j => n / 2 ^ (8 * (k - 1 - j)) % 256
def beN (n k : Nat) : LN := bes n k k
theorem A6y (n k x : Nat) : (bes n k x).length = x := by simp [bes]
theorem F2 (n k : Nat) : (beN n k).length = k := A6y n k k
theorem A7V (n k x : Nat) : bes n k (x + 1) = bes n k x ++ [n / 2 ^ (8 * (k - 1 - x)) % 256] := by simp [bes, List.range_succ]
theorem B1J (n k x : Nat) : ∀ y ∈ bes n k x, y < 256 := by
  intro y hy
  simp only [bes, List.mem_map] at hy
  obtain ⟨j, _, rfl⟩ := hy
  exact Nat.mod_lt _ qD
theorem B1K (n k : Nat) : ∀ y ∈ beN n k, y < 256 := B1J n k k
theorem A81 {a b : LN} (ha : ∀ x ∈ a, x < 256) (hb : ∀ x ∈ b, x < 256) : ∀ x ∈ a ++ b, x < 256 := fun x hx => (List.mem_append.1 hx).elim (ha x) (hb x)
def bev (ws : LN) : Nat := ws.foldl (fun n b => n * 256 + b) 0
theorem A7W (ws : LN) (b : Nat) : bev (ws ++ [b]) = bev ws * 256 + b := by simp [bev]
theorem A93 (ws : LN) (h : ∀ x ∈ ws, x < 256) : ∀ a, ws.foldl (fun n b => n * 256 + b) a < (a + 1) * 256 ^ ws.length := by
  induction ws with
  | nil => intro a; simp
  | cons b ws ih =>
    intro a
    have h1 := ih (fun x hx => h x (by simp [hx])) (a * 256 + b)
    have h2 := h b qM
    rw [List.foldl_cons, List.length_cons, show 256 ^ (ws.length + 1) = 256 * 256 ^ ws.length from Nat.pow_succ', ← Nat.mul_assoc]
    exact Nat.lt_of_lt_of_le h1 (Nat.mul_le_mul_right _ qO)
theorem A82 {ws : LN} (h : ∀ x ∈ ws, x < 256) : bev ws < 256 ^ ws.length := by
  have := A93 ws h 0
  unfold bev; omega
structure Wtr (wb : Nat) (ws : LN) (M : Mem) : Prop where
  ex : ∃ (v : Value) (B : Mem), M = (wb, blk [v] 97) :: B ∧ Sl 1 v ws.length (H6 .u8 ws) B
  lt : ∀ x ∈ ws, x < 256
theorem Wtr.new {b : Nat} : Wtr b [] [(b, blk [vS] 97)] := ⟨⟨_, [], rfl, Sl.nil⟩, fun x h => by cases h⟩
theorem Wtr.eq {wb : Nat} {ws ws' : LN} {M : Mem} (h : Wtr wb ws M) (e : ws = ws') : Wtr wb ws' M := e ▸ h
theorem I3 (wb n k : Nat) (ws : LN) (M A : Mem) (hW : Wtr wb ws M) (hn : n < 18446744073709551616) (hk : k ≤ 8) (hl : ws.length ≤ 1099511627776) : FnX Tryz.prog 35 [(vP wb), .int .u64 ((n : Nat) : Int), (vI k)] M A fun q M J => q = (vP wb) ∧ Wtr wb (ws ++ beN n k) M := by
 obtain ⟨⟨v, B, rfl, hsl⟩, hlt⟩ := hW
 haveI := hsl.cel
 refine FnX.enterZ (N := 33) Tryz.func35 rfl rfl rfl fun w_ => ?_
 refine A8 (E7 0 1 2) (A1 (as_ (A0 (E7 0 1 2) (A7 (A1 (mv_ ?_))))))
 refine A2 (Z5 ((k : Int) - 1) rfl rfl (A9j rfl qO qO)) rfl ?_
 refine as_ (A0 (E7 0 1 7) (C6 ?_))
 refine H0 (α := Nat × Value × Mem) (fun x => [(0, (vP wb)), (1, .int .u64 ((n : Nat) : Int)), (7, .int .i64 ((k : Int) - 1 - (x.1 : Int)))]) (fun x => (wb, blk [x.2.1] 97) :: x.2.2) (fun _ => []) (fun x => x.1 ≤ k ∧ Sl 1 x.2.1 (ws ++ bes n k x.1).length (H6 .u8 (ws ++ bes n k x.1)) x.2.2) (fun x => k - x.1) ⟨0, v, B⟩ ⟨Nat.zero_le _, by simpa [bes] using hsl⟩ (kq 0 (kq 1 (kp 7 (by simp; rfl) kn))) .rfl qI ?_
 clear hsl
 rintro ⟨x, v, B⟩ ⟨hx, hsl⟩
 dsimp only at hx hsl ⊢
 haveI := hsl.cel
 have hbl := A6y n k x
 have hll : (ws ++ bes n k x).length = ws.length + x := by rw [List.length_append, hbl]
 refine A7 (A1 (mv_ ?_))
 refine A2 (F1 rfl rfl rfl) rfl ?_
 refine mv_ ?_
 refine H1 (t := 12) rfl (fun hb => ?_) (fun hb => ?_)
 ·
  have hltx : x < k := by simp at hb; omega
  obtain ⟨m, hm, hm2⟩ : ∃ m : Nat, ((k : Int) - 1 - (x : Int)) = (m : Int) ∧ m = k - 1 - x := ⟨k - 1 - x, by omega, rfl⟩
  rw [hm]
  refine B0 rfl rfl (OpQ.opL qm_ rfl ?_)
  refine B0 rfl rfl (OpQ.opL (F6 true rfl rfl (ltT qO)) rfl ?_)
  refine A2 (D8 rfl rfl) rfl ?_
  refine A0 (F8 0 1 7 15) ?_
  refine G3 rfl ?_
  refine A5 (nx (E7 0 1 7) (A7 (C6 ?_)))
  refine R7 [0, 1, 2, 3, 4, 5, 6, 7, 8, 9, 10, 12, 13] (zp 0 [0, 0, 0, 0, 1, 0, 0, 0, 0, 0, 2, 2, 0, 0, 2]) kR kR fun hs => ?_
  refine fm_ hs ?_
  refine fm_ hs ?_
  refine D9 hs rfl (D5 rfl) rfl ?_
  refine D9 hs rfl (qf_ 0 0) rfl ?_
  refine Q5 hs rfl ql_ rfl ?_
  refine fm_ hs ?_
  refine fm_ hs ?_
  refine D9 hs rfl (A0W (a := 8) rfl rfl rfl rfl qO) rfl ?_
  refine D9 hs rfl (A8L (a := n) (b := 8 * m) rfl rfl rfl rfl (by show _ ≤ 64; omega)) rfl ?_
  refine D9 hs rfl (A9k rfl kR) rfl ?_
  refine A5F rfl rfl fun _ => (C3 (e := 5) (sz := 1) (z := [.int .u8 0]) kR (eS rfl e0) (bdS 0 1 rfl qR bd0) rfl fun b28 => ?_)
  refine L2 rfl rfl rfl (G1 (e := 5) (sz := 1) (by_ := 1) rfl rfl kR rfl (by first | assumption | exact Sl.nil) (Rd.whole (n := 1) At.mem qR) (by first | (simp [Value.oneCell']; done) | (intro c hc; simp only [List.mem_singleton] at hc; subst hc; first | exact Rd.one (by assumption) | exact Sl.one (by assumption))) qP (by unfold maxLen; omega) qO rfl fun v29 B29 hs29 => ?_)
  refine D9 hs rfl (D5 rfl) rfl ?_
  refine D9 hs rfl (qf_ 0 0) rfl ?_
  refine L2 rfl rfl rfl (F3 rfl rfl hs29.one kR SetC.set UpC.upd ?_)
  refine A1v (nb (nx (E7 0 1 7) (D1 (mv_ ?_))))
  refine A2 (Z5 ((m : Int) - 1) rfl rfl (A9j rfl qO qO)) rfl ?_
  refine as_ (E3 ?_)
  exact rn ⟨x + 1, v29, B29⟩ ⟨by dsimp only; omega, by dsimp only; rw [A7V, ← List.append_assoc, ← hm2]; exact A5D hs29 (by simp only [List.length_append, List.length_singleton]) (by simp [H6])⟩ (by dsimp only; omega) (kq 0 (kq 1 (kp 7 (by dsimp only; rw [show ((k : Int) - 1 - ((x + 1 : Nat) : Int)) = (m : Int) - 1 by omega]; rfl) kn))) (Fit.pick (B := [_]) qP (Fit.last qP)) (fun _ h => by first | exact h | cases h)
 ·
  have hge : x = k := by simp at hb; omega
  subst hge
  refine C5 rfl rfl rfl rfl ?_
  refine C5 rfl rfl rfl rfl ?_
  refine A2 (C7 rfl rfl) rfl ?_
  refine A0 (F8 0 1 7 15) ?_
  refine B8 rfl ?_
  refine G6 (te (re (be rfl (nx (C8 0) (A1 (mv_ (as_ (A0 (C8 6) ?_))))))))
  refine A6 ?_
  exact ⟨_, (wb, blk [v] 97) :: B, [], F4 rfl rfl, Fit.none (Fit.last qP), rfl, ⟨⟨v, B, rfl, hsl⟩, A81 hlt (B1K n x)⟩⟩
theorem H3 (wb : Nat) (p : Value) (w ws : LN) (M A : Mem) (hW : Wtr wb ws M) (hp : By A p w) (hl : ws.length ≤ 1099511620000) : FnX Tryz.prog 34 [(vP wb), p] M A fun q M J => q = (vP wb) ∧ Wtr wb (ws ++ beN w.length 4 ++ w) M := by
 haveI := hp.cel
 have hpl := hp.len
 refine FnX.enterZ (N := 20) Tryz.func34 rfl rfl rfl fun w_ => ?_
 refine A8 (D0 0 1) (A1 (as_ (A0 (D0 0 1) (A1 (mv_ (mv_ ?_))))))
 refine A2 (E1 (sz := 1) rfl kR hp.rd) rfl ?_
 refine A2 (A2u rfl kR) rfl ?_
 rw [Nat.mod_eq_of_lt (show w.length < 18446744073709551616 by omega)]
 refine A4 rfl (A9 (Mc := _) (R := _) (aS rfl (aS rfl (aS rfl (a0)))) kR qP (I3 wb w.length 4 ws _ _ hW qO qD qO) rfl ?_)
 rintro v9 M9 J9 ⟨rfl, hW9⟩
 obtain ⟨⟨v, B, rfl, hsl⟩, hlt⟩ := hW9
 haveI := hsl.cel
 have hbl := F2 w.length 4
 have hll : (ws ++ beN w.length 4).length = ws.length + 4 := by rw [List.length_append, hbl]
 refine A0 (D0 0 1) (A1 (mv_ (mv_ ?_)))
 refine A2 (D5 rfl) rfl ?_
 refine A2 (qf_ 0 0) rfl ?_
 refine A2 ql_ rfl ?_
 refine mv_ ?_
 refine A4 rfl (G1 (e := 5) (sz := 1) (by_ := 1) rfl rfl kR rfl hsl (hp.rd.mono qS) S8 qP (by unfold maxLen; omega) qO rfl fun v16 B16 hs16 => ?_)
 refine A2 (D5 rfl) rfl ?_
 refine A2 (qf_ 0 0) rfl ?_
 refine A4 rfl (F3 rfl rfl hs16.one kR SetC.set UpC.upd ?_)
 refine A0 (C8 0) (A1 (mv_ (as_ (A0 (C8 4) (A6 ?_)))))
 exact ⟨_, (wb, blk [v16] 97) :: B16, [], F4 rfl rfl, Fit.none (Fit.pick (B := [_]) qP (Fit.last qP)), rfl, ⟨⟨v16, B16, rfl, A5D hs16 (by simp only [List.length_append]) (by simp [H6])⟩, A81 hlt hp.lt⟩⟩
theorem P1 (wb : Nat) (ws : LN) (M A : Mem) (hW : Wtr wb ws M) (hl : ws.length ≤ 16777216) : FnX Tryz.prog 36 [(vP wb)] M A fun q M J => Wtr wb ws M ∧ By J q ws := by
 obtain ⟨⟨v, B, rfl, hsl⟩, hlt⟩ := hW
 haveI := hsl.cel
 refine FnX.enterZ (N := 8) Tryz.func36 rfl rfl rfl fun w_ => ?_
 refine A8 (C8 0) (A1 (as_ (A0 (C8 0) (A1 (mv_ ?_)))))
 refine A2 (D5 rfl) rfl ?_
 refine A2 (qf_ 0 0) rfl ?_
 refine A2 ql_ rfl ?_
 refine A4 rfl (G1 (e := 5) (sz := 1) (by_ := 1) rfl rfl kR rfl Sl.nil (hsl.rd qS) S8 qP (by unfold maxLen; omega) qO rfl fun v7 B7 hs7 => ?_)
 refine as_ (A0 (C8 2) (A6 ?_))
 exact ⟨_, (wb, blk [v] 97) :: B, B7, F4 rfl rfl, Fit.pick qP (Fit.last qP), ⟨⟨v, B, rfl, hsl⟩, hlt⟩, ⟨by simpa using hs7.rd (R := B7) qS, hlt, hl⟩⟩

def A6z (n : Nat) (w : LN) : LN := beN 6 4 ++ [112, 114, 101, 107, 101, 121] ++ beN n 4 ++ (beN w.length 4 ++ w)
theorem A94 {n : Nat} (h : n < 4294967296) : IntKind.u64.wrap (n : Int) = (n : Int) := A3O qO qO
theorem A95 {R : Mem} {b n : Nat} {w : LN} {e : TypeId} {fr : Nat × Nat} (hm : (b, Obj.cells (H6 .u8 w).toArray e fr) ∈ R) (hn : w.length = n) (hlt : ∀ x ∈ w, x < 256) (hl : w.length ≤ 16777216) : By R (.slice (some ⟨b, 0, none⟩) n n) w := by
  subst hn
  exact ⟨Rd.whole (n := w.length) hm qM, hlt, hl⟩
theorem A2Q (n : Nat) (v : Value) (w : LN) (A : Mem) (hn : n < 4294967296) (hv : By A v w) (hl : w.length ≤ 1000000) : FnX Tryz.prog 101 [(vU n), v] [] A fun q M J => M = [] ∧ By J q (A6z n w) := by
 haveI := hv.cel
 refine FnX.enterZ (N := 18) Tryz.func101 rfl rfl rfl fun w_ => ?_
 refine A8 (D0 0 1) (A1 (as_ (A0 (D0 0 1) (A1 ?_))))
 refine A2 (D2 (place := fun x => #[(0, 1)][x]?) (z := [vS]) (fun _ => by kernel_rfl) e0 bd0) rfl ?_
 refine A4 rfl (bx_ fun b7 => ?_)
 refine as_ (A0 (E7 0 1 5) (A1 (mv_ ?_)))
 refine A4 rfl (C3 (e := 5) (sz := 1) (z := [zu8, zu8, zu8, zu8, zu8, zu8]) kR (eS rfl (eS rfl (eS rfl (eS rfl (eS rfl (eS rfl e0)))))) (bdS 0 1 rfl qR (bdS 1 1 rfl qR (bdS 2 1 rfl qR (bdS 3 1 rfl qR (bdS 4 1 rfl qR (bdS 5 1 rfl qR bd0)))))) rfl fun b9 => ?_)
 refine A4 rfl (A3T rfl kR UpC.upd rfl ?_)
 refine A4 rfl (A9 (Mc := [(b7, blk [vS] 97)]) (R := _) (aS rfl (aS rfl (a0))) kR qP (H3 b7 _ [112, 114, 101, 107, 101, 121] [] _ _ Wtr.new (A95 At.mem qR qD qD) qD) rfl ?_)
 rintro v11 M11 J11 ⟨rfl, hW11⟩
 refine mv_ ?_
 refine A2 (H2 (k' := .u64) n rfl kR (A94 qO)) rfl ?_
 refine A4 rfl (A9 (Mc := M11) (R := _) (aS rfl (aS rfl (aS rfl (a0)))) kR qP (I3 b7 n 4 _ _ _ hW11 qO qD (by simp [F2])) rfl ?_)
 rintro v14 M14 J14 ⟨rfl, hW14⟩
 refine mv_ ?_
 refine A4 rfl (A9 (Mc := M14) (R := _) (aS rfl (aS rfl (a0))) kR qP (H3 b7 v w _ _ _ hW14 (hv.mono qS) (by simp [F2])) rfl ?_)
 rintro v16 M16 J16 ⟨rfl, hW16⟩
 refine A4 rfl (A9 (Mc := M16) (R := _) (aS rfl (a0)) kR qP (P1 b7 _ _ _ hW16 (by simp [F2]; omega)) rfl ?_)
 rintro v17 M17 J17 ⟨hW17, hb17⟩
 haveI := hb17.cel
 refine as_ (A0 (C8 4) (A6 ?_))
 exact ⟨_, [], [], F4 rfl rfl, qZ, rfl, by simpa [A6z, List.append_assoc] using hb17.mono qS⟩

end Go.Proofs.YtoameenjkiaefaaGreatDoor
namespace Go.Px
def mkB (P : Program) (t : TypeId) : Option (TypeId × Nat) :=
  match P.underlying t with
  | some (.slice e) => match P.info? e with
    | some i => match i.zero with
      | some (.bool false) => if i.size = 1 then some (e, i.bytes) else none
      | _ => none
    | none => none
  | _ => none
def N7 (h : List Bool) : List Value := h.map .bool
@[simp] theorem bools_len (h : List Bool) : (N7 h).length = h.length := by simp [N7]
theorem A6A (a b : List Bool) : N7 (a ++ b) = N7 a ++ N7 b := by simp [N7]
theorem A6B (h : List Bool) : ∀ c ∈ N7 h, c.oneCell' = true := by
  intro c hc
  obtain ⟨b, _, rfl⟩ := List.mem_map.1 hc
  rfl
theorem A1d {h : List Bool} {i : Nat} (hi : i < h.length) : (N7 h)[i]? = some (.bool (h.getD i false)) := by
  simp [N7, List.getD_eq_getElem?_getD, hi]
theorem A2R (h : List Bool) (i : Nat) (b : Bool) : (N7 h).set i (.bool b) = N7 (h.set i b) := by simp [N7, List.map_set]
def B3v (P : Program) (t tn : TypeId) : Option (TypeId × Nat) :=
  match P.underlying tn with
  | some (.int _) => mkB P t
  | _ => none
theorem Y9 (n : Nat) : Builtin.zeroCells #[.bool false] n = (N7 (List.replicate n false)).toArray := by
  apply Array.ext
  · simp [Builtin.zeroCells]
  · intro i h1 h2
    simp [Builtin.zeroCells, N7, Nat.mod_one]
theorem A2b {P : Program} {t tn e ty : TypeId} {by_ n m : Nat} {v : Value} {xs : List Value} {B R : Mem} {w : World} (ht : B3v P t tn = some (e, by_))
    (hs : Sl 1 v n xs B) (hB : ∀ q, q ∈ B → q ∈ R) (hw : Fx R w) (hmax : n + m ≤ maxLen) (hbytes : (n + m) * by_ ≤ 140737488355328) :
    ∃ v' w' B', (Builtin.append_ #[t, tn] ty #[v, .int .i64 (m : Int)]).run P w = .ok v' w' ∧ Sl 1 v' (n + m) (xs ++ N7 (List.replicate m false)) B' ∧
      ((w' = w ∧ B' = B) ∨
       (∃ (b : Nat) (cs cs' : List Value) (e' : TypeId), B = [(b, blk cs e')] ∧ B' = [(b, blk cs' e')] ∧ w' = w.setRow b cs'.toArray) ∨
       (∃ o', B' = [(w.heap.size, o')] ∧ w' = w.drew.alloc o')) := by
  unfold B3v at ht
  split at ht <;> try cases ht
  rename_i kn htn
  unfold mkB at ht
  split at ht <;> try cases ht
  rename_i e' hu
  split at ht <;> try cases ht
  rename_i i hi
  split at ht <;> try cases ht
  rename_i hz
  split at ht <;> simp only [Option.some.injEq, Prod.mk.injEq, reduceCtorEq] at ht
  rename_i his
  obtain ⟨rfl, rfl⟩ := ht
  have hzc : (Value.bool false).cells = #[.bool false] := rfl
  have hsmall : n + m ≤ 9223372036854775807 := by simp only [maxLen] at hmax; omega
  have hwm : IntKind.i64.wrap (m : Int) = m := by rw [IntKind.wrap_i64]; omega
  have hneg : ¬ ((m : Int) < 0) := by omega
  have h48i : ¬ (281474976710656 < (m : Int) * (i.bytes : Int)) := by
    rw [← Int.natCast_mul]
    have : m * i.bytes ≤ (n + m) * i.bytes := Nat.mul_le_mul_right _ (by omega)
    omega
  by_cases hm : m = 0
  · subst hm
    have hw0 : IntKind.i64.wrap 0 = 0 := by rw [IntKind.wrap_i64]; omega
    refine ⟨v, w, B, ?_, by simpa [N7] using hs, .inl ⟨rfl, rfl⟩⟩
    rcases hs with ⟨p, rfl, rfl, rfl, rfl⟩ | ⟨b, o, cap, cs, e', rfl, rfl, h1, h2, h3, h4, h5⟩
    · cases p <;> simp [Builtin.append_, run_underlying hu, run_underlying htn, sizeOf, typeInfo, hi, asInt, asIntOf, hw0, storeCells, his]
    · simp [Builtin.append_, run_underlying hu, run_underlying htn, sizeOf, typeInfo, hi, asInt, asIntOf, hw0, storeCells, his, h1]
  · have made : ∀ (r : Value) (cap' : Nat), r = .slice (some ⟨w.heap.size, 0, none⟩) (n + m) cap' → n + m ≤ cap' → cap' ≤ maxLen → xs.length = n →
        Sl 1 r (n + m) (xs ++ N7 (List.replicate m false)) [(w.heap.size, .cells (xs.toArray ++ (N7 (List.replicate m false)).toArray ++ (N7 (List.replicate (cap' - (n + m)) false)).toArray) e' (0, 0))] := by
      intro r cap' hr' hc1 hc2 hxl
      refine .inr ⟨w.heap.size, 0, cap', (xs.toArray ++ (N7 (List.replicate m false)).toArray ++ (N7 (List.replicate (cap' - (n + m)) false)).toArray).toList, e', hr', by simp [blk], hc1, hc2, ?_, ?_, ?_⟩
      · simp [hxl]; omega
      · simp [hxl]
      · intro j u hj
        have hlt : j < (xs ++ N7 (List.replicate m false)).length := (List.getElem?_eq_some_iff.1 hj).1
        rw [Nat.zero_add]
        simp only [Array.toList_append, List.append_assoc]
        rw [← List.append_assoc, List.getElem?_append_left (by simpa using hlt)]
        exact hj
    have h63' : ¬ (9223372036854775807 < ((n : Int) + (m : Int))) := by omega
    rcases hs with ⟨p, rfl, rfl, rfl, rfl⟩ | ⟨b, o, cap, cs, e2, rfl, rfl, h1, h2, h3, h4, h5⟩
    · have hge := grownCap_ge w (0 + m) 0 e'
      have hcm : grownCap w (0 + m) 0 e' ≤ maxLen := grownCap_le_maxLen w (0 + m) 0 e' hmax
      have hfit : Builtin.nextslicecap (0 + m) 0 * i.bytes ≤ 281474976710656 := growslice_fits (by omega) hbytes
      have h48' : ¬ (281474976710656 < Builtin.nextslicecap (0 + m) 0 * i.bytes) := by omega
      refine ⟨.slice (some ⟨w.heap.size, 0, none⟩) (0 + m) (grownCap w (0 + m) 0 e'), _, _, ?_, made _ _ rfl hge hcm (by simp), .inr (.inr ⟨_, rfl, rfl⟩)⟩
      simp only [Nat.zero_add] at *
      have h63'' : ¬ (9223372036854775807 < (m : Int)) := by omega
      cases p <;> simp [Builtin.append_, run_underlying hu, run_underlying htn, sizeOf, typeInfo, zeroValue, hi, hz, hzc, asInt, asIntOf, hwm, hm, hneg, his, h63'', h48', h48i, Question.forced, newRow, grownCap, Builtin.firstCells, loadCells, loadCellsFrom, Y9]
    · have hb := hw b _ (hB _ (List.mem_singleton.2 rfl))
      by_cases hroom : n + m ≤ cap
      · have hfit : o + n + (N7 (List.replicate m false)).length ≤ cs.length := by simp; omega
        have hst := run_storeCells_at (P := P) b (o + n) e2 (N7 (List.replicate m false)) 0 cs.toArray w hb (by simpa using hfit) (A6B _)
        simp only [Nat.add_zero] at hst
        refine ⟨.slice (some ⟨b, o, none⟩) (n + m) cap, w.setRow b (cs.take (o + n) ++ N7 (List.replicate m false) ++ cs.drop (o + n + (N7 (List.replicate m false)).length)).toArray, _, ?_, ?_, .inr (.inl ⟨b, cs, _, e2, rfl, rfl, rfl⟩)⟩
        · simp [Builtin.append_, run_underlying hu, run_underlying htn, sizeOf, typeInfo, zeroValue, hi, hz, hzc, asInt, asIntOf, hwm, hm, hneg, his, h48i, hroom, Addr.add_mid, hst, Y9]
        · refine .inr ⟨b, o, cap, _, e2, rfl, rfl, hroom, h2, ?_, ?_, ?_⟩
          · simp only [List.length_append, List.length_take, List.length_drop]
            omega
          · simp [h4]
          · intro j q hj
            by_cases hjx : j < xs.length
            · rw [List.getElem?_append_left hjx] at hj
              rw [List.append_assoc, List.getElem?_append_left (by simp; omega), List.getElem?_take_of_lt (by omega)]
              exact h5 j q hj
            · rw [List.getElem?_append_right (by omega)] at hj
              have hlt := (List.getElem?_eq_some_iff.1 hj).1
              have hln : (cs.take (o + n)).length = o + n := by simp; omega
              rw [List.append_assoc, List.getElem?_append_right (by omega), List.getElem?_append_left (by omega), hln, ← hj]
              congr 1
              omega
      · have hge := grownCap_ge w (n + m) cap e'
        have hcm : grownCap w (n + m) cap e' ≤ maxLen := grownCap_le_maxLen w (n + m) cap e' hmax
        have hfit : Builtin.nextslicecap (n + m) cap * i.bytes ≤ 281474976710656 := growslice_fits (by omega) hbytes
        have h48' : ¬ (281474976710656 < Builtin.nextslicecap (n + m) cap * i.bytes) := by omega
        have hfo := run_firstCells_some (P := P) w.drew 1 n ⟨b, o, none⟩ n cap xs h4 (fun j q hj => by rw [Addr.add_mid]; simpa using (by rw [cell_of_row w b _ cs.toArray e2 (0, 0) hb]; simpa using h5 j q hj))
        refine ⟨.slice (some ⟨w.heap.size, 0, none⟩) (n + m) (grownCap w (n + m) cap e'), _, _, ?_, made _ _ rfl hge hcm (by omega), .inr (.inr ⟨_, rfl, rfl⟩)⟩
        simp [Builtin.append_, run_underlying hu, run_underlying htn, sizeOf, typeInfo, zeroValue, hi, hz, hzc, asInt, asIntOf, hwm, hm, hneg, his, hroom, h63', h48', h48i, Question.forced, newRow, grownCap, hfo, Y9]
section zb
variable {C : Cx} {l : Env} {M J : Mem} {K : Env → Mem → Mem → Prop} {d : Nat} {ty t tn e : TypeId} {pos : String} {af : Array Edge} {g : Option (Nat × Bool)} {x y : Operand}
theorem A41 {by_ n m : Nat} {v : Value} {j : Int} {xs : List Value} {B M0 : Mem} (hx : ev l x = some v) (hy : ev l y = some (.int .i64 j)) (hj : j = (m : Int)) (ht : B3v C.P t tn = some (e, by_))
    (hs : Sl 1 v n xs B) (hM : M.Perm (B ++ M0)) (hmax : n + m ≤ maxLen) (hbytes : (n + m) * by_ ≤ 140737488355328) (hd : Nat.blt d C.N = true)
    (k : ∀ v' B', Sl 1 v' (n + m) (xs ++ N7 (List.replicate m false)) B' → K ((d, v') :: l) (B' ++ M0) J) :
    OpL C ⟨some d, .call { callee := .builtin .append, args := #[x, y], argTypes := #[t, tn] }, ty, pos, af, g⟩ l M J K := by
  intro Qp a w ha hw
  subst hj
  obtain ⟨v', w', B', hrun, hsl, hcase⟩ := A2b (P := C.P) (ty := ty) (R := M ++ (J ++ C.A)) ht hs (fun q hq => by have := hM.mem_iff.2 (List.mem_append_left M0 hq); simp [this]) hw.fx hmax hbytes
  have hexec : (execOp a.eval ⟨some d, .call { callee := .builtin .append, args := #[x, y], argTypes := #[t, tn] }, ty, pos, af, g⟩).run C.P w = .ok (.value v') w' := by
    simp [execOp, resolve, invoke, builtin, ha.ev hx, ha.ev hy, hrun]
  unfold Oper.wp
  rw [hexec]
  refine ⟨_, B' ++ M0, J, ha.put (D6 hd) v', ?_, k v' B' hsl⟩
  rcases hcase with ⟨rfl, rfl⟩ | ⟨b, cs, cs', e', rfl, rfl, rfl⟩ | ⟨o', rfl, rfl⟩
  · exact hw.perm hM
  · exact (hw.perm hM).setRow (M' := [(b, blk cs' e')] ++ M0) Upd.hd
  · have h2 : St C ((w.heap.size, o') :: M) J (w.drew.alloc o') := St.alloc (w := w.drew) hw.drew o'
    have h3 := h2.perm (M' := (w.heap.size, o') :: (B ++ M0)) (List.Perm.cons _ hM)
    exact h3.drop (List.Sublist.cons_cons _ (List.sublist_append_right B M0)) (fun _ h => h)
end zb
theorem B1L {C : Cx} {l : Env} {M J : Mem} {K : Env → Mem → Mem → Prop} {ty t : TypeId} {pos : String} {af : Array Edge} {g : Option (Nat × Bool)} {x y : Operand} {v u : Value} {xs : List Value} {n j : Nat} {B M0 : Mem} (h : Sl 1 v n xs B) (hx : ev l x = some (vAt 1 j v)) (hy : ev l y = some u) (h1 : u.oneCell' = true)
    (ht : P2 C.P t = some 1) (hj : j < n) (hM : M.Perm (B ++ M0)) (h2 : ∀ B', Sl 1 v n (xs.set j u) B' → K l (B' ++ M0) J) :
    OpL C ⟨none, .store t x y, ty, pos, af, g⟩ l M J K := by
  suffices hh : OpL C ⟨none, .store t x y, ty, pos, af, g⟩ l (B ++ M0) J K from fun Qp a w ha hw => hh Qp a w ha (hw.fit (Fit.perm hM) fun _ h => h)
  clear hM
  rcases h with ⟨p, rfl, rfl, hx2, rfl⟩ | ⟨b, o, cap, cs, e, rfl, rfl, h3, h4, h5, h6, h7⟩
  · omega
  · simp only [vAt, Addr.add_mid, Nat.mul_one] at hx
    refine F3 hx hy h1 ht (A0D (by omega)) .hd (h2 [_] (.inr ⟨b, o, cap, _, e, rfl, rfl, h3, h4, by simpa using h5, by simpa using h6, ?_⟩))
    intro i w hi
    rw [List.getElem?_set] at hi ⊢
    by_cases hij : j = i
    · subst hij
      simp only [if_true] at hi ⊢
      simp at hi h6
      rw [if_pos (by omega)]
      rw [← hi.2]
    · rw [if_neg hij] at hi
      rw [if_neg (by omega)]
      exact h7 i w hi
theorem A0e {P : Program} {R : Mem} {l : Env} {d : Option Nat} {ty : TypeId} {pos : String} {af : Array Edge} {g : Option (Nat × Bool)} {fn : Fn} {ys xs : List Operand} {us vs : List Value} (hy : Evs l ys us) (hx : Evs l xs vs) :
    OpQ P R ⟨d, .makeFunc fn ys.toArray xs.toArray, ty, pos, af, g⟩ l (.func fn us.toArray vs.toArray) := fun N a w ha hw => by
  have e : xs.toArray.map a.eval = vs.toArray := by simp [hx.map ha]
  have e2 : ys.toArray.map a.eval = us.toArray := by simp [hy.map ha]
  simp only [execOp, e, e2]
  simp [Instr.makeFunc]
section call
variable {C : Cx} {l : Env} {M J : Mem} {K : Env → Mem → Mem → Prop} {d : Nat} {ty : TypeId} {pos : String} {af : Array Edge} {g : Option (Nat × Bool)} {x : Operand} {f : FuncId} {xs : List Operand} {us vs cs : List Value} {ts : Array TypeId}
theorem A7X {Mc R : Mem} {post : Value → Mem → Mem → Prop} (h0 : ev l x = some (.func (.func f) us.toArray cs.toArray)) (hx : Evs l xs vs) (hc : G5 C.P f = true)
    (hM : M.Perm (Mc ++ R)) (hf : FnX C.P f (us ++ vs ++ cs) Mc (R ++ (J ++ C.A)) post) (hd : Nat.blt d C.N = true) (k : ∀ v M' J', post v M' J' → K ((d, v) :: l) (M' ++ R) (J' ++ J)) :
    OpL C ⟨some d, .call { callee := .value x, args := xs.toArray, argTypes := ts }, ty, pos, af, g⟩ l M J K := by
  intro Qp a w ha hw
  have hrun : (execOp a.eval ⟨some d, .call { callee := .value x, args := xs.toArray, argTypes := ts }, ty, pos, af, g⟩).run C.P w = .ok (.enter f (us ++ vs ++ cs).toArray) w := by
    have e : xs.toArray.map a.eval = vs.toArray := by simp [hx.map ha]
    simp only [execOp, resolve, e, Sem.run_bind, ha.ev h0]
    simp [Deferred.ofValue, invoke, A1Q hc]
  unfold Oper.wp
  rw [hrun]
  refine Calls.mono (hf w (hw.callee hM)) ?_
  rintro e w' ⟨v, M', J', rfl, hp, hs⟩
  exact ⟨_, _, _, ha.put (D6 hd) v, hw.back hM hs, k v M' J' hp⟩
theorem A6C {v : Value} (h0 : ev l x = some (.func (.func f) us.toArray cs.toArray)) (hx : Evs l xs vs) (hc : G5 C.P f = true) (hf : FnV C.P f (us ++ vs ++ cs) (M ++ (J ++ C.A)) v) (hd : Nat.blt d C.N = true) (k : K ((d, v) :: l) M J) :
    OpL C ⟨some d, .call { callee := .value x, args := xs.toArray, argTypes := ts }, ty, pos, af, g⟩ l M J K :=
  A7X (Mc := []) (R := M) h0 hx hc (.refl _) hf hd fun r M' J' ⟨e, h1, h2⟩ => by subst e; subst h1; subst h2; exact k
end call
theorem A6D {p : Nat → Bool} {n : Nat} : decide (A1H p n ≥ 0) = (List.range n).any p := by
  rcases A0v p n with ⟨h1, h2⟩ | ⟨i, h1, h2, h3, _⟩
  · rw [h1]
    symm
    rw [show decide ((-1 : Int) ≥ 0) = false from rfl, List.any_eq_false]
    intro j hj
    rw [h2 j (List.mem_range.1 hj)]; decide
  · rw [h2]
    symm
    rw [decide_eq_true (by omega), List.any_eq_true]
    exact ⟨i, List.mem_range.2 h1, h3⟩
theorem A2S {α : Type} (q : α → Bool) (l : List α) : (List.range l.length).any (fun j => (l[j]?.map q).getD false) = l.any q := by
  rw [Bool.eq_iff_iff, List.any_eq_true, List.any_eq_true]
  constructor
  · rintro ⟨j, hj, h⟩
    have hj := List.mem_range.1 hj
    rw [List.getElem?_eq_getElem hj] at h
    exact ⟨l[j], List.getElem_mem hj, h⟩
  · rintro ⟨x, hx, h⟩
    obtain ⟨j, hj⟩ := List.getElem?_of_mem hx
    exact ⟨j, List.mem_range.2 (List.getElem?_eq_some_iff.1 hj).1, by rw [hj]; exact h⟩
end Go.Px

namespace Go.Proofs.YtoameenjkiaefaaGreatDoor
open Go.Px
theorem A2T {P : Program} {f : FuncId} {args : List Value} {A A' : Mem} {v : Value} (h : FnV P f args A v) (hs : ∀ x, x ∈ A → x ∈ A') : FnV P f args A' v := by
  intro w hw
  refine Calls.mono (h w ⟨hw.os, hw.tape, hw.output, hw.size, hw.frame, fun b o hb => hw.mem b o (by simpa using hs _ (by simpa using hb)), hw.nodup, hw.own, hw.sepJ, fun b o hb => hw.sepA b o (hs _ hb), hw.old⟩) ?_
  rintro e w' ⟨r, M', J', rfl, ⟨rfl, rfl, rfl⟩, h2⟩
  refine ⟨_, [], [], rfl, ⟨rfl, rfl, rfl⟩, ⟨h2.os, h2.tape, h2.output, h2.size, h2.frame, fun b o hb => ?_, h2.nodup, h2.own, h2.sepJ, fun b o hb => hw.sepA b o hb, h2.old⟩⟩
  have hb' : (b, o) ∈ A' := by simpa using hb
  have h3 := h2.frame b (hw.sepA b o hb').2 qM
  rw [h3]
  exact hw.mem b o (by simpa using hb')
structure Pr where
  n : Nat
  sec : LN
  sig : LN
structure Nm where
  n : Nat
  id : LN
def prR (R : Mem) (x : Pr) (r : List Value) : Prop := ∃ vs vg, r = [(vU x.n), vs, vg] ∧ By R vs x.sec ∧ By R vg x.sig ∧ x.n < 4294967296
theorem prT : RowT 3 prR := ⟨fun R R' x r hR ⟨vo, vk, h1, h2, h3, h4⟩ => ⟨vo, vk, h1, h2.mono hR, h3.mono hR, h4⟩, fun R x r ⟨vo, vk, h1, _⟩ => by rw [h1]; rfl, fun R x r ⟨vo, vk, h1, h2, h3, _⟩ c hc => by
  rw [h1] at hc
  simp only [List.mem_cons, List.not_mem_nil, or_false] at hc
  rcases hc with rfl | rfl | rfl
  · rfl
  · exact h2.one
  · exact h3.one⟩
def nmR (R : Mem) (x : Nm) (r : List Value) : Prop := ∃ vi, r = [(vU x.n), vi] ∧ By R vi x.id ∧ x.n < 4294967296
theorem nmT : RowT 2 nmR := ⟨fun R R' x r hR ⟨vi, h1, h2, h4⟩ => ⟨vi, h1, h2.mono hR, h4⟩, fun R x r ⟨vi, h1, _⟩ => by rw [h1]; rfl, fun R x r ⟨vi, h1, h2, _⟩ c hc => by
  rw [h1] at hc
  simp only [List.mem_cons, List.not_mem_nil, or_false] at hc
  rcases hc with rfl | rfl
  · rfl
  · exact h2.one⟩
theorem eq32 (a b : Nat) : I8 .eql .u32 ((a : Nat) : Int) ((b : Nat) : Int) = some (.bool (decide (a = b))) := by
  by_cases h : a = b
  · rw [decide_eq_true h]; exact eqT qO
  · rw [decide_eq_false h]; exact eqF qO
theorem A42 (v : Value) (rows : List (List Value)) (f : FuncId) (cs : List Value) (p : Nat → Bool) (A : Mem) (hv : Rd A 3 v rows.length rows.flatten) (hl : ∀ r ∈ rows, r.length = 3) (hn : rows.length ≤ 1099511627776) (hc_ : G5 Tryz.prog f = true) (hf : ∀ (j : Nat) (r : List Value), rows[j]? = some r → FnV Tryz.prog f (.agg r.toArray :: cs) A (.bool (p j))) : FnV Tryz.prog 141 [v, .func (.func f) #[] cs.toArray] A (.int .i64 (A1H p rows.length)) := by
 haveI := hv.cel
 refine FnX.enter (N := 19) Tryz.func141 rfl rfl rfl fun w => ?_
 refine A8 (D0 0 1) (A1 (as_ (A0 (D0 0 1) (A7 (A1 (mv_ ?_))))))
 refine A2 (E1 (sz := 3) rfl kR hv) rfl ?_
 refine mv_ (A0 (F8 0 1 7 8) (C6 ?_))
 refine H0 (α := Nat) (fun i => [(0, v), (1, .func (.func f) #[] cs.toArray), (7, (vI rows.length)), (8, .int .i64 (i : Int))]) (fun _ => []) (fun _ => []) (fun i => i ≤ rows.length ∧ ∀ j, j < i → p j = false) (fun i => rows.length - i) 0 ⟨Nat.zero_le _, fun j h => absurd h (Nat.not_lt_zero j)⟩ (F8 0 1 7 8) .rfl qI ?_
 rintro i ⟨hi, hp⟩
 refine A1 ?_
 refine A2 (F1 rfl rfl rfl) rfl ?_
 refine A0 (H9 0 1 7 8 9) (A7 ?_)
 refine C4 rfl ?_ ?_ <;> intro hc
 ·
  have hlt : i < rows.length := by simp at hc; omega
  obtain ⟨r, hr⟩ : ∃ r, rows[i]? = some r := ⟨_, List.getElem?_eq_getElem hlt⟩
  refine A5 (nx (F8 0 1 7 8) (A7 (C6 (A1 (mv_ (as_ (A0 (H9 0 1 5 7 8) (A1 ?_))))))))
  refine mv_ (mv_ (mv_ ?_))
  refine A2 (E9 (sz := 3) rfl rfl kR rfl hv hlt) rfl ?_
  refine A2 (T7 rfl kR (hv.mono qS) hl qD hr) rfl ?_
  refine A4 rfl (A0L rfl (aS rfl a0) hc_ (hf i r hr) rfl ?_)
  refine A0 (L1 0 1 5 7 8 16) ?_
  refine C4 rfl ?_ ?_ <;> intro hc
  ·
   refine A1 (mv_ (as_ (A0 (C8 4) (A6 (br (tr (rr (br ?_))))))))
   refine tr ?_
   exact ⟨_, [], [], F4 rfl rfl, List.nil_sublist _, by simp, by rw [W1 hlt hp hc], rfl, rfl⟩
  ·
   refine A5 (nb (nx (F8 0 1 7 8) (D1 ?_)))
   refine A2 (G8 (b := 1) rfl rfl rfl rfl qO) rfl ?_
   refine mv_ (E3 ?_)
   exact rn (i + 1) ⟨hlt, fun j hj => by rcases Nat.lt_succ_iff_lt_or_eq.1 hj with h | h; exact hp j h; rw [h]; exact hc⟩ qO (F8 0 1 7 8) .rfl qI
 ·
  have hge : i = rows.length := by simp at hc; omega
  subst hge
  refine G6 (te (re (be rfl (nx kn (A1 (as_ (A0 (C8 4) ?_)))))))
  refine A6 ?_
  exact ⟨_, [], [], F4 rfl rfl, List.nil_sublist _, by simp, by rw [W2 hp], rfl, rfl⟩
theorem A43 (v : Value) (rows : List (List Value)) (f : FuncId) (cs : List Value) (p : Nat → Bool) (A : Mem) (hv : Rd A 2 v rows.length rows.flatten) (hl : ∀ r ∈ rows, r.length = 2) (hn : rows.length ≤ 1099511627776) (hc_ : G5 Tryz.prog f = true) (hf : ∀ (j : Nat) (r : List Value), rows[j]? = some r → FnV Tryz.prog f (.agg r.toArray :: cs) A (.bool (p j))) : FnV Tryz.prog 140 [v, .func (.func f) #[] cs.toArray] A (.int .i64 (A1H p rows.length)) := by
 haveI := hv.cel
 refine FnX.enter (N := 19) Tryz.func140 rfl rfl rfl fun w => ?_
 refine A8 (D0 0 1) (A1 (as_ (A0 (D0 0 1) (A7 (A1 (mv_ ?_))))))
 refine A2 (E1 (sz := 2) rfl kR hv) rfl ?_
 refine mv_ (A0 (F8 0 1 7 8) (C6 ?_))
 refine H0 (α := Nat) (fun i => [(0, v), (1, .func (.func f) #[] cs.toArray), (7, (vI rows.length)), (8, .int .i64 (i : Int))]) (fun _ => []) (fun _ => []) (fun i => i ≤ rows.length ∧ ∀ j, j < i → p j = false) (fun i => rows.length - i) 0 ⟨Nat.zero_le _, fun j h => absurd h (Nat.not_lt_zero j)⟩ (F8 0 1 7 8) .rfl qI ?_
 rintro i ⟨hi, hp⟩
 refine A1 ?_
 refine A2 (F1 rfl rfl rfl) rfl ?_
 refine A0 (H9 0 1 7 8 9) (A7 ?_)
 refine C4 rfl ?_ ?_ <;> intro hc
 ·
  have hlt : i < rows.length := by simp at hc; omega
  obtain ⟨r, hr⟩ : ∃ r, rows[i]? = some r := ⟨_, List.getElem?_eq_getElem hlt⟩
  refine A5 (nx (F8 0 1 7 8) (A7 (C6 (A1 (mv_ (as_ (A0 (H9 0 1 5 7 8) (A1 ?_))))))))
  refine mv_ (mv_ (mv_ ?_))
  refine A2 (E9 (sz := 2) rfl rfl kR rfl hv hlt) rfl ?_
  refine A2 (T7 rfl kR (hv.mono qS) hl qD hr) rfl ?_
  refine A4 rfl (A0L rfl (aS rfl a0) hc_ (hf i r hr) rfl ?_)
  refine A0 (L1 0 1 5 7 8 16) ?_
  refine C4 rfl ?_ ?_ <;> intro hc
  ·
   refine A1 (mv_ (as_ (A0 (C8 4) (A6 (br (tr (rr (br ?_))))))))
   refine tr ?_
   exact ⟨_, [], [], F4 rfl rfl, List.nil_sublist _, by simp, by rw [W1 hlt hp hc], rfl, rfl⟩
  ·
   refine A5 (nb (nx (F8 0 1 7 8) (D1 ?_)))
   refine A2 (G8 (b := 1) rfl rfl rfl rfl qO) rfl ?_
   refine mv_ (E3 ?_)
   exact rn (i + 1) ⟨hlt, fun j hj => by rcases Nat.lt_succ_iff_lt_or_eq.1 hj with h | h; exact hp j h; rw [h]; exact hc⟩ qO (F8 0 1 7 8) .rfl qI
 ·
  have hge : i = rows.length := by simp at hc; omega
  subst hge
  refine G6 (te (re (be rfl (nx kn (A1 (as_ (A0 (C8 4) ?_)))))))
  refine A6 ?_
  exact ⟨_, [], [], F4 rfl rfl, List.nil_sublist _, by simp, by rw [W2 hp], rfl, rfl⟩
theorem Z0 (v : Value) (w : LN) (A : Mem) (h : By A v w) : FnX Tryz.prog 47 [v] [] A fun r M J => M = [] ∧ By J r w := by
 haveI := h.cel
 have hwl := h.len
 refine FnX.enterZ (N := 8) Tryz.func47 rfl rfl rfl fun w_ => ?_
 refine A8 (C8 0) (A1 (as_ (A0 (C8 0) (A7 (A1 (mv_ ?_))))))
 refine A2 (A0b (e := 5) rfl kR (by first | assumption | exact Sl.rd (by assumption) qI | exact By.rd (by assumption))) rfl ?_
 refine A0 (D0 0 4) ?_
 refine C4 rfl ?_ ?_ <;> intro hc
 ·
  have h0 := h.rd.isNil hc
  obtain rfl : w = [] := List.eq_nil_of_length_eq_zero h0
  refine A1 (as_ (A0 (C8 2) (A6 (tr ?_))))
  exact ⟨_, [], [], F4 rfl rfl, qZ, rfl, By.nil⟩
 ·
  refine A5 (nx (C8 0) (A1 ?_))
  refine A4 rfl (C3 (e := 5) (sz := 1) (z := []) kR e0 bd0 rfl fun b5 => ?_)
  refine mv_ ?_
  refine A4 rfl (G1 (e := 5) (sz := 1) (by_ := 1) rfl rfl kR rfl (Sl.fresh (n := 0) (cs := []) (e := 5) rfl qD) (h.rd.mono qS) S8 qP (by unfold maxLen; omega) qO rfl fun v7 B7 hs7 => ?_)
  refine as_ (A0 (C8 2) (A6 ?_))
  exact ⟨_, [], B7, F4 rfl rfl, Fit.pick qP qZ, rfl, ⟨A4J (hs7.rd fun x hx => by simp [hx]) qO qM, h.lt, h.len⟩⟩
theorem A7Y {k : IntKind} (c : Int) : I8 .geq k c 0 = some (.bool (decide (0 ≤ c))) := by
  by_cases h : 0 ≤ c
  · rw [decide_eq_true h]; exact geT h
  · rw [decide_eq_false h]; exact geF qO
theorem A2c (v : Value) (rows : List (List Value)) (f : FuncId) (cs : List Value) (p : Nat → Bool) (A : Mem) (hv : Rd A 3 v rows.length rows.flatten) (hl : ∀ r ∈ rows, r.length = 3) (hn : rows.length ≤ 1099511627776) (hc_ : G5 Tryz.prog f = true) (hf : ∀ (j : Nat) (r : List Value), rows[j]? = some r → FnV Tryz.prog f (.agg r.toArray :: cs) A (.bool (p j))) : FnV Tryz.prog 104 [v, .func (.func f) #[] cs.toArray] A (.bool (decide (0 ≤ A1H p rows.length))) := by
 haveI := hv.cel
 refine FnX.enter (N := 9) Tryz.func104 rfl rfl rfl fun w => ?_
 refine A8 (D0 0 1) (A1 (as_ (A0 (D0 0 1) (A1 (mv_ (mv_ ?_))))))
 refine E2 (aS rfl (aS rfl a0)) kR (A42 v rows f cs p _ (hv.mono qS) hl hn hc_ (fun j r hr => A2T (hf j r hr) qS)) rfl ?_
 refine A2 (F6 (decide (0 ≤ A1H p rows.length)) rfl rfl (A7Y _)) rfl ?_
 refine as_ (A0 (C8 4) (A6 ?_))
 exact ⟨_, [], [], F4 rfl rfl, List.nil_sublist _, by simp, rfl, rfl, rfl⟩
theorem A3y (vs vg vi : Value) (x : Pr) (n b : Nat) (A : Mem) (hs : By A vs x.sec) (hg : By A vg x.sig) (hvi : Cel vi [vi]) (hb : (b, blk [(vU n), vi] 174) ∈ A) : FnV Tryz.prog 105 [.agg #[(vU x.n), vs, vg], (vP b)] A (.bool (decide (x.n = n))) := by
 haveI := hs.cel
 haveI := hg.cel
 refine FnX.enter (N := 9) Tryz.func105 rfl rfl rfl fun w => ?_
 refine A8 (D0 0 1) (A1 ?_)
 refine A4 rfl (bx_ fun b2 => ?_)
 refine as_ (A0 (D0 1 2) (A1 ?_))
 refine A2 (qf_ 0 0) rfl ?_
 refine A2 ql_ rfl ?_
 refine A2 (qf_ 0 0) rfl ?_
 refine A2 (G7 rfl kR (mA hb) qR) rfl ?_
 refine A2 (F6 (decide (x.n = n)) rfl rfl (eq32 _ _)) rfl ?_
 refine as_ (A0 (C8 3) (A6 ?_))
 exact ⟨_, [], [], F4 rfl rfl, List.nil_sublist _, by simp, rfl, rfl, rfl⟩

structure Ks where
  user : Int
  dev : Int
  agree : LN
  sign : LN
  signed : List Pr
  once : List Pr
  next : Nat
  met : List Nm
def A96 (n : Nat) (x : Pr) : Bool := decide (x.n = n)
def tstN (n : Nat) (w : LN) (x : Nm) : Bool := decide (x.n = n) && decide (x.id = w)
def B3w (l : List Pr) (n : Nat) : Option (LN) := if A19 (A96 n) l < 0 then none else (l[(A19 (A96 n) l).toNat]?).map (·.sec)
def kyC (k : Ks) (va vg vs vo vm : Value) : List Value := [.int .i64 k.user, .int .i64 k.dev, va, vg, vs, vo, (vU k.next), vm]
structure KyR (R : Mem) (kb : Nat) (k : Ks) (va vg vs vo vm : Value) (rs ro rm : List (List Value)) : Prop where
  blk_ : (kb, blk [.int .i64 k.user, .int .i64 k.dev, va, vg, vs, vo, (vU k.next), vm] 127) ∈ R
  agree : By R va k.agree
  sign : By R vg k.sign
  signed : Rd R 3 vs k.signed.length rs.flatten
  signedR : RwL prR R rs k.signed
  once : Rd R 3 vo k.once.length ro.flatten
  onceR : RwL prR R ro k.once
  met : Rd R 2 vm k.met.length rm.flatten
  metR : RwL nmR R rm k.met
  next : k.next < 4294967296
  l1 : k.signed.length ≤ 1000000
  l2 : k.once.length ≤ 1000000
  l3 : k.met.length ≤ 1000000
theorem KyR.mono {R R' : Mem} {kb : Nat} {k : Ks} {va vg vs vo vm : Value} {rs ro rm : List (List Value)} (h : KyR R kb k va vg vs vo vm rs ro rm) (hR : ∀ x, x ∈ R → x ∈ R') : KyR R' kb k va vg vs vo vm rs ro rm :=
  ⟨hR _ h.blk_, h.agree.mono hR, h.sign.mono hR, h.signed.mono hR, h.signedR.mono prT hR, h.once.mono hR, h.onceR.mono prT hR, h.met.mono hR, h.metR.mono nmT hR, h.next, h.l1, h.l2, h.l3⟩
theorem A97 (kb : Nat) (k : Ks) (va vg vs vo vm : Value) (rs ro rm : List (List Value)) (A : Mem) (hK : KyR A kb k va vg vs vo vm rs ro rm) : FnV Tryz.prog 23 [(vP kb)] A (.agg #[.int .i64 k.user, .int .i64 k.dev]) := by
 have hkb := hK.blk_
 haveI := hK.agree.cel
 haveI := hK.sign.cel
 haveI := hK.signed.cel
 haveI := hK.once.cel
 haveI := hK.met.cel
 refine FnX.enter (N := 10) Tryz.func23 rfl rfl rfl fun w => ?_
 refine A8 (C8 0) (A1 ?_)
 refine A4 rfl (D3 (cs := [.int .i64 0, .int .i64 0]) kR rfl fun b2 => ?_)
 refine A0 (D0 0 2) (A7 (A1 (mv_ ?_)))
 refine A2 (C9 (e := 127) rfl rfl kR) rfl ?_
 refine A0 (E7 0 2 4) ?_
 refine B8 rfl ?_
 refine A5 (nx (D0 0 2) (A1 (mv_ ?_)))
 refine A2 (D5 rfl) rfl ?_
 refine A2 (qf_ 0 0) rfl ?_
 refine A2 (A3k (n := 2) rfl kR (mA hkb) TakeC.take) rfl ?_
 refine A4 rfl (C0 rfl rfl Cel.cel kR ln2 al2 UpC.upd ?_)
 refine A0 (C8 2) (A6 ?_)
 exact ⟨_, [], [], A8C rfl rfl kR At.mem qR, List.nil_sublist _, by simp, rfl, rfl, rfl⟩
theorem A7Z (kb : Nat) (k : Ks) (va vg vs vo vm : Value) (rs ro rm : List (List Value)) (A : Mem) (hK : KyR A kb k va vg vs vo vm rs ro rm) : FnX Tryz.prog 56 [(vP kb)] [] A fun r M J => M = [] ∧ By J r k.agree := by
 have hkb := hK.blk_
 haveI := hK.agree.cel
 haveI := hK.sign.cel
 haveI := hK.signed.cel
 haveI := hK.once.cel
 haveI := hK.met.cel
 refine FnX.enterZ (N := 10) Tryz.func56 rfl rfl rfl fun w_ => ?_
 refine A8 (C8 0) (A1 (as_ (A0 (C8 0) (A7 (A1 (mv_ ?_))))))
 refine A2 (C9 (e := 127) rfl rfl kR) rfl ?_
 refine A0 (D0 0 4) ?_
 refine B8 rfl ?_
 refine A5 (nx (C8 0) (A1 (mv_ ?_)))
 refine A2 (D5 rfl) rfl ?_
 refine A2 (qf_ 2 2) rfl ?_
 refine A2 (G7 rfl kR (mA hkb) qR) rfl ?_
 refine F0 (aS rfl a0) kR (Z0 va k.agree _ (hK.agree.mono qS)) rfl ?_
 rintro r9 M9 J9 ⟨rfl, h9⟩
 haveI := h9.cel
 refine as_ (A0 (C8 2) (A6 ?_))
 exact ⟨_, [], [], F4 rfl rfl, qZ, rfl, h9.mono qS⟩

def cmpK (a b : Nat) : Int := if a < b then -1 else if b < a then 1 else 0
def Rise (l : List Pr) : Prop := ∀ (i j : Nat) (x y : Pr), i < j → l[i]? = some x → l[j]? = some y → x.n < y.n
structure BsR (l : List Pr) (n i : Nat) (b : Bool) : Prop where
  le : i ≤ l.length
  lt : ∀ (j : Nat) (y : Pr), j < i → l[j]? = some y → y.n < n
  ge : ∀ (j : Nat) (y : Pr), i ≤ j → l[j]? = some y → n ≤ y.n
  at_ : b = true ↔ ∃ x, l[i]? = some x ∧ x.n = n
structure Kys (R : Mem) (kb : Nat) (k : Ks) (M : Mem) : Prop where
  ex : ∃ (va vg vs vo vm : Value) (rs ro rm : List (List Value)) (Bs Bo Bm : Mem), M = (kb, blk [.int .i64 k.user, .int .i64 k.dev, va, vg, vs, vo, (vU k.next), vm] 127) :: (Bs ++ (Bo ++ Bm)) ∧
    By R va k.agree ∧ By R vg k.sign ∧ Sl 3 vs k.signed.length rs.flatten Bs ∧ RwL prR R rs k.signed ∧ Sl 3 vo k.once.length ro.flatten Bo ∧ RwL prR R ro k.once ∧ Sl 2 vm k.met.length rm.flatten Bm ∧ RwL nmR R rm k.met ∧ k.next < 4294967296 ∧ k.signed.length ≤ 2 ∧ k.once.length ≤ 100 ∧ k.met.length ≤ 100000
theorem Kys.mono {R R' : Mem} {kb : Nat} {k : Ks} {M : Mem} (h : Kys R kb k M) (hR : ∀ x, x ∈ R → x ∈ R') : Kys R' kb k M := by
  obtain ⟨va, vg, vs, vo, vm, rs, ro, rm, Bs, Bo, Bm, h1, h2, h3, h4, h5, h6, h7, h8, h9, h10⟩ := h.ex
  exact ⟨va, vg, vs, vo, vm, rs, ro, rm, Bs, Bo, Bm, h1, h2.mono hR, h3.mono hR, h4, h5.mono prT hR, h6, h7.mono prT hR, h8, h9.mono nmT hR, h10⟩
theorem Kys.r {R : Mem} {kb : Nat} {k : Ks} {M : Mem} (h : Kys R kb k M) : ∃ va vg vs vo vm rs ro rm, ∀ R', (∀ x, x ∈ R → x ∈ R') → (∀ x, x ∈ M → x ∈ R') → KyR R' kb k va vg vs vo vm rs ro rm := by
  obtain ⟨va, vg, vs, vo, vm, rs, ro, rm, Bs, Bo, Bm, rfl, h2, h3, h4, h5, h6, h7, h8, h9, h10, h11, h12, h13⟩ := h.ex
  refine ⟨va, vg, vs, vo, vm, rs, ro, rm, fun R' hR hM => ⟨hM _ qK, h2.mono hR, h3.mono hR, h4.rd fun x hx => hM x (by simp [hx]), h5.mono prT hR, h6.rd fun x hx => hM x (by simp [hx]), h7.mono prT hR, h8.rd fun x hx => hM x (by simp [hx]), h9.mono nmT hR, by omega, by omega, by omega, by omega⟩⟩
noncomputable def S3 (k : Ks) (s : Ps) : Nat → Ks × Ps
  | 0 => (k, s)
  | i + 1 => ({ (S3 k s i).1 with once := (S3 k s i).1.once ++ [⟨(S3 k s i).1.next, E0 (S3 k s i).2, []⟩], next := (S3 k s i).1.next + 1 }, D7 (S3 k s i).2)
theorem A1I (k : Ks) (s : Ps) : ∀ i, (S3 k s i).1.once.length = k.once.length + i
  | 0 => rfl
  | i + 1 => by simp [S3, A1I k s i]; omega
theorem X2 (k : Ks) (s : Ps) : ∀ i, (S3 k s i).1.next = k.next + i
  | 0 => rfl
  | i + 1 => by simp [S3, X2 k s i]; omega
theorem A4n (k : Ks) (s : Ps) : ∀ i, (S3 k s i).1 = { k with once := (S3 k s i).1.once, next := k.next + i }
  | 0 => rfl
  | i + 1 => by
    have h := A4n k s i
    have hn := X2 k s i
    simp only [S3, hn]
    rw [h]
    simp [Nat.add_assoc]
theorem L3 (s : Ps) : (D7 s).ts.length ≤ s.ts.length + 1 ∧ (D7 s).n = s.n + 1 := by
  unfold D7
  split
  · exact ⟨by simp, rfl⟩
  · refine ⟨?_, rfl⟩
    show (add s.ts _).length ≤ _
    unfold add
    split <;> simp
theorem A2d (k : Ks) (s : Ps) : ∀ i, (S3 k s i).2.ts.length ≤ s.ts.length + i ∧ (S3 k s i).2.n = s.n + i
  | 0 => ⟨Nat.le_refl _, rfl⟩
  | i + 1 => by
    have h := A2d k s i
    have h2 := L3 (S3 k s i).2
    simp only [S3]
    omega
noncomputable def A2U (k : Ks) (s : Ps) : Ks × Ps := S3 k s (4 - k.once.length)
theorem B1M (kb : Nat) (pb : Nat × Nat) (k : Ks) (s : Ps) (MK MP A : Mem) (hK : Kys A kb k MK) (hP : Prm pb s MP) (hn : s.ts.length + 100 ≤ 1048576) (hk : s.n < 1000000000) (hnx : k.next + 100 < 4000000000) (hG : Glb A) : FnX Tryz.prog 55 [(vP kb), .pointer (some ⟨pb.1, 0, none⟩)] (MK ++ MP) A fun q M J => q = .int .i64 ((4 - k.once.length : Nat) : Int) ∧ ∃ MK2 MP2, M = MK2 ++ MP2 ∧ Kys (J ++ A) kb (A2U k s).1 MK2 ∧ Prm pb (A2U k s).2 MP2 := by
 obtain ⟨va, vg, vs, vo, vm, rs, ro, rm, Bs, Bo, Bm, rfl, hva, hvg, hss, hrs, hso, hro, hsm, hrm, hn1, hn2, hn3, hn4⟩ := hK.ex
 haveI := hva.cel
 haveI := hvg.cel
 haveI := hss.cel
 haveI := hso.cel
 haveI := hsm.cel
 refine FnX.enterZ (N := 42) Tryz.func55 rfl rfl rfl fun w_ => ?_
 refine A8 (D0 0 1) (A1 (as_ (A0 (D0 0 1) (A1 (as_ (A0 (E7 0 1 5) (A7 ?_)))))))
 refine C6 ?_
 refine H0 (α := Nat × (Value × List (List Value) × Mem) × Mem × Mem) (fun y => [(0, (vP kb)), (1, .pointer (some ⟨pb.1, 0, none⟩)), (5, (vI y.1))]) (fun y => (kb, blk [.int .i64 k.user, .int .i64 k.dev, va, vg, vs, y.2.1.1, .int .u32 ((k.next + y.1 : Nat) : Int), vm] 127) :: (Bs ++ (y.2.1.2.2 ++ (Bm ++ y.2.2.1)))) (fun y => y.2.2.2) (fun y => y.1 + k.once.length ≤ max 4 k.once.length ∧ Sl 3 y.2.1.1 (k.once.length + y.1) y.2.1.2.1.flatten y.2.1.2.2 ∧ RwL prR (y.2.2.2 ++ A) y.2.1.2.1 (S3 k s y.1).1.once ∧ Prm pb (S3 k s y.1).2 y.2.2.1) (fun y => 4 - (k.once.length + y.1)) (0, (vo, ro, Bo), MP, []) ⟨by dsimp only; omega, hso, hro, hP⟩ (E7 0 1 5) (Fit.pick (B := [_]) qP (Fit.pick qP (Fit.pick qP (Fit.pick qP (Fit.last qP))))) qI ?_
 rintro ⟨i, ⟨voi, roi, Boi⟩, MPi, Ji⟩ ⟨hi, hsi, hri, hPi⟩
 dsimp only at hi hsi hri hPi ⊢
 haveI := hsi.cel
 have hps := A2d k s i
 have hnx := X2 k s i
 have hol := A1I k s i
 refine A7 (A1 (mv_ ?_))
 refine A2 (A0n (e := 127) rfl rfl kR) rfl ?_
 refine mv_ ?_
 refine B0 rfl rfl (OpQ.opL qm_ rfl ?_)
 refine B0 rfl rfl (OpQ.opL (D5 rfl) rfl ?_)
 refine B0 rfl rfl (OpQ.opL (qf_ 5 5) rfl ?_)
 refine B0 rfl rfl (OpQ.opL ql_ rfl ?_)
 refine B0 rfl rfl (OpQ.opL (E1 (sz := 3) rfl kR (hsi.rd (R := Boi) fun _ h => h)) rfl ?_)
 refine B0 rfl rfl (OpQ.opL (F1 rfl rfl rfl) rfl ?_)
 refine A2 (D8 rfl rfl) rfl ?_
 refine A0 (F8 0 1 5 15) ?_
 refine C4 rfl ?_ ?_ <;> intro hc
 ·
  have hlt : k.once.length + i < 4 := by simp at hc; omega
  refine A5 (nx (E7 0 1 5) (A7 (C6 ?_)))
  refine E5 (MPi) (_) true [0, 1, 2, 3, 4, 5, 6, 7, 8, 9, 10, 11, 12, 14, 15] (zp 0 [0, 0, 0, 0, 1, 0, 0, 0, 1, 0, 2, 0, 2, 2, 0, 0, 2]) kR kR qP fun hs K n0 hKm hKs hKn => ?_
  refine km_ hs ?_
  refine km_ hs ?_
  refine E4 hs rfl (D5 rfl) rfl ?_
  refine E4 hs rfl (qf_ 5 5) rfl ?_
  refine I2 hs rfl hKs ql_ ?_
  refine km_ hs ?_
  refine E4 hs rfl (D5 rfl) rfl ?_
  refine E4 hs rfl (qf_ 6 6) rfl ?_
  refine I2 hs rfl hKs ql_ ?_
  refine km_ hs ?_
  refine F7 _ _ rfl rfl (List.Perm.refl _) hKm fun w0 => (A9 (Mc := MPi) (R := _) (aS rfl a0) kR qP (Q9 pb (S3 k s i).2 MPi _ hPi qO qO hG.up) rfl ?_)
  rintro v28 M28 J28 ⟨hP28, h28⟩ hKx
  haveI := h28.cel
  refine E4 hs rfl (D2 (place := fun x => #[(0, 1), (1, 1), (2, 1)][x]?) (z := [.int .u32 0, vS, vS]) (fun _ => by kernel_rfl) (eS rfl (eS rfl e0)) (bdS 0 1 rfl qR (bdS 1 1 rfl qR bd0))) rfl ?_
  refine F7 [] _ rfl rfl (List.Perm.refl _) (fun _ h => by cases h) fun w0 => (C3 (e := 123) (sz := 3) (z := [.int .u32 0, vS, vS]) kR (eS rfl e0) (bdS 0 3 rfl qR bd0) rfl fun b30 => fun _ => ?_)
  refine Y2 (M' := (b30, blk [.int .u32 ((k.next + i : Nat) : Int), v28, vS] 123) :: (M28 ++ ((kb, blk [.int .i64 k.user, .int .i64 k.dev, va, vg, vs, voi, .int .u32 ((k.next + i : Nat) : Int), vm] 127) :: (Bs ++ (Boi ++ (Bm ++ [])))))) qM ?_
  refine I6 rfl rfl rfl (G1 (e := 123) (sz := 3) (by_ := 56) rfl rfl kR rfl hsi (Rd.whole (n := 1) At.mem qR) (by intro c hc; simp only [List.mem_cons, List.not_mem_nil, or_false] at hc; rcases hc with rfl | rfl | rfl; rfl; exact h28.one; rfl) qP (by unfold maxLen; omega) qO rfl fun v31 B31 hs31 => ?_)
  haveI := hs31.cel
  refine E4 hs rfl (D5 rfl) rfl ?_
  refine E4 hs rfl (qf_ 5 5) rfl ?_
  refine I6 rfl rfl rfl (F3 rfl rfl hs31.one kR SetC.set UpC.upd ?_)
  refine H7 (E7 0 1 5) (D1 (mv_ ?_))
  refine A2 (D5 rfl) rfl ?_
  refine A2 (qf_ 6 6) rfl ?_
  refine A2 ql_ rfl ?_
  refine A2 (A8K 4294967296 (a := k.next + i) (b := 1) rfl rfl rfl rfl rfl rfl qO) rfl ?_
  refine A2 (D5 rfl) rfl ?_
  refine A2 (qf_ 6 6) rfl ?_
  refine A4 rfl (F3 rfl rfl rfl kR SetC.set UpC.upd ?_)
  refine E3 (nb (nx (E7 0 1 5) (D1 (mv_ ?_))))
  refine A2 (Z5 ((i + 1 : Nat) : Int) rfl rfl (A1o qO qO qO)) rfl ?_
  refine as_ (E3 ?_)
  exact rn (i + 1, (v31, roi ++ [[.int .u32 ((k.next + i : Nat) : Int), v28, vS]], B31), _, _) ⟨by dsimp only; omega, by simpa [Nat.add_assoc] using hs31, (hri.mono prT qS).snoc ⟨v28, vS, by rw [hnx], h28.mono qS, By.nil, by dsimp only; omega⟩, hP28⟩ (by dsimp only; omega) (E7 0 1 5) (Fit.pick (B := [_]) qP (Fit.pick qP (Fit.pick qP (Fit.pick qP (Fit.last qP))))) qI
 ·
  have hge : 4 ≤ k.once.length + i := by simp at hc; omega
  obtain rfl : i = 4 - k.once.length := by omega
  refine G6 (te (re (be rfl (nx (C8 5) (A1 (mv_ (as_ (A0 (C8 4) ?_))))))))
  refine A6 ?_
  have hfe := A4n k s (4 - k.once.length)
  refine ⟨_, (kb, blk [.int .i64 k.user, .int .i64 k.dev, va, vg, vs, voi, .int .u32 ((k.next + (4 - k.once.length) : Nat) : Int), vm] 127) :: (Bs ++ (Boi ++ (Bm ++ MPi))), [], F4 rfl rfl, Fit.none (Fit.eq qM), rfl, (kb, blk [.int .i64 k.user, .int .i64 k.dev, va, vg, vs, voi, .int .u32 ((k.next + (4 - k.once.length) : Nat) : Int), vm] 127) :: (Bs ++ (Boi ++ Bm)), MPi, by simp, ⟨⟨va, vg, vs, voi, vm, rs, roi, rm, Bs, Boi, Bm, ?_⟩⟩, hPi⟩
  unfold A2U
  rw [hfe]
  exact ⟨rfl, hva.mono qS, hvg.mono qS, hss, hrs.mono prT qS, by show Sl 3 voi (S3 k s (4 - k.once.length)).1.once.length _ _; rw [hol]; exact hsi, hri, hsm, hrm.mono nmT qS, by dsimp only; omega, hn2, by show (S3 k s (4 - k.once.length)).1.once.length ≤ 100; rw [hol]; omega, hn4⟩

end Go.Proofs.YtoameenjkiaefaaGreatDoor
namespace Go.Px
theorem A70 {rows : List (List Value)} {sz : Nat} {r : List Value} (hl : ∀ r ∈ rows, r.length = sz) (hr : r.length = sz) {j : Nat} (hj : j < rows.length) :
    rows.flatten.take (j * sz) ++ r ++ rows.flatten.drop (j * sz + sz) = (rows.set j r).flatten := by
  rw [show j * sz + sz = (j + 1) * sz from by rw [Nat.add_mul, Nat.one_mul], A0P hl, A2s hl, List.set_eq_take_append_cons_drop, if_pos hj]
  simp
section
variable {C : Cx} {l : Env} {M J : Mem} {K : Env → Mem → Mem → Prop} {ty t : TypeId} {pos : String} {af : Array Edge} {g : Option (Nat × Bool)} {x y : Operand} {v : Value} {xs : List Value} {n j sz : Nat} {B M0 : Mem}
theorem A71 {r : List Value} (hx : ev l x = some (vAt sz j v)) (hy : ev l y = some (.agg r.toArray)) (h : Sl sz v n xs B) (hr : r.length = sz) (h1 : ∀ u ∈ r, u.oneCell' = true)
    (ht : P2 C.P t = some sz) (hj : j < n) (hM : M.Perm (B ++ M0)) (h2 : ∀ B', Sl sz v n (xs.take (j * sz) ++ r ++ xs.drop (j * sz + sz)) B' → K l (B' ++ M0) J) :
    OpL C ⟨none, .store t x y, ty, pos, af, g⟩ l M J K := by
  suffices hh : OpL C ⟨none, .store t x y, ty, pos, af, g⟩ l (B ++ M0) J K from fun Qp a w ha hw => hh Qp a w ha (hw.fit (Fit.perm hM) fun _ h => h)
  clear hM
  subst hr
  have hjm : j * r.length + r.length ≤ n * r.length := by rw [← Nat.succ_mul]; exact Nat.mul_le_mul_right _ hj
  rcases h with ⟨p, rfl, rfl, hx2, rfl⟩ | ⟨b, o, cap, cs, e, rfl, rfl, h3, h4, h5, h6, h7⟩
  · omega
  · simp only [vAt, Addr.add_mid] at hx
    have hcm : n * r.length ≤ cap * r.length := Nat.mul_le_mul_right _ h3
    refine I4 hx hy rfl ht (by omega) h1 rfl .hd (h2 [_] (.inr ⟨b, o, cap, _, e, rfl, rfl, h3, h4, ?_, ?_, ?_⟩))
    · rw [W8 (by omega)]; exact h5
    · rw [W8 (by omega)]; exact h6
    · intro q u hq
      have hlt := (List.getElem?_eq_some_iff.1 hq).1
      rw [W8 (by omega)] at hlt
      by_cases hq1 : q < j * r.length
      · rw [A0O (by omega) hq1] at hq
        rw [A0O (by omega) (by omega)]
        exact h7 q u hq
      · by_cases hq2 : q < j * r.length + r.length
        · rw [A0p (by omega) (by omega) hq2] at hq
          rw [A0p (by omega) (by omega) (by omega), ← hq]
          congr 1; omega
        · rw [A2r (by omega) (by omega)] at hq
          rw [A2r (by omega) (by omega)]
          exact h7 q u hq
theorem A72 {e : TypeId} {by_ : Nat} {zs : List Value} (hx : ev l x = some (vLo j sz v)) (ht : A1m C.P t = some (e, sz, by_)) (hz : zn C.P t (n - j) = some zs) (h : Sl sz v n xs B)
    (h1 : ∀ c ∈ zs, c.oneCell' = true) (hj : j < n) (hM : M.Perm (B ++ M0)) (h2 : ∀ B', Sl sz v n (xs.take (j * sz) ++ zs) B' → K l (B' ++ M0) J) :
    OpL C ⟨none, .call { callee := .builtin .clear, args := #[x], argTypes := #[t] }, ty, pos, af, g⟩ l M J K := by
  suffices hh : OpL C ⟨none, .call { callee := .builtin .clear, args := #[x], argTypes := #[t] }, ty, pos, af, g⟩ l (B ++ M0) J K from fun Qp a w ha hw => hh Qp a w ha (hw.fit (Fit.perm hM) fun _ h => h)
  clear hM
  have hzl := A8D hz ht
  have hjm : j * sz ≤ n * sz := Nat.mul_le_mul_right _ (by omega)
  rw [Nat.sub_mul] at hzl
  rcases h with ⟨p, rfl, rfl, hx2, rfl⟩ | ⟨b, o, cap, cs, e', rfl, rfl, h3, h4, h5, h6, h7⟩
  · omega
  · have hcm : n * sz ≤ cap * sz := Nat.mul_le_mul_right _ h3
    simp only [vLo, if_neg (show ¬ cap = j by omega), Option.map_some, Addr.add_mid] at hx
    have hnj : (n - j) * sz = zs.length := by rw [hzl, Nat.sub_mul]
    refine A9i hx ht hz h1 (by rw [hnj]; omega) rfl .hd (h2 [_] (.inr ⟨b, o, cap, _, e', rfl, rfl, h3, h4, ?_, ?_, ?_⟩))
    · rw [hnj, W8 (by omega)]; exact h5
    · simp; omega
    · intro q u hq
      have hlt := (List.getElem?_eq_some_iff.1 hq).1
      simp at hlt
      rw [hnj]
      by_cases hq1 : q < j * sz
      · rw [A0O (by omega) (by omega)]
        rw [List.getElem?_append_left (by simp; omega), List.getElem?_take_of_lt hq1] at hq
        exact h7 q u hq
      · rw [A0p (by omega) (by omega) (by omega)]
        rw [List.getElem?_append_right (by simp; omega)] at hq
        rw [← hq]
        congr 1
        simp; omega
end
def kpt {β : Type} (p : Nat → Bool) (rows : List β) : Nat → List β
  | 0 => []
  | j + 1 => kpt p rows j ++ (if p j then [] else rows[j]?.toList)
theorem A3z {β : Type} {p : Nat → Bool} {rows : List β} : ∀ j, (∀ i, i < j → p i = false) → kpt p rows j = rows.take j
  | 0, _ => by simp [kpt]
  | j + 1, h => by
    rw [kpt, A3z j fun i hi => h i (by omega), if_neg (by rw [h j (by omega)]; decide), List.take_add_one]
theorem A1J {α : Type} (q : α → Bool) (xs : List α) : ∀ j, kpt (fun i => (xs[i]?.map q).getD false) xs j = (xs.take j).filter fun x => !q x
  | 0 => by simp [kpt]
  | j + 1 => by
    rw [kpt, A1J q xs j, List.take_add_one, List.filter_append]
    congr 1
    cases h : xs[j]? with
    | none => simp
    | some x => cases hq : q x <;> simp [hq]
theorem RwL.kpt {α : Type} {φ : Mem → α → List Value → Prop} {R : Mem} {rows : List (List Value)} {xs : List α} (h : RwL φ R rows xs) (p : Nat → Bool) : ∀ j, RwL φ R (Px.kpt p rows j) (Px.kpt p xs j)
  | 0 => RwL.nil
  | j + 1 => by
    rw [Px.kpt, Px.kpt]
    refine (RwL.kpt h p j).app ?_
    split
    · exact RwL.nil
    · cases hx : xs[j]? with
      | none =>
        have : rows[j]? = none := by rw [List.getElem?_eq_none_iff] at hx ⊢; rw [h.len]; exact hx
        rw [this]; exact RwL.nil
      | some x =>
        obtain ⟨r, h1, h2⟩ := h.get j x hx
        rw [h1]
        exact RwL.cons h2 RwL.nil
theorem A73 {α : Type} {cur : List α} {i : Nat} {r : α} (h : i < cur.length) : (cur.set i r).take (i + 1) = cur.take i ++ [r] := by
  rw [List.take_add_one, List.getElem?_set_self h, List.take_set_of_le (Nat.le_refl _)]
  rfl
theorem Sl.hi_app {sz n i : Nat} {v : Value} {xs zs : List Value} {B : Mem} (h : Sl sz v n (xs.take (i * sz) ++ zs) B) (hx : xs.length = n * sz) (hi : i ≤ n) : Sl sz (vHi i v) i (xs.take (i * sz)) B := by
  have h2 := h.hiV i hi
  have h3 : i * sz ≤ n * sz := Nat.mul_le_mul_right _ hi
  rwa [List.take_left' (by rw [List.length_take]; omega)] at h2
structure Dfs (sz : Nat) (p : Nat → Bool) (rows cur : List (List Value)) (j i : Nat) : Prop where
  jn : j ≤ rows.length
  ki : i = (kpt p rows j).length
  ij : i < j
  cl : cur.length = rows.length
  ct : cur.take i = kpt p rows j
  cd : cur.drop j = rows.drop j
  cs : ∀ r ∈ cur, r.length = sz
  cr : ∀ r ∈ cur, r ∈ rows
section
variable {sz : Nat} {p : Nat → Bool} {rows cur : List (List Value)} {j i i0 : Nat} {r : List Value}
theorem Dfs.init (hl : ∀ r ∈ rows, r.length = sz) (hi : i0 < rows.length) (hp : p i0 = true) (hq : ∀ j, j < i0 → p j = false) : Dfs sz p rows rows (i0 + 1) i0 := by
  have hk0 : kpt p rows (i0 + 1) = rows.take i0 := by rw [kpt, hp, A3z i0 hq]; simp
  exact ⟨hi, by rw [hk0, List.length_take]; omega, by omega, rfl, hk0.symm, rfl, hl, fun _ h => h⟩
theorem Dfs.at_ (h : Dfs sz p rows cur j i) (hr : rows[j]? = some r) : cur[j]? = some r := by
  have h2 := congrArg (fun l => l[0]?) h.cd
  simpa [List.getElem?_drop, hr] using h2
theorem Dfs.keep (h : Dfs sz p rows cur j i) (hr : rows[j]? = some r) (hp : p j = false) : Dfs sz p rows (cur.set i r) (j + 1) (i + 1) := by
  obtain ⟨h1, h2, h3, h4, h5, h6, h7, h8⟩ := h
  have hjl := (List.getElem?_eq_some_iff.1 hr).1
  have hk : kpt p rows (j + 1) = kpt p rows j ++ [r] := by rw [kpt, hp, hr]; rfl
  have hcj : cur.drop (j + 1) = rows.drop (j + 1) := by rw [← List.drop_drop, ← List.drop_drop, h6]
  refine ⟨hjl, by rw [hk]; simp [← h2], by omega, by simp [h4], ?_, ?_, ?_, ?_⟩
  · rw [A73 (by omega), h5, hk]
  · rw [List.drop_set_of_lt (by omega), hcj]
  · intro x hx
    rcases List.mem_or_eq_of_mem_set hx with hx | hx
    · exact h7 x hx
    · subst hx; exact h7 x (List.mem_of_getElem? (Dfs.at_ ⟨h1, h2, h3, h4, h5, h6, h7, h8⟩ hr))
  · intro x hx
    rcases List.mem_or_eq_of_mem_set hx with hx | hx
    · exact h8 x hx
    · subst hx; exact List.mem_of_getElem? hr
theorem Dfs.skip (h : Dfs sz p rows cur j i) (hjl : j < rows.length) (hp : p j = true) : Dfs sz p rows cur (j + 1) i := by
  obtain ⟨h1, h2, h3, h4, h5, h6, h7, h8⟩ := h
  have hk : kpt p rows (j + 1) = kpt p rows j := by rw [kpt, hp]; simp
  exact ⟨hjl, by rw [hk]; exact h2, by omega, h4, by rw [hk]; exact h5, by rw [← List.drop_drop, ← List.drop_drop, h6], h7, h8⟩
end
end Go.Px

