/- Part 14 of the texts of this claim, one behind the other. -/
import Derived.Test.YtpemeceacdhacaaGreatDoorB13
set_option linter.unusedVariables false
set_option linter.unusedSimpArgs false
set_option maxRecDepth 100000
namespace Go.Proofs.YtpemeceacdhacaaGreatDoor
open Go.Px
def A1N (w : LN) (x : Nat × Nat) : Bool := decide ([x.1] = w)
def A7y (L : List (Nat × Nat)) (w : LN) : List (Nat × Nat) := if K1 (A1N w) L < 0 then L else L.eraseIdx (K1 (A1N w) L).toNat
theorem A3X {L : List (Nat × Nat)} {w : LN} (h : K1 (A1N w) L = -1) : A7y L w = L := if_pos (by rw [h]; decide)
theorem A2E {L : List (Nat × Nat)} {w : LN} {i : Nat} (h : K1 (A1N w) L = (i : Int)) : A7y L w = L.eraseIdx i := by
  unfold A7y; rw [h, if_neg qO, Int.toNat_natCast]
theorem A8P (L : List (Nat × Nat)) (w : LN) : (A7y L w).length ≤ L.length := by
  unfold A7y; split
  · exact Nat.le_refl _
  · exact List.length_eraseIdx_le _ _
theorem B05 {L : List (Nat × Nat)} (hn : (L.map (·.1)).Nodup) {k : Nat} {x : Nat × Nat} (h : L[k]? = some x) : K1 (A1N [x.1]) L = (k : Int) := by
  refine S5 (List.getElem?_eq_some_iff.1 h).1 (fun j hj => ?_) (by rw [h]; simp [A1N])
  have hjl : j < L.length := Nat.lt_trans hj (List.getElem?_eq_some_iff.1 h).1
  rw [List.getElem?_eq_getElem hjl]
  have := B04 hn h j hj _ (List.getElem?_eq_getElem hjl)
  simpa [A1N] using this
theorem A8Q (L : List (Nat × Nat)) {w : LN} (h : ∀ y ∈ L, [y.1] ≠ w) : K1 (A1N w) L = -1 := by
  refine S6 fun j hj => ?_
  rw [List.getElem?_eq_getElem hj]
  have := h _ (List.getElem_mem hj)
  simpa [A1N] using this
theorem B2D {L : List (Nat × Nat)} (hn : (L.map (·.1)).Nodup) (x : Nat × Nat) : (x :: A7y L [x.1]).take 4 = quL x L := by
  unfold quL
  congr 2
  obtain ⟨hf, hz⟩ | ⟨i, y, hf, hi, hq, -⟩ := I6 (A1N [x.1]) L
  · rw [A3X hf, A3i]
    intro y hy
    have := hz y hy
    simpa [A1N] using this
  · have e : y.1 = x.1 := by simpa [A1N] using hq
    rw [A2E hf, A4M hn hi, e]
theorem A7l (vi vw vid : Value) (x : Nat × Nat) (w : LN) (b : Nat) (A : Mem) (hi : By A vi [x.1]) (hw : By A vw [x.2]) (hid : By A vid w) (hb : (b, blk [vid] 22) ∈ A) : FnV Tryz.prog 25 [.agg #[vi, vw, vS, vS, vS, .int .u32 0, .bool false, .int .u32 0, .bool false, vS, vS, vS, vS, .int .u32 0, vS, .int .u32 0, .int .u32 0, .pointer none], (vP b)] A (.bool (A1N w x)) := by
 haveI := hi.cel
 haveI := hw.cel
 haveI := hid.cel
 refine FnX.enter (N := 8) Tryz.func25 rfl rfl rfl fun w_ => ?_
 refine A7 (C7 0 1) (A1 ?_)
 refine A4 rfl (bx_ fun b2 => ?_)
 refine as_ (A0 (C7 1 2) (A1 ?_))
 refine A3 (qf_ 0 0) rfl ?_
 refine A3 ql_ rfl ?_
 refine A3 (G7 rfl kR (mA hb) qR) rfl ?_
 refine D6 (aS rfl (aS rfl a0)) kR (S7 vi vid [x.1] w _ (hi.mono qS) (hid.mono qS)) rfl ?_
 refine as_ (A0 (C9 3) (A8 ?_))
 exact ⟨_, [], [], G5 rfl rfl, List.nil_sublist _, by simp, rfl, rfl, rfl⟩
theorem A7m {vid : Value} {L : List (Nat × Nat)} {rows : List (List Value)} {w : LN} {b : Nat} {A : Mem} (hR : RwL quR A rows L) (hid : By A vid w) (hb : (b, blk [vid] 22) ∈ A) :
    ∀ (j : Nat) (r : List Value), rows[j]? = some r → FnV Tryz.prog 25 (.agg r.toArray :: [(vP b)]) A (.bool ((fun j => (L[j]?.map (A1N w)).getD false) j)) := fun j r hr => by
  obtain ⟨x, hx, vi, vw, rfl, h1, h2⟩ := hR.of hr
  dsimp only
  rw [hx]
  exact A7l vi vw vid x w b _ h1 h2 hid hb
theorem A0I (qb : Nat) (v : Value) (rows : List (List Value)) (L : List (Nat × Nat)) (vid : Value) (w : LN) (A : Mem) (hqb : (qb, blk [v] 27) ∈ A) (hv : Rd A 18 v L.length rows.flatten) (hR : RwL quR A rows L) (hl : L.length ≤ 1000) (hid : By A vid w) : FnV Tryz.prog 13 [(vP qb), vid] A (.int .i64 (K1 (A1N w) L)) := by
 haveI := hid.cel
 haveI := hv.cel
 refine FnX.enter (N := 13) Tryz.func13 rfl rfl rfl fun w_ => ?_
 refine A7 (C7 0 1) (A1 ?_)
 refine A4 rfl (bx_ fun b3 => ?_)
 refine as_ (A0 (C7 0 3) (A6 (A1 (mv_ ?_))))
 refine A3 (D0 (e := 27) rfl rfl kR) rfl ?_
 refine A0 (E0 0 3 6) ?_
 refine B0 rfl ?_
 refine A5 (nx (C7 0 3) (A1 (mv_ ?_)))
 refine A3 (D2 rfl) rfl ?_
 refine A3 (qf_ 0 0) rfl ?_
 refine A3 (G7 rfl kR (mA hqb) qR) rfl ?_
 refine A3 (A0v (aS rfl a0)) rfl ?_
 refine D6 (aS rfl (aS rfl a0)) kR (A7j v rows 25 [(vP b3)] (fun j => (L[j]?.map (A1N w)).getD false) _ (by rw [hR.len]; exact hv.mono qS) (hR.lens quT) (by rw [hR.len]; omega) kR (A7m (hR.mono quT qS) (hid.mono qS) qM)) rfl ?_
 refine as_ (A0 (C9 4) (A8 ?_))
 exact ⟨_, [], [], G5 rfl rfl, List.nil_sublist _, by simp, by rw [hR.len]; rfl, rfl, rfl⟩
theorem A3Y (vid : Value) (w : LN) (A : Mem) (hid : By A vid w) : FnV Tryz.prog 13 [.pointer none, vid] A (.int .i64 (-1)) := by
 haveI := hid.cel
 refine FnX.enter (N := 13) Tryz.func13 rfl rfl rfl fun w_ => ?_
 refine A7 (C7 0 1) (A1 ?_)
 refine A4 rfl (bx_ fun b3 => ?_)
 refine as_ (A0 (C7 0 3) (A6 (A1 (mv_ ?_))))
 refine A3 (D0 (e := 27) rfl rfl kR) rfl ?_
 refine A0 (E0 0 3 6) ?_
 refine F3 rfl ?_
 refine A1 (as_ (A0 (C9 4) (A8 (tr ?_))))
 exact ⟨_, [], [], G5 rfl rfl, List.nil_sublist _, by simp, rfl, rfl, rfl⟩
theorem A7n (qb : Nat) (v : Value) (rows : List (List Value)) (L : List (Nat × Nat)) (vid : Value) (w : LN) (k : Nat) (x : Nat × Nat) (A : Mem) (hqb : (qb, blk [v] 27) ∈ A) (hv : Rd A 18 v L.length rows.flatten) (hR : RwL quR A rows L) (hl : L.length ≤ 1000) (hid : By A vid w) (hf : K1 (A1N w) L = (k : Int)) (hx : L[k]? = some x) : FnX Tryz.prog 9 [(vP qb), vid] [] A fun q M J => M = [] ∧ J = [] ∧ ∃ vi vw, q = .tuple #[.agg #[vi, vw, vS, vS, vS, .int .u32 0, .bool false, .int .u32 0, .bool false, vS, vS, vS, vS, .int .u32 0, vS, .int .u32 0, .int .u32 0, .pointer none], .bool true] ∧ By A vi [x.1] ∧ By A vw [x.2] := by
 haveI := hid.cel
 haveI := hv.cel
 obtain ⟨r, hr, vi, vw, rfl, hi, hw⟩ := hR.get k x hx
 haveI := hi.cel
 haveI := hw.cel
 have hkl := (List.getElem?_eq_some_iff.1 hx).1
 unfold quZ at hr
 refine FnX.enterZ (N := 20) Tryz.func9 rfl rfl rfl fun w_ => ?_
 refine A7 (C7 0 1) (A1 ?_)
 refine A4 rfl (C5 (cs := [vS, vS, vS, vS, vS, D3, .bool false, D3, .bool false, vS, vS, vS, vS, D3, vS, D3, D3, .pointer none]) kR rfl fun b4 => ?_)
 refine as_ (A0 (E0 0 1 4) (A1 (mv_ (mv_ ?_))))
 refine D6 (aS rfl (aS rfl a0)) kR (A0I qb v rows L vid w _ (mA hqb) (hv.mono qS) (hR.mono quT qS) hl (hid.mono qS)) rfl ?_
 rw [hf]
 refine as_ (A0 (E0 0 4 6) (A6 (A1 (mv_ ?_))))
 refine A3 (E7 false rfl rfl (ltF qO)) rfl ?_
 refine A0 (F2 0 4 6 11) ?_
 refine B0 rfl ?_
 refine A5 (nx (E0 0 4 6) (A1 (mv_ ?_)))
 refine A3 (D2 rfl) rfl ?_
 refine A3 (qf_ 0 0) rfl ?_
 refine A3 (G7 rfl kR (mA hqb) qR) rfl ?_
 refine mv_ ?_
 refine A3 (F1 (sz := 18) (a := k) rfl rfl kR rfl hv hkl) rfl ?_
 refine A3 (U1 rfl kR (hv.mono qS) (hR.lens quT) qD hr) rfl ?_
 refine A4 rfl (A9 (vs := [vi, vw, vS, vS, vS, .int .u32 0, .bool false, .int .u32 0, .bool false, vS, vS, vS, vS, .int .u32 0, vS, .int .u32 0, .int .u32 0, .pointer none]) rfl rfl rfl kR qR (A2 hi.one (A2 hw.one B2J)) UpC.upd ?_)
 refine as_ (A0 (C7 4 5) (A8 ?_))
 exact ⟨_, [], [], Z5 (n := 18) rfl rfl rfl kR At.mem qR, qZ, rfl, rfl, vi, vw, rfl, hi, hw⟩
theorem A8R (qb : Nat) (v : Value) (rows : List (List Value)) (L : List (Nat × Nat)) (vid : Value) (w : LN) (A : Mem) (hqb : (qb, blk [v] 27) ∈ A) (hv : Rd A 18 v L.length rows.flatten) (hR : RwL quR A rows L) (hl : L.length ≤ 1000) (hid : By A vid w) (hf : K1 (A1N w) L = -1) : FnX Tryz.prog 9 [(vP qb), vid] [] A fun q M J => M = [] ∧ J = [] ∧ q = .tuple #[.agg #[vS, vS, vS, vS, vS, .int .u32 0, .bool false, .int .u32 0, .bool false, vS, vS, vS, vS, .int .u32 0, vS, .int .u32 0, .int .u32 0, .pointer none], .bool false] := by
 haveI := hid.cel
 haveI := hv.cel
 refine FnX.enterZ (N := 20) Tryz.func9 rfl rfl rfl fun w_ => ?_
 refine A7 (C7 0 1) (A1 ?_)
 refine A4 rfl (C5 (cs := [vS, vS, vS, vS, vS, D3, .bool false, D3, .bool false, vS, vS, vS, vS, D3, vS, D3, D3, .pointer none]) kR rfl fun b4 => ?_)
 refine as_ (A0 (E0 0 1 4) (A1 (mv_ (mv_ ?_))))
 refine D6 (aS rfl (aS rfl a0)) kR (A0I qb v rows L vid w _ (mA hqb) (hv.mono qS) (hR.mono quT qS) hl (hid.mono qS)) rfl ?_
 rw [hf]
 refine as_ (A0 (E0 0 4 6) (A6 (A1 (mv_ ?_))))
 refine A3 (E7 true rfl rfl (ltT qD)) rfl ?_
 refine A0 (F2 0 4 6 11) ?_
 refine F3 rfl ?_
 refine A1 ?_
 refine A3 (D7 (place := fun x => #[(0, 1), (1, 1), (2, 6), (8, 1), (9, 9)][x]?) (z := [vS, vS, vS, vS, vS, D3, .bool false, D3, .bool false, vS, vS, vS, vS, D3, vS, D3, D3, .pointer none]) (fun _ => by kernel_rfl) e0 bd0) rfl ?_
 refine A4 rfl (A9 (vs := [vS, vS, vS, vS, vS, .int .u32 0, .bool false, .int .u32 0, .bool false, vS, vS, vS, vS, .int .u32 0, vS, .int .u32 0, .int .u32 0, .pointer none]) rfl rfl rfl kR qR A9S UpC.upd ?_)
 refine as_ (A0 (C7 4 5) (A8 (tr ?_)))
 exact ⟨_, [], [], Z5 (n := 18) rfl rfl rfl kR At.mem qR, qZ, rfl, rfl, rfl⟩
theorem B2E (vid : Value) (w : LN) (A : Mem) (hid : By A vid w) : FnX Tryz.prog 9 [.pointer none, vid] [] A fun q M J => M = [] ∧ J = [] ∧ q = .tuple #[.agg #[vS, vS, vS, vS, vS, .int .u32 0, .bool false, .int .u32 0, .bool false, vS, vS, vS, vS, .int .u32 0, vS, .int .u32 0, .int .u32 0, .pointer none], .bool false] := by
 haveI := hid.cel
 refine FnX.enterZ (N := 20) Tryz.func9 rfl rfl rfl fun w_ => ?_
 refine A7 (C7 0 1) (A1 ?_)
 refine A4 rfl (C5 (cs := [vS, vS, vS, vS, vS, D3, .bool false, D3, .bool false, vS, vS, vS, vS, D3, vS, D3, D3, .pointer none]) kR rfl fun b4 => ?_)
 refine as_ (A0 (E0 0 1 4) (A1 (mv_ (mv_ ?_))))
 refine D6 (aS rfl (aS rfl a0)) kR (A3Y vid w _ (hid.mono qS)) rfl ?_
 refine as_ (A0 (E0 0 4 6) (A6 (A1 (mv_ ?_))))
 refine A3 (E7 true rfl rfl (ltT qD)) rfl ?_
 refine A0 (F2 0 4 6 11) ?_
 refine F3 rfl ?_
 refine A1 ?_
 refine A3 (D7 (place := fun x => #[(0, 1), (1, 1), (2, 6), (8, 1), (9, 9)][x]?) (z := [vS, vS, vS, vS, vS, D3, .bool false, D3, .bool false, vS, vS, vS, vS, D3, vS, D3, D3, .pointer none]) (fun _ => by kernel_rfl) e0 bd0) rfl ?_
 refine A4 rfl (A9 (vs := [vS, vS, vS, vS, vS, .int .u32 0, .bool false, .int .u32 0, .bool false, vS, vS, vS, vS, .int .u32 0, vS, .int .u32 0, .int .u32 0, .pointer none]) rfl rfl rfl kR qR A9S UpC.upd ?_)
 refine as_ (A0 (C7 4 5) (A8 (tr ?_)))
 exact ⟨_, [], [], Z5 (n := 18) rfl rfl rfl kR At.mem qR, qZ, rfl, rfl, rfl⟩
theorem qLen (qb : Nat) (v : Value) (rows : List (List Value)) (L : List (Nat × Nat)) (A : Mem) (hqb : (qb, blk [v] 27) ∈ A) (hv : Rd A 18 v L.length rows.flatten) : FnV Tryz.prog 8 [(vP qb)] A (vI L.length) := by
 haveI := hv.cel
 refine FnX.enter (N := 10) Tryz.func8 rfl rfl rfl fun w_ => ?_
 refine A7 (C9 0) (A1 (as_ (A0 (C9 0) (A6 (A1 (mv_ ?_))))))
 refine A3 (D0 (e := 27) rfl rfl kR) rfl ?_
 refine A0 (C7 0 4) ?_
 refine B0 rfl ?_
 refine A5 (nx (C9 0) (A1 (mv_ ?_)))
 refine A3 (D2 rfl) rfl ?_
 refine A3 (qf_ 0 0) rfl ?_
 refine A3 (G7 rfl kR (mA hqb) qR) rfl ?_
 refine A3 (E5 (sz := 18) rfl kR hv) rfl ?_
 refine as_ (A0 (C9 2) (A8 ?_))
 exact ⟨_, [], [], G5 rfl rfl, List.nil_sublist _, by simp, rfl, rfl, rfl⟩
theorem B2F (A : Mem) : FnV Tryz.prog 8 [.pointer none] A (.int .i64 0) := by
 refine FnX.enter (N := 10) Tryz.func8 rfl rfl rfl fun w_ => ?_
 refine A7 (C9 0) (A1 (as_ (A0 (C9 0) (A6 (A1 (mv_ ?_))))))
 refine A3 (D0 (e := 27) rfl rfl kR) rfl ?_
 refine A0 (C7 0 4) ?_
 refine F3 rfl ?_
 refine A1 (as_ (A0 (C9 2) (A8 (tr ?_))))
 exact ⟨_, [], [], G5 rfl rfl, List.nil_sublist _, by simp, rfl, rfl, rfl⟩
theorem qAll (qb : Nat) (v : Value) (rows : List (List Value)) (L : List (Nat × Nat)) (A : Mem) (hqb : (qb, blk [v] 27) ∈ A) (hv : Rd A 18 v L.length rows.flatten) (hR : RwL quR A rows L) (hl : L.length ≤ 1000) : FnX Tryz.prog 7 [(vP qb)] [] A fun q M J => Sl 18 q L.length rows.flatten M := by
 haveI := hv.cel
 refine FnX.enterZ (N := 10) Tryz.func7 rfl rfl rfl fun w_ => ?_
 refine A7 (C9 0) (A1 (as_ (A0 (C9 0) (A6 (A1 (mv_ ?_))))))
 refine A3 (D0 (e := 27) rfl rfl kR) rfl ?_
 refine A0 (C7 0 4) ?_
 refine B0 rfl ?_
 refine A5 (nx (C9 0) (A1 (mv_ ?_)))
 refine A3 (D2 rfl) rfl ?_
 refine A3 (qf_ 0 0) rfl ?_
 refine A3 (G7 rfl kR (mA hqb) qR) rfl ?_
 refine E4 (aS rfl a0) kR (A7k v L.length rows.flatten _ (hv.mono qS) (hR.ones quT) qO) rfl ?_
 rintro v9 M9 J9 hs9
 haveI := hs9.cel
 refine as_ (A0 (C9 2) (A8 ?_))
 exact ⟨_, M9, [], G5 rfl rfl, Fit.none (Fit.last qP), hs9⟩
theorem B3H (A : Mem) : FnV Tryz.prog 7 [.pointer none] A (vS) := by
 refine FnX.enter (N := 10) Tryz.func7 rfl rfl rfl fun w_ => ?_
 refine A7 (C9 0) (A1 (as_ (A0 (C9 0) (A6 (A1 (mv_ ?_))))))
 refine A3 (D0 (e := 27) rfl rfl kR) rfl ?_
 refine A0 (C7 0 4) ?_
 refine F3 rfl ?_
 refine A1 (as_ (A0 (C9 2) (A8 (tr ?_))))
 exact ⟨_, [], [], G5 rfl rfl, List.nil_sublist _, by simp, rfl, rfl, rfl⟩
theorem B06 (qb : Nat) (v : Value) (rows : List (List Value)) (L : List (Nat × Nat)) (x : Nat × Nat) (A : Mem) (hqb : (qb, blk [v] 27) ∈ A) (hv : Rd A 18 v L.length rows.flatten) (hR : RwL quR A rows L) (hl : L.length ≤ 1000) (hx : L[0]? = some x) : FnX Tryz.prog 6 [(vP qb)] [] A fun q M J => M = [] ∧ J = [] ∧ ∃ vi vw, q = .tuple #[.agg #[vi, vw, vS, vS, vS, .int .u32 0, .bool false, .int .u32 0, .bool false, vS, vS, vS, vS, .int .u32 0, vS, .int .u32 0, .int .u32 0, .pointer none], .bool true] ∧ By A vi [x.1] ∧ By A vw [x.2] := by
 haveI := hv.cel
 obtain ⟨r, hr, vi, vw, rfl, hi, hw⟩ := hR.get 0 x hx
 haveI := hi.cel
 haveI := hw.cel
 have hkl := (List.getElem?_eq_some_iff.1 hx).1
 unfold quZ at hr
 refine FnX.enterZ (N := 14) Tryz.func6 rfl rfl rfl fun w_ => ?_
 refine A7 (C9 0) (A1 ?_)
 refine A4 rfl (C5 (cs := [vS, vS, vS, vS, vS, D3, .bool false, D3, .bool false, vS, vS, vS, vS, D3, vS, D3, D3, .pointer none]) kR rfl fun b2 => ?_)
 refine as_ (A0 (C7 0 2) (A6 (A1 (mv_ ?_))))
 refine D6 (aS rfl a0) kR (qLen qb v rows L _ (mA hqb) (hv.mono qS)) rfl ?_
 refine A3 (E7 false rfl rfl (eqF qO)) rfl ?_
 refine A0 (E0 0 2 6) ?_
 refine B0 rfl ?_
 refine A5 (nx (C7 0 2) (A1 (mv_ ?_)))
 refine A3 (D2 rfl) rfl ?_
 refine A3 (qf_ 0 0) rfl ?_
 refine A3 (G7 rfl kR (mA hqb) qR) rfl ?_
 refine A3 (F1 (sz := 18) (a := 0) rfl rfl kR rfl hv hkl) rfl ?_
 refine A3 (U1 rfl kR (hv.mono qS) (hR.lens quT) qD hr) rfl ?_
 refine A4 rfl (A9 (vs := [vi, vw, vS, vS, vS, .int .u32 0, .bool false, .int .u32 0, .bool false, vS, vS, vS, vS, .int .u32 0, vS, .int .u32 0, .int .u32 0, .pointer none]) rfl rfl rfl kR qR (A2 hi.one (A2 hw.one B2J)) UpC.upd ?_)
 refine as_ (A0 (C7 2 3) (A8 ?_))
 exact ⟨_, [], [], Z5 (n := 18) rfl rfl rfl kR At.mem qR, qZ, rfl, rfl, vi, vw, rfl, hi, hw⟩
theorem A8S (A : Mem) : FnX Tryz.prog 6 [.pointer none] [] A fun q M J => M = [] ∧ J = [] ∧ q = .tuple #[.agg #[vS, vS, vS, vS, vS, .int .u32 0, .bool false, .int .u32 0, .bool false, vS, vS, vS, vS, .int .u32 0, vS, .int .u32 0, .int .u32 0, .pointer none], .bool false] := by
 refine FnX.enterZ (N := 14) Tryz.func6 rfl rfl rfl fun w_ => ?_
 refine A7 (C9 0) (A1 ?_)
 refine A4 rfl (C5 (cs := [vS, vS, vS, vS, vS, D3, .bool false, D3, .bool false, vS, vS, vS, vS, D3, vS, D3, D3, .pointer none]) kR rfl fun b2 => ?_)
 refine as_ (A0 (C7 0 2) (A6 (A1 (mv_ ?_))))
 refine D6 (aS rfl a0) kR (B2F _) rfl ?_
 refine A3 (E7 true rfl rfl (eqT rfl)) rfl ?_
 refine A0 (E0 0 2 6) ?_
 refine F3 rfl ?_
 refine A1 ?_
 refine A3 (D7 (place := fun x => #[(0, 1), (1, 1), (2, 6), (8, 1), (9, 9)][x]?) (z := [vS, vS, vS, vS, vS, D3, .bool false, D3, .bool false, vS, vS, vS, vS, D3, vS, D3, D3, .pointer none]) (fun _ => by kernel_rfl) e0 bd0) rfl ?_
 refine A4 rfl (A9 (vs := [vS, vS, vS, vS, vS, .int .u32 0, .bool false, .int .u32 0, .bool false, vS, vS, vS, vS, .int .u32 0, vS, .int .u32 0, .int .u32 0, .pointer none]) rfl rfl rfl kR qR A9S UpC.upd ?_)
 refine as_ (A0 (C7 2 3) (A8 (tr ?_)))
 exact ⟨_, [], [], Z5 (n := 18) rfl rfl rfl kR At.mem qR, qZ, rfl, rfl, rfl⟩
theorem B3I (A : Mem) : FnX Tryz.prog 5 [.pointer none, .agg #[vS, vS, vS, vS, vS, .int .u32 0, .bool false, .int .u32 0, .bool false, vS, vS, vS, vS, .int .u32 0, vS, .int .u32 0, .int .u32 0, .pointer none]] [] A fun q M J => M = [] ∧ q = .tuple #[] := by
 refine FnX.enterZ (N := 48) Tryz.func5 rfl rfl rfl fun w_ => ?_
 refine A7 (C7 0 1) (A1 ?_)
 refine A4 rfl (bx_ fun b3 => ?_)
 refine A0 (C7 0 3) (A6 (A1 (mv_ ?_)))
 refine A3 (D0 (e := 27) rfl rfl kR) rfl ?_
 refine A0 (E0 0 3 6) ?_
 refine F3 rfl ?_
 refine A8 (tr ?_)
 exact ⟨_, [], [], A3p rfl, qZ, rfl, rfl⟩
theorem qPut (qb : Nat) (vi vw : Value) (x : Nat × Nat) (L : List (Nat × Nat)) (R M0 A : Mem) (hQ : Que R qb L M0) (hR : ∀ z, z ∈ R → z ∈ A) (hl : L.length ≤ 900) (hi : By R vi [x.1]) (hw : By R vw [x.2]) : FnX Tryz.prog 5 [(vP qb), .agg #[vi, vw, vS, vS, vS, .int .u32 0, .bool false, .int .u32 0, .bool false, vS, vS, vS, vS, .int .u32 0, vS, .int .u32 0, .int .u32 0, .pointer none]] M0 A fun q M J => q = .tuple #[] ∧ Que (J ++ R) qb ((x :: A7y L [x.1]).take 4) M := by
  obtain ⟨v, rows, B, rfl, hsl, hrw⟩ := hQ.ex
  haveI := hsl.cel
  haveI := hi.cel
  haveI := hw.cel
  have hl' : L.length ≤ 1000 := by omega
  have hone : ∀ c ∈ [vi, vw, vS, vS, vS, .int .u32 0, .bool false, .int .u32 0, .bool false, vS, vS, vS, vS, .int .u32 0, vS, .int .u32 0, .int .u32 0, .pointer none], c.oneCell' = true := by
    intro c hc
    rcases List.mem_cons.1 hc with rfl | hc
    · exact hi.one
    rcases List.mem_cons.1 hc with rfl | hc
    · exact hw.one
    exact A7i c hc
  refine FnX.enterZ (N := 48) Tryz.func5 rfl rfl rfl fun w_ => ?_
  refine A7 (C7 0 1) (A1 ?_)
  refine A4 rfl (bx_ fun b3 => ?_)
  refine A0 (C7 0 3) (A6 (A1 (mv_ ?_)))
  refine A3 (D0 (e := 27) rfl rfl kR) rfl ?_
  refine A0 (E0 0 3 6) ?_
  refine B0 rfl ?_
  refine A5 (nx (C7 0 3) ?_)
  refine N7 (α := Value × List (List Value) × Mem) (fun y => [(0, (vP qb)), (3, (vP b3))]) (fun y => (b3, blk [vi, vw, vS, vS, vS, .int .u32 0, .bool false, .int .u32 0, .bool false, vS, vS, vS, vS, .int .u32 0, vS, .int .u32 0, .int .u32 0, .pointer none] 40) :: (qb, blk [y.1] 27) :: y.2.2) (fun _ => []) (fun y => Sl 18 y.1 (A7y L [x.1]).length y.2.1.flatten y.2.2 ∧ RwL quR R y.2.1 (A7y L [x.1])) ?_ ?_
  ·
    refine A1 (mv_ ?_)
    refine A3 (qf_ 0 0) rfl ?_
    refine A3 ql_ rfl ?_
    refine D6 (aS rfl (aS rfl a0)) kR (A0I qb v rows L vi [x.1] _ qM (hsl.rd qS) (hrw.mono quT (fun x hx => mA (hR x hx))) hl' (hi.mono (fun x hx => mA (hR x hx)))) rfl ?_
    refine as_ (A0 (E0 0 3 4) (A1 (mv_ ?_)))
    refine A3 (E9 rfl rfl rfl) rfl ?_
    refine A0 (F2 0 3 4 12) ?_
    refine C1 rfl ?_ ?_ <;> intro hc
    ·
      obtain ⟨hf, hz⟩ | ⟨i, y, hf, hxi, hq, hmin⟩ := I6 (A1N [x.1]) L
      · rw [hf] at hc; simp at hc
      have hil := (List.getElem?_eq_some_iff.1 hxi).1
      rw [hf]
      obtain ⟨p, rfl, h0, _, _⟩ | ⟨b, o, cap, cs, e, rfl, rfl, g1, g2, g3, g4, g5⟩ := hsl
      · omega
      refine C8 (mv_ (mv_ ?_))
      refine A3 (D2 rfl) rfl ?_
      refine A3 (qf_ 0 0) rfl ?_
      refine A3 ql_ rfl ?_
      refine mv_ (mv_ ?_)
      refine A3 (K7 ((i + 1 : Nat) : Int) rfl rfl (T4 qO qO qO)) rfl ?_
      refine A4 rfl (B3 (Mc := [(b, blk cs e)]) (R := _) (aS rfl (aS rfl (aS rfl a0))) kR qP (A5n b o cap L.length i (i + 1) cs rows.flatten e _ g1 g2 g3 g4 g5 (hrw.ones quT) qO qO) rfl ?_)
      rintro v21 M21 J21 ⟨rfl, hs21⟩
      have hsd : Sl 18 v21 (L.eraseIdx i).length (rows.take i ++ rows.drop (i + 1)).flatten M21 := by
        have h := hs21
        rw [A0F (hrw.lens quT)] at h
        exact Sl.castQ h (by rw [List.length_eraseIdx, if_pos hil]; omega) rfl
      haveI := hsd.cel
      refine A3 (D2 rfl) rfl ?_
      refine A3 (qf_ 0 0) rfl ?_
      refine A4 rfl (F0 rfl rfl hsd.one kR SetC.set UpC.upd ?_)
      refine E3 ?_
      exact jn (v21, rows.take i ++ rows.drop (i + 1), M21) ⟨by rw [A2E hf]; exact hsd, by rw [A2E hf]; exact hrw.erase i⟩ (C7 0 3) (Fit.pick (B := [_]) qP (Fit.pick (B := [_]) qP (Fit.last qP))) (fun _ h => by cases h)
    ·
      have hf : K1 (A1N [x.1]) L = -1 := by
        obtain ⟨hf, hz⟩ | ⟨i, y, hf, hxi, hq, hmin⟩ := I6 (A1N [x.1]) L
        · exact hf
        · rw [hf] at hc; (simp at hc) <;> omega
      refine A5 ?_
      exact jn (v, rows, B) ⟨by rw [A3X hf]; exact hsl, by rw [A3X hf]; exact hrw⟩ (C7 0 3) .rfl qI
  ·
    rintro ⟨v1, rows1, B1⟩ ⟨hsl1, hrw1⟩
    dsimp only at hsl1 hrw1 ⊢
    haveI := hsl1.cel
    have hdl := A8P L [x.1]
    generalize A7y L [x.1] = ds at *
    refine F4 [0, 1, 2, 3, 4, 5, 6, 8, 9] (zp 0 [0, 0, 0, 0, 1, 1, 2, 2, 0, 0, 2]) kR kR fun hs => ?_
    refine fm_ hs ?_
    refine fm_ hs ?_
    refine D4 hs rfl (D2 rfl) rfl ?_
    refine D4 hs rfl (qf_ 0 0) rfl ?_
    refine S0 hs rfl ql_ rfl ?_
    refine S0 hs rfl (qw_ 18) rfl ?_
    refine A5J rfl rfl fun _ => (C0 (e := 40) (sz := 18) (z := [vS, vS, vS, vS, vS, D3, .bool false, D3, .bool false, vS, vS, vS, vS, D3, vS, D3, D3, .pointer none]) kR (eS rfl e0) (bdS 0 18 rfl qR bd0) rfl fun b30 => ?_)
    refine I3 rfl rfl rfl (B3 (Mc := (b30, blk [vi, vw, vS, vS, vS, .int .u32 0, .bool false, .int .u32 0, .bool false, vS, vS, vS, vS, .int .u32 0, vS, .int .u32 0, .int .u32 0, .pointer none] 40) :: B1) (R := _) (aS rfl (aS rfl (aS rfl a0))) kR qP (A5o v1 ds.length b30 [vi, vw, vS, vS, vS, .int .u32 0, .bool false, .int .u32 0, .bool false, vS, vS, vS, vS, .int .u32 0, vS, .int .u32 0, .int .u32 0, .pointer none] rows1.flatten B1 _ hsl1 rfl hone (hrw1.ones quT) qO) rfl ?_)
    rintro v31 M31 J31 hs31
    haveI := hs31.cel
    refine D4 hs rfl (D2 rfl) rfl ?_
    refine D4 hs rfl (qf_ 0 0) rfl ?_
    refine I3 rfl rfl rfl (F0 rfl rfl hs31.one kR SetC.set UpC.upd ?_)
    refine G8 (C9 0) ?_
    have hs32 := hs31.hiV (min (ds.length + 1) 4) qO
    refine N0 (.range 14) (zp 0 [0, 0, 0, 0, 1, 0, 0, 0, 1, 0, 0, 0, 0, 0, 2]) kR kR fun hs => ?_
    refine fm_ hs ?_
    refine fm_ hs ?_
    refine D4 hs rfl (D2 rfl) rfl ?_
    refine D4 hs rfl (qf_ 0 0) rfl ?_
    refine S0 hs rfl ql_ rfl ?_
    refine fm_ hs ?_
    refine D4 hs rfl (D2 rfl) rfl ?_
    refine D4 hs rfl (qf_ 0 0) rfl ?_
    refine S0 hs rfl ql_ rfl ?_
    refine D4 hs rfl (E5 (sz := 18) rfl kR (hs31.rd (R := M31) fun _ h => h)) rfl ?_
    refine D4 hs rfl (A83 (((min (ds.length + 1) 4 : Nat)) : Int) rfl rfl (by split <;> omega)) rfl ?_
    refine D4 hs rfl (A5P (sz := 18) (a := min (ds.length + 1) 4) rfl rfl kR rfl (hs31.rd (R := M31) fun _ h => h) qO) rfl ?_
    refine D4 hs rfl (D2 rfl) rfl ?_
    refine D4 hs rfl (qf_ 0 0) rfl ?_
    refine I3 rfl rfl rfl (F0 rfl rfl hs32.one kR SetC.set UpC.upd ?_)
    refine A1d ?_
    refine ⟨_, (qb, blk [vHi (min (ds.length + 1) 4) v31] 27) :: M31, [], A3p rfl, Fit.none (Fit.pick (B := [_]) qP (Fit.last qP)), rfl, ⟨_, ([vi, vw, vS, vS, vS, .int .u32 0, .bool false, .int .u32 0, .bool false, vS, vS, vS, vS, .int .u32 0, vS, .int .u32 0, .int .u32 0, .pointer none] :: rows1).take 4, M31, rfl, ?_, ?_⟩⟩
    · refine Sl.castQ hs32 ?_ ?_
      · rw [List.length_take, List.length_cons]; omega
      · rw [← List.flatten_cons, X2 (s := 18) (by intro r hr; rcases List.mem_cons.1 hr with rfl | h; rfl; exact hrw1.lens quT r h)]
        congr 1
        have hll : ([vi, vw, vS, vS, vS, .int .u32 0, .bool false, .int .u32 0, .bool false, vS, vS, vS, vS, .int .u32 0, vS, .int .u32 0, .int .u32 0, .pointer none] :: rows1).length = ds.length + 1 := by rw [List.length_cons, hrw1.len]
        by_cases h4 : ds.length + 1 ≤ 4
        · rw [show min (ds.length + 1) 4 = ds.length + 1 by omega, List.take_of_length_le qO, List.take_of_length_le qO]
        · rw [show min (ds.length + 1) 4 = 4 by omega]
    · exact (RwL.cons (x := x) ⟨vi, vw, rfl, hi.mono fun z hz => List.mem_append_right _ hz, hw.mono fun z hz => List.mem_append_right _ hz⟩ (hrw1.mono quT fun z hz => List.mem_append_right _ hz)).take 4

theorem A9F {P : Program} {fn : Func} {l : Env} {R : Mem} {t1 t2 u b1 b2 n1 n2 : Nat} {y1 y2 : TypeId} {c1 c2 : List Value} {e1 e2 : TypeId} {f1 f2 : Nat × Nat} {v : Value} (h : fn.results = #[.cell t1 y1, .cell t2 y2, .tmp u]) (h1 : lk l t1 = some (vP b1)) (h2 : lk l t2 = some (vP b2)) (hu : lk l u = some v) (ht1 : A3l P y1 = some n1) (ht2 : A3l P y2 = some n2)
    (hb1 : (b1, Obj.cells c1.toArray e1 f1) ∈ R) (hb2 : (b2, Obj.cells c2.toArray e2 f2) ∈ R) (hn1 : c1.length = n1) (hn2 : c2.length = n2) : Res P fn l R (.tuple #[.agg c1.toArray, .agg c2.toArray, v]) := fun N a w ha hw => by
  obtain ⟨d1, g1, g2, g3⟩ := M3 ht1
  obtain ⟨d2, k1, k2, k3⟩ := M3 ht2
  have l1 := run_loadVar_row (P := P) w b1 e1 y1 c1.toArray f1 d1 (hw b1 _ hb1) g1 (by cases d1 <;> simp_all [TypeDesc.isRow]) (by rw [g3, ← hn1]; simp)
  have l2 := run_loadVar_row (P := P) w b2 e2 y2 c2.toArray f2 d2 (hw b2 _ hb2) k1 (by cases d2 <;> simp_all [TypeDesc.isRow]) (by rw [k3, ← hn2]; simp)
  simp [results, h, ha.slot t1 _ h1, ha.slot t2 _ h2, ha.slot u _ hu, asAddr, l1, l2]
def W0 (x : Ses) (h : He) (fu fd tu td : Int) : Ev := ⟨fu, fd, tu, td, x.id, x.tell, h, [], 0, 0, []⟩
def K4 (x : Ses) (r2 : Rsd) : Ses := ⟨x.id, x.wi, x.he, x.tell, r2⟩
set_option maxHeartbeats 1000000 in
theorem B07 (pb : Nat) (s : Ps) (x : Ses) (vi vw p0 r0 u0 vo vt vr vk0 vl vst vx : Value) (fu fd tu td : Int) (tx : LN) (MP A : Mem) (hP : Prm pb s MP) (hn : s.ts.length + 200 ≤ 1000000) (hx : SeR A x vi vw p0 r0 u0 vo vt vr vk0 vl vst) (htell : x.tell = true) (hsk : 0 < x.r.sk.length) (hwi : x.wi.length ≤ 1000000) (hel : x.id.length + x.he.ia.length + x.he.ig.length + x.he.key.length ≤ 1000000) (hfl : (x.wi ++ frW [] (W0 x x.he fu fd tu td)).length ≤ 1000000) (htx : By A vx tx) (hxl : tx.length ≤ 1000000) (hG : Glb A) : FnX Tryz.prog 21 [(vP pb), .agg (seC vi vw p0 r0 u0 vo vt vr vk0 vl vst x).toArray, .agg #[.int .i64 fu, .int .i64 fd], .agg #[.int .i64 tu, .int .i64 td], vx] MP A fun q M J => ∃ wo wt wr wk wl wq vid q2 q3, q = .tuple #[.agg (seC vi vw p0 r0 u0 wo wt wr wk wl wq (K4 x (F6 s x.r))).toArray, .agg (evC vid p0 r0 u0 q2 q3 ⟨fu, fd, tu, td, x.id, x.tell, x.he, H8 s x.r.own, x.r.prev, x.r.sn, A06 s x.r (x.wi ++ frW [] (W0 x x.he fu fd tu td)) tx⟩).toArray, .int .i64 0] ∧ Prm pb (A3h s x.r (x.wi ++ frW [] (W0 x x.he fu fd tu td)) tx) M ∧ SeR (J ++ A) (K4 x (F6 s x.r)) vi vw p0 r0 u0 wo wt wr wk wl wq ∧ EvR (J ++ A) (⟨fu, fd, tu, td, x.id, x.tell, x.he, H8 s x.r.own, x.r.prev, x.r.sn, A06 s x.r (x.wi ++ frW [] (W0 x x.he fu fd tu td)) tx⟩ : Ev) vid p0 r0 u0 q2 q3 := by
 haveI := hx.id.cel
 haveI := hx.wi.cel
 haveI := hx.he.ia.cel
 haveI := hx.he.ig.cel
 haveI := hx.he.key.cel
 haveI := hx.r.own.cel
 haveI := hx.r.their.cel
 haveI := hx.r.root.cel
 haveI := hx.r.sk.cel
 haveI := hx.r.tk.cel
 haveI := hx.r.st.cel
 haveI := htx.cel
 unfold seC
 refine FnX.enterZ (N := 57) Tryz.func21 rfl rfl rfl fun w_ => ?_
 refine A7 (H5 0 1 2 3 4) (A1 ?_)
 refine A4 rfl (bx_ fun b6 => ?_)
 refine A4 rfl (bx_ fun b7 => ?_)
 refine A4 rfl (bx_ fun b8 => ?_)
 refine A4 rfl (C5 (cs := [vS, vS, vS, vS, vS, D3, .bool false, D3, .bool false, vS, vS, vS, vS, D3, vS, D3, D3, .pointer none]) kR rfl fun b10 => ?_)
 refine A4 rfl (C5 (cs := [L7, L7, L7, L7, vS, .bool false, vS, vS, vS, D3, .bool false, D3, vS, D3, D3, vS]) kR rfl fun b11 => ?_)
 refine as_ (A0 (R8 0 4 6 7 8 10 11) ?_)
 refine D9 ([]) (_) true (.range 9) [(0, 1), (1, 1), (2, 0), (3, 1), (5, 0), (6, 1), (4, 3), (7, 3), (8, 4), (9, 2)] kR kR qP fun hs K n0 hKm hKs hKn => ?_
 refine H4 hs rfl hKs (D5 (n := 2) (vs := [.int .i64 fu, .int .i64 fd]) rfl kR At.mem rfl (C2 [] [.int .i64 fu, .int .i64 fd] [])) ?_
 refine H4 hs rfl hKs (D5 (n := 2) (vs := [.int .i64 tu, .int .i64 td]) rfl kR At.mem rfl (C2 [] [.int .i64 tu, .int .i64 td] [])) ?_
 refine E2 hs rfl (qf_ 0 0) rfl ?_
 refine H4 hs rfl hKs ql_ ?_
 refine E2 hs rfl (qf_ 8 8) rfl ?_
 refine H4 hs rfl hKs ql_ ?_
 refine V8 [⟨4, 22, none, [], fun v B R => B = [] ∧ By R v x.id⟩, ⟨7, 25, none, [], fun v B R => B = [] ∧ ∃ w0, v = .agg #[.int .i64 fu, .int .i64 fd, .int .i64 tu, .int .i64 td, w0, .bool x.tell, vS, vS, vS, .int .u32 0, .bool false, .int .u32 0, vS, .int .u32 0, .int .u32 0, vS] ∧ By R w0 x.id⟩, ⟨8, 13, none, [], fun v B _ => ∃ b, v = (vP b) ∧ B = [(b, blk [.int .i64 0, .int .i64 0, .int .i64 0, .int .i64 0, vS, .bool false, vS, vS, vS, .int .u32 0, .bool false, .int .u32 0, vS, .int .u32 0, .int .u32 0, vS] 61)]⟩] ([(b11, blk [.int .i64 0, .int .i64 0, .int .i64 0, .int .i64 0, vS, .bool false, vS, vS, vS, .int .u32 0, .bool false, .int .u32 0, vS, .int .u32 0, .int .u32 0, vS] 61), (b10, blk [vS, vS, vS, vS, vS, .int .u32 0, .bool false, .int .u32 0, .bool false, vS, vS, vS, vS, .int .u32 0, vS, .int .u32 0, .int .u32 0, .pointer none] 40), (b8, blk [.int .i64 tu, .int .i64 td] 53), (b7, blk [.int .i64 fu, .int .i64 fd] 53), (b6, blk [vi, vw, p0, r0, u0, (vU x.he.signed), .bool x.he.has, (vU x.he.once), .bool x.tell, vo, vt, vr, vk0, (vU x.r.sn), vl, (vU x.r.tn), (vU x.r.prev), vst] 40)] ++ MP) (fun bs => [bs 4, bs 7, bs 8]) (hKn rfl) (by simp [N9, U7]) (show ∀ m ∈ ([[], [], []] : List Mem), ∀ x ∈ m, K x.1 from A2 (fun _ h => by cases h) (A2 (fun _ h => by cases h) (A2 (fun _ h => by cases h) (G9)))) kR (fun _ => by first | rfl | kernel_rfl)
  (A2 (fun _ _ _ _ h hp => ⟨hp.1, hp.2.mono h⟩) (A2 (fun _ _ _ _ h hp => (let ⟨e0, w0, e1, e2⟩ := hp; ⟨e0, w0, e1, e2.mono h⟩)) (A2 (fun _ _ _ _ _ h => h) (G9)))) (show List.Nodup [22, 25, 13] by decide) (show List.Nodup [4, 7, 8] by decide) (A2 (C4 rfl) (A2 (C4 rfl) (A2 (C4 rfl) (G9))))
  (A2 ⟨_, rfl, fun vs bs R Rj wG hb hj hjr ha => ⟨.inl rfl, ?_⟩⟩ (A2 ⟨_, rfl, fun vs bs R Rj wG hb hj hjr ha => ⟨.inl rfl, ?_⟩⟩ (A2 ⟨_, rfl, fun vs bs R Rj wG hb hj hjr ha => ⟨.inl rfl, ?_⟩⟩ (G9)))) ?_
 ·
  dsimp only [Gc.inp]
  refine I5 (aS rfl a0) kR (FnX.amb (A := Rj) (fun x hx => by have := hjr x hx; simp [this]) (K2 vi x.id Rj (hx.id.mono (fun x hx => hj x (qS x hx))))) rfl ?_
  rintro r M1 J1 ⟨rfl, hh_⟩
  exact ⟨_, rfl, rfl, hh_.mono fun z hz => by simp [hz]⟩
 ·
  dsimp only [Gc.inp]
  have g4 := ha _ (List.mem_of_getElem? (i := 0) rfl) kR
  replace g4 : (fun v B R => B = [] ∧ By R v x.id) (vs 4) (bs 4) Rj := g4
  dsimp only at g4
  obtain ⟨-, h4⟩ := g4
  haveI := h4.cel
  exact OpQ.opL (D7 (place := fun x => #[(0, 2), (2, 2), (4, 1), (5, 1), (6, 6), (12, 3), (15, 1)][x]?) (z := [L7, L7, L7, L7, vS, .bool false, vS, vS, vS, D3, .bool false, D3, vS, D3, D3, vS]) (fun _ => by kernel_rfl) (eS rfl (eS rfl (eS rfl (eS rfl e0)))) (bdS 0 2 rfl qR (bdS 2 2 rfl qR (bdS 4 1 rfl qR (bdS 5 1 rfl qR bd0))))) rfl ⟨_, rfl, rfl, _, rfl, h4⟩
 ·
  dsimp only [Gc.inp]
  exact C5 (cs := [L7, L7, L7, L7, vS, .bool false, vS, vS, vS, D3, .bool false, D3, vS, D3, D3, vS]) kR rfl fun b => ⟨_, rfl, b, rfl, rfl⟩
 intro vs bs Jn0 hφ hKK
 have kk4 := hKK _ (List.mem_of_getElem? (i := 0) rfl)
 dsimp only at kk4
 have kk7 := hKK _ (List.mem_of_getElem? (i := 1) rfl)
 dsimp only at kk7
 have kk8 := hKK _ (List.mem_of_getElem? (i := 2) rfl)
 dsimp only at kk8
 clear hKK
 have g4 := ofH hφ
 dsimp only at g4
 replace hφ := ofT hφ
 have g7 := ofH hφ
 dsimp only at g7
 replace hφ := ofT hφ
 have g8 := ofH hφ
 dsimp only at g8
 clear hφ
 dsimp only [L5, N9, List.foldr, List.map, List.cons_append, List.nil_append]
 generalize bs 4 = B22 at *
 generalize bs 7 = B25 at *
 generalize bs 8 = B13 at *
 generalize vs 4 = u22 at *
 generalize vs 7 = u25 at *
 generalize vs 8 = u13 at *
 obtain ⟨rfl, -⟩ := g4
 obtain ⟨rfl, uid, rfl, h22⟩ := g7
 obtain ⟨b13, rfl, rfl⟩ := g8
 haveI := h22.cel
 dsimp only [List.append_eq, List.nil_append, List.cons_append]
 refine I4 rfl rfl rfl (A9 (vs := [.int .i64 fu, .int .i64 fd, .int .i64 tu, .int .i64 td, uid, .bool x.tell, vS, vS, vS, .int .u32 0, .bool false, .int .u32 0, vS, .int .u32 0, .int .u32 0, vS]) rfl rfl rfl kR qR (A2 rfl (A2 rfl (A2 rfl (A2 rfl (A2 h22.one (A2 rfl al10)))))) UpC.upd ?_)
 refine G2 (I8 0 4 6 10 11 13) (A6 (A1 ?_))
 refine A3 (qf_ 8 8) rfl ?_
 refine A3 ql_ rfl ?_
 refine A0 (R8 0 4 6 10 11 13 27) ?_
 refine F3 (by rw [← htell]; rfl) ?_
 refine C8 ?_
 refine A3 (qf_ 2 2) rfl ?_
 refine A3 (D5 (n := 6) (vs := [p0, r0, u0, (vU x.he.signed), .bool x.he.has, (vU x.he.once)]) rfl kR At.mem rfl (C2 [vi, vw] [p0, r0, u0, (vU x.he.signed), .bool x.he.has, (vU x.he.once)] [.bool x.tell, vo, vt, vr, vk0, (vU x.r.sn), vl, (vU x.r.tn), (vU x.r.prev), vst])) rfl ?_
 refine A3 (qf_ 6 6) rfl ?_
 refine A4 rfl (I1 (vs := [p0, r0, u0, (vU x.he.signed), .bool x.he.has, (vU x.he.once)]) (cs' := [.int .i64 fu, .int .i64 fd, .int .i64 tu, .int .i64 td, uid, .bool x.tell, p0, r0, u0, (vU x.he.signed), .bool x.he.has, (vU x.he.once), vS, .int .u32 0, .int .u32 0, vS]) rfl rfl rfl kR (by exact (show 6 + 6 ≤ 16 by decide)) (A2 hx.he.ia.one (A2 hx.he.ig.one (A2 hx.he.key.one al3))) rfl UpC.upd ?_)
 refine A0 (I8 0 4 6 10 11 13) ?_
 have hEv : EvR _ (W0 x x.he fu fd tu td) uid p0 r0 u0 (vS) (vS) := ⟨h22, hx.he.mono qS, hx.hil, By.nil, By.nil, (show 0 < 4294967296 by decide), (show 0 < 4294967296 by decide)⟩
 refine D9 (MP) (_) true [0, 1, 2, 3, 4, 5, 6, 7, 8, 9, 10, 11, 12, 13, 14, 17, 18] [(0, 0), (1, 0), (2, 1), (3, 1), (4, 1), (6, 0), (5, 8), (7, 8), (8, 8), (9, 8), (13, 8), (14, 8), (10, 9), (11, 9), (12, 10), (15, 2), (16, 2), (17, 0), (18, 0)] kR kR qP fun hs K n0 hKm hKs hKn => ?_
 refine km_ hs ?_
 refine E2 hs rfl (qf_ 9 9) rfl ?_
 refine H4 hs rfl hKs (D5 (n := 9) (vs := [vo, vt, vr, vk0, (vU x.r.sn), vl, (vU x.r.tn), (vU x.r.prev), vst]) rfl kR At.mem rfl (C2 [vi, vw, p0, r0, u0, (vU x.he.signed), .bool x.he.has, (vU x.he.once), .bool x.tell] [vo, vt, vr, vk0, (vU x.r.sn), vl, (vU x.r.tn), (vU x.r.prev), vst] [])) ?_
 refine H4 hs rfl hKs (D5 (n := 18) (vs := [vi, vw, p0, r0, u0, (vU x.he.signed), .bool x.he.has, (vU x.he.once), .bool x.tell, vo, vt, vr, vk0, (vU x.r.sn), vl, (vU x.r.tn), (vU x.r.prev), vst]) rfl kR At.mem rfl (C2 [] [vi, vw, p0, r0, u0, (vU x.he.signed), .bool x.he.has, (vU x.he.once), .bool x.tell, vo, vt, vr, vk0, (vU x.r.sn), vl, (vU x.r.tn), (vU x.r.prev), vst] [])) ?_
 refine H4 hs rfl hKs (D5 (n := 16) (vs := [.int .i64 fu, .int .i64 fd, .int .i64 tu, .int .i64 td, uid, .bool x.tell, p0, r0, u0, (vU x.he.signed), .bool x.he.has, (vU x.he.once), vS, .int .u32 0, .int .u32 0, vS]) rfl kR At.mem rfl (C2 [] [.int .i64 fu, .int .i64 fd, .int .i64 tu, .int .i64 td, uid, .bool x.tell, p0, r0, u0, (vU x.he.signed), .bool x.he.has, (vU x.he.once), vS, .int .u32 0, .int .u32 0, vS] [])) ?_
 refine km_ hs ?_
 refine V9 [⟨5, 37, none, [], fun v B R => B = [] ∧ By R v (x.wi ++ frW [] (W0 x x.he fu fd tu td))⟩, ⟨7, 39, none, MP, fun v B R => ∃ q1 q2 q3, v = .tuple #[q1, .agg #[q2, (vU x.r.prev), (vU x.r.sn)], q3, .int .i64 0] ∧ Prm pb (A3h s x.r (x.wi ++ frW [] (W0 x x.he fu fd tu td)) tx) B ∧ RsV R q1 (F6 s x.r) ∧ By R q2 (H8 s x.r.own) ∧ By R q3 (A06 s x.r (x.wi ++ frW [] (W0 x x.he fu fd tu td)) tx)⟩, ⟨8, 31, none, [], fun v B R => B = [] ∧ ∃ q1 q2 q3, v = .tuple #[q1, .agg #[q2, (vU x.r.prev), (vU x.r.sn)], q3, .int .i64 0] ∧ RsV R q1 (F6 s x.r) ∧ By R q2 (H8 s x.r.own) ∧ By R q3 (A06 s x.r (x.wi ++ frW [] (W0 x x.he fu fd tu td)) tx)⟩, ⟨9, 40, none, [], fun v B R => B = [] ∧ RsV R v (F6 s x.r)⟩, ⟨13, 14, none, [], fun v B _ => ∃ b, v = (vP b) ∧ B = [(b, blk [vS, vS, vS, vS, .int .u32 0, vS, .int .u32 0, .int .u32 0, .pointer none] 38)]⟩, ⟨14, 15, none, [], fun v B _ => ∃ b, v = (vP b) ∧ B = [(b, blk [vS, .int .u32 0, .int .u32 0] 59)]⟩] [⟨10, 41, none, [], fun v B R => B = [] ∧ ∃ q2, v = .agg #[q2, (vU x.r.prev), (vU x.r.sn)] ∧ By R q2 (H8 s x.r.own)⟩, ⟨11, 42, none, [], fun v B R => B = [] ∧ By R v (A06 s x.r (x.wi ++ frW [] (W0 x x.he fu fd tu td)) tx)⟩, ⟨12, 43, none, [], fun v B R => B = [] ∧ v = .int .i64 0⟩] ([(b13, blk [.int .i64 fu, .int .i64 fd, .int .i64 tu, .int .i64 td, uid, .bool x.tell, p0, r0, u0, (vU x.he.signed), .bool x.he.has, (vU x.he.once), vS, .int .u32 0, .int .u32 0, vS] 61), (b11, blk [.int .i64 0, .int .i64 0, .int .i64 0, .int .i64 0, vS, .bool false, vS, vS, vS, .int .u32 0, .bool false, .int .u32 0, vS, .int .u32 0, .int .u32 0, vS] 61), (b10, blk [vS, vS, vS, vS, vS, .int .u32 0, .bool false, .int .u32 0, .bool false, vS, vS, vS, vS, .int .u32 0, vS, .int .u32 0, .int .u32 0, .pointer none] 40), (b8, blk [.int .i64 tu, .int .i64 td] 53), (b7, blk [.int .i64 fu, .int .i64 fd] 53), (b6, blk [vi, vw, p0, r0, u0, (vU x.he.signed), .bool x.he.has, (vU x.he.once), .bool x.tell, vo, vt, vr, vk0, (vU x.r.sn), vl, (vU x.r.tn), (vU x.r.prev), vst] 40)]) (fun bs => [bs 5, bs 7, bs 8, bs 9, bs 13, bs 14, bs 10, bs 11, bs 12]) (hKn rfl) (by simp [N9, U7]) (show ∀ m ∈ ([[], MP, [], [], [], [], [], [], []] : List Mem), ∀ x ∈ m, K x.1 from A2 (fun _ h => by cases h) (A2 (hKm) (A2 (fun _ h => by cases h) (A2 (fun _ h => by cases h) (A2 (fun _ h => by cases h) (A2 (fun _ h => by cases h) (A2 (fun _ h => by cases h) (A2 (fun _ h => by cases h) (A2 (fun _ h => by cases h) (G9)))))))))) kR (fun _ => by first | rfl | kernel_rfl)
  (A2 (fun _ _ _ _ h hp => ⟨hp.1, hp.2.mono h⟩) (A2 (fun _ _ _ _ h ⟨q1, q2, q3, e, p1, p2, p3, p4⟩ => ⟨q1, q2, q3, e, p1, p2.mono h, p3.mono h, p4.mono h⟩) (A2 (fun _ _ _ _ h ⟨e0, q1, q2, q3, e, p2, p3, p4⟩ => ⟨e0, q1, q2, q3, e, p2.mono h, p3.mono h, p4.mono h⟩) (A2 (fun _ _ _ _ h hp => ⟨hp.1, hp.2.mono h⟩) (A2 (fun _ _ _ _ _ h => h) (A2 (fun _ _ _ _ _ h => h) (A2 (fun _ _ _ _ h ⟨e0, q, e, p⟩ => ⟨e0, q, e, p.mono h⟩) (A2 (fun _ _ _ _ h hp => ⟨hp.1, hp.2.mono h⟩) (A2 (fun _ _ _ _ _ h => h) (G9)))))))))) (show List.Nodup [37, 39, 31, 40, 14, 15, 41, 42, 43] by decide) (show List.Nodup [5, 7, 8, 9, 13, 14, 10, 11, 12] by decide) (A2 (C4 rfl) (A2 (C4 rfl) (A2 (C4 rfl) (A2 (C4 rfl) (A2 (C4 rfl) (A2 (C4 rfl) (A2 (C4 rfl) (A2 (C4 rfl) (A2 (C4 rfl) (G9))))))))))
  hs (List.cons_ne_nil _ _) (A2 ⟨_, rfl, fun vs bs R Rj wG hb hj hjr ha => ⟨.inl rfl, ?_⟩⟩ (A2 ⟨_, rfl, fun vs bs R Rj wG hb hj hjr ha => ⟨.inl rfl, ?_⟩⟩ (A2 ⟨_, rfl, fun vs bs R Rj wG hb hj hjr ha => ⟨.inl rfl, ?_⟩⟩ (A2 ⟨_, rfl, fun vs bs R Rj wG hb hj hjr ha => ⟨.inl rfl, ?_⟩⟩ (A2 ⟨_, rfl, fun vs bs R Rj wG hb hj hjr ha => ⟨.inl rfl, ?_⟩⟩ (A2 ⟨_, rfl, fun vs bs R Rj wG hb hj hjr ha => ⟨.inl rfl, ?_⟩⟩ (G9))))))) (A2 ⟨rfl, rfl, _, _, _, _, rfl, fun vs bs Rj hj ha => ?_⟩ (A2 ⟨rfl, rfl, _, _, _, _, rfl, fun vs bs Rj hj ha => ?_⟩ (A2 ⟨rfl, rfl, _, _, _, _, rfl, fun vs bs Rj hj ha => ?_⟩ (G9)))) ?_
 ·
  dsimp only [Gc.inp]
  refine I5 (aS rfl (aS rfl a0)) kR (FnX.amb (A := Rj) (fun x hx => by have := hjr x hx; simp [this]) (A2B x vi vw p0 r0 u0 vo vt vr vk0 vl vst (W0 x x.he fu fd tu td) uid p0 r0 u0 (vS) (vS) Rj (hx.mono (fun x hx => hj x (qS x hx))) (hEv.mono (fun x hx => hj x (qS x hx))) hwi hel)) rfl ?_
  rintro r M1 J1 ⟨rfl, hh_⟩
  exact ⟨_, rfl, rfl, hh_.mono fun z hz => by simp [hz]⟩
 ·
  dsimp only [Gc.inp]
  have g5 := ha _ (List.mem_of_getElem? (i := 0) rfl) kR
  replace g5 : (fun v B R => B = [] ∧ By R v (x.wi ++ frW [] (W0 x x.he fu fd tu td))) (vs 5) (bs 5) Rj := g5
  dsimp only at g5
  obtain ⟨-, h5⟩ := g5
  haveI := h5.cel
  refine B3 (Mc := MP) (R := []) (aS rfl (aS rfl (aS rfl (aS rfl (a0))))) kR qM (FnX.amb (A := Rj) (fun x hx => by have := hjr x hx; simp [this]) (A69 pb s x.r vo vt vr vk0 vl vst _ vx (x.wi ++ frW [] (W0 x x.he fu fd tu td)) tx MP Rj hP qO (hx.r.mono (fun x hx => hj x (qS x hx))) hsk h5 hfl (htx.mono (fun x hx => hj x (qS x hx))) hxl (hG.sub (fun x hx => hj x (qS x hx))))) rfl ?_
  rintro v25 M25 J25 ⟨q1, q2, q3, rfl, hP25, p2, p3, p4⟩
  exact ⟨_, rfl, q1, q2, q3, rfl, by simpa using hP25, p2.mono (fun x hx => by simpa using hx), p3.mono (fun x hx => by simpa using hx), p4.mono (fun x hx => by simpa using hx)⟩
 ·
  dsimp only [Gc.inp]
  have g7 := ha _ (List.mem_of_getElem? (i := 1) rfl) kR
  replace g7 : (fun v B R => ∃ q1 q2 q3, v = .tuple #[q1, .agg #[q2, (vU x.r.prev), (vU x.r.sn)], q3, .int .i64 0] ∧ Prm pb (A3h s x.r (x.wi ++ frW [] (W0 x x.he fu fd tu td)) tx) B ∧ RsV R q1 (F6 s x.r) ∧ By R q2 (H8 s x.r.own) ∧ By R q3 (A06 s x.r (x.wi ++ frW [] (W0 x x.he fu fd tu td)) tx)) (vs 7) (bs 7) Rj := g7
  dsimp only at g7
  obtain ⟨q1, q2, q3, e, -, k⟩ := g7
  exact OpQ.opL qm_ rfl ⟨_, rfl, rfl, q1, q2, q3, e, k⟩
 ·
  dsimp only [Gc.inp]
  have g8 := ha _ (List.mem_of_getElem? (i := 2) rfl) kR
  replace g8 : (fun v B R => B = [] ∧ ∃ q1 q2 q3, v = .tuple #[q1, .agg #[q2, (vU x.r.prev), (vU x.r.sn)], q3, .int .i64 0] ∧ RsV R q1 (F6 s x.r) ∧ By R q2 (H8 s x.r.own) ∧ By R q3 (A06 s x.r (x.wi ++ frW [] (W0 x x.he fu fd tu td)) tx)) (vs 8) (bs 8) Rj := g8
  dsimp only at g8
  obtain ⟨-, q1, q2, q3, e, k, -⟩ := g8
  exact OpQ.opL (F8 (vs := #[q1, .agg #[q2, (vU x.r.prev), (vU x.r.sn)], q3, .int .i64 0]) (by rw [← e]; rfl) rfl) rfl ⟨_, rfl, rfl, k⟩
 ·
  dsimp only [Gc.inp]
  exact C5 (cs := [vS, vS, vS, vS, D3, vS, D3, D3, .pointer none]) kR rfl fun b => ⟨_, rfl, b, rfl, rfl⟩
 ·
  dsimp only [Gc.inp]
  exact C5 (cs := [vS, .int .u32 0, .int .u32 0]) kR rfl fun b => ⟨_, rfl, b, rfl, rfl⟩
 ·
  have g8 := ha _ (List.mem_of_getElem? (i := 2) rfl) kR
  replace g8 : (fun v B R => B = [] ∧ ∃ q1 q2 q3, v = .tuple #[q1, .agg #[q2, (vU x.r.prev), (vU x.r.sn)], q3, .int .i64 0] ∧ RsV R q1 (F6 s x.r) ∧ By R q2 (H8 s x.r.own) ∧ By R q3 (A06 s x.r (x.wi ++ frW [] (W0 x x.he fu fd tu td)) tx)) (vs 8) (bs 8) Rj := g8
  dsimp only at g8
  obtain ⟨-, q1, q2, q3, e, -, k, -⟩ := g8
  exact ⟨_, F8 (vs := #[q1, .agg #[q2, (vU x.r.prev), (vU x.r.sn)], q3, .int .i64 0]) (by rw [← e]; rfl) rfl, rfl, q2, rfl, k⟩
 ·
  have g8 := ha _ (List.mem_of_getElem? (i := 2) rfl) kR
  replace g8 : (fun v B R => B = [] ∧ ∃ q1 q2 q3, v = .tuple #[q1, .agg #[q2, (vU x.r.prev), (vU x.r.sn)], q3, .int .i64 0] ∧ RsV R q1 (F6 s x.r) ∧ By R q2 (H8 s x.r.own) ∧ By R q3 (A06 s x.r (x.wi ++ frW [] (W0 x x.he fu fd tu td)) tx)) (vs 8) (bs 8) Rj := g8
  dsimp only at g8
  obtain ⟨-, q1, q2, q3, e, -, -, k⟩ := g8
  exact ⟨_, F8 (vs := #[q1, .agg #[q2, (vU x.r.prev), (vU x.r.sn)], q3, .int .i64 0]) (by rw [← e]; rfl) rfl, rfl, k⟩
 ·
  have g8 := ha _ (List.mem_of_getElem? (i := 2) rfl) kR
  replace g8 : (fun v B R => B = [] ∧ ∃ q1 q2 q3, v = .tuple #[q1, .agg #[q2, (vU x.r.prev), (vU x.r.sn)], q3, .int .i64 0] ∧ RsV R q1 (F6 s x.r) ∧ By R q2 (H8 s x.r.own) ∧ By R q3 (A06 s x.r (x.wi ++ frW [] (W0 x x.he fu fd tu td)) tx)) (vs 8) (bs 8) Rj := g8
  dsimp only at g8
  obtain ⟨-, q1, q2, q3, e, -⟩ := g8
  exact ⟨_, F8 (vs := #[q1, .agg #[q2, (vU x.r.prev), (vU x.r.sn)], q3, .int .i64 0]) (by rw [← e]; rfl) rfl, rfl, rfl⟩
 intro vs bs Jn0 hφ hKK
 have kk5 := hKK _ (List.mem_of_getElem? (i := 0) rfl)
 dsimp only at kk5
 have kk7 := hKK _ (List.mem_of_getElem? (i := 1) rfl)
 dsimp only at kk7
 have kk8 := hKK _ (List.mem_of_getElem? (i := 2) rfl)
 dsimp only at kk8
 have kk9 := hKK _ (List.mem_of_getElem? (i := 3) rfl)
 dsimp only at kk9
 have kk13 := hKK _ (List.mem_of_getElem? (i := 4) rfl)
 dsimp only at kk13
 have kk14 := hKK _ (List.mem_of_getElem? (i := 5) rfl)
 dsimp only at kk14
 have kk10 := hKK _ (List.mem_of_getElem? (i := 6) rfl)
 dsimp only at kk10
 have kk11 := hKK _ (List.mem_of_getElem? (i := 7) rfl)
 dsimp only at kk11
 have kk12 := hKK _ (List.mem_of_getElem? (i := 8) rfl)
 dsimp only at kk12
 clear hKK
 have g5 := ofH hφ
 dsimp only at g5
 replace hφ := ofT hφ
 have g7 := ofH hφ
 dsimp only at g7
 replace hφ := ofT hφ
 have g8 := ofH hφ
 dsimp only at g8
 replace hφ := ofT hφ
 have g9 := ofH hφ
 dsimp only at g9
 replace hφ := ofT hφ
 have g13 := ofH hφ
 dsimp only at g13
 replace hφ := ofT hφ
 have g14 := ofH hφ
 dsimp only at g14
 replace hφ := ofT hφ
 have g10 := ofH hφ
 dsimp only at g10
 replace hφ := ofT hφ
 have g11 := ofH hφ
 dsimp only at g11
 replace hφ := ofT hφ
 have g12 := ofH hφ
 dsimp only at g12
 clear hφ
 dsimp only [L5, N9, List.foldr, List.map, List.cons_append, List.nil_append]
 generalize bs 5 = B37 at *
 generalize bs 7 = B39 at *
 generalize bs 8 = B31 at *
 generalize bs 9 = B40 at *
 generalize bs 13 = B14 at *
 generalize bs 14 = B15 at *
 generalize bs 10 = B41 at *
 generalize bs 11 = B42 at *
 generalize bs 12 = B43 at *
 generalize vs 5 = u37 at *
 generalize vs 7 = u39 at *
 generalize vs 8 = u31 at *
 generalize vs 9 = u40 at *
 generalize vs 13 = u14 at *
 generalize vs 14 = u15 at *
 generalize vs 10 = u41 at *
 generalize vs 11 = u42 at *
 generalize vs 12 = u43 at *
 obtain ⟨-, -, -, -, hP27, -⟩ := g7
 clear g8
 obtain ⟨rfl, h5⟩ := g5
 obtain ⟨rfl, wo, wt, wr, wk, wl, wq, rfl, hn1⟩ := g9
 obtain ⟨rfl, hk_, rfl, h29⟩ := g10
 obtain ⟨rfl, h30⟩ := g11
 obtain ⟨rfl, rfl⟩ := g12
 obtain ⟨b14, rfl, rfl⟩ := g13
 obtain ⟨b15, rfl, rfl⟩ := g14
 haveI := hn1.own.cel
 haveI := hn1.their.cel
 haveI := hn1.root.cel
 haveI := hn1.sk.cel
 haveI := hn1.tk.cel
 haveI := hn1.st.cel
 haveI := h29.cel
 haveI := h30.cel
 unfold rsC
 refine I4 rfl rfl rfl (A9 (vs := [wo, wt, wr, wk, .int .u32 (((F6 s x.r).sn : Nat) : Int), wl, .int .u32 (((F6 s x.r).tn : Nat) : Int), .int .u32 (((F6 s x.r).prev : Nat) : Int), wq]) rfl rfl rfl kR qR (A2 hn1.own.one (A2 hn1.their.one (A2 hn1.root.one (A2 hn1.sk.one (A2 rfl (A2 hn1.tk.one (A2 rfl (A2 rfl (A2 hn1.st.one G9))))))))) UpC.upd ?_)
 refine I4 rfl rfl rfl (A9 (vs := [hk_, (vU x.r.prev), (vU x.r.sn)]) rfl rfl rfl kR qR (A2 h29.one al2) UpC.upd ?_)
 refine E2 hs rfl (E8 rfl) rfl ?_
 refine E2 hs rfl (E8 rfl) rfl ?_
 refine G2 (A0e 6 10 11 13 14 15 16 17) (A6 (A1 (mv_ ?_)))
 refine A3 (E7 false rfl rfl (neF rfl)) rfl ?_
 refine A0 (A3u 6 10 11 13 14 15 16 17 45) ?_
 refine B0 rfl ?_
 refine A5 (nx (R8 6 10 11 13 14 15 16) ?_)
 refine D9 ([(b6, blk [vi, vw, p0, r0, u0, (vU x.he.signed), .bool x.he.has, (vU x.he.once), .bool x.tell, vo, vt, vr, vk0, (vU x.r.sn), vl, (vU x.r.tn), (vU x.r.prev), vst] 40)]) (_) true [0, 1, 2, 3, 4, 5, 7] (zp 0 [1, 1, 0, 0, 2, 0, 2, 0, 2]) kR kR qP fun hs K n0 hKm hKs hKn => ?_
 refine H4 hs rfl hKs (D5 (n := 9) (vs := [wo, wt, wr, wk, .int .u32 (((F6 s x.r).sn : Nat) : Int), wl, .int .u32 (((F6 s x.r).tn : Nat) : Int), .int .u32 (((F6 s x.r).prev : Nat) : Int), wq]) rfl kR At.mem rfl (C2 [] [wo, wt, wr, wk, .int .u32 (((F6 s x.r).sn : Nat) : Int), wl, .int .u32 (((F6 s x.r).tn : Nat) : Int), .int .u32 (((F6 s x.r).prev : Nat) : Int), wq] [])) ?_
 refine H4 hs rfl hKs (D5 (n := 3) (vs := [hk_, (vU x.r.prev), (vU x.r.sn)]) rfl kR At.mem rfl (C2 [] [hk_, (vU x.r.prev), (vU x.r.sn)] [])) ?_
 refine km_ hs ?_
 refine E2 hs rfl (qf_ 9 9) rfl ?_
 refine F5 [(b6, blk [vi, vw, p0, r0, u0, (vU x.he.signed), .bool x.he.has, (vU x.he.once), .bool x.tell, vo, vt, vr, vk0, (vU x.r.sn), vl, (vU x.r.tn), (vU x.r.prev), vst] 40)] _ rfl rfl qP (fun x hx => hKm x hx) fun w0 => (I1 (vs := [wo, wt, wr, wk, .int .u32 (((F6 s x.r).sn : Nat) : Int), wl, .int .u32 (((F6 s x.r).tn : Nat) : Int), .int .u32 (((F6 s x.r).prev : Nat) : Int), wq]) (cs' := [vi, vw, p0, r0, u0, (vU x.he.signed), .bool x.he.has, (vU x.he.once), .bool x.tell, wo, wt, wr, wk, .int .u32 (((F6 s x.r).sn : Nat) : Int), wl, .int .u32 (((F6 s x.r).tn : Nat) : Int), .int .u32 (((F6 s x.r).prev : Nat) : Int), wq]) rfl rfl rfl kR (by exact (show 9 + 9 ≤ 18 by decide)) (A2 hn1.own.one (A2 hn1.their.one (A2 hn1.root.one (A2 hn1.sk.one (A2 rfl (A2 hn1.tk.one (A2 rfl (A2 rfl (A2 hn1.st.one G9))))))))) rfl UpC.upd ?_)
 intro _
 dsimp only [List.cons_append, List.nil_append, List.append_eq]
 refine E2 hs rfl (qf_ 12 12) rfl ?_
 refine I4 rfl rfl rfl (I1 (vs := [hk_, (vU x.r.prev), (vU x.r.sn)]) (cs' := [.int .i64 fu, .int .i64 fd, .int .i64 tu, .int .i64 td, uid, .bool x.tell, p0, r0, u0, (vU x.he.signed), .bool x.he.has, (vU x.he.once), hk_, (vU x.r.prev), (vU x.r.sn), vS]) rfl rfl rfl kR (by exact (show 12 + 3 ≤ 16 by decide)) (A2 h29.one al2) rfl UpC.upd ?_)
 refine E2 hs rfl (qf_ 15 15) rfl ?_
 refine I4 rfl rfl rfl (F0 rfl rfl h30.one kR SetC.set UpC.upd ?_)
 refine G2 (F2 6 10 11 13) ?_
 refine D9 ([(b10, blk [vS, vS, vS, vS, vS, .int .u32 0, .bool false, .int .u32 0, .bool false, vS, vS, vS, vS, .int .u32 0, vS, .int .u32 0, .int .u32 0, .pointer none] 40)]) (_) true [0, 1, 2, 4] (zp 0 [1, 1, 2, 2, 0]) kR kR qP fun hs K n0 hKm hKs hKn => ?_
 refine H4 hs rfl hKs (D5 (n := 18) (vs := [vi, vw, p0, r0, u0, (vU x.he.signed), .bool x.he.has, (vU x.he.once), .bool x.tell, wo, wt, wr, wk, .int .u32 (((F6 s x.r).sn : Nat) : Int), wl, .int .u32 (((F6 s x.r).tn : Nat) : Int), .int .u32 (((F6 s x.r).prev : Nat) : Int), wq]) rfl kR At.mem rfl (C2 [] [vi, vw, p0, r0, u0, (vU x.he.signed), .bool x.he.has, (vU x.he.once), .bool x.tell, wo, wt, wr, wk, .int .u32 (((F6 s x.r).sn : Nat) : Int), wl, .int .u32 (((F6 s x.r).tn : Nat) : Int), .int .u32 (((F6 s x.r).prev : Nat) : Int), wq] [])) ?_
 refine H4 hs rfl hKs (D5 (n := 16) (vs := [.int .i64 fu, .int .i64 fd, .int .i64 tu, .int .i64 td, uid, .bool x.tell, p0, r0, u0, (vU x.he.signed), .bool x.he.has, (vU x.he.once), hk_, (vU x.r.prev), (vU x.r.sn), u42]) rfl kR At.mem rfl (C2 [] [.int .i64 fu, .int .i64 fd, .int .i64 tu, .int .i64 td, uid, .bool x.tell, p0, r0, u0, (vU x.he.signed), .bool x.he.has, (vU x.he.once), hk_, (vU x.r.prev), (vU x.r.sn), u42] [])) ?_
 refine F5 [(b10, blk [vS, vS, vS, vS, vS, .int .u32 0, .bool false, .int .u32 0, .bool false, vS, vS, vS, vS, .int .u32 0, vS, .int .u32 0, .int .u32 0, .pointer none] 40)] _ rfl rfl qP (fun x hx => hKm x hx) fun w0 => (A9 (vs := [vi, vw, p0, r0, u0, (vU x.he.signed), .bool x.he.has, (vU x.he.once), .bool x.tell, wo, wt, wr, wk, .int .u32 (((F6 s x.r).sn : Nat) : Int), wl, .int .u32 (((F6 s x.r).tn : Nat) : Int), .int .u32 (((F6 s x.r).prev : Nat) : Int), wq]) rfl rfl rfl kR qR (A2 hx.id.one (A2 hx.wi.one (A2 hx.he.ia.one (A2 hx.he.ig.one (A2 hx.he.key.one (A2 rfl (A2 rfl (A2 rfl (A2 rfl (A2 hn1.own.one (A2 hn1.their.one (A2 hn1.root.one (A2 hn1.sk.one (A2 rfl (A2 hn1.tk.one (A2 rfl (A2 rfl (A2 hn1.st.one G9)))))))))))))))))) UpC.upd ?_)
 intro _
 dsimp only [List.cons_append, List.nil_append, List.append_eq]
 refine I4 rfl rfl rfl (A9 (vs := [.int .i64 fu, .int .i64 fd, .int .i64 tu, .int .i64 td, uid, .bool x.tell, p0, r0, u0, (vU x.he.signed), .bool x.he.has, (vU x.he.once), hk_, (vU x.r.prev), (vU x.r.sn), u42]) rfl rfl rfl kR qR (A2 rfl (A2 rfl (A2 rfl (A2 rfl (A2 h22.one (A2 rfl (A2 hx.he.ia.one (A2 hx.he.ig.one (A2 hx.he.key.one (A2 rfl (A2 rfl (A2 rfl (A2 h29.one (A2 rfl (A2 rfl (A2 h30.one G9)))))))))))))))) UpC.upd ?_)
 refine E2 hs rfl (E8 rfl) rfl ?_
 refine G2 (E0 10 11 12) (A8 ?_)
 exact ⟨_, B39, [], A9F (n1 := 18) (n2 := 16) rfl rfl rfl rfl kR kR At.mem At.mem qR qR, Fit.none (Fit.last qP), wo, wt, wr, wk, wl, wq, uid, hk_, u42, rfl, hP27, ⟨hx.id.mono qS, hx.wi.mono qS, hx.he.mono qS, hx.hil, hn1.mono qS⟩, ⟨h22.mono qS, hx.he.mono qS, hx.hil, h29.mono qS, h30.mono qS, hx.r.prev, hx.r.sn⟩⟩
set_option maxHeartbeats 1000000 in
theorem B08 (pb : Nat) (s : Ps) (x : Ses) (vi vw p0 r0 u0 vo vt vr vk0 vl vst vx : Value) (fu fd tu td : Int) (tx : LN) (MP A : Mem) (hP : Prm pb s MP) (hn : s.ts.length + 200 ≤ 1000000) (hx : SeR A x vi vw p0 r0 u0 vo vt vr vk0 vl vst) (htell : x.tell = false) (hsk : 0 < x.r.sk.length) (hwi : x.wi.length ≤ 1000000) (hel : x.id.length + he0.ia.length + he0.ig.length + he0.key.length ≤ 1000000) (hfl : (x.wi ++ frW [] (W0 x he0 fu fd tu td)).length ≤ 1000000) (htx : By A vx tx) (hxl : tx.length ≤ 1000000) (hG : Glb A) : FnX Tryz.prog 21 [(vP pb), .agg (seC vi vw p0 r0 u0 vo vt vr vk0 vl vst x).toArray, .agg #[.int .i64 fu, .int .i64 fd], .agg #[.int .i64 tu, .int .i64 td], vx] MP A fun q M J => ∃ wo wt wr wk wl wq vid q2 q3, q = .tuple #[.agg (seC vi vw p0 r0 u0 wo wt wr wk wl wq (K4 x (F6 s x.r))).toArray, .agg (evC vid (vS) (vS) (vS) q2 q3 ⟨fu, fd, tu, td, x.id, x.tell, he0, H8 s x.r.own, x.r.prev, x.r.sn, A06 s x.r (x.wi ++ frW [] (W0 x he0 fu fd tu td)) tx⟩).toArray, .int .i64 0] ∧ Prm pb (A3h s x.r (x.wi ++ frW [] (W0 x he0 fu fd tu td)) tx) M ∧ SeR (J ++ A) (K4 x (F6 s x.r)) vi vw p0 r0 u0 wo wt wr wk wl wq ∧ EvR (J ++ A) (⟨fu, fd, tu, td, x.id, x.tell, he0, H8 s x.r.own, x.r.prev, x.r.sn, A06 s x.r (x.wi ++ frW [] (W0 x he0 fu fd tu td)) tx⟩ : Ev) vid (vS) (vS) (vS) q2 q3 := by
 haveI := hx.id.cel
 haveI := hx.wi.cel
 haveI := hx.he.ia.cel
 haveI := hx.he.ig.cel
 haveI := hx.he.key.cel
 haveI := hx.r.own.cel
 haveI := hx.r.their.cel
 haveI := hx.r.root.cel
 haveI := hx.r.sk.cel
 haveI := hx.r.tk.cel
 haveI := hx.r.st.cel
 haveI := htx.cel
 unfold seC
 refine FnX.enterZ (N := 57) Tryz.func21 rfl rfl rfl fun w_ => ?_
 refine A7 (H5 0 1 2 3 4) (A1 ?_)
 refine A4 rfl (bx_ fun b6 => ?_)
 refine A4 rfl (bx_ fun b7 => ?_)
 refine A4 rfl (bx_ fun b8 => ?_)
 refine A4 rfl (C5 (cs := [vS, vS, vS, vS, vS, D3, .bool false, D3, .bool false, vS, vS, vS, vS, D3, vS, D3, D3, .pointer none]) kR rfl fun b10 => ?_)
 refine A4 rfl (C5 (cs := [L7, L7, L7, L7, vS, .bool false, vS, vS, vS, D3, .bool false, D3, vS, D3, D3, vS]) kR rfl fun b11 => ?_)
 refine as_ (A0 (R8 0 4 6 7 8 10 11) ?_)
 refine D9 ([]) (_) true (.range 9) [(0, 1), (1, 1), (2, 0), (3, 1), (5, 0), (6, 1), (4, 3), (7, 3), (8, 4), (9, 2)] kR kR qP fun hs K n0 hKm hKs hKn => ?_
 refine H4 hs rfl hKs (D5 (n := 2) (vs := [.int .i64 fu, .int .i64 fd]) rfl kR At.mem rfl (C2 [] [.int .i64 fu, .int .i64 fd] [])) ?_
 refine H4 hs rfl hKs (D5 (n := 2) (vs := [.int .i64 tu, .int .i64 td]) rfl kR At.mem rfl (C2 [] [.int .i64 tu, .int .i64 td] [])) ?_
 refine E2 hs rfl (qf_ 0 0) rfl ?_
 refine H4 hs rfl hKs ql_ ?_
 refine E2 hs rfl (qf_ 8 8) rfl ?_
 refine H4 hs rfl hKs ql_ ?_
 refine V8 [⟨4, 22, none, [], fun v B R => B = [] ∧ By R v x.id⟩, ⟨7, 25, none, [], fun v B R => B = [] ∧ ∃ w0, v = .agg #[.int .i64 fu, .int .i64 fd, .int .i64 tu, .int .i64 td, w0, .bool x.tell, vS, vS, vS, .int .u32 0, .bool false, .int .u32 0, vS, .int .u32 0, .int .u32 0, vS] ∧ By R w0 x.id⟩, ⟨8, 13, none, [], fun v B _ => ∃ b, v = (vP b) ∧ B = [(b, blk [.int .i64 0, .int .i64 0, .int .i64 0, .int .i64 0, vS, .bool false, vS, vS, vS, .int .u32 0, .bool false, .int .u32 0, vS, .int .u32 0, .int .u32 0, vS] 61)]⟩] ([(b11, blk [.int .i64 0, .int .i64 0, .int .i64 0, .int .i64 0, vS, .bool false, vS, vS, vS, .int .u32 0, .bool false, .int .u32 0, vS, .int .u32 0, .int .u32 0, vS] 61), (b10, blk [vS, vS, vS, vS, vS, .int .u32 0, .bool false, .int .u32 0, .bool false, vS, vS, vS, vS, .int .u32 0, vS, .int .u32 0, .int .u32 0, .pointer none] 40), (b8, blk [.int .i64 tu, .int .i64 td] 53), (b7, blk [.int .i64 fu, .int .i64 fd] 53), (b6, blk [vi, vw, p0, r0, u0, (vU x.he.signed), .bool x.he.has, (vU x.he.once), .bool x.tell, vo, vt, vr, vk0, (vU x.r.sn), vl, (vU x.r.tn), (vU x.r.prev), vst] 40)] ++ MP) (fun bs => [bs 4, bs 7, bs 8]) (hKn rfl) (by simp [N9, U7]) (show ∀ m ∈ ([[], [], []] : List Mem), ∀ x ∈ m, K x.1 from A2 (fun _ h => by cases h) (A2 (fun _ h => by cases h) (A2 (fun _ h => by cases h) (G9)))) kR (fun _ => by first | rfl | kernel_rfl)
  (A2 (fun _ _ _ _ h hp => ⟨hp.1, hp.2.mono h⟩) (A2 (fun _ _ _ _ h hp => (let ⟨e0, w0, e1, e2⟩ := hp; ⟨e0, w0, e1, e2.mono h⟩)) (A2 (fun _ _ _ _ _ h => h) (G9)))) (show List.Nodup [22, 25, 13] by decide) (show List.Nodup [4, 7, 8] by decide) (A2 (C4 rfl) (A2 (C4 rfl) (A2 (C4 rfl) (G9))))
  (A2 ⟨_, rfl, fun vs bs R Rj wG hb hj hjr ha => ⟨.inl rfl, ?_⟩⟩ (A2 ⟨_, rfl, fun vs bs R Rj wG hb hj hjr ha => ⟨.inl rfl, ?_⟩⟩ (A2 ⟨_, rfl, fun vs bs R Rj wG hb hj hjr ha => ⟨.inl rfl, ?_⟩⟩ (G9)))) ?_
 ·
  dsimp only [Gc.inp]
  refine I5 (aS rfl a0) kR (FnX.amb (A := Rj) (fun x hx => by have := hjr x hx; simp [this]) (K2 vi x.id Rj (hx.id.mono (fun x hx => hj x (qS x hx))))) rfl ?_
  rintro r M1 J1 ⟨rfl, hh_⟩
  exact ⟨_, rfl, rfl, hh_.mono fun z hz => by simp [hz]⟩
 ·
  dsimp only [Gc.inp]
  have g4 := ha _ (List.mem_of_getElem? (i := 0) rfl) kR
  replace g4 : (fun v B R => B = [] ∧ By R v x.id) (vs 4) (bs 4) Rj := g4
  dsimp only at g4
  obtain ⟨-, h4⟩ := g4
  haveI := h4.cel
  exact OpQ.opL (D7 (place := fun x => #[(0, 2), (2, 2), (4, 1), (5, 1), (6, 6), (12, 3), (15, 1)][x]?) (z := [L7, L7, L7, L7, vS, .bool false, vS, vS, vS, D3, .bool false, D3, vS, D3, D3, vS]) (fun _ => by kernel_rfl) (eS rfl (eS rfl (eS rfl (eS rfl e0)))) (bdS 0 2 rfl qR (bdS 2 2 rfl qR (bdS 4 1 rfl qR (bdS 5 1 rfl qR bd0))))) rfl ⟨_, rfl, rfl, _, rfl, h4⟩
 ·
  dsimp only [Gc.inp]
  exact C5 (cs := [L7, L7, L7, L7, vS, .bool false, vS, vS, vS, D3, .bool false, D3, vS, D3, D3, vS]) kR rfl fun b => ⟨_, rfl, b, rfl, rfl⟩
 intro vs bs Jn0 hφ hKK
 have kk4 := hKK _ (List.mem_of_getElem? (i := 0) rfl)
 dsimp only at kk4
 have kk7 := hKK _ (List.mem_of_getElem? (i := 1) rfl)
 dsimp only at kk7
 have kk8 := hKK _ (List.mem_of_getElem? (i := 2) rfl)
 dsimp only at kk8
 clear hKK
 have g4 := ofH hφ
 dsimp only at g4
 replace hφ := ofT hφ
 have g7 := ofH hφ
 dsimp only at g7
 replace hφ := ofT hφ
 have g8 := ofH hφ
 dsimp only at g8
 clear hφ
 dsimp only [L5, N9, List.foldr, List.map, List.cons_append, List.nil_append]
 generalize bs 4 = B22 at *
 generalize bs 7 = B25 at *
 generalize bs 8 = B13 at *
 generalize vs 4 = u22 at *
 generalize vs 7 = u25 at *
 generalize vs 8 = u13 at *
 obtain ⟨rfl, -⟩ := g4
 obtain ⟨rfl, uid, rfl, h22⟩ := g7
 obtain ⟨b13, rfl, rfl⟩ := g8
 haveI := h22.cel
 dsimp only [List.append_eq, List.nil_append, List.cons_append]
 refine I4 rfl rfl rfl (A9 (vs := [.int .i64 fu, .int .i64 fd, .int .i64 tu, .int .i64 td, uid, .bool x.tell, vS, vS, vS, .int .u32 0, .bool false, .int .u32 0, vS, .int .u32 0, .int .u32 0, vS]) rfl rfl rfl kR qR (A2 rfl (A2 rfl (A2 rfl (A2 rfl (A2 h22.one (A2 rfl al10)))))) UpC.upd ?_)
 refine G2 (I8 0 4 6 10 11 13) (A6 (A1 ?_))
 refine A3 (qf_ 8 8) rfl ?_
 refine A3 ql_ rfl ?_
 refine A0 (R8 0 4 6 10 11 13 27) ?_
 refine B0 (by rw [← htell]; rfl) ?_
 refine A5 (nx (I8 0 4 6 10 11 13) ?_)
 have hEv : EvR _ (W0 x he0 fu fd tu td) uid (vS) (vS) (vS) (vS) (vS) := ⟨h22, A8N, (show 0 ≤ 1000000 by decide), By.nil, By.nil, (show 0 < 4294967296 by decide), (show 0 < 4294967296 by decide)⟩
 refine D9 (MP) (_) true [0, 1, 2, 3, 4, 5, 6, 7, 8, 9, 10, 11, 12, 13, 14, 17, 18] [(0, 0), (1, 0), (2, 1), (3, 1), (4, 1), (6, 0), (5, 8), (7, 8), (8, 8), (9, 8), (13, 8), (14, 8), (10, 9), (11, 9), (12, 10), (15, 2), (16, 2), (17, 0), (18, 0)] kR kR qP fun hs K n0 hKm hKs hKn => ?_
 refine km_ hs ?_
 refine E2 hs rfl (qf_ 9 9) rfl ?_
 refine H4 hs rfl hKs (D5 (n := 9) (vs := [vo, vt, vr, vk0, (vU x.r.sn), vl, (vU x.r.tn), (vU x.r.prev), vst]) rfl kR At.mem rfl (C2 [vi, vw, p0, r0, u0, (vU x.he.signed), .bool x.he.has, (vU x.he.once), .bool x.tell] [vo, vt, vr, vk0, (vU x.r.sn), vl, (vU x.r.tn), (vU x.r.prev), vst] [])) ?_
 refine H4 hs rfl hKs (D5 (n := 18) (vs := [vi, vw, p0, r0, u0, (vU x.he.signed), .bool x.he.has, (vU x.he.once), .bool x.tell, vo, vt, vr, vk0, (vU x.r.sn), vl, (vU x.r.tn), (vU x.r.prev), vst]) rfl kR At.mem rfl (C2 [] [vi, vw, p0, r0, u0, (vU x.he.signed), .bool x.he.has, (vU x.he.once), .bool x.tell, vo, vt, vr, vk0, (vU x.r.sn), vl, (vU x.r.tn), (vU x.r.prev), vst] [])) ?_
 refine H4 hs rfl hKs (D5 (n := 16) (vs := [.int .i64 fu, .int .i64 fd, .int .i64 tu, .int .i64 td, uid, .bool x.tell, vS, vS, vS, .int .u32 0, .bool false, .int .u32 0, vS, .int .u32 0, .int .u32 0, vS]) rfl kR At.mem rfl (C2 [] [.int .i64 fu, .int .i64 fd, .int .i64 tu, .int .i64 td, uid, .bool x.tell, vS, vS, vS, .int .u32 0, .bool false, .int .u32 0, vS, .int .u32 0, .int .u32 0, vS] [])) ?_
 refine km_ hs ?_
 refine V9 [⟨5, 37, none, [], fun v B R => B = [] ∧ By R v (x.wi ++ frW [] (W0 x he0 fu fd tu td))⟩, ⟨7, 39, none, MP, fun v B R => ∃ q1 q2 q3, v = .tuple #[q1, .agg #[q2, (vU x.r.prev), (vU x.r.sn)], q3, .int .i64 0] ∧ Prm pb (A3h s x.r (x.wi ++ frW [] (W0 x he0 fu fd tu td)) tx) B ∧ RsV R q1 (F6 s x.r) ∧ By R q2 (H8 s x.r.own) ∧ By R q3 (A06 s x.r (x.wi ++ frW [] (W0 x he0 fu fd tu td)) tx)⟩, ⟨8, 31, none, [], fun v B R => B = [] ∧ ∃ q1 q2 q3, v = .tuple #[q1, .agg #[q2, (vU x.r.prev), (vU x.r.sn)], q3, .int .i64 0] ∧ RsV R q1 (F6 s x.r) ∧ By R q2 (H8 s x.r.own) ∧ By R q3 (A06 s x.r (x.wi ++ frW [] (W0 x he0 fu fd tu td)) tx)⟩, ⟨9, 40, none, [], fun v B R => B = [] ∧ RsV R v (F6 s x.r)⟩, ⟨13, 14, none, [], fun v B _ => ∃ b, v = (vP b) ∧ B = [(b, blk [vS, vS, vS, vS, .int .u32 0, vS, .int .u32 0, .int .u32 0, .pointer none] 38)]⟩, ⟨14, 15, none, [], fun v B _ => ∃ b, v = (vP b) ∧ B = [(b, blk [vS, .int .u32 0, .int .u32 0] 59)]⟩] [⟨10, 41, none, [], fun v B R => B = [] ∧ ∃ q2, v = .agg #[q2, (vU x.r.prev), (vU x.r.sn)] ∧ By R q2 (H8 s x.r.own)⟩, ⟨11, 42, none, [], fun v B R => B = [] ∧ By R v (A06 s x.r (x.wi ++ frW [] (W0 x he0 fu fd tu td)) tx)⟩, ⟨12, 43, none, [], fun v B R => B = [] ∧ v = .int .i64 0⟩] ([(b13, blk [.int .i64 fu, .int .i64 fd, .int .i64 tu, .int .i64 td, uid, .bool x.tell, vS, vS, vS, .int .u32 0, .bool false, .int .u32 0, vS, .int .u32 0, .int .u32 0, vS] 61), (b11, blk [.int .i64 0, .int .i64 0, .int .i64 0, .int .i64 0, vS, .bool false, vS, vS, vS, .int .u32 0, .bool false, .int .u32 0, vS, .int .u32 0, .int .u32 0, vS] 61), (b10, blk [vS, vS, vS, vS, vS, .int .u32 0, .bool false, .int .u32 0, .bool false, vS, vS, vS, vS, .int .u32 0, vS, .int .u32 0, .int .u32 0, .pointer none] 40), (b8, blk [.int .i64 tu, .int .i64 td] 53), (b7, blk [.int .i64 fu, .int .i64 fd] 53), (b6, blk [vi, vw, p0, r0, u0, (vU x.he.signed), .bool x.he.has, (vU x.he.once), .bool x.tell, vo, vt, vr, vk0, (vU x.r.sn), vl, (vU x.r.tn), (vU x.r.prev), vst] 40)]) (fun bs => [bs 5, bs 7, bs 8, bs 9, bs 13, bs 14, bs 10, bs 11, bs 12]) (hKn rfl) (by simp [N9, U7]) (show ∀ m ∈ ([[], MP, [], [], [], [], [], [], []] : List Mem), ∀ x ∈ m, K x.1 from A2 (fun _ h => by cases h) (A2 (hKm) (A2 (fun _ h => by cases h) (A2 (fun _ h => by cases h) (A2 (fun _ h => by cases h) (A2 (fun _ h => by cases h) (A2 (fun _ h => by cases h) (A2 (fun _ h => by cases h) (A2 (fun _ h => by cases h) (G9)))))))))) kR (fun _ => by first | rfl | kernel_rfl)
  (A2 (fun _ _ _ _ h hp => ⟨hp.1, hp.2.mono h⟩) (A2 (fun _ _ _ _ h ⟨q1, q2, q3, e, p1, p2, p3, p4⟩ => ⟨q1, q2, q3, e, p1, p2.mono h, p3.mono h, p4.mono h⟩) (A2 (fun _ _ _ _ h ⟨e0, q1, q2, q3, e, p2, p3, p4⟩ => ⟨e0, q1, q2, q3, e, p2.mono h, p3.mono h, p4.mono h⟩) (A2 (fun _ _ _ _ h hp => ⟨hp.1, hp.2.mono h⟩) (A2 (fun _ _ _ _ _ h => h) (A2 (fun _ _ _ _ _ h => h) (A2 (fun _ _ _ _ h ⟨e0, q, e, p⟩ => ⟨e0, q, e, p.mono h⟩) (A2 (fun _ _ _ _ h hp => ⟨hp.1, hp.2.mono h⟩) (A2 (fun _ _ _ _ _ h => h) (G9)))))))))) (show List.Nodup [37, 39, 31, 40, 14, 15, 41, 42, 43] by decide) (show List.Nodup [5, 7, 8, 9, 13, 14, 10, 11, 12] by decide) (A2 (C4 rfl) (A2 (C4 rfl) (A2 (C4 rfl) (A2 (C4 rfl) (A2 (C4 rfl) (A2 (C4 rfl) (A2 (C4 rfl) (A2 (C4 rfl) (A2 (C4 rfl) (G9))))))))))
  hs (List.cons_ne_nil _ _) (A2 ⟨_, rfl, fun vs bs R Rj wG hb hj hjr ha => ⟨.inl rfl, ?_⟩⟩ (A2 ⟨_, rfl, fun vs bs R Rj wG hb hj hjr ha => ⟨.inl rfl, ?_⟩⟩ (A2 ⟨_, rfl, fun vs bs R Rj wG hb hj hjr ha => ⟨.inl rfl, ?_⟩⟩ (A2 ⟨_, rfl, fun vs bs R Rj wG hb hj hjr ha => ⟨.inl rfl, ?_⟩⟩ (A2 ⟨_, rfl, fun vs bs R Rj wG hb hj hjr ha => ⟨.inl rfl, ?_⟩⟩ (A2 ⟨_, rfl, fun vs bs R Rj wG hb hj hjr ha => ⟨.inl rfl, ?_⟩⟩ (G9))))))) (A2 ⟨rfl, rfl, _, _, _, _, rfl, fun vs bs Rj hj ha => ?_⟩ (A2 ⟨rfl, rfl, _, _, _, _, rfl, fun vs bs Rj hj ha => ?_⟩ (A2 ⟨rfl, rfl, _, _, _, _, rfl, fun vs bs Rj hj ha => ?_⟩ (G9)))) ?_
 ·
  dsimp only [Gc.inp]
  refine I5 (aS rfl (aS rfl a0)) kR (FnX.amb (A := Rj) (fun x hx => by have := hjr x hx; simp [this]) (A2B x vi vw p0 r0 u0 vo vt vr vk0 vl vst (W0 x he0 fu fd tu td) uid (vS) (vS) (vS) (vS) (vS) Rj (hx.mono (fun x hx => hj x (qS x hx))) (hEv.mono (fun x hx => hj x (qS x hx))) hwi hel)) rfl ?_
  rintro r M1 J1 ⟨rfl, hh_⟩
  exact ⟨_, rfl, rfl, hh_.mono fun z hz => by simp [hz]⟩
 ·
  dsimp only [Gc.inp]
  have g5 := ha _ (List.mem_of_getElem? (i := 0) rfl) kR
  replace g5 : (fun v B R => B = [] ∧ By R v (x.wi ++ frW [] (W0 x he0 fu fd tu td))) (vs 5) (bs 5) Rj := g5
  dsimp only at g5
  obtain ⟨-, h5⟩ := g5
  haveI := h5.cel
  refine B3 (Mc := MP) (R := []) (aS rfl (aS rfl (aS rfl (aS rfl (a0))))) kR qM (FnX.amb (A := Rj) (fun x hx => by have := hjr x hx; simp [this]) (A69 pb s x.r vo vt vr vk0 vl vst _ vx (x.wi ++ frW [] (W0 x he0 fu fd tu td)) tx MP Rj hP qO (hx.r.mono (fun x hx => hj x (qS x hx))) hsk h5 hfl (htx.mono (fun x hx => hj x (qS x hx))) hxl (hG.sub (fun x hx => hj x (qS x hx))))) rfl ?_
  rintro v25 M25 J25 ⟨q1, q2, q3, rfl, hP25, p2, p3, p4⟩
  exact ⟨_, rfl, q1, q2, q3, rfl, by simpa using hP25, p2.mono (fun x hx => by simpa using hx), p3.mono (fun x hx => by simpa using hx), p4.mono (fun x hx => by simpa using hx)⟩
 ·
  dsimp only [Gc.inp]
  have g7 := ha _ (List.mem_of_getElem? (i := 1) rfl) kR
  replace g7 : (fun v B R => ∃ q1 q2 q3, v = .tuple #[q1, .agg #[q2, (vU x.r.prev), (vU x.r.sn)], q3, .int .i64 0] ∧ Prm pb (A3h s x.r (x.wi ++ frW [] (W0 x he0 fu fd tu td)) tx) B ∧ RsV R q1 (F6 s x.r) ∧ By R q2 (H8 s x.r.own) ∧ By R q3 (A06 s x.r (x.wi ++ frW [] (W0 x he0 fu fd tu td)) tx)) (vs 7) (bs 7) Rj := g7
  dsimp only at g7
  obtain ⟨q1, q2, q3, e, -, k⟩ := g7
  exact OpQ.opL qm_ rfl ⟨_, rfl, rfl, q1, q2, q3, e, k⟩
 ·
  dsimp only [Gc.inp]
  have g8 := ha _ (List.mem_of_getElem? (i := 2) rfl) kR
  replace g8 : (fun v B R => B = [] ∧ ∃ q1 q2 q3, v = .tuple #[q1, .agg #[q2, (vU x.r.prev), (vU x.r.sn)], q3, .int .i64 0] ∧ RsV R q1 (F6 s x.r) ∧ By R q2 (H8 s x.r.own) ∧ By R q3 (A06 s x.r (x.wi ++ frW [] (W0 x he0 fu fd tu td)) tx)) (vs 8) (bs 8) Rj := g8
  dsimp only at g8
  obtain ⟨-, q1, q2, q3, e, k, -⟩ := g8
  exact OpQ.opL (F8 (vs := #[q1, .agg #[q2, (vU x.r.prev), (vU x.r.sn)], q3, .int .i64 0]) (by rw [← e]; rfl) rfl) rfl ⟨_, rfl, rfl, k⟩
 ·
  dsimp only [Gc.inp]
  exact C5 (cs := [vS, vS, vS, vS, D3, vS, D3, D3, .pointer none]) kR rfl fun b => ⟨_, rfl, b, rfl, rfl⟩
 ·
  dsimp only [Gc.inp]
  exact C5 (cs := [vS, .int .u32 0, .int .u32 0]) kR rfl fun b => ⟨_, rfl, b, rfl, rfl⟩
 ·
  have g8 := ha _ (List.mem_of_getElem? (i := 2) rfl) kR
  replace g8 : (fun v B R => B = [] ∧ ∃ q1 q2 q3, v = .tuple #[q1, .agg #[q2, (vU x.r.prev), (vU x.r.sn)], q3, .int .i64 0] ∧ RsV R q1 (F6 s x.r) ∧ By R q2 (H8 s x.r.own) ∧ By R q3 (A06 s x.r (x.wi ++ frW [] (W0 x he0 fu fd tu td)) tx)) (vs 8) (bs 8) Rj := g8
  dsimp only at g8
  obtain ⟨-, q1, q2, q3, e, -, k, -⟩ := g8
  exact ⟨_, F8 (vs := #[q1, .agg #[q2, (vU x.r.prev), (vU x.r.sn)], q3, .int .i64 0]) (by rw [← e]; rfl) rfl, rfl, q2, rfl, k⟩
 ·
  have g8 := ha _ (List.mem_of_getElem? (i := 2) rfl) kR
  replace g8 : (fun v B R => B = [] ∧ ∃ q1 q2 q3, v = .tuple #[q1, .agg #[q2, (vU x.r.prev), (vU x.r.sn)], q3, .int .i64 0] ∧ RsV R q1 (F6 s x.r) ∧ By R q2 (H8 s x.r.own) ∧ By R q3 (A06 s x.r (x.wi ++ frW [] (W0 x he0 fu fd tu td)) tx)) (vs 8) (bs 8) Rj := g8
  dsimp only at g8
  obtain ⟨-, q1, q2, q3, e, -, -, k⟩ := g8
  exact ⟨_, F8 (vs := #[q1, .agg #[q2, (vU x.r.prev), (vU x.r.sn)], q3, .int .i64 0]) (by rw [← e]; rfl) rfl, rfl, k⟩
 ·
  have g8 := ha _ (List.mem_of_getElem? (i := 2) rfl) kR
  replace g8 : (fun v B R => B = [] ∧ ∃ q1 q2 q3, v = .tuple #[q1, .agg #[q2, (vU x.r.prev), (vU x.r.sn)], q3, .int .i64 0] ∧ RsV R q1 (F6 s x.r) ∧ By R q2 (H8 s x.r.own) ∧ By R q3 (A06 s x.r (x.wi ++ frW [] (W0 x he0 fu fd tu td)) tx)) (vs 8) (bs 8) Rj := g8
  dsimp only at g8
  obtain ⟨-, q1, q2, q3, e, -⟩ := g8
  exact ⟨_, F8 (vs := #[q1, .agg #[q2, (vU x.r.prev), (vU x.r.sn)], q3, .int .i64 0]) (by rw [← e]; rfl) rfl, rfl, rfl⟩
 intro vs bs Jn0 hφ hKK
 have kk5 := hKK _ (List.mem_of_getElem? (i := 0) rfl)
 dsimp only at kk5
 have kk7 := hKK _ (List.mem_of_getElem? (i := 1) rfl)
 dsimp only at kk7
 have kk8 := hKK _ (List.mem_of_getElem? (i := 2) rfl)
 dsimp only at kk8
 have kk9 := hKK _ (List.mem_of_getElem? (i := 3) rfl)
 dsimp only at kk9
 have kk13 := hKK _ (List.mem_of_getElem? (i := 4) rfl)
 dsimp only at kk13
 have kk14 := hKK _ (List.mem_of_getElem? (i := 5) rfl)
 dsimp only at kk14
 have kk10 := hKK _ (List.mem_of_getElem? (i := 6) rfl)
 dsimp only at kk10
 have kk11 := hKK _ (List.mem_of_getElem? (i := 7) rfl)
 dsimp only at kk11
 have kk12 := hKK _ (List.mem_of_getElem? (i := 8) rfl)
 dsimp only at kk12
 clear hKK
 have g5 := ofH hφ
 dsimp only at g5
 replace hφ := ofT hφ
 have g7 := ofH hφ
 dsimp only at g7
 replace hφ := ofT hφ
 have g8 := ofH hφ
 dsimp only at g8
 replace hφ := ofT hφ
 have g9 := ofH hφ
 dsimp only at g9
 replace hφ := ofT hφ
 have g13 := ofH hφ
 dsimp only at g13
 replace hφ := ofT hφ
 have g14 := ofH hφ
 dsimp only at g14
 replace hφ := ofT hφ
 have g10 := ofH hφ
 dsimp only at g10
 replace hφ := ofT hφ
 have g11 := ofH hφ
 dsimp only at g11
 replace hφ := ofT hφ
 have g12 := ofH hφ
 dsimp only at g12
 clear hφ
 dsimp only [L5, N9, List.foldr, List.map, List.cons_append, List.nil_append]
 generalize bs 5 = B37 at *
 generalize bs 7 = B39 at *
 generalize bs 8 = B31 at *
 generalize bs 9 = B40 at *
 generalize bs 13 = B14 at *
 generalize bs 14 = B15 at *
 generalize bs 10 = B41 at *
 generalize bs 11 = B42 at *
 generalize bs 12 = B43 at *
 generalize vs 5 = u37 at *
 generalize vs 7 = u39 at *
 generalize vs 8 = u31 at *
 generalize vs 9 = u40 at *
 generalize vs 13 = u14 at *
 generalize vs 14 = u15 at *
 generalize vs 10 = u41 at *
 generalize vs 11 = u42 at *
 generalize vs 12 = u43 at *
 obtain ⟨-, -, -, -, hP27, -⟩ := g7
 clear g8
 obtain ⟨rfl, h5⟩ := g5
 obtain ⟨rfl, wo, wt, wr, wk, wl, wq, rfl, hn1⟩ := g9
 obtain ⟨rfl, hk_, rfl, h29⟩ := g10
 obtain ⟨rfl, h30⟩ := g11
 obtain ⟨rfl, rfl⟩ := g12
 obtain ⟨b14, rfl, rfl⟩ := g13
 obtain ⟨b15, rfl, rfl⟩ := g14
 haveI := hn1.own.cel
 haveI := hn1.their.cel
 haveI := hn1.root.cel
 haveI := hn1.sk.cel
 haveI := hn1.tk.cel
 haveI := hn1.st.cel
 haveI := h29.cel
 haveI := h30.cel
 unfold rsC
 refine I4 rfl rfl rfl (A9 (vs := [wo, wt, wr, wk, .int .u32 (((F6 s x.r).sn : Nat) : Int), wl, .int .u32 (((F6 s x.r).tn : Nat) : Int), .int .u32 (((F6 s x.r).prev : Nat) : Int), wq]) rfl rfl rfl kR qR (A2 hn1.own.one (A2 hn1.their.one (A2 hn1.root.one (A2 hn1.sk.one (A2 rfl (A2 hn1.tk.one (A2 rfl (A2 rfl (A2 hn1.st.one G9))))))))) UpC.upd ?_)
 refine I4 rfl rfl rfl (A9 (vs := [hk_, (vU x.r.prev), (vU x.r.sn)]) rfl rfl rfl kR qR (A2 h29.one al2) UpC.upd ?_)
 refine E2 hs rfl (E8 rfl) rfl ?_
 refine E2 hs rfl (E8 rfl) rfl ?_
 refine G2 (A0e 6 10 11 13 14 15 16 17) (A6 (A1 (mv_ ?_)))
 refine A3 (E7 false rfl rfl (neF rfl)) rfl ?_
 refine A0 (A3u 6 10 11 13 14 15 16 17 45) ?_
 refine B0 rfl ?_
 refine A5 (nx (R8 6 10 11 13 14 15 16) ?_)
 refine D9 ([(b6, blk [vi, vw, p0, r0, u0, (vU x.he.signed), .bool x.he.has, (vU x.he.once), .bool x.tell, vo, vt, vr, vk0, (vU x.r.sn), vl, (vU x.r.tn), (vU x.r.prev), vst] 40)]) (_) true [0, 1, 2, 3, 4, 5, 7] (zp 0 [1, 1, 0, 0, 2, 0, 2, 0, 2]) kR kR qP fun hs K n0 hKm hKs hKn => ?_
 refine H4 hs rfl hKs (D5 (n := 9) (vs := [wo, wt, wr, wk, .int .u32 (((F6 s x.r).sn : Nat) : Int), wl, .int .u32 (((F6 s x.r).tn : Nat) : Int), .int .u32 (((F6 s x.r).prev : Nat) : Int), wq]) rfl kR At.mem rfl (C2 [] [wo, wt, wr, wk, .int .u32 (((F6 s x.r).sn : Nat) : Int), wl, .int .u32 (((F6 s x.r).tn : Nat) : Int), .int .u32 (((F6 s x.r).prev : Nat) : Int), wq] [])) ?_
 refine H4 hs rfl hKs (D5 (n := 3) (vs := [hk_, (vU x.r.prev), (vU x.r.sn)]) rfl kR At.mem rfl (C2 [] [hk_, (vU x.r.prev), (vU x.r.sn)] [])) ?_
 refine km_ hs ?_
 refine E2 hs rfl (qf_ 9 9) rfl ?_
 refine F5 [(b6, blk [vi, vw, p0, r0, u0, (vU x.he.signed), .bool x.he.has, (vU x.he.once), .bool x.tell, vo, vt, vr, vk0, (vU x.r.sn), vl, (vU x.r.tn), (vU x.r.prev), vst] 40)] _ rfl rfl qP (fun x hx => hKm x hx) fun w0 => (I1 (vs := [wo, wt, wr, wk, .int .u32 (((F6 s x.r).sn : Nat) : Int), wl, .int .u32 (((F6 s x.r).tn : Nat) : Int), .int .u32 (((F6 s x.r).prev : Nat) : Int), wq]) (cs' := [vi, vw, p0, r0, u0, (vU x.he.signed), .bool x.he.has, (vU x.he.once), .bool x.tell, wo, wt, wr, wk, .int .u32 (((F6 s x.r).sn : Nat) : Int), wl, .int .u32 (((F6 s x.r).tn : Nat) : Int), .int .u32 (((F6 s x.r).prev : Nat) : Int), wq]) rfl rfl rfl kR (by exact (show 9 + 9 ≤ 18 by decide)) (A2 hn1.own.one (A2 hn1.their.one (A2 hn1.root.one (A2 hn1.sk.one (A2 rfl (A2 hn1.tk.one (A2 rfl (A2 rfl (A2 hn1.st.one G9))))))))) rfl UpC.upd ?_)
 intro _
 dsimp only [List.cons_append, List.nil_append, List.append_eq]
 refine E2 hs rfl (qf_ 12 12) rfl ?_
 refine I4 rfl rfl rfl (I1 (vs := [hk_, (vU x.r.prev), (vU x.r.sn)]) (cs' := [.int .i64 fu, .int .i64 fd, .int .i64 tu, .int .i64 td, uid, .bool x.tell, vS, vS, vS, .int .u32 0, .bool false, .int .u32 0, hk_, (vU x.r.prev), (vU x.r.sn), vS]) rfl rfl rfl kR (by exact (show 12 + 3 ≤ 16 by decide)) (A2 h29.one al2) rfl UpC.upd ?_)
 refine E2 hs rfl (qf_ 15 15) rfl ?_
 refine I4 rfl rfl rfl (F0 rfl rfl h30.one kR SetC.set UpC.upd ?_)
 refine G2 (F2 6 10 11 13) ?_
 refine D9 ([(b10, blk [vS, vS, vS, vS, vS, .int .u32 0, .bool false, .int .u32 0, .bool false, vS, vS, vS, vS, .int .u32 0, vS, .int .u32 0, .int .u32 0, .pointer none] 40)]) (_) true [0, 1, 2, 4] (zp 0 [1, 1, 2, 2, 0]) kR kR qP fun hs K n0 hKm hKs hKn => ?_
 refine H4 hs rfl hKs (D5 (n := 18) (vs := [vi, vw, p0, r0, u0, (vU x.he.signed), .bool x.he.has, (vU x.he.once), .bool x.tell, wo, wt, wr, wk, .int .u32 (((F6 s x.r).sn : Nat) : Int), wl, .int .u32 (((F6 s x.r).tn : Nat) : Int), .int .u32 (((F6 s x.r).prev : Nat) : Int), wq]) rfl kR At.mem rfl (C2 [] [vi, vw, p0, r0, u0, (vU x.he.signed), .bool x.he.has, (vU x.he.once), .bool x.tell, wo, wt, wr, wk, .int .u32 (((F6 s x.r).sn : Nat) : Int), wl, .int .u32 (((F6 s x.r).tn : Nat) : Int), .int .u32 (((F6 s x.r).prev : Nat) : Int), wq] [])) ?_
 refine H4 hs rfl hKs (D5 (n := 16) (vs := [.int .i64 fu, .int .i64 fd, .int .i64 tu, .int .i64 td, uid, .bool x.tell, vS, vS, vS, .int .u32 0, .bool false, .int .u32 0, hk_, (vU x.r.prev), (vU x.r.sn), u42]) rfl kR At.mem rfl (C2 [] [.int .i64 fu, .int .i64 fd, .int .i64 tu, .int .i64 td, uid, .bool x.tell, vS, vS, vS, .int .u32 0, .bool false, .int .u32 0, hk_, (vU x.r.prev), (vU x.r.sn), u42] [])) ?_
 refine F5 [(b10, blk [vS, vS, vS, vS, vS, .int .u32 0, .bool false, .int .u32 0, .bool false, vS, vS, vS, vS, .int .u32 0, vS, .int .u32 0, .int .u32 0, .pointer none] 40)] _ rfl rfl qP (fun x hx => hKm x hx) fun w0 => (A9 (vs := [vi, vw, p0, r0, u0, (vU x.he.signed), .bool x.he.has, (vU x.he.once), .bool x.tell, wo, wt, wr, wk, .int .u32 (((F6 s x.r).sn : Nat) : Int), wl, .int .u32 (((F6 s x.r).tn : Nat) : Int), .int .u32 (((F6 s x.r).prev : Nat) : Int), wq]) rfl rfl rfl kR qR (A2 hx.id.one (A2 hx.wi.one (A2 hx.he.ia.one (A2 hx.he.ig.one (A2 hx.he.key.one (A2 rfl (A2 rfl (A2 rfl (A2 rfl (A2 hn1.own.one (A2 hn1.their.one (A2 hn1.root.one (A2 hn1.sk.one (A2 rfl (A2 hn1.tk.one (A2 rfl (A2 rfl (A2 hn1.st.one G9)))))))))))))))))) UpC.upd ?_)
 intro _
 dsimp only [List.cons_append, List.nil_append, List.append_eq]
 refine I4 rfl rfl rfl (A9 (vs := [.int .i64 fu, .int .i64 fd, .int .i64 tu, .int .i64 td, uid, .bool x.tell, vS, vS, vS, .int .u32 0, .bool false, .int .u32 0, hk_, (vU x.r.prev), (vU x.r.sn), u42]) rfl rfl rfl kR qR (A2 rfl (A2 rfl (A2 rfl (A2 rfl (A2 h22.one (A2 rfl (A2 rfl (A2 rfl (A2 rfl (A2 rfl (A2 rfl (A2 rfl (A2 h29.one (A2 rfl (A2 rfl (A2 h30.one G9)))))))))))))))) UpC.upd ?_)
 refine E2 hs rfl (E8 rfl) rfl ?_
 refine G2 (E0 10 11 12) (A8 ?_)
 exact ⟨_, B39, [], A9F (n1 := 18) (n2 := 16) rfl rfl rfl rfl kR kR At.mem At.mem qR qR, Fit.none (Fit.last qP), wo, wt, wr, wk, wl, wq, uid, hk_, u42, rfl, hP27, ⟨hx.id.mono qS, hx.wi.mono qS, hx.he.mono qS, hx.hil, hn1.mono qS⟩, ⟨h22.mono qS, A8N, (show 0 ≤ 1000000 by decide), h29.mono qS, h30.mono qS, hx.r.prev, hx.r.sn⟩⟩


end Go.Proofs.YtpemeceacdhacaaGreatDoor
