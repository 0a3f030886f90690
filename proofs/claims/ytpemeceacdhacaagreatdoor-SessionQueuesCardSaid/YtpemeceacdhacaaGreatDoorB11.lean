/- Part 11 of the texts of this claim, one behind the other. -/
import Derived.Test.YtpemeceacdhacaaGreatDoorB10
set_option linter.unusedVariables false
set_option linter.unusedSimpArgs false
set_option maxRecDepth 100000
namespace Go.Proofs.YtpemeceacdhacaaGreatDoor
open Go.Px
structure Skp where
  of : LN
  n : Nat
  key : LN
deriving DecidableEq
def skR (R : Mem) (s : Skp) (r : List Value) : Prop := ∃ vo vk, r = [vo, (vU s.n), vk] ∧ By R vo s.of ∧ By R vk s.key ∧ s.n < 4294967296
theorem skT : RowT 3 skR := ⟨fun R R' x r hR ⟨vo, vk, h1, h2, h3, h4⟩ => ⟨vo, vk, h1, h2.mono hR, h3.mono hR, h4⟩, fun R x r ⟨vo, vk, h1, _⟩ => by rw [h1]; rfl, fun R x r ⟨vo, vk, h1, h2, h3, _⟩ c hc => by
  rw [h1] at hc
  simp only [List.mem_cons, List.not_mem_nil, or_false] at hc
  rcases hc with rfl | rfl | rfl
  · exact h2.one
  · rfl
  · exact h3.one⟩
structure Sto (R : Mem) (sb : Nat) (sks : List Skp) (M : Mem) : Prop where
  ex : ∃ v rows B, M = (sb, blk [v] 153) :: B ∧ Sl 3 v sks.length rows.flatten B ∧ RwL skR R rows sks
theorem Sto.mono {R R' : Mem} {sb : Nat} {sks : List Skp} {M : Mem} (h : Sto R sb sks M) (hR : ∀ x, x ∈ R → x ∈ R') : Sto R' sb sks M := by
  obtain ⟨v, rows, B, h1, h2, h3⟩ := h.ex
  exact ⟨v, rows, B, h1, h2, h3.mono skT hR⟩
def tst (of : LN) (n : Nat) (s : Skp) : Bool := decide (s.n = n) && decide (s.of = of)
def A3e (sks : List Skp) (of : LN) (n : Nat) : List Skp := if K1 (tst of n) sks < 0 then sks else sks.eraseIdx (K1 (tst of n) sks).toNat
def B2t (sks : List Skp) (x : Skp) : List Skp := (A3e sks x.of x.n ++ [x]).drop ((A3e sks x.of x.n ++ [x]).length - 32)
theorem A2y {sks : List Skp} {of : LN} {n : Nat} (h : K1 (tst of n) sks = -1) : A3e sks of n = sks := if_pos (by rw [h]; decide)
theorem A05 {sks : List Skp} {of : LN} {n i : Nat} (h : K1 (tst of n) sks = (i : Int)) : A3e sks of n = sks.eraseIdx i := by
  unfold A3e; rw [h, if_neg qO, Int.toNat_natCast]
theorem A4D (sks : List Skp) (of : LN) (n : Nat) : (A3e sks of n).length ≤ sks.length := by
  unfold A3e; split
  · exact Nat.le_refl _
  · exact List.length_eraseIdx_le _ _
theorem A8D (sks : List Skp) (x : Skp) : (B2t sks x).length ≤ 32 := by
  unfold B2t; rw [List.length_drop]; omega
theorem A8E (vo vk vof : Value) (s : Skp) (of : LN) (n : Nat) (b4 b5 : Nat) (A : Mem) (ho : By A vo s.of) (hk : By A vk s.key) (hof : By A vof of) (hb5 : (b5, blk [(vU n)] 31) ∈ A) (hb4 : (b4, blk [vof] 22) ∈ A) : FnV Tryz.prog 146 [.agg #[vo, (vU s.n), vk], (vP b5), (vP b4)] A (.bool (tst of n s)) := by
 haveI := ho.cel
 haveI := hk.cel
 haveI := hof.cel
 refine FnX.enter (N := 15) Tryz.func146 rfl rfl rfl fun w => ?_
 refine A7 (E0 0 1 2) (A1 ?_)
 refine A4 rfl (bx_ fun b3 => ?_)
 refine as_ (A0 (E0 1 2 3) (A1 ?_))
 refine A3 (qf_ 1 1) rfl ?_
 refine A3 ql_ rfl ?_
 refine A3 (G7 rfl kR (mA hb5) qR) rfl ?_
 refine A3 (E9 rfl rfl rfl) rfl ?_
 refine mv_ ?_
 refine P8 (t := 9) rfl (fun hb => ?_) (fun hb => ?_)
 ·
  have hnn : s.n = n := by simp at hb; omega
  refine C6 rfl rfl (OpQ.opL (qf_ 0 0) rfl ?_)
  refine C6 rfl rfl (OpQ.opL ql_ rfl ?_)
  refine C6 rfl rfl (OpQ.opL (G7 rfl kR (mA hb4) qR) rfl ?_)
  refine A0j rfl rfl (aS rfl (aS rfl a0)) kR (S7 vo vof s.of of _ (ho.mono qS) (hof.mono qS)) rfl ?_
  refine A3 (E6 rfl rfl) rfl ?_
  refine as_ (A0 (C9 4) (A8 ?_))
  exact ⟨_, [], [], G5 rfl rfl, List.nil_sublist _, by simp, by unfold tst; rw [hnn]; simp, rfl, rfl⟩
 ·
  have hnn : s.n ≠ n := by simp at hb; omega
  refine H2 rfl rfl rfl rfl ?_
  refine H2 rfl rfl rfl rfl ?_
  refine H2 rfl rfl rfl rfl ?_
  refine H2 rfl rfl rfl rfl ?_
  refine A3 (D1 rfl rfl) rfl ?_
  refine as_ (A0 (C9 4) (A8 ?_))
  exact ⟨_, [], [], G5 rfl rfl, List.nil_sublist _, by simp, by unfold tst; simp [hnn], rfl, rfl⟩
theorem A8F {vof : Value} {sks : List Skp} {rows : List (List Value)} {of : LN} {n b4 b5 : Nat} {A : Mem} (hR : RwL skR A rows sks) (hof : By A vof of) (hb5 : (b5, blk [(vU n)] 31) ∈ A) (hb4 : (b4, blk [vof] 22) ∈ A) :
    ∀ (j : Nat) (r : List Value), rows[j]? = some r → FnV Tryz.prog 146 (.agg r.toArray :: [(vP b5), (vP b4)]) A (.bool ((fun j => (sks[j]?.map (tst of n)).getD false) j)) := fun j r hr => by
  obtain ⟨s, hs, vo, vk, rfl, ho, hk, _⟩ := hR.of hr
  dsimp only
  rw [hs]
  exact A8E vo vk vof s of n b4 b5 _ ho hk hof hb5 hb4
theorem A1B (sb : Nat) (v vof : Value) (rows : List (List Value)) (sks : List Skp) (of : LN) (n : Nat) (A : Mem) (hsb : (sb, blk [v] 153) ∈ A) (hv : Rd A 3 v sks.length rows.flatten) (hR : RwL skR A rows sks) (hl : sks.length ≤ 1000000) (hof : By A vof of) : FnV Tryz.prog 108 [(vP sb), vof, (vU n)] A (.int .i64 (K1 (tst of n) sks)) := by
 haveI := hof.cel
 haveI := hv.cel
 refine FnX.enter (N := 15) Tryz.func108 rfl rfl rfl fun w => ?_
 refine A7 (E0 0 1 2) (A1 ?_)
 refine A4 rfl (bx_ fun b4 => ?_)
 refine A4 rfl (bx_ fun b5 => ?_)
 refine as_ (A0 (E0 0 4 5) (A6 (A1 (mv_ ?_))))
 refine A3 (D0 (e := 153) rfl rfl kR) rfl ?_
 refine A0 (F2 0 4 5 8) ?_
 refine B0 rfl ?_
 refine A5 (nx (E0 0 4 5) (A1 (mv_ ?_)))
 refine A3 (D2 rfl) rfl ?_
 refine A3 (qf_ 0 0) rfl ?_
 refine A3 (G7 rfl kR (mA hsb) qR) rfl ?_
 refine A3 (A0v (aS rfl (aS rfl a0))) rfl ?_
 refine D6 (aS rfl (aS rfl a0)) kR (A5g v rows 146 [(vP b5), (vP b4)] (fun j => (sks[j]?.map (tst of n)).getD false) _ (by rw [hR.len]; exact hv.mono qS) (hR.lens skT) (by rw [hR.len]; omega) kR (A8F (hR.mono skT qS) (hof.mono qS) qM qM)) rfl ?_
 refine as_ (A0 (C9 6) (A8 ?_))
 exact ⟨_, [], [], G5 rfl rfl, List.nil_sublist _, by simp, by rw [hR.len]; rfl, rfl, rfl⟩

theorem A6Y {M B R B' : Mem} (h : M.Perm (B ++ R)) (hs : B'.Sublist B) : Fit M B' := ⟨_, h, hs.trans (List.sublist_append_left _ _)⟩
theorem Sl.cast {sz n n' : Nat} {v : Value} {xs xs' : List Value} {B : Mem} (h : Sl sz v n xs B) (h1 : n = n') (h2 : xs = xs') : Sl sz v n' xs' B := by subst h1; subst h2; exact h
def A2G (sks : List Skp) (of : LN) (n : Nat) : Option (LN) := if K1 (tst of n) sks < 0 then none else (sks[(K1 (tst of n) sks).toNat]?).map (·.key)
theorem A6Z {sks : List Skp} {of : LN} {n : Nat} (h : K1 (tst of n) sks = -1) : A2G sks of n = none := if_pos (by rw [h]; decide)
theorem A4E {sks : List Skp} {of : LN} {n i : Nat} {x : Skp} (h : K1 (tst of n) sks = (i : Int)) (hx : sks[i]? = some x) : A2G sks of n = some x.key := by
  unfold A2G; rw [h, if_neg qO, Int.toNat_natCast, hx]; rfl
theorem A8G (sb : Nat) (vof vk : Value) (sks : List Skp) (of key : LN) (n : Nat) (R MS A : Mem) (hS : Sto R sb sks MS) (hR : ∀ x, x ∈ R → x ∈ A) (hl : sks.length ≤ 1000000) (hof : By R vof of) (hk : By R vk key) (hn : n < 4294967296) : FnX Tryz.prog 115 [(vP sb), .agg #[vof, (vU n), vk]] MS A fun q M J => q = .tuple #[] ∧ Sto (J ++ R) sb (B2t sks ⟨of, n, key⟩) M := by
  obtain ⟨v, rows, B, rfl, hsl, hrw⟩ := hS.ex
  haveI := hsl.cel
  haveI := hof.cel
  haveI := hk.cel
  refine FnX.enterZ (N := 59) Tryz.func115 rfl rfl rfl fun w_ => ?_
  refine A7 (C7 0 1) (A1 ?_)
  refine A4 rfl (bx_ fun b3 => ?_)
  refine A0 (C7 0 3) (A6 (A1 (mv_ ?_)))
  refine A3 (D0 (e := 153) rfl rfl kR) rfl ?_
  refine A0 (E0 0 3 6) ?_
  refine B0 rfl ?_
  refine A5 (nx (C7 0 3) ?_)
  refine N7 (α := Value × List (List Value) × Mem) (fun x => [(0, (vP sb)), (3, (vP b3))]) (fun x => (b3, blk [vof, (vU n), vk] 190) :: (sb, blk [x.1] 153) :: x.2.2) (fun _ => []) (fun x => Sl 3 x.1 (A3e sks of n).length x.2.1.flatten x.2.2 ∧ RwL skR R x.2.1 (A3e sks of n)) ?_ ?_
  ·
    refine A1 (mv_ ?_)
    refine A3 (qf_ 0 0) rfl ?_
    refine A3 ql_ rfl ?_
    refine A3 (qf_ 1 1) rfl ?_
    refine A3 ql_ rfl ?_
    refine D6 (aS rfl (aS rfl (aS rfl a0))) kR (A1B sb v vof rows sks of n _ qM (hsl.rd qS) (hrw.mono skT (fun x hx => mA (hR x hx))) hl (hof.mono (fun x hx => mA (hR x hx)))) rfl ?_
    refine as_ (A0 (E0 0 3 4) (A1 (mv_ ?_)))
    refine A3 (E9 rfl rfl rfl) rfl ?_
    refine A0 (F2 0 3 4 14) ?_
    refine C1 rfl ?_ ?_ <;> intro hc
    ·
      obtain ⟨hf, hz⟩ | ⟨i, x, hf, hxi, hq, hmin⟩ := I6 (tst of n) sks
      · rw [hf] at hc; simp at hc
      have hil := (List.getElem?_eq_some_iff.1 hxi).1
      rw [hf]
      obtain ⟨p, rfl, h0, _, _⟩ | ⟨b, o, cap, cs, e, rfl, rfl, g1, g2, g3, g4, g5⟩ := hsl
      · omega
      refine C8 (mv_ (mv_ ?_))
      refine A3 (D2 rfl) rfl ?_
      refine A3 (qf_ 0 0) rfl ?_
      refine A3 ql_ rfl ?_
      refine mv_ (mv_ ?_)
      refine A3 (H6 (b := 1) rfl rfl rfl rfl qO) rfl ?_
      refine A4 rfl (B3 (Mc := [(b, blk cs e)]) (R := _) (aS rfl (aS rfl (aS rfl a0))) kR qP (A1A b o cap sks.length i (i + 1) cs rows.flatten e _ g1 g2 g3 g4 g5 (hrw.ones skT) qO qO) rfl ?_)
      rintro v23 M23 J23 ⟨rfl, hs23⟩
      have hsd : Sl 3 v23 (sks.eraseIdx i).length (rows.take i ++ rows.drop (i + 1)).flatten M23 := by
        have h := hs23
        rw [A0F (hrw.lens skT)] at h
        exact Sl.cast h (by rw [List.length_eraseIdx, if_pos hil]; omega) rfl
      haveI := hsd.cel
      refine A3 (D2 rfl) rfl ?_
      refine A3 (qf_ 0 0) rfl ?_
      refine A4 rfl (F0 rfl rfl hsd.one kR SetC.set UpC.upd ?_)
      refine E3 ?_
      exact jn (v23, rows.take i ++ rows.drop (i + 1), M23) ⟨by rw [A05 hf]; exact hsd, by rw [A05 hf]; exact hrw.erase i⟩ (C7 0 3) (Fit.pick (B := [_]) qP (Fit.pick (B := [_]) qP (Fit.last qP))) (fun _ h => by cases h)
    ·
      have hf : K1 (tst of n) sks = -1 := by
        obtain ⟨hf, hz⟩ | ⟨i, x, hf, hxi, hq, hmin⟩ := I6 (tst of n) sks
        · exact hf
        · rw [hf] at hc; (simp at hc) <;> omega
      refine A5 ?_
      exact jn (v, rows, B) ⟨by rw [A2y hf]; exact hsl, by rw [A2y hf]; exact hrw⟩ (C7 0 3) .rfl qI
  ·
    rintro ⟨v1, rows1, B1⟩ ⟨hsl1, hrw1⟩
    dsimp only at hsl1 hrw1 ⊢
    haveI := hsl1.cel
    have hdl := A4D sks of n
    have hdd : B2t sks ⟨of, n, key⟩ = List.drop ((A3e sks of n ++ [(⟨of, n, key⟩ : Skp)]).length - 32) (A3e sks of n ++ [(⟨of, n, key⟩ : Skp)]) := rfl
    generalize A3e sks of n = ds at *
    rw [List.length_append, List.length_singleton] at hdd
    refine F4 [0, 1, 2, 3, 4, 5, 6, 7, 8, 9, 10, 11, 12, 13, 14, 16, 17] [(0, 0), (1, 0), (2, 0), (3, 0), (4, 1), (5, 0), (6, 1), (8, 0), (9, 1), (10, 0), (11, 1), (7, 2), (12, 2), (13, 0), (14, 2), (15, 2), (16, 0), (17, 0), (18, 2)] kR kR fun hs => ?_
    refine fm_ hs ?_
    refine fm_ hs ?_
    refine D4 hs rfl (D2 rfl) rfl ?_
    refine D4 hs rfl (qf_ 0 0) rfl ?_
    refine S0 hs rfl ql_ rfl ?_
    refine D4 hs rfl (qf_ 0 0) rfl ?_
    refine S0 hs rfl ql_ rfl ?_
    refine D4 hs rfl (qf_ 1 1) rfl ?_
    refine S0 hs rfl ql_ rfl ?_
    refine D4 hs rfl (qf_ 2 2) rfl ?_
    refine S0 hs rfl ql_ rfl ?_
    refine A1e rfl (aS rfl a0) kR (A0d vof of _ (hof.mono (fun x hx => mA (hR x hx)))) rfl ?_
    rintro v33 M33 J33 ⟨rfl, h33⟩
    haveI := h33.cel
    refine A1e rfl (aS rfl a0) kR (A0d vk key _ (hk.mono (fun x hx => mA (hR x hx)))) rfl ?_
    rintro v38 M38 J38 ⟨rfl, h38⟩
    haveI := h38.cel
    refine D4 hs rfl (D7 (place := fun x => #[(0, 1), (1, 1), (2, 1)][x]?) (z := [vS, .int .u32 0, vS]) (fun _ => by kernel_rfl) (eS rfl (eS rfl (eS rfl e0))) (bdS 0 1 rfl qR (bdS 1 1 rfl qR (bdS 2 1 rfl qR bd0)))) rfl ?_
    refine A5J rfl rfl fun _ => (C0 (e := 190) (sz := 3) (z := [vS, .int .u32 0, vS]) kR (eS rfl e0) (bdS 0 3 rfl qR bd0) rfl fun b40 => ?_)
    refine I3 rfl rfl rfl (F9 (e := 190) (sz := 3) (by_ := 56) rfl rfl kR rfl hsl1 (Rd.whole (n := 1) At.mem qR) (by intro c hc; simp only [List.mem_cons, List.not_mem_nil, or_false] at hc; rcases hc with rfl | rfl | rfl; exact h33.one; rfl; exact h38.one) qP (by unfold maxLen; omega) qO rfl fun v41 B41 hs41 => ?_)
    haveI := hs41.cel
    refine D4 hs rfl (D2 rfl) rfl ?_
    refine D4 hs rfl (qf_ 0 0) rfl ?_
    refine I3 rfl rfl rfl (F0 rfl rfl hs41.one kR SetC.set UpC.upd ?_)
    obtain ⟨B42, hsub42, hs42⟩ := hs41.loV (ds.length + 1 - 32) qO
    refine G8 (C9 0) ?_
    refine N0 (.range 15) (zp 0 [0, 0, 0, 0, 1, 0, 0, 0, 1, 0, 0, 0, 0, 0, 0, 2]) kR kR fun hs => ?_
    refine fm_ hs ?_
    refine fm_ hs ?_
    refine D4 hs rfl (D2 rfl) rfl ?_
    refine D4 hs rfl (qf_ 0 0) rfl ?_
    refine S0 hs rfl ql_ rfl ?_
    refine fm_ hs ?_
    refine D4 hs rfl (D2 rfl) rfl ?_
    refine D4 hs rfl (qf_ 0 0) rfl ?_
    refine S0 hs rfl ql_ rfl ?_
    refine D4 hs rfl (E5 (sz := 3) rfl kR (hs41.rd (R := B41) fun _ h => h)) rfl ?_
    refine D4 hs rfl (K7 (((ds.length + 1 : Nat) : Int) - 32) rfl rfl (A5A qO qO qO)) rfl ?_
    refine D4 hs rfl (B1p (((ds.length + 1 - 32 : Nat)) : Int) rfl rfl (by split <;> omega)) rfl ?_
    refine D4 hs rfl (Y9 (sz := 3) (a := ds.length + 1 - 32) rfl rfl kR rfl (hs41.rd (R := B41) fun _ h => h) qO) rfl ?_
    refine D4 hs rfl (D2 rfl) rfl ?_
    refine D4 hs rfl (qf_ 0 0) rfl ?_
    refine I3 rfl rfl rfl (F0 rfl rfl hs42.one kR SetC.set UpC.upd ?_)
    refine A1d ?_
    refine ⟨_, (sb, blk [vLo (ds.length + 1 - 32) 3 v41] 153) :: B42, [], A3p rfl, Fit.none (Fit.pick (B := [_]) qP (A6Y (B := B41) qP hsub42)), rfl, ⟨_, (rows1 ++ [[v33, (vU n), v38]]).drop (ds.length + 1 - 32), B42, rfl, ?_, ?_⟩⟩
    · refine Sl.cast hs42 ?_ ?_
      · rw [hdd, List.length_drop, List.length_append, List.length_singleton]
      · rw [← A0i (s := 3) (by intro r hr; rcases List.mem_append.1 hr with h | h; exact hrw1.lens skT r h; rw [List.mem_singleton.1 h]; rfl)]; simp
    · rw [hdd]
      refine (RwL.snoc (x := (⟨of, n, key⟩ : Skp)) (r := [v33, (vU n), v38]) (hrw1.mono skT (fun x hx => List.mem_append_right _ hx)) ⟨v33, v38, rfl, h33.mono (fun x hx => ?_), h38.mono (fun x hx => ?_), hn⟩).drop _ <;> simp [hx]
theorem A8H (sb : Nat) (v vof : Value) (rows : List (List Value)) (sks : List Skp) (of : LN) (n : Nat) (A : Mem) (hsb : (sb, blk [v] 153) ∈ A) (hv : Rd A 3 v sks.length rows.flatten) (hrw : RwL skR A rows sks) (hl : sks.length ≤ 1000000) (hof : By A vof of) : FnX Tryz.prog 78 [(vP sb), vof, (vU n)] [] A fun q M J => M = [] ∧ ∃ u, q = .tuple #[u, .bool (A2G sks of n).isSome] ∧ By J u ((A2G sks of n).getD []) := by
 haveI := hof.cel
 haveI := hv.cel
 refine FnX.enterZ (N := 24) Tryz.func78 rfl rfl rfl fun w_ => ?_
 refine A7 (E0 0 1 2) (A1 (as_ (as_ (A0 (E0 0 1 2) (A1 (mv_ (mv_ (mv_ ?_))))))))
 refine D6 (aS rfl (aS rfl (aS rfl a0))) kR (A1B sb v vof rows sks of n _ (mA hsb) (hv.mono qS) (hrw.mono skT qS) hl (hof.mono qS)) rfl ?_
 refine as_ (A0 (C7 0 8) (A6 (A1 (mv_ ?_))))
 refine A3 (E9 rfl rfl rfl) rfl ?_
 refine A0 (E0 0 8 14) ?_
 refine C1 rfl ?_ ?_ <;> intro hc
 ·
  have hf : K1 (tst of n) sks = -1 := by
   obtain ⟨hf, hz⟩ | ⟨i, x, hf, hxi, hq, hmin⟩ := I6 (tst of n) sks
   · exact hf
   · rw [hf] at hc; (simp at hc) <;> omega
  refine A1 (as_ (as_ (A0 (C7 6 7) (A8 (tr ?_)))))
  exact ⟨_, [], [], A0K rfl rfl rfl, qZ, rfl, _, by rw [A6Z hf]; rfl, by rw [A6Z hf]; exact By.nil⟩
 ·
  obtain ⟨hf, hz⟩ | ⟨i, x, hf, hxi, hq, hmin⟩ := I6 (tst of n) sks
  · rw [hf] at hc; simp at hc
  have hil := (List.getElem?_eq_some_iff.1 hxi).1
  rw [hf]
  obtain ⟨r, hr, vo, vk, rfl, ho, hk, hn⟩ := hrw.get i x hxi
  haveI := hk.cel
  refine A5 (nx (C7 0 8) (A1 (mv_ ?_)))
  refine A3 (D2 rfl) rfl ?_
  refine A3 (qf_ 0 0) rfl ?_
  refine A3 (G7 rfl kR (mA hsb) qR) rfl ?_
  refine mv_ ?_
  refine A3 (F1 (sz := 3) rfl rfl kR rfl hv hil) rfl ?_
  refine A3 (A4k (off := 2) rfl hv hil kR) rfl ?_
  refine A3 (A4l (u := vk) rfl (hv.mono qS) qO kR (by rw [W3 (hrw.lens skT) hr 2 qD]; rfl)) rfl ?_
  refine E4 (aS rfl a0) kR (A0d vk x.key _ (hk.mono qS)) rfl ?_
  rintro v23 M23 J23 ⟨rfl, h23⟩
  haveI := h23.cel
  refine as_ (as_ (A0 (C7 6 7) (A8 ?_)))
  exact ⟨_, [], [], A0K rfl rfl rfl, qZ, rfl, _, by rw [A4E hf hxi]; rfl, by rw [A4E hf hxi]; exact h23.mono qS⟩
theorem A60 (sb : Nat) (vof : Value) (sks : List Skp) (of : LN) (n : Nat) (R MS A : Mem) (hS : Sto R sb sks MS) (hR : ∀ x, x ∈ R → x ∈ A) (hl : sks.length ≤ 1000000) (hof : By R vof of) : FnX Tryz.prog 80 [(vP sb), vof, (vU n)] MS A fun q M J => q = .bool (decide (K1 (tst of n) sks ≥ 0)) ∧ Sto R sb (A3e sks of n) M := by
 obtain ⟨v, rows, B, rfl, hsl, hrw⟩ := hS.ex
 haveI := hsl.cel
 haveI := hof.cel
 refine FnX.enterZ (N := 27) Tryz.func80 rfl rfl rfl fun w_ => ?_
 refine A7 (E0 0 1 2) (A1 (as_ (A0 (E0 0 1 2) (A1 (mv_ (mv_ (mv_ ?_)))))))
 refine D6 (aS rfl (aS rfl (aS rfl a0))) kR (A1B sb v vof rows sks of n _ qM (hsl.rd qS) (hrw.mono skT (fun x hx => mA (hR x hx))) hl (hof.mono (fun x hx => mA (hR x hx)))) rfl ?_
 refine as_ (A0 (C7 0 7) ?_)
 refine N7 (α := Value × List (List Value) × Mem) (fun x => [(7, .int .i64 (K1 (tst of n) sks))]) (fun x => (sb, blk [x.1] 153) :: x.2.2) (fun _ => []) (fun x => Sl 3 x.1 (A3e sks of n).length x.2.1.flatten x.2.2 ∧ RwL skR R x.2.1 (A3e sks of n)) ?_ ?_
 ·
  refine A1 (mv_ ?_)
  refine A3 (E9 rfl rfl rfl) rfl ?_
  refine A0 (E0 0 7 13) ?_
  refine C1 rfl ?_ ?_ <;> intro hc
  ·
   obtain ⟨hf, hz⟩ | ⟨i, x, hf, hxi, hq, hmin⟩ := I6 (tst of n) sks
   · rw [hf] at hc; simp at hc
   have hil := (List.getElem?_eq_some_iff.1 hxi).1
   rw [hf]
   obtain ⟨p, rfl, h0, _, _⟩ | ⟨b, o, cap, cs, e, rfl, rfl, g1, g2, g3, g4, g5⟩ := hsl
   · omega
   refine C8 (mv_ (mv_ ?_))
   refine A3 (D2 rfl) rfl ?_
   refine A3 (qf_ 0 0) rfl ?_
   refine A3 ql_ rfl ?_
   refine mv_ (mv_ ?_)
   refine A3 (H6 (b := 1) rfl rfl rfl rfl qO) rfl ?_
   refine A4 rfl (B3 (Mc := [(b, blk cs e)]) (R := _) (aS rfl (aS rfl (aS rfl a0))) kR qP (A1A b o cap sks.length i (i + 1) cs rows.flatten e _ g1 g2 g3 g4 g5 (hrw.ones skT) qO qO) rfl ?_)
   rintro v22 M22 J22 ⟨rfl, hs22⟩
   have hsd : Sl 3 v22 (sks.eraseIdx i).length (rows.take i ++ rows.drop (i + 1)).flatten M22 := by
    have h := hs22
    rw [A0F (hrw.lens skT)] at h
    exact Sl.cast h (by rw [List.length_eraseIdx, if_pos hil]; omega) rfl
   haveI := hsd.cel
   refine A3 (D2 rfl) rfl ?_
   refine A3 (qf_ 0 0) rfl ?_
   refine A4 rfl (F0 rfl rfl hsd.one kR SetC.set UpC.upd ?_)
   refine E3 ?_
   exact jn (v22, rows.take i ++ rows.drop (i + 1), M22) ⟨by rw [A05 hf]; exact hsd, by rw [A05 hf]; exact hrw.erase i⟩ (C9 7) (Fit.pick (B := [_]) qP (Fit.last qP)) (fun _ h => by cases h)
  ·
   have hf : K1 (tst of n) sks = -1 := by
    obtain ⟨hf, hz⟩ | ⟨i, x, hf, hxi, hq, hmin⟩ := I6 (tst of n) sks
    · exact hf
    · rw [hf] at hc; (simp at hc) <;> omega
   refine A5 ?_
   exact jn (v, rows, B) ⟨by rw [A2y hf]; exact hsl, by rw [A2y hf]; exact hrw⟩ (C9 7) .rfl qI
 ·
  rintro ⟨v1, rows1, B1⟩ ⟨hsl1, hrw1⟩
  dsimp only at hsl1 hrw1 ⊢
  refine A1 (mv_ ?_)
  refine A3 (E9 rfl rfl rfl) rfl ?_
  refine as_ (A0 (C9 6) (A8 ?_))
  exact ⟨_, _, [], G5 rfl rfl, Fit.none .rfl, rfl, ⟨v1, rows1, B1, rfl, hsl1, hrw1⟩⟩
theorem A8I (sb k : Nat) (v : Value) (xs : List Value) (A : Mem) (hsb : (sb, blk [v] 153) ∈ A) (hv : Rd A 3 v k xs) (h1 : ∀ c ∈ xs, c.oneCell' = true) (hk : k ≤ 1099511627776) : FnX Tryz.prog 139 [(vP sb)] [] A fun q M J => Sl 3 q k xs M := by
 haveI := hv.cel
 refine FnX.enterZ (N := 10) Tryz.func139 rfl rfl rfl fun w_ => ?_
 refine A7 (C9 0) (A1 (as_ (A0 (C9 0) (A6 (A1 (mv_ ?_))))))
 refine A3 (D0 (e := 153) rfl rfl kR) rfl ?_
 refine A0 (C7 0 4) ?_
 refine B0 rfl ?_
 refine A5 (nx (C9 0) (A1 (mv_ ?_)))
 refine A3 (D2 rfl) rfl ?_
 refine A3 (qf_ 0 0) rfl ?_
 refine A3 (G7 rfl kR (mA hsb) qR) rfl ?_
 refine E4 (aS rfl a0) kR (A5h v k xs _ (hv.mono qS) h1 hk) rfl ?_
 rintro v9 M9 J9 hs9
 haveI := hs9.cel
 refine as_ (A0 (C9 2) (A8 ?_))
 exact ⟨_, M9, [], G5 rfl rfl, Fit.none (Fit.last qP), hs9⟩
theorem A61 (sb k : Nat) (v : Value) (xs : List Value) (A : Mem) (hsb : (sb, blk [v] 153) ∈ A) (hv : Rd A 3 v k xs) (h1 : ∀ c ∈ xs, c.oneCell' = true) (hk : k ≤ 1099511627776) : FnX Tryz.prog 99 [(vP sb)] [] A fun q M J => ∃ cb u B, q = (vP cb) ∧ M = (cb, blk [u] 153) :: B ∧ Sl 3 u k xs B := by
 refine FnX.enterZ (N := 7) Tryz.func99 rfl rfl rfl fun w_ => ?_
 refine A7 (C9 0) (A1 (as_ (A0 (C9 0) (A1 (mv_ ?_)))))
 refine E4 (aS rfl a0) kR (A8I sb k v xs _ (mA hsb) (hv.mono qS) h1 hk) rfl ?_
 rintro v4 M4 J4 hs4
 haveI := hs4.cel
 refine A3 (D7 (place := fun x => #[(0, 1)][x]?) (z := [vS]) (fun _ => by kernel_rfl) (eS rfl e0) (bdS 0 1 rfl qR bd0)) rfl ?_
 refine A4 rfl (bx_ fun b6 => ?_)
 refine as_ (A0 (C9 2) (A8 ?_))
 exact ⟨_, (b6, _) :: M4, [], G5 rfl rfl, Fit.none (Fit.pick (B := [_]) qP (Fit.last qP)), b6, v4, M4, rfl, rfl, hs4⟩

def A2z : LN := [115, 116, 101, 112]
def A0S (s : Ps) (key : LN) : Ps := A3D s key [] A2z 2
def cstL (s : Ps) (key : LN) : List (LN) := A4q s key [] A2z 2
def A3S (s : Ps) (key : LN) : LN := (cstL s key).getD 0 []
def A8J (s : Ps) (key : LN) : LN := (cstL s key).getD 1 []
theorem A4F (s : Ps) (key : LN) (ws : List (LN)) (lb : LN) (n : Nat) : (A4q s key ws lb n).length = n := by
  unfold A4q
  split
  · exact A4s _ _
  · exact (A0t _ _ _ _).1
theorem A62 {R : Mem} {v : Value} {ls : List (LN)} (h : LsV R v ls) (hl : ls.length = 2) : ∃ vs u0 u1, Rd R 1 v 2 vs ∧ vs[0]? = some u0 ∧ vs[1]? = some u1 ∧ By R u0 (ls.getD 0 []) ∧ By R u1 (ls.getD 1 []) := by
  obtain ⟨vs, h1, h2⟩ := h.ex
  obtain ⟨u0, a0, b0⟩ := h2.at (j := 0) qO
  obtain ⟨u1, a1, b1⟩ := h2.at (j := 1) qO
  rw [hl] at h1
  refine ⟨vs, u0, u1, h1, a0, a1, ?_, ?_⟩
  · rw [List.getD_eq_getElem?_getD, List.getElem?_eq_getElem qO]; exact b0
  · rw [List.getD_eq_getElem?_getD, List.getElem?_eq_getElem qO]; exact b1
theorem A9w {P : Program} {fn : Func} {l : Env} {R : Mem} {t u b n : Nat} {ty : TypeId} {cs : List Value} {e : TypeId} {fr : Nat × Nat} {v : Value} (h : fn.results = #[.tmp u, .cell t ty]) (hv : lk l t = some (vP b)) (hu : lk l u = some v) (ht : A3l P ty = some n)
    (hb : (b, Obj.cells cs.toArray e fr) ∈ R) (hn : cs.length = n) : Res P fn l R (.tuple #[v, .agg cs.toArray]) := fun N a w ha hw => by
  obtain ⟨dsc, h1, h2, h3⟩ := M3 ht
  have hl := run_loadVar_row (P := P) w b e ty cs.toArray fr dsc (hw b _ hb) h1 (by cases dsc <;> simp_all [TypeDesc.isRow]) (by rw [h3, ← hn]; simp)
  simp [results, h, ha.slot t _ hv, ha.slot u _ hu, asAddr, hl]
theorem A1C (pb : Nat) (s : Ps) (kv : Value) (key : LN) (n : Nat) (MP A : Mem) (hP : Prm pb s MP) (hk : By A kv key) (hn : s.ts.length ≤ 1040000) (hG : Glb A) : FnX Tryz.prog 72 [(vP pb), .agg #[kv, (vU n)]] MP A fun q M J => ∃ v1 v2, q = .tuple #[v1, .agg #[v2, .int .u32 (((n + 1) % 4294967296 : Nat) : Int)]] ∧ Prm pb (A0S s key) M ∧ By J v1 (A3S s key) ∧ By J v2 (A8J s key) := by
 haveI := hk.cel
 refine FnX.enterZ (N := 25) Tryz.func72 rfl rfl rfl fun w_ => ?_
 refine A7 (C7 0 1) (A1 ?_)
 refine A4 rfl (A9K rfl Cel.cel rfl fun b3 => ?_)
 refine as_ ?_
 refine A4 rfl (C5 (cs := [vS, .int .u32 0]) kR rfl fun b5 => ?_)
 refine A0 (E0 0 3 5) (A1 (mv_ ?_))
 refine A3 (qf_ 0 0) rfl ?_
 refine A3 (G7 (v := kv) rfl kR At.mem qR) rfl ?_
 refine A4 rfl (B3 (Mc := MP) (R := _) (aS rfl (aS rfl (aS rfl (aS rfl (aS rfl a0))))) kR qP (A0c pb s kv (vS) key A2z [] 2 MP _ hP (hk.mono qS) LsV.nil qD ⟨by decide⟩ qD qD qD hn hG.up) rfl ?_)
 rintro v10 M10 J10 ⟨hP10, hL10⟩
 have hlen := A4F s key [] A2z 2
 obtain ⟨us, u0, u1, hr, hu0, hu1, hb0, hb1⟩ := A62 hL10 hlen
 haveI := hr.cel
 haveI := hb0.cel
 haveI := hb1.cel
 refine as_ (A0 (E0 3 5 6) (A6 (A1 (mv_ ?_))))
 refine A3 (E5 (sz := 1) rfl kR hr) rfl ?_
 refine A3 (E7 false rfl rfl (neF rfl)) rfl ?_
 refine A0 (F2 3 5 6 13) ?_
 refine B0 rfl ?_
 refine A5 (nx (E0 3 5 6) ?_)
 refine F4 (.range 11) (zp 0 [0, 0, 1, 0, 0, 1, 0, 1, 0, 0, 0, 2]) kR kR fun hs => ?_
 refine fm_ hs ?_
 refine D4 hs rfl (F1 (sz := 1) (a := 0) rfl rfl kR rfl hr qD) rfl ?_
 refine S0 hs rfl (W4 (u := u0) (hr.mono qS) rfl kR hu0) rfl ?_
 refine fm_ hs ?_
 refine D4 hs rfl (F1 (sz := 1) (a := 1) rfl rfl kR rfl hr qD) rfl ?_
 refine S0 hs rfl (W4 (u := u1) (hr.mono qS) rfl kR hu1) rfl ?_
 refine D4 hs rfl (qf_ 1 1) rfl ?_
 refine S0 hs rfl ql_ rfl ?_
 refine D4 hs rfl (Y7 4294967296 (b := 1) rfl rfl rfl rfl rfl rfl) rfl ?_
 refine D4 hs rfl (D7 (place := fun x => #[(0, 1), (1, 1)][x]?) (z := [vS, .int .u32 0]) (fun _ => by kernel_rfl) (eS rfl (eS rfl e0)) (bdS 0 1 rfl qR (bdS 1 1 rfl qR bd0))) rfl ?_
 refine fa_ hs ?_
 refine I3 rfl rfl rfl (A9 rfl rfl Cel.cel kR qR (by intro c hc; simp only [List.mem_cons, List.not_mem_nil, or_false] at hc; rcases hc with rfl | rfl; exact hb1.one; rfl) UpC.upd ?_)
 refine G8 (C7 4 5) (A8 ?_)
 refine ⟨_, M10, [], A9w (n := 2) rfl rfl rfl kR At.mem qR, Fit.none (Fit.last qP), u0, u1, rfl, hP10, hb0.mono (fun x hx => by simp [hx]), hb1.mono (fun x hx => by simp [hx])⟩

theorem up2 {X J R A : Mem} (hR : ∀ x, x ∈ R → x ∈ A) : ∀ x, x ∈ J ++ R → x ∈ X ++ (J ++ A) := fun x hx => List.mem_append_right _ ((List.mem_append.1 hx).elim (fun h => List.mem_append_left _ h) (fun h => List.mem_append_right _ (hR x h)))
def rep {α : Type} (f : α → α) : Nat → α → α
  | 0, x => x
  | k + 1, x => f (rep f k x)
abbrev Ast := Ps × LN × Nat × List Skp
def aSt (of : LN) (x : Ast) : Ast := (A0S x.1 x.2.1, A8J x.1 x.2.1, x.2.2.1 + 1, B2t x.2.2.2 ⟨of, x.2.2.1, A3S x.1 x.2.1⟩)
theorem B0L (of : LN) (i : Nat) (x : Ast) : (rep (aSt of) i x).2.2.1 = x.2.2.1 + i := by
  induction i with
  | zero => rfl
  | succ i ih => show (rep (aSt of) i x).2.2.1 + 1 = _; rw [ih]; rfl
theorem A9x (of : LN) (i : Nat) (x : Ast) : (rep (aSt of) i x).1.ts.length ≤ x.1.ts.length + 3 * i := by
  induction i with
  | zero => exact Nat.le_refl _
  | succ i ih =>
    show (A0S (rep (aSt of) i x).1 (rep (aSt of) i x).2.1).ts.length ≤ _
    have := A02 (rep (aSt of) i x).1 (rep (aSt of) i x).2.1 [] A2z 2
    unfold A0S
    simp at this
    omega
theorem A9y (of : LN) (i : Nat) (x : Ast) (h : x.2.2.2.length ≤ 1000) : (rep (aSt of) i x).2.2.2.length ≤ 1000 := by
  cases i with
  | zero => exact h
  | succ i => exact Nat.le_trans (A8D _ _) qD
theorem A5i (pb sb : Nat) (s : Ps) (kv vof : Value) (key of : LN) (N n : Nat) (sks : List Skp) (R MP MS A : Mem) (hP : Prm pb s MP) (hS : Sto R sb sks MS) (hR : ∀ x, x ∈ R → x ∈ A) (hk : By R kv key) (hof : By R vof of) (hl : sks.length ≤ 1000) (hNn : N ≤ n) (h16 : n - N ≤ 16) (hn32 : n < 4294967296) (hn : s.ts.length ≤ 1000000) (hG : Glb A) : FnX Tryz.prog 81 [(vP pb), .agg #[kv, (vU N)], vof, (vU n), (vP sb)] (MP ++ MS) A fun q M J => ∃ MP' MS' kv', M = MP' ++ MS' ∧ q = .tuple #[.agg #[kv', .int .u32 (((rep (aSt of) (n - N) (s, key, N, sks)).2.2.1 : Nat) : Int)], .int .i64 0] ∧ Prm pb (rep (aSt of) (n - N) (s, key, N, sks)).1 MP' ∧ Sto (J ++ R) sb (rep (aSt of) (n - N) (s, key, N, sks)).2.2.2 MS' ∧ By (J ++ R) kv' (rep (aSt of) (n - N) (s, key, N, sks)).2.1 := by
 haveI := hk.cel
 haveI := hof.cel
 refine FnX.enterZ (N := 51) Tryz.func81 rfl rfl rfl fun w_ => ?_
 refine A7 (H5 0 1 2 3 4) (A1 ?_)
 refine A4 rfl (bx_ fun b6 => ?_)
 refine A4 rfl (C5 (cs := [vS, .int .u32 0]) kR rfl fun b10 => ?_)
 refine as_ (A0 (I8 0 2 3 4 6 10) (A6 (C3 (A1 (mv_ ?_)))))
 refine A3 (qf_ 1 1) rfl ?_
 refine A3 ql_ rfl ?_
 refine A3 (E7 false rfl rfl (ltF qO)) rfl ?_
 refine as_ (A0 (R8 0 2 3 4 6 10 14) ?_)
 refine B0 rfl ?_
 refine A1 (mv_ ?_)
 refine A3 (qf_ 1 1) rfl ?_
 refine A3 ql_ rfl ?_
 refine A3 (K7 (((n - N : Nat)) : Int) rfl rfl (by simp only [G4]; rw [A34 qO qO]; congr 2; omega)) rfl ?_
 refine A3 (E7 false rfl rfl (gtF qO)) rfl ?_
 refine as_ (A0 (R8 0 2 3 4 6 10 20) ?_)
 refine B0 rfl ?_
 refine A5 (nb (nx (I8 0 2 3 4 6 10) (A6 (C3 ?_))))
 refine H1 (α := Nat × Mem × Mem × Value × Mem) (fun x => [(0, (vP pb)), (2, vof), (3, (vU n)), (4, (vP sb)), (6, (vP b6)), (10, (vP b10))]) (fun x => x.2.1 ++ (x.2.2.1 ++ [(b6, blk [x.2.2.2.1, .int .u32 ((N + x.1 : Nat) : Int)] 35), (b10, blk [vS, .int .u32 0] 35)])) (fun x => x.2.2.2.2) (fun x => x.1 ≤ n - N ∧ Prm pb (rep (aSt of) x.1 (s, key, N, sks)).1 x.2.1 ∧ Sto (x.2.2.2.2 ++ R) sb (rep (aSt of) x.1 (s, key, N, sks)).2.2.2 x.2.2.1 ∧ By (x.2.2.2.2 ++ R) x.2.2.2.1 (rep (aSt of) x.1 (s, key, N, sks)).2.1) (fun x => n - N - x.1) ⟨0, MP, MS, kv, []⟩ ⟨Nat.zero_le _, hP, hS, hk⟩ (I8 0 2 3 4 6 10) (Fit.pick qP (Fit.pick qP (Fit.pick (B := [_]) qP (Fit.last qP)))) (fun _ h => by cases h) ?_
 rintro ⟨i, MPi, MSi, kvi, Ji⟩ ⟨hi, hPi, hSi, hki⟩
 dsimp only at hi hPi hSi hki ⊢
 haveI := hki.cel
 have hts := A9x of i (s, key, N, sks)
 have hsk := A9y of i (s, key, N, sks) hl
 dsimp only at hts hsk
 refine A6 (A1 ?_)
 refine A3 (qf_ 1 1) rfl ?_
 refine A3 ql_ rfl ?_
 refine mv_ ?_
 refine A3 (E9 rfl rfl rfl) rfl ?_
 refine A0 (R8 0 2 3 4 6 10 30) ?_
 refine C1 rfl ?_ ?_ <;> intro hc
 ·
  have hlt : i < n - N := by simp at hc; omega
  refine A5 (nx (I8 0 2 3 4 6 10) (C3 (A1 (as_ (A0 (I8 0 2 3 4 6 10) (A1 ?_))))))
  refine A3 (qf_ 1 1) rfl ?_
  refine A3 ql_ rfl ?_
  refine as_ (A0 (R8 0 2 3 4 6 10 13) (A6 (A1 (mv_ ?_))))
  refine A3 (qw_ 2) rfl ?_
  refine A4 rfl (B3 (Mc := MPi) (R := _) (aS rfl (aS rfl a0)) kR qP (A1C pb (rep (aSt of) i (s, key, N, sks)).1 kvi (rep (aSt of) i (s, key, N, sks)).2.1 (N + i) MPi _ hPi (hki.mono (up2 hR)) qO hG.up) rfl ?_)
  rintro v36 M36 J36 ⟨v1, v2, rfl, hP36, hb1, hb2⟩
  haveI := hb1.cel
  haveI := hb2.cel
  rw [Nat.mod_eq_of_lt (show N + i + 1 < 4294967296 by omega), show N + i + 1 = N + (i + 1) from rfl]
  refine mv_ ?_
  refine A3 (U6 rfl) rfl ?_
  refine A3 (U0 rfl) rfl ?_
  refine as_ ?_
  refine A4 rfl (A9 rfl rfl Cel.cel kR qR (by intro c hc; simp only [List.mem_cons, List.not_mem_nil, or_false] at hc; rcases hc with rfl | rfl; exact hb2.one; rfl) UpC.upd ?_)
  refine A0 (A0e 0 2 3 4 6 10 12 13) (A1 ?_)
  refine A3 (qf_ 1 1) rfl ?_
  refine A3 ql_ rfl ?_
  refine mv_ ?_
  refine A3 (E7 false rfl rfl (eqF qO)) rfl ?_
  refine A0 (A3u 0 2 3 4 6 10 12 13 42) ?_
  refine B0 rfl ?_
  refine A5 (nx (A0e 0 2 3 4 6 10 12 13) (C8 (mv_ (mv_ (mv_ (mv_ ?_))))))
  refine A3 (D7 (place := fun x => #[(0, 1), (1, 1), (2, 1)][x]?) (z := [vS, .int .u32 0, vS]) (fun _ => by kernel_rfl) (eS rfl (eS rfl (eS rfl e0))) (bdS 0 1 rfl qR (bdS 1 1 rfl qR (bdS 2 1 rfl qR bd0)))) rfl ?_
  refine A4 rfl (B3 (Mc := MSi) (R := _) (aS rfl (aS rfl a0)) kR qP (A8G sb vof v1 (rep (aSt of) i (s, key, N, sks)).2.2.2 of (A3S (rep (aSt of) i (s, key, N, sks)).1 (rep (aSt of) i (s, key, N, sks)).2.1) (N + i) ((J36 ++ Ji) ++ R) MSi _ (hSi.mono (fun x hx => by simp only [List.mem_append] at hx ⊢; rcases hx with h | h <;> simp [h])) (up2 hR) qO (hof.mono (fun x hx => List.mem_append_right _ hx)) (hb1.mono (fun x hx => by simp [hx])) qO) rfl ?_)
  rintro v49 M49 J49 ⟨rfl, hS49⟩
  refine E3 (nb ?_)
  exact rn ⟨i + 1, M36, M49, v2, J49 ++ (J36 ++ Ji)⟩ ⟨by dsimp only; omega, hP36, (by have h := hS49; rw [← B0L of i (s, key, N, sks)] at h; exact h.mono (fun x hx => by simp only [List.mem_append] at hx ⊢; rcases hx with h | h | h <;> simp [h]) : Sto ((J49 ++ (J36 ++ Ji)) ++ R) sb _ M49), hb2.mono (fun x hx => by simp [hx])⟩ (by dsimp only; omega) (I8 0 2 3 4 6 10) (Fit.pick qP (Fit.pick qP (Fit.pick (B := [_]) qP (Fit.last qP)))) qI
 ·
  have hge : i = n - N := by simp at hc; omega
  subst hge
  refine H0 (te (re (be rfl (nx (C7 6 10) (A1 ?_)))))
  refine A3 (qw_ 2) rfl ?_
  refine A4 rfl (A9 rfl rfl Cel.cel kR qR (by intro c hc; simp only [List.mem_cons, List.not_mem_nil, or_false] at hc; rcases hc with rfl | rfl; exact hki.one; rfl) UpC.upd ?_)
  refine as_ (A0 (C7 10 11) (A8 ?_))
  refine ⟨_, MPi ++ MSi, [], Z5 (n := 2) rfl rfl rfl kR At.mem qR, Fit.none (Fit.pick qP (Fit.last qP)), MPi, MSi, kvi, rfl, ?_, hPi, hSi, hki⟩
  rw [B0L]
theorem A5j (pv sv kv vof : Value) (key of : LN) (N n : Nat) (A : Mem) (hk : By A kv key) (hof : By A vof of) (hNn : n < N) : FnV Tryz.prog 81 [pv, .agg #[kv, (vU N)], vof, (vU n), sv] A (.tuple #[.agg #[kv, (vU N)], .int .i64 8]) := by
 haveI := hk.cel
 haveI := hof.cel
 refine FnX.enter (N := 51) Tryz.func81 rfl rfl rfl fun w => ?_
 refine A7 (H5 0 1 2 3 4) (A1 ?_)
 refine A4 rfl (bx_ fun b6 => ?_)
 refine A4 rfl (C5 (cs := [vS, .int .u32 0]) kR rfl fun b10 => ?_)
 refine as_ (A0 (I8 0 2 3 4 6 10) (A6 (C3 (A1 (mv_ ?_)))))
 refine A3 (qf_ 1 1) rfl ?_
 refine A3 ql_ rfl ?_
 refine A3 (E7 true rfl rfl (ltT qO)) rfl ?_
 refine as_ (A0 (R8 0 2 3 4 6 10 14) ?_)
 refine F3 rfl ?_
 refine A1 ?_
 refine A3 (qw_ 2) rfl ?_
 refine A4 rfl (A9 rfl rfl Cel.cel kR qR (by intro c hc; simp only [List.mem_cons, List.not_mem_nil, or_false] at hc; rcases hc with rfl | rfl; exact hk.one; rfl) UpC.upd ?_)
 refine as_ (A0 (C7 10 11) (A8 (br (tr ?_))))
 exact ⟨_, [], [], Z5 (n := 2) rfl rfl rfl kR At.mem qR, List.nil_sublist _, by simp, rfl, rfl, rfl⟩
theorem A5k (pv sv kv vof : Value) (key of : LN) (N n : Nat) (A : Mem) (hk : By A kv key) (hof : By A vof of) (hNn : N ≤ n) (hn32 : n < 4294967296) (h16 : 16 < n - N) : FnV Tryz.prog 81 [pv, .agg #[kv, (vU N)], vof, (vU n), sv] A (.tuple #[.agg #[kv, (vU N)], .int .i64 7]) := by
 haveI := hk.cel
 haveI := hof.cel
 refine FnX.enter (N := 51) Tryz.func81 rfl rfl rfl fun w => ?_
 refine A7 (H5 0 1 2 3 4) (A1 ?_)
 refine A4 rfl (bx_ fun b6 => ?_)
 refine A4 rfl (C5 (cs := [vS, .int .u32 0]) kR rfl fun b10 => ?_)
 refine as_ (A0 (I8 0 2 3 4 6 10) (A6 (C3 (A1 (mv_ ?_)))))
 refine A3 (qf_ 1 1) rfl ?_
 refine A3 ql_ rfl ?_
 refine A3 (E7 false rfl rfl (ltF qO)) rfl ?_
 refine as_ (A0 (R8 0 2 3 4 6 10 14) ?_)
 refine B0 rfl ?_
 refine A1 (mv_ ?_)
 refine A3 (qf_ 1 1) rfl ?_
 refine A3 ql_ rfl ?_
 refine A3 (K7 (((n - N : Nat)) : Int) rfl rfl (by simp only [G4]; rw [A34 qO qO]; congr 2; omega)) rfl ?_
 refine A3 (E7 true rfl rfl (gtT qO)) rfl ?_
 refine as_ (A0 (R8 0 2 3 4 6 10 20) ?_)
 refine F3 rfl ?_
 refine A1 ?_
 refine A3 (qw_ 2) rfl ?_
 refine A4 rfl (A9 rfl rfl Cel.cel kR qR (by intro c hc; simp only [List.mem_cons, List.not_mem_nil, or_false] at hc; rcases hc with rfl | rfl; exact hk.one; rfl) UpC.upd ?_)
 refine as_ (A0 (C7 10 11) (A8 (br (tr ?_))))
 exact ⟨_, [], [], Z5 (n := 2) rfl rfl rfl kR At.mem qR, List.nil_sublist _, by simp, rfl, rfl, rfl⟩

theorem A63 (s : Ps) : (D8 s).ts.length ≤ s.ts.length + 1 ∧ (D8 s).n = s.n + 1 := by
  unfold D8
  split
  · exact ⟨by simp, rfl⟩
  · refine ⟨?_, rfl⟩
    show (add s.ts _).length ≤ _
    unfold add
    split <;> simp
theorem B0M (s : Ps) (w : LN) : (H7 s w).ts.length ≤ s.ts.length + 2 := by
  unfold H7
  split
  · omega
  · have h1 := L9 (ts := s.ts) (ws := w)
    have h2 := W7 (ts := rdT s.ts w) (t := A79 ((rdI s.ts w : Nat) : Int))
    show (add (rdT s.ts w) _).length ≤ _
    omega
theorem B0N (s : Ps) (w : LN) : (H8 s w).length = 32 := by
  unfold H8
  split
  · exact A6h _ _
  · exact A0B _ qD
def A3f : LN := [114, 111, 111, 116]
noncomputable def A9z (s : Ps) (root sec pub : LN) : Ps := A3D (K0 s sec pub) root [A0G s sec pub] A3f 2
noncomputable def trnL (s : Ps) (root sec pub : LN) : List (LN) := A4q (K0 s sec pub) root [A0G s sec pub] A3f 2
noncomputable def B2S (s : Ps) (root sec pub : LN) : LN := (trnL s root sec pub).getD 0 []
noncomputable def B2T (s : Ps) (root sec pub : LN) : LN := (trnL s root sec pub).getD 1 []
theorem A4G (s : Ps) (root sec pub : LN) : (A9z s root sec pub).ts.length ≤ s.ts.length + 7 ∧ (A9z s root sec pub).n = s.n := by
  have h1 := N3 s sec pub
  have h2 := A02 (K0 s sec pub) root [A0G s sec pub] A3f 2
  have h3 := A6D s sec pub
  have h4 := (A0u (K0 s sec pub) root [A0G s sec pub] A3f 2).2.1
  have e : [A0G s sec pub].length = 1 := rfl
  unfold A9z
  omega
structure Rsd where
  own : LN
  their : LN
  root : LN
  sk : LN
  sn : Nat
  tk : LN
  tn : Nat
  prev : Nat
  sks : List Skp
def StF (R : Mem) (v : Value) (sks : List Skp) : Prop := ∃ sb u rows, v = (vP sb) ∧ (sb, blk [u] 153) ∈ R ∧ Rd R 3 u sks.length rows.flatten ∧ RwL skR R rows sks
theorem StF.mono {R R' : Mem} {v : Value} {sks : List Skp} (h : StF R v sks) (hR : ∀ x, x ∈ R → x ∈ R') : StF R' v sks := by
  obtain ⟨sb, u, rows, h1, h2, h3, h4⟩ := h
  exact ⟨sb, u, rows, h1, hR _ h2, h3.mono hR, h4.mono skT hR⟩
def rsC (vo vt vr vk vl vs : Value) (r : Rsd) : List Value := [vo, vt, vr, vk, (vU r.sn), vl, (vU r.tn), (vU r.prev), vs]
structure RsR (R : Mem) (r : Rsd) (vo vt vr vk vl vs : Value) : Prop where
  own : By R vo r.own
  their : By R vt r.their
  root : By R vr r.root
  sk : By R vk r.sk
  tk : By R vl r.tk
  st : StF R vs r.sks
  sn : r.sn < 4294967296
  tn : r.tn < 4294967296
  prev : r.prev < 4294967296
  sks : r.sks.length ≤ 1000
theorem RsR.mono {R R' : Mem} {r : Rsd} {vo vt vr vk vl vs : Value} (h : RsR R r vo vt vr vk vl vs) (hR : ∀ x, x ∈ R → x ∈ R') : RsR R' r vo vt vr vk vl vs :=
  ⟨h.own.mono hR, h.their.mono hR, h.root.mono hR, h.sk.mono hR, h.tk.mono hR, h.st.mono hR, h.sn, h.tn, h.prev, h.sks⟩
theorem StF.one {R : Mem} {v : Value} {sks : List Skp} (h : StF R v sks) : v.oneCell' = true := by obtain ⟨sb, u, rows, rfl, _⟩ := h; rfl
theorem StF.new {b : Nat} {R : Mem} (h : (b, blk [vS] 153) ∈ R) : StF R (vP b) [] := ⟨b, _, [], rfl, h, Rd.nil, RwL.nil⟩
def RsV (R : Mem) (v : Value) (r : Rsd) : Prop := ∃ vo vt vr vk vl vs, v = .agg (rsC vo vt vr vk vl vs r).toArray ∧ RsR R r vo vt vr vk vl vs
theorem RsV.mono {R R' : Mem} {v : Value} {r : Rsd} (h : RsV R v r) (hR : ∀ x, x ∈ R → x ∈ R') : RsV R' v r := by
  obtain ⟨vo, vt, vr, vk, vl, vs, e, g⟩ := h
  exact ⟨vo, vt, vr, vk, vl, vs, e, g.mono hR⟩
noncomputable def B2u (s : Ps) (sec their : LN) : Rsd := ⟨E1 s, their, B2S (D8 s) sec (E1 s) their, B2T (D8 s) sec (E1 s) their, 0, [], 0, 0, []⟩
noncomputable def begS (s : Ps) (sec their : LN) : Ps := A9z (D8 s) sec (E1 s) their
def A4H (sec own : LN) : Rsd := ⟨own, [], sec, [], 0, [], 0, 0, []⟩
theorem A64 (pb : Nat) (s : Ps) (v1 v2 v3 : Value) (root sec pub : LN) (MP A : Mem) (hP : Prm pb s MP) (hn : s.ts.length + 100 ≤ 1040000) (h1 : By A v1 root) (h2 : By A v2 sec) (h3 : By A v3 pub) (hG : Glb A) : FnX Tryz.prog 70 [(vP pb), v1, v2, v3] MP A fun q M J => ∃ u0 u1, q = .tuple #[u0, .agg #[u1, (vU 0)]] ∧ Prm pb (A9z s root sec pub) M ∧ By J u0 (B2S s root sec pub) ∧ By J u1 (B2T s root sec pub) := by
 haveI := h1.cel
 haveI := h2.cel
 haveI := h3.cel
 have hal := N3 s sec pub
 refine FnX.enterZ (N := 30) Tryz.func70 rfl rfl rfl fun w_ => ?_
 refine A7 (F2 0 1 2 3) (A1 (as_ ?_))
 refine A4 rfl (C5 (cs := [vS, .int .u32 0]) kR rfl fun b9 => ?_)
 refine A0 (H5 0 1 2 3 9) (A1 (mv_ (mv_ (mv_ (mv_ (mv_ ?_))))))
 refine A4 rfl (B3 (Mc := MP) (R := _) (aS rfl (aS rfl (aS rfl (a0)))) kR qP (W9 pb s v2 v3 sec pub MP _ hP qO (h2.mono qS) (h3.mono qS) hG.up) rfl ?_)
 rintro v16 M16 J16 ⟨hP16, h16⟩
 haveI := h16.cel
 refine A4 rfl (C0 (e := 22) (sz := 1) (z := [vS]) kR (eS rfl e0) (bdS 0 1 rfl qR bd0) rfl fun b17 => ?_)
 refine A4 rfl (B3 (Mc := M16) (R := _) (aS rfl (aS rfl (aS rfl (aS rfl (aS rfl (a0)))))) kR qP (A0c pb (K0 s sec pub) v1 (.slice (some ⟨b17, 0, none⟩) 1 1) root A3f [A0G s sec pub] 2 M16 _ hP16 (h1.mono qS) ⟨[v16], Rd.whole (n := 1) At.mem qR, Lst.cons (h16.mono qS) Lst.nil⟩ (show 1 ≤ 1000 by decide) ⟨by decide⟩ qD qD qD qO hG.up) rfl ?_)
 rintro v18 M18 J18 ⟨hP18, hL18⟩
 have hlen := A4F (K0 s sec pub) root [A0G s sec pub] A3f 2
 obtain ⟨us, u0, u1, hr, hu0, hu1, hb0, hb1⟩ := A62 hL18 hlen
 haveI := hr.cel
 haveI := hb0.cel
 haveI := hb1.cel
 refine as_ (A0 (C7 9 10) (A6 (A1 (mv_ ?_))))
 refine A3 (E5 (sz := 1) rfl kR hr) rfl ?_
 refine A3 (E7 false rfl rfl (neF rfl)) rfl ?_
 refine A0 (E0 9 10 21) ?_
 refine B0 rfl ?_
 refine A5 (nx (C7 9 10) ?_)
 refine F4 (.range 8) (zp 0 [0, 0, 1, 0, 0, 1, 0, 0, 2]) kR kR fun hs => ?_
 refine fm_ hs ?_
 refine D4 hs rfl (F1 (sz := 1) (a := 0) rfl rfl kR rfl hr qD) rfl ?_
 refine S0 hs rfl (W4 (u := u0) (hr.mono qS) rfl kR hu0) rfl ?_
 refine fm_ hs ?_
 refine D4 hs rfl (F1 (sz := 1) (a := 1) rfl rfl kR rfl hr qD) rfl ?_
 refine S0 hs rfl (W4 (u := u1) (hr.mono qS) rfl kR hu1) rfl ?_
 refine D4 hs rfl (D7 (place := fun x => #[(0, 1), (1, 1)][x]?) (z := [vS, .int .u32 0]) (fun _ => by kernel_rfl) (eS rfl e0) (bdS 0 1 rfl qR bd0)) rfl ?_
 refine fa_ hs ?_
 refine I3 rfl rfl rfl (A9 rfl rfl Cel.cel kR qR (by intro c hc; simp only [List.mem_cons, List.not_mem_nil, or_false] at hc; rcases hc with rfl | rfl; exact hb1.one; rfl) UpC.upd ?_)
 refine G8 (C7 8 9) (A8 ?_)
 exact ⟨_, M18, [], A9w (n := 2) rfl rfl rfl kR At.mem qR, Fit.none (Fit.last qP), u0, u1, rfl, hP18, hb0.mono (fun x hx => by simp [hx]), hb1.mono (fun x hx => by simp [hx])⟩

def A3T (k : LN) (p n : Nat) : LN := ((beN k.length 4 ++ k) ++ beN p 4) ++ beN n 4
theorem A1D (k : LN) (p n : Nat) : (A3T k p n).length = k.length + 12 := by simp [A3T, G6]; omega
def A3g (w h : LN) : LN := ((beN w.length 4 ++ w) ++ beN h.length 4) ++ h
theorem A16 (w h : LN) : (A3g w h).length = w.length + h.length + 8 := by simp [A3g, G6]; omega
theorem B0O (pb : Nat) (s : Ps) (v1 v2 : Value) (sec their : LN) (MP A : Mem) (hP : Prm pb s MP) (hn : s.ts.length + 200 ≤ 1040000) (hk : s.n < 1000000000) (h1 : By A v1 sec) (h2 : By A v2 their) (hG : Glb A) : FnX Tryz.prog 39 [(vP pb), v1, v2] MP A fun q M J => Prm pb (begS s sec their) M ∧ RsV (J ++ A) q (B2u s sec their) := by
 haveI := h1.cel
 haveI := h2.cel
 have hfl := A63 s
 refine FnX.enterZ (N := 27) Tryz.func39 rfl rfl rfl fun w_ => ?_
 refine A7 (E0 0 1 2) (A1 ?_)
 refine A4 rfl (C5 (cs := [vS, vS, vS, vS, D3, vS, D3, D3, .pointer none]) kR rfl fun b6 => ?_)
 refine A0 (F2 0 1 2 6) (A1 (mv_ ?_))
 refine A4 rfl (B3 (Mc := MP) (R := _) (aS rfl (a0)) kR qP (P6 pb s MP _ hP qO qO hG.up) rfl ?_)
 rintro v9 M9 J9 ⟨hP9, h9⟩
 haveI := h9.cel
 refine mv_ ?_
 refine E4 (aS rfl a0) kR (K2 v2 their _ (h2.mono qS)) rfl ?_
 rintro v11 M11 J11 ⟨rfl, h11⟩
 haveI := h11.cel
 refine A3 (D7 (place := fun x => #[(0, 1)][x]?) (z := [vS]) (fun _ => by kernel_rfl) e0 bd0) rfl ?_
 refine A4 rfl (bx_ fun b13 => ?_)
 refine A3 (D7 (place := fun x => #[(0, 1), (1, 1), (2, 1), (3, 2), (5, 2), (7, 1), (8, 1)][x]?) (z := [vS, vS, vS, vS, D3, vS, D3, D3, .pointer none]) (fun _ => by kernel_rfl) (eS rfl (eS rfl (eS rfl e0))) (bdS 0 1 rfl qR (bdS 1 1 rfl qR (bdS 8 1 rfl qR bd0)))) rfl ?_
 refine A4 rfl (C5 (cs := [vS, vS, vS, vS, D3, vS, D3, D3, .pointer none]) kR rfl fun b7 => ?_)
 refine A4 rfl (A9 (vs := [v9, v11, vS, vS, .int .u32 0, vS, .int .u32 0, .int .u32 0, (vP b13)]) rfl rfl rfl kR qR (A2 h9.one (A2 h11.one (A2 rfl al6))) UpC.upd ?_)
 refine A0 (H5 0 1 2 6 7) (A1 (mv_ (mv_ ?_)))
 refine A3 (qf_ 0 0) rfl ?_
 refine A3 ql_ rfl ?_
 refine mv_ ?_
 refine A4 rfl (B3 (Mc := M9) (R := _) (aS rfl (aS rfl (aS rfl (aS rfl (a0))))) kR qP (A64 pb (D8 s) v1 v9 v2 sec (E1 s) their M9 _ hP9 qO (h1.mono qS) (h9.mono qS) (h2.mono qS) hG.up) rfl ?_)
 rintro v21 M21 J21 ⟨u0, u1, rfl, hP21, g0, g1⟩
 haveI := g0.cel
 haveI := g1.cel
 refine mv_ ?_
 refine A3 (U6 rfl) rfl ?_
 refine A3 (U0 rfl) rfl ?_
 refine A3 (qf_ 2 2) rfl ?_
 refine A4 rfl (F0 rfl rfl g0.one kR SetC.set UpC.upd ?_)
 refine A3 (qf_ 3 3) rfl ?_
 refine A4 rfl (I1 (vs := [u1, .int .u32 0]) (cs' := [v9, v11, u0, u1, .int .u32 0, vS, .int .u32 0, .int .u32 0, (vP b13)]) rfl rfl rfl kR (by exact (show 3 + 2 ≤ 9 by decide)) (A2 g1.one (A2 rfl G9)) rfl UpC.upd ?_)
 refine A0 (C7 6 7) ?_
 refine V7 (B := [(b13, blk [vS] 153)]) qP ?_
 refine A1 ?_
 refine A3 (qw_ 9) rfl ?_
 refine A4 rfl (A9 (vs := [v9, v11, u0, u1, .int .u32 0, vS, .int .u32 0, .int .u32 0, (vP b13)]) rfl rfl rfl kR qR (A2 h9.one (A2 h11.one (A2 g0.one (A2 g1.one al5)))) UpC.upd ?_)
 refine A0 (C9 6) (A8 ?_)
 exact ⟨_, M21, [], B1l (n := 9) rfl rfl kR At.mem qR, Fit.none (Fit.last qP), hP21, v9, v11, u0, u1, vS, _, rfl, ⟨h9.mono qS, h11.mono qS, g0.mono qS, g1.mono qS, By.nil, StF.new qM, (show 0 < 4294967296 by decide), (show 0 < 4294967296 by decide), (show 0 < 4294967296 by decide), (show 0 ≤ 1000 by decide)⟩⟩
theorem B0P (v1 v2 : Value) (sec own : LN) (A : Mem) (h1 : By A v1 sec) (h2 : By A v2 own) : FnX Tryz.prog 44 [v1, v2] [] A fun q M J => M = [] ∧ RsV (J ++ A) q (A4H sec own) := by
 haveI := h1.cel
 haveI := h2.cel
 refine FnX.enterZ (N := 12) Tryz.func44 rfl rfl rfl fun w_ => ?_
 refine A7 (C7 0 1) (A1 ?_)
 refine A4 rfl (C5 (cs := [vS, vS, vS, vS, D3, vS, D3, D3, .pointer none]) kR rfl fun b4 => ?_)
 refine A0 (E0 0 1 4) (A1 (mv_ ?_))
 refine E4 (aS rfl a0) kR (K2 v2 own _ (h2.mono qS)) rfl ?_
 rintro v6 M6 J6 ⟨rfl, h6⟩
 haveI := h6.cel
 refine mv_ ?_
 refine E4 (aS rfl a0) kR (K2 v1 sec _ (h1.mono qS)) rfl ?_
 rintro v8 M8 J8 ⟨rfl, h8⟩
 haveI := h8.cel
 refine A3 (D7 (place := fun x => #[(0, 1)][x]?) (z := [vS]) (fun _ => by kernel_rfl) e0 bd0) rfl ?_
 refine A4 rfl (bx_ fun b10 => ?_)
 refine A3 (D7 (place := fun x => #[(0, 1), (1, 1), (2, 1), (3, 2), (5, 2), (7, 1), (8, 1)][x]?) (z := [vS, vS, vS, vS, D3, vS, D3, D3, .pointer none]) (fun _ => by kernel_rfl) (eS rfl (eS rfl (eS rfl e0))) (bdS 0 1 rfl qR (bdS 2 1 rfl qR (bdS 8 1 rfl qR bd0)))) rfl ?_
 refine A4 rfl (A9 (vs := [v6, vS, v8, vS, .int .u32 0, vS, .int .u32 0, .int .u32 0, (vP b10)]) rfl rfl rfl kR qR (A2 h6.one (A2 rfl (A2 h8.one al6))) UpC.upd ?_)
 refine A0 (C9 4) (A8 ?_)
 exact ⟨_, [], [(b10, blk [vS] 153)], B1l (n := 9) rfl rfl kR At.mem qR, Fit.pick (B := [_]) qP qZ, rfl, v6, vS, v8, vS, vS, _, rfl, ⟨h6.mono qS, By.nil, h8.mono qS, By.nil, By.nil, StF.new qM, (show 0 < 4294967296 by decide), (show 0 < 4294967296 by decide), (show 0 < 4294967296 by decide), (show 0 ≤ 1000 by decide)⟩⟩
theorem A3U (r : Rsd) (vo vt vr vk vl vs : Value) (A : Mem) (hr : RsR A r vo vt vr vk vl vs) : FnX Tryz.prog 71 [.agg (rsC vo vt vr vk vl vs r).toArray] [] A fun q M J => ∃ cb, q = .agg (rsC vo vt vr vk vl (vP cb) r).toArray ∧ Sto A cb r.sks M := by
 haveI := hr.own.cel
 haveI := hr.their.cel
 haveI := hr.root.cel
 haveI := hr.sk.cel
 haveI := hr.tk.cel
 obtain ⟨sb, u, rows, rfl, hsb, hrd, hrw⟩ := hr.st
 have hsl := hr.sks
 unfold rsC
 refine FnX.enterZ (N := 8) Tryz.func71 rfl rfl rfl fun w_ => ?_
 refine A7 (C9 0) (A1 ?_)
 refine A4 rfl (bx_ fun b1 => ?_)
 refine A4 rfl (C5 (cs := [vS, vS, vS, vS, D3, vS, D3, D3, .pointer none]) kR rfl fun b2 => ?_)
 refine A0 (C7 1 2) (A1 ?_)
 refine A3 (qf_ 8 8) rfl ?_
 refine A3 ql_ rfl ?_
 refine E4 (aS rfl a0) kR (A61 sb _ u rows.flatten _ (mA hsb) (hrd.mono qS) (hrw.ones skT) qO) rfl ?_
 rintro v5 M5 J5 ⟨cb, u5, B5, rfl, rfl, hs5⟩
 refine A3 (qf_ 8 8) rfl ?_
 refine A4 rfl (F0 rfl rfl rfl kR SetC.set UpC.upd ?_)
 refine A0 (C7 1 2) (A1 ?_)
 refine A3 (qw_ 9) rfl ?_
 refine A4 rfl (A9 (vs := [vo, vt, vr, vk, (vU r.sn), vl, (vU r.tn), (vU r.prev), (vP cb)]) rfl rfl rfl kR qR (A2 hr.own.one (A2 hr.their.one (A2 hr.root.one (A2 hr.sk.one (A2 rfl (A2 hr.tk.one al3)))))) UpC.upd ?_)
 refine A0 (C9 2) (A8 ?_)
 exact ⟨_, (cb, blk [u5] 153) :: B5, [], B1l (n := 9) rfl rfl kR At.mem qR, Fit.none (Fit.pick (B := [_]) qP (Fit.last qP)), cb, rfl, ⟨u5, rows, B5, rfl, hs5, hrw⟩⟩
theorem A8K (vk : Value) (k : LN) (p n : Nat) (A : Mem) (hk : By A vk k) (hl : k.length ≤ 16000000) (hp : p < 4294967296) (hn : n < 4294967296) : FnX Tryz.prog 102 [.agg #[vk, (vU p), (vU n)]] [] A fun q M J => M = [] ∧ By J q (A3T k p n) := by
 haveI := hk.cel
 refine FnX.enterZ (N := 19) Tryz.func102 rfl rfl rfl fun w_ => ?_
 refine A7 (C9 0) (A1 ?_)
 refine A4 rfl (bx_ fun b1 => ?_)
 refine as_ (A0 (C9 1) (A1 ?_))
 refine A3 (D7 (place := fun x => #[(0, 1)][x]?) (z := [vS]) (fun _ => by kernel_rfl) e0 bd0) rfl ?_
 refine A4 rfl (bx_ fun b5 => ?_)
 refine as_ (A0 (C7 1 3) ?_)
 refine D9 ([(b5, blk [vS] 143)]) (_) true (.range 14) [(0, 0), (1, 0), (2, 1), (4, 0), (5, 1), (6, 0), (8, 0), (9, 1), (10, 0), (3, 2), (7, 2), (11, 2), (12, 2), (13, 0)] kR kR qP fun hs K n0 hKm hKs hKn => ?_
 refine km_ hs ?_
 refine E2 hs rfl (qf_ 0 0) rfl ?_
 refine H4 hs rfl hKs ql_ ?_
 refine E2 hs rfl (qf_ 1 1) rfl ?_
 refine H4 hs rfl hKs ql_ ?_
 refine E2 hs rfl (L0 (k' := .u64) p rfl kR (A0H qO)) rfl ?_
 refine E2 hs rfl (qf_ 2 2) rfl ?_
 refine H4 hs rfl hKs ql_ ?_
 refine E2 hs rfl (L0 (k' := .u64) n rfl kR (A0H qO)) rfl ?_
 refine F5 _ _ rfl rfl (List.Perm.refl _) hKm fun w0 => (B3 (Mc := [(b5, blk [vS] 143)]) (R := _) (aS rfl (aS rfl (a0))) kR qP (I7 b5 vk k [] _ _ Wtr.new (hk.mono qS) qD) rfl ?_)
 rintro v9 M9 J9 ⟨rfl, hW9⟩ hKx9
 refine F5 M9 _ rfl rfl qP (fun x hx => hKx9 (hKn rfl) x (by simpa using hx)) fun w0 => (B3 (Mc := M9) (R := _) (aS rfl (aS rfl (aS rfl (a0)))) kR qP (K5 b5 p 4 _ _ _ hW9 qO qD (by simp [G6]; omega)) rfl ?_)
 rintro v13 M13 J13 ⟨rfl, hW13⟩ hKx13
 refine F5 M13 _ rfl rfl qP (fun x hx => hKx13 (hKn rfl) x (by simpa using hx)) fun w0 => (B3 (Mc := M13) (R := _) (aS rfl (aS rfl (aS rfl (a0)))) kR qP (K5 b5 n 4 _ _ _ hW13 qO qD (by simp [G6]; omega)) rfl ?_)
 rintro v17 M17 J17 ⟨rfl, hW17⟩ hKx17
 refine F5 M17 _ rfl rfl qP (fun x hx => hKx17 (hKn rfl) x (by simpa using hx)) fun w0 => (B3 (Mc := M17) (R := _) (aS rfl (a0)) kR qP (R4 b5 _ M17 _ hW17 (by simp [G6]; omega)) rfl ?_)
 rintro v18 M18 J18 ⟨hW18, h18⟩ hKx18
 haveI := h18.cel
 refine E2 hs rfl (E8 rfl) rfl ?_
 refine G2 (C9 2) (A8 ?_)
 exact ⟨_, [], [], G5 rfl rfl, qZ, rfl, h18.mono qS⟩
theorem A65 (vw vk : Value) (w k : LN) (p n : Nat) (A : Mem) (hw : By A vw w) (hk : By A vk k) (hl : w.length + k.length ≤ 16000000) (hp : p < 4294967296) (hn : n < 4294967296) : FnX Tryz.prog 74 [vw, .agg #[vk, (vU p), (vU n)]] [] A fun q M J => M = [] ∧ By J q (A3g w (A3T k p n)) := by
 haveI := hw.cel
 haveI := hk.cel
 refine FnX.enterZ (N := 15) Tryz.func74 rfl rfl rfl fun w_ => ?_
 refine A7 (C7 0 1) (A1 ?_)
 refine A4 rfl (bx_ fun b3 => ?_)
 refine as_ (A0 (C7 0 3) (A1 ?_))
 refine A3 (D7 (place := fun x => #[(0, 1)][x]?) (z := [vS]) (fun _ => by kernel_rfl) e0 bd0) rfl ?_
 refine A4 rfl (bx_ fun b7 => ?_)
 refine as_ (A0 (E0 0 3 5) ?_)
 refine D9 ([(b7, blk [vS] 143)]) (_) true (.range 8) [(0, 0), (1, 0), (3, 1), (2, 2), (4, 2), (5, 2), (6, 2), (7, 0)] kR kR qP fun hs K n0 hKm hKs hKn => ?_
 refine km_ hs ?_
 refine km_ hs ?_
 refine H4 hs rfl hKs (qw_ 3) ?_
 refine F5 _ _ rfl rfl (List.Perm.refl _) hKm fun w0 => (B3 (Mc := [(b7, blk [vS] 143)]) (R := _) (aS rfl (aS rfl (a0))) kR qP (I7 b7 vw w [] _ _ Wtr.new (hw.mono qS) qD) rfl ?_)
 rintro v10 M10 J10 ⟨rfl, hW10⟩ hKx10
 refine F5 [] _ rfl rfl (List.Perm.refl _) (fun _ h => by cases h) fun w0 => (I5 (aS rfl a0) kR (A8K vk k p n _ (hk.mono qS) qO hp hn) rfl ?_)
 rintro v12 M12 J12 ⟨rfl, h12⟩ _
 haveI := h12.cel
 dsimp only [List.nil_append, List.append_eq]
 refine F5 M10 _ rfl rfl qP (fun x hx => hKx10 (hKn rfl) x (by simpa using hx)) fun w0 => (B3 (Mc := M10) (R := _) (aS rfl (aS rfl (a0))) kR qP (I7 b7 v12 (A3T k p n) _ _ _ hW10 (h12.mono qS) (by simp [G6]; omega)) rfl ?_)
 rintro v13 M13 J13 ⟨rfl, hW13⟩ hKx13
 refine F5 M13 _ rfl rfl qP (fun x hx => hKx13 (hKn rfl) x (by simpa using hx)) fun w0 => (B3 (Mc := M13) (R := _) (aS rfl (a0)) kR qP (R4 b7 _ M13 _ hW13 (by simp [G6, A1D]; omega)) rfl ?_)
 rintro v14 M14 J14 ⟨hW14, h14⟩ hKx14
 haveI := h14.cel
 refine E2 hs rfl (E8 rfl) rfl ?_
 refine G2 (C9 4) (A8 ?_)
 exact ⟨_, [], [], G5 rfl rfl, qZ, rfl, h14.mono qS⟩

def n12 : LN := List.replicate 12 0
theorem A4I {a b x y : LN} (ha : a.length < 18446744073709551616) (hb : b.length < 18446744073709551616) (h : mark a ++ x = mark b ++ y) : a = b ∧ x = y := by
  unfold mark at h
  rw [List.append_assoc, List.append_assoc] at h
  obtain ⟨h1, h2⟩ := A2h (S3 (.inr rfl)) (S3 (.inr rfl)) (show dec a.length ++ 58 :: (a ++ x) = dec b.length ++ 58 :: (b ++ y) from h)
  have h3 : a.length = b.length := by
    have := congrArg dv h1
    rwa [X6 ha, X6 hb] at this
  exact List.append_inj h2 h3
theorem A66 {x : Int} {a b : LN} (h : Tmo (A3m x a b)) : a.length < 18446744073709551616 ∧ b.length < 18446744073709551616 := by
  have h1 : (mark a ++ mark b).length ≤ 1099511627776 := h.tl
  rw [List.length_append] at h1
  have h2 : a.length ≤ (mark a).length := by simp [mark]; omega
  have h3 : b.length ≤ (mark b).length := by simp [mark]; omega
  omega
theorem A4J {x y : Int} {a b c d : LN} (h1 : Tmo (A3m x a b)) (h2 : Tmo (A3m y c d)) (h : A3m x a b = A3m y c d) : x = y ∧ a = c ∧ b = d := by
  obtain ⟨l1, l2⟩ := A66 h1
  obtain ⟨l3, l4⟩ := A66 h2
  unfold A3m at h
  injection h with h1 h2 h3 h4
  obtain ⟨h5, h6⟩ := A4I l1 l3 h3
  obtain ⟨h7, -⟩ := A4I (x := []) (y := []) l2 l4 (by rw [List.append_nil, List.append_nil]; exact h6)
  exact ⟨(List.cons.inj h2).1, h5, h7⟩
def A3V (ts : List Tm) (w wa wg t : LN) : Prop := wg.length = 32 ∧ ∃ i j : Nat, plc wg ts.length = some i ∧ plc w ts.length = some j ∧ ts[i]? = some (A3m ((j : Nat) : Int) wa t)
theorem A3V.inj {ts : List Tm} (ht : Tok ts) {w wa wg t t' : LN} (h : A3V ts w wa wg t) (h' : A3V ts w wa wg t') : t = t' := by
  obtain ⟨-, i, j, h1, h2, h3⟩ := h
  obtain ⟨-, i', j', g1, g2, g3⟩ := h'
  rw [h1] at g1
  obtain rfl := Option.some.inj g1
  rw [h3] at g3
  have m1 := ht.tmo _ (List.mem_of_getElem? h3)
  have e := Option.some.inj g3
  exact (A4J m1 (e ▸ m1) e).2.2
open Classical in
noncomputable def A67 (ts : List Tm) (w wa wg : LN) : Option (LN) := if h : ∃ t, A3V ts w wa wg t then some (Classical.choose h) else none
theorem A1E {ts : List Tm} (ht : Tok ts) {w wa wg t : LN} (h : A3V ts w wa wg t) : A67 ts w wa wg = some t := by
  unfold A67
  have h2 : ∃ t, A3V ts w wa wg t := ⟨t, h⟩
  rw [dif_pos h2, (Classical.choose_spec h2).inj ht h]
theorem A0x {ts : List Tm} {w wa wg : LN} (h : ∀ t, ¬ A3V ts w wa wg t) : A67 ts w wa wg = none := dif_neg fun ⟨t, ht⟩ => h t ht
noncomputable def A1F (s : Ps) (w wa wg : LN) : Option (LN) := if s.real then B1X (A0f w 32) n12 wa wg else A67 s.ts w wa wg
theorem A0N {s : Ps} (h : s.real = false) (w wa wg : LN) : A1F s w wa wg = A67 s.ts w wa wg := if_neg (by rw [h]; decide)
def selS (s : Ps) (w wa wb : LN) : Ps := if s.real then s else B2O s w fun x => A3m x wa wb
def selK (s : Ps) (w wa wb : LN) : LN := if s.real then B1W (A0f w 32) n12 wa wb else B2P s w fun x => A3m x wa wb
def X0 (ts : List Tm) : Prop := ∀ t ∈ ts, t.kind = 6 → ∃ x a b, t = A3m x a b ∧ (∀ y ∈ b, y < 256) ∧ b.length ≤ 16777216
theorem X0.nil : X0 [] := fun t h => by cases h
theorem X0.add {ts : List Tm} (h : X0 ts) {t : Tm} (ht : t.kind = 6 → ∃ x a b, t = A3m x a b ∧ (∀ y ∈ b, y < 256) ∧ b.length ≤ 16777216) : X0 (add ts t) := by
  unfold Go.Proofs.YtpemeceacdhacaaGreatDoor.add
  split
  · exact h
  · intro u hu hk
    rcases List.mem_append.1 hu with hu | hu
    · exact h u hu hk
    · rw [List.mem_singleton.1 hu] at hk ⊢; exact ht hk
theorem X0.not {ts : List Tm} (h : X0 ts) {t : Tm} (ht : t.kind ≠ 6) : X0 (Go.Proofs.YtpemeceacdhacaaGreatDoor.add ts t) := h.add fun hk => absurd hk ht
theorem X0.rd {ts : List Tm} (h : X0 ts) (w : LN) : X0 (rdT ts w) := by
  unfold rdT
  split
  · exact h
  · exact h.not (show (2 : Nat) ≠ 6 by decide)
set_option maxHeartbeats 1000000 in
theorem B0Q (pb bt bm : Nat) (s : Ps) (hr : s.real = false) (v v2 v3 : Value) (w wa wg : LN) (j : Nat) (MP A : Mem) (hP : PrmT pb bt bm s MP) (hMP : ∀ x, x ∈ MP → x ∈ A) (hn : s.ts.length ≤ 1048576) (hSel : X0 s.ts) (hv : By A v w) (h2 : By A v2 wa) (h3 : By A v3 wg) (hj : plc w s.ts.length = some j) (hG : Glb A) : FnX Tryz.prog 79 [(vP pb), v, v2, v3] [] A fun q M J => M = [] ∧ ∃ u, q = .tuple #[u, .bool (A1F s w wa wg).isSome] ∧ By J u ((A1F s w wa wg).getD []) := by
 obtain ⟨sv, B, MT, rfl, hby, hT⟩ := hP.ex
 have hpb := hMP _ qK
 have hsub : ∀ x, x ∈ MT → x ∈ A := fun x hx => hMP x (by simp [hx])
 obtain ⟨ge4, gf4, h4⟩ := hG.pow
 haveI := hv.cel
 haveI := h2.cel
 haveI := h3.cel
 haveI := hby.cel
 have h2l := h2.len
 refine FnX.enterZ (N := 96) Tryz.func79 rfl rfl rfl fun w_ => ?_
 refine A7 (F2 0 1 2 3) (A1 (as_ (as_ (A0 (F2 0 1 2 3) (A6 (A1 (mv_ ?_)))))))
 refine A3 (D0 (e := 93) rfl rfl kR) rfl ?_
 refine A0 (H5 0 1 2 3 17) ?_
 refine B0 rfl ?_
 refine A5 (nx (F2 0 1 2 3) (A6 (A1 (mv_ ?_))))
 refine A3 (D2 rfl) rfl ?_
 refine A3 (qf_ 0 0) rfl ?_
 refine A3 (G7 rfl kR (mA hpb) qR) rfl ?_
 refine A3 (E7 false rfl rfl (eqF qD)) rfl ?_
 refine A0 (H5 0 1 2 3 22) ?_
 refine B0 rfl ?_
 refine A5 (nx (F2 0 1 2 3) (A1 (mv_ ?_)))
 refine A3 (D2 rfl) rfl ?_
 refine A3 (qf_ 3 3) rfl ?_
 refine A3 (G7 rfl kR (mA hpb) qR) rfl ?_
 refine mv_ ?_
 refine D6 (aS rfl (aS rfl a0)) kR (V6 bt bm s.ts v3 wg MT _ hT (fun x hx => qS _ (hsub x hx)) hn (h3.rd.mono qS) h3.lt h3.max) rfl ?_
 obtain ⟨i, hie⟩ : ∃ z, (plc wg s.ts.length).getD 0 = z := ⟨_, rfl⟩
 rw [hie]
 refine mv_ ?_
 refine A3 (U6 rfl) rfl ?_
 refine A3 (U0 rfl) rfl ?_
 refine as_ (as_ (A0 (I8 0 1 2 3 10 11) (A1 (mv_ ?_))))
 refine A3 (D2 rfl) rfl ?_
 refine A3 (qf_ 3 3) rfl ?_
 refine A3 (G7 rfl kR (mA hpb) qR) rfl ?_
 refine mv_ ?_
 refine E4 (aS rfl (aS rfl a0)) kR (A0q bt bm s.ts _ MT _ hT (fun x hx => qS _ (hsub x hx))) rfl ?_
 rintro v46 M46 J46 ⟨rfl, rfl, c46, ok46, rfl, hg1, hg2⟩
 obtain ⟨vo, t, rfl, hvo, hz, htk, hok, hno⟩ := A0r hT.tok.tmo hg1 hg2
 haveI := hvo.cel
 refine mv_ ?_
 refine A3 (U6 rfl) rfl ?_
 refine A3 (U0 rfl) rfl ?_
 refine A4 rfl (C5 (cs := [.int .u8 0, vS, .string ByteArray.empty, .int .i64 0]) kR rfl fun b12 => ?_)
 refine A4 rfl (A9 (vs := tmc t.kind vo t.text t.n) rfl rfl rfl kR qR (by intro c hc; simp only [tmc, List.mem_cons, List.not_mem_nil, or_false] at hc; rcases hc with rfl | rfl | rfl | rfl <;> first | rfl | exact hvo.one) UpC.upd ?_)
 dsimp only [tmc]
 refine as_ (A0 (I8 0 1 2 3 11 12) (A6 ?_))
 refine D9 ([]) (_) true (.range 22) (zp 0 [0, 0, 0, 0, 0, 0, 0, 0, 0, 1, 0, 0, 0, 0, 1, 0, 1, 0, 0, 2, 0, 0]) kR kR qP fun hs K n0 hKm hKs hKn => ?_
 refine km_ hs ?_
 refine E2 hs rfl (P2 rfl) rfl ?_
 refine km_ hs ?_
 refine A0W (t := 51) rfl (fun hb => ?_) (fun hb => ?_)
 ·
  have hpn : plc wg s.ts.length = none := by cases hq : plc wg s.ts.length with | none => rfl | some z => rw [hq] at hb; cases hb
  have hno_ : A1F s w wa wg = none := (A0N hr _ _ _).trans (A0x fun t_ ⟨z0, z1, z2, z3, z4, z5⟩ => by rw [hpn] at z3; cases z3)
  refine R9 hs rfl rfl rfl rfl rfl rfl ?_
  refine R9 hs rfl rfl rfl rfl rfl rfl ?_
  refine R9 hs rfl rfl rfl rfl rfl rfl ?_
  refine E2 hs rfl (E6 rfl rfl) rfl ?_
  refine km_ hs ?_
  refine R9 hs rfl rfl rfl rfl rfl rfl ?_
  refine A2f hs rfl rfl rfl rfl rfl rfl ?_
  refine R9 hs rfl rfl rfl rfl rfl rfl ?_
  refine E2 hs rfl (E6 rfl rfl) rfl ?_
  refine km_ hs ?_
  refine R9 hs rfl rfl rfl rfl rfl rfl ?_
  refine A2f hs rfl rfl rfl rfl rfl rfl ?_
  refine R9 hs rfl rfl rfl rfl rfl rfl ?_
  refine A2f hs rfl rfl rfl rfl rfl rfl ?_
  refine R9 hs rfl rfl rfl rfl rfl rfl ?_
  refine R9 hs rfl rfl rfl rfl rfl rfl ?_
  refine A7J rfl rfl rfl rfl rfl rfl ?_
  refine R9 hs rfl rfl rfl rfl rfl rfl ?_
  refine E2 hs rfl (E6 rfl rfl) rfl ?_
  refine G2 (E0 2 12 70) ?_
  refine F3 rfl ?_
  refine A1 (as_ (as_ (A0 (C7 8 9) (A8 (tr ?_)))))
  exact ⟨_, [], [], A0K rfl rfl rfl, qZ, rfl, vS, by rw [hno_]; rfl, by rw [hno_]; exact By.nil⟩
 ·
  have hi : plc wg s.ts.length = some i := by cases hq : plc wg s.ts.length with | none => rw [hq] at hb; cases hb | some z => rw [hq] at hie; exact congrArg some hie
  have hil := (A2Y hi).1
  have hok2 : ok46 = true := (hg1 ⟨by omega, by omega⟩).1
  obtain ⟨-, ht2⟩ := hok hok2
  rw [Int.toNat_natCast] at ht2
  refine A1c hs rfl rfl rfl rfl qm_ rfl ?_
  refine A1c hs rfl rfl rfl rfl (E5 (sz := 1) rfl kR h3.rd) rfl ?_
  refine A1c hs rfl rfl rfl rfl (E9 rfl rfl rfl) rfl ?_
  refine E2 hs rfl (D1 rfl rfl) rfl ?_
  refine km_ hs ?_
  refine A0W (t := 56) rfl (fun hb => ?_) (fun hb => ?_)
  ·
   have h32 : wg.length ≠ 32 := by intro e; rw [e] at hb; exact absurd hb qD
   have hno_ : A1F s w wa wg = none := (A0N hr _ _ _).trans (A0x fun t_ ⟨z0, z1, z2, z3, z4, z5⟩ => h32 z0)
   refine R9 hs rfl rfl rfl rfl rfl rfl ?_
   refine A2f hs rfl rfl rfl rfl rfl rfl ?_
   refine R9 hs rfl rfl rfl rfl rfl rfl ?_
   refine E2 hs rfl (E6 rfl rfl) rfl ?_
   refine km_ hs ?_
   refine R9 hs rfl rfl rfl rfl rfl rfl ?_
   refine A2f hs rfl rfl rfl rfl rfl rfl ?_
   refine R9 hs rfl rfl rfl rfl rfl rfl ?_
   refine A2f hs rfl rfl rfl rfl rfl rfl ?_
   refine R9 hs rfl rfl rfl rfl rfl rfl ?_
   refine R9 hs rfl rfl rfl rfl rfl rfl ?_
   refine A7J rfl rfl rfl rfl rfl rfl ?_
   refine R9 hs rfl rfl rfl rfl rfl rfl ?_
   refine E2 hs rfl (E6 rfl rfl) rfl ?_
   refine G2 (E0 2 12 70) ?_
   refine F3 rfl ?_
   refine A1 (as_ (as_ (A0 (C7 8 9) (A8 (tr ?_)))))
   exact ⟨_, [], [], A0K rfl rfl rfl, qZ, rfl, vS, by rw [hno_]; rfl, by rw [hno_]; exact By.nil⟩
  ·
   have h32 : wg.length = 32 := by simp at hb; omega
   refine A1c hs rfl rfl rfl rfl (qf_ 0 0) rfl ?_
   refine A7I hs rfl rfl rfl rfl (by first | exact fun x hx => by rw [List.append_assoc]; exact List.mem_append_right _ hx | exact qS) hKs ql_ rfl ?_
   refine A1c hs rfl rfl rfl rfl (E9 rfl rfl rfl) rfl ?_
   refine E2 hs rfl (D1 rfl rfl) rfl ?_
   refine km_ hs ?_
   refine A0W (t := 61) rfl (fun hb => ?_) (fun hb => ?_)
   ·
    have hk6 : t.kind ≠ 6 := by intro e; rw [e] at hb; exact absurd hb qD
    have hno_ : A1F s w wa wg = none := (A0N hr _ _ _).trans (A0x fun t_ ⟨z0, z1, z2, z3, z4, z5⟩ => by rw [hi] at z3; obtain rfl := Option.some.inj z3; rw [ht2] at z5; rw [Option.some.inj z5] at hk6; exact hk6 rfl)
    refine R9 hs rfl rfl rfl rfl rfl rfl ?_
    refine A2f hs rfl rfl rfl rfl rfl rfl ?_
    refine R9 hs rfl rfl rfl rfl rfl rfl ?_
    refine A2f hs rfl rfl rfl rfl rfl rfl ?_
    refine R9 hs rfl rfl rfl rfl rfl rfl ?_
    refine R9 hs rfl rfl rfl rfl rfl rfl ?_
    refine A7J rfl rfl rfl rfl rfl rfl ?_
    refine R9 hs rfl rfl rfl rfl rfl rfl ?_
    refine E2 hs rfl (E6 rfl rfl) rfl ?_
    refine G2 (E0 2 12 70) ?_
    refine F3 rfl ?_
    refine A1 (as_ (as_ (A0 (C7 8 9) (A8 (tr ?_)))))
    exact ⟨_, [], [], A0K rfl rfl rfl, qZ, rfl, vS, by rw [hno_]; rfl, by rw [hno_]; exact By.nil⟩
   ·
    have hk6 : t.kind = 6 := by simp at hb; omega
    obtain ⟨x, a, b, rfl, hb256, hbl⟩ := hSel t (List.mem_of_getElem? ht2) hk6
    have hmt := hT.tok.tmo _ (List.mem_of_getElem? ht2)
    have hmb : B256 (X1 [a, b]) := A6X a b ▸ hmt.text
    have hml : (X1 [a, b]).length ≤ 1099511627776 := A6X a b ▸ hmt.tl
    replace hvo : Rd A 1 vo 1 (Y6 [x]) := hvo
    refine A1c hs rfl rfl rfl rfl (qf_ 1 1) rfl ?_
    refine A7I hs rfl rfl rfl rfl (by first | exact fun x hx => by rw [List.append_assoc]; exact List.mem_append_right _ hx | exact qS) hKs ql_ rfl ?_
    refine A1c hs rfl rfl rfl rfl (F1 (sz := 1) (a := 0) rfl rfl kR rfl hvo (show 0 < 1 by decide)) rfl ?_
    refine A7I hs rfl rfl rfl rfl (by first | exact fun x hx => by rw [List.append_assoc]; exact List.mem_append_right _ hx | exact qS) hKs (W4 (j := 0) (u := .int .i64 x) (hvo.mono qS) rfl kR qR) rfl ?_
    refine A1c hs rfl rfl rfl rfl qm_ rfl ?_
    refine A1c hs rfl rfl rfl rfl qm_ rfl ?_
    refine B1y [] _ rfl rfl rfl rfl (List.Perm.refl _) (fun _ h => by cases h) fun w0 => (A0y (aS rfl (aS rfl a0)) kR (A8C pb bt bm 1 _ sv s.ts v w j MT _ hT (fun x hx => qS _ (hsub x hx)) (qS _ hpb) hn (hv.mono qS) hj) rfl fun _ => ?_)
    dsimp only [List.nil_append, List.append_eq]
    refine A1c hs rfl rfl rfl rfl (E9 rfl rfl rfl) rfl ?_
    refine E2 hs rfl (D1 rfl rfl) rfl ?_
    refine G2 (E0 2 12 70) ?_
    refine C1 rfl ?_ ?_ <;> intro hc
    ·
     have hxj : x ≠ ((j : Nat) : Int) := by intro e; rw [e] at hc; simp [G4] at hc
     have hno_ : A1F s w wa wg = none := (A0N hr _ _ _).trans (A0x fun t_ ⟨z0, z1, z2, z3, z4, z5⟩ => by rw [hi] at z3; obtain rfl := Option.some.inj z3; rw [hj] at z4; obtain rfl := Option.some.inj z4; rw [ht2] at z5; exact hxj (List.cons.inj (Tm.mk.inj (Option.some.inj z5)).2.1).1)
     refine A1 (as_ (as_ (A0 (C7 8 9) (A8 (tr ?_)))))
     exact ⟨_, [], [], A0K rfl rfl rfl, qZ, rfl, vS, by rw [hno_]; rfl, by rw [hno_]; exact By.nil⟩
    ·
     obtain rfl : x = ((j : Nat) : Int) := by simp [G4] at hc; exact hc
     refine A5 (nx (C7 2 12) (A1 ?_))
     refine A3 (qf_ 2 2) rfl ?_
     refine A3 ql_ rfl ?_
     rw [show (A3m ((j : Nat) : Int) a b).text = X1 [a, b] from A6X a b]
     refine E4 (aS rfl a0) kR (A4Z [a, b] hmb hml _ (qS _ h4)) rfl ?_
     rintro r74 M74 J74 ⟨rfl, v74, rfl, hsl⟩
     haveI := hsl.cel
     refine mv_ ?_
     refine A3 (U6 rfl) rfl ?_
     refine A3 (U0 rfl) rfl ?_
     refine as_ (as_ (A0 (E0 2 14 15) (A6 ?_)))
     refine V7 (B := M74) qP ?_
     have hrd := hsl.rd (R := M74) fun _ h => h
     refine F4 (.range 15) (zp 0 [0, 0, 0, 0, 0, 0, 0, 0, 0, 0, 1, 0, 1, 0, 0]) kR kR fun hs => ?_
     refine fm_ hs ?_
     refine D4 hs rfl (E7 false rfl rfl (neF rfl)) rfl ?_
     refine fm_ hs ?_
     refine F7 hs rfl rfl rfl rfl qm_ rfl ?_
     refine F7 hs rfl rfl rfl rfl (E5 (sz := 1) rfl kR hrd) rfl ?_
     refine F7 hs rfl rfl rfl rfl (E7 false rfl rfl (neF rfl)) rfl ?_
     refine D4 hs rfl (D1 rfl rfl) rfl ?_
     refine fm_ hs ?_
     refine F7 hs rfl rfl rfl rfl qm_ rfl ?_
     refine F7 hs rfl rfl rfl rfl (F1 (sz := 1) (a := 0) rfl rfl kR rfl hrd (show _ < 2 by decide)) rfl ?_
     refine T5 hs rfl rfl rfl rfl (W4 (j := 0) (u := .string (txt a)) (hrd.mono qS) rfl kR qR) rfl ?_
     refine F7 hs rfl rfl rfl rfl qm_ rfl ?_
     refine T5 hs rfl rfl rfl rfl (Q8 rfl kR (h2.rd.mono qS)) rfl ?_
     have ha256 : ∀ y ∈ a, y < 256 := fun y hy => hmb.lt y (by simp [X1, mark, hy])
     refine F7 hs rfl rfl rfl rfl (B1D rfl rfl rfl rfl ha256 h2.lt) rfl ?_
     refine D4 hs rfl (D1 rfl rfl) rfl ?_
     refine G8 (C7 14 91) ?_
     refine C1 rfl ?_ ?_ <;> intro hc
     ·
      have hne : a ≠ wa := by simpa using hc
      have hno_ : A1F s w wa wg = none := (A0N hr _ _ _).trans (A0x fun t_ ⟨z0, z1, z2, z3, z4, z5⟩ => by rw [hi] at z3; obtain rfl := Option.some.inj z3; rw [ht2] at z5; have e5 := Option.some.inj z5; exact hne (A4J hmt (e5 ▸ hmt) e5).2.1)
      refine A1 (as_ (as_ (A0 (C7 8 9) (A8 (tr ?_)))))
      exact ⟨_, [], [], A0K rfl rfl rfl, qZ, rfl, vS, by rw [hno_]; rfl, by rw [hno_]; exact By.nil⟩
     ·
      obtain rfl : a = wa := by simpa using hc
      have hye : A1F s w a wg = some b := (A0N hr _ _ _).trans (A1E hT.tok ⟨h32, i, j, hi, hj, ht2⟩)
      refine A5 (nx (C9 14) (A1 (mv_ ?_)))
      refine A3 (F1 (sz := 1) (a := 1) rfl rfl kR rfl hrd (show _ < 2 by decide)) rfl ?_
      refine A3 (W4 (j := 1) (u := .string (txt b)) (hrd.mono qS) rfl kR qR) rfl ?_
      refine A4 rfl (A0o (e := 5) rfl rfl hb256 kR kR kR rfl fun v95 B95 hs95 => ?_)
      refine A1t (B := B95) qP ?_
      refine as_ (as_ (A0 (C7 8 9) (A8 ?_)))
      exact ⟨_, [], [], A0K rfl rfl rfl, qZ, rfl, _, by rw [hye]; rfl, by rw [hye]; exact ⟨hs95.mono qS, hb256, hbl⟩⟩
theorem B0R (pb : Nat) (s : Ps) (v v2 v3 : Value) (w wa wb : LN) (MP A : Mem) (hP : Prm pb s MP) (hn : s.ts.length < 1048576) (hv : By A v w) (hya : By A v2 wa) (hyb : By A v3 wb) (hl : wa.length + wb.length ≤ 16000000) (hG : Glb A) : FnX Tryz.prog 73 [(vP pb), v, v2, v3] MP A fun q M J => Prm pb (selS s w wa wb) M ∧ By J q (selK s w wa wb) := by
  obtain ⟨bt, bm, hT⟩ := hP.t
  exact (A6q pb bt bm s rfl v v2 v3 w wa wb MP A hT hn hv hya hyb hG).mono fun q M J h => ⟨h.1.p, h.2⟩
theorem A68 (pb : Nat) (s : Ps) (v v2 v3 : Value) (w wa wg : LN) (MP A : Mem) (hP : Prm pb s MP) (hMP : ∀ x, x ∈ MP → x ∈ A) (hn : s.ts.length ≤ 1048576) (hSel : X0 s.ts) (hv : By A v w) (h2 : By A v2 wa) (h3 : By A v3 wg) (hj : Kok s w) (hl : wa.length + wg.length ≤ 16000000) (hG : Glb A) : FnX Tryz.prog 79 [(vP pb), v, v2, v3] [] A fun q M J => M = [] ∧ ∃ u, q = .tuple #[u, .bool (A1F s w wa wg).isSome] ∧ By J u ((A1F s w wa wg).getD []) := by
  obtain ⟨bt, bm, hT⟩ := hP.t
  obtain ⟨i, hi, rfl⟩ := hj rfl
  exact B0Q pb bt bm s rfl v v2 v3 _ wa wg i MP A hT hMP hn hSel hv h2 h3 (by rw [A1r, show u64 ((i : Nat) : Int) = i by unfold u64; omega, if_pos hi]) hG

end Go.Proofs.YtpemeceacdhacaaGreatDoor
namespace Go.Px
theorem FnX.amb {P : Program} {f : FuncId} {args : List Value} {M A A' : Mem} {post : Value → Mem → Mem → Prop} (hA : ∀ x, x ∈ A → x ∈ A') (h : FnX P f args M A post) : FnX P f args M A' post := by
  intro w hw
  have h1 : St ⟨P, w, M.map Prod.fst, A, 0⟩ M [] w := ⟨hw.os, hw.tape, hw.output, hw.size, hw.frame, fun b o hb => hw.mem b o (by
    rcases List.mem_append.1 hb with hb | hb
    · exact List.mem_append_left _ hb
    · exact List.mem_append_right _ (hA _ hb)), hw.nodup, hw.own, hw.sepJ, fun b o hb => hw.sepA b o (hA _ hb), hw.old⟩
  refine Calls.mono (h w h1) ?_
  rintro e w' ⟨r, M', J', rfl, hp, hs⟩
  refine ⟨r, M', J', rfl, hp, ⟨hs.os, hs.tape, hs.output, hs.size, hs.frame, fun b o hb => ?_, hs.nodup, hs.own, hs.sepJ, hw.sepA, hs.old⟩⟩
  rcases List.mem_append.1 hb with hb | hb
  · exact hs.mem b o (List.mem_append_left _ hb)
  · rcases List.mem_append.1 hb with hb | hb
    · exact hs.mem b o (List.mem_append_right _ (List.mem_append_left _ hb))
    · have h2 := hw.sepA b o hb
      rw [hs.frame b h2.2 h2.1]
      exact hw.mem b o (List.mem_append_right _ hb)
end Go.Px

