/- Part 13 of the texts of this claim, one behind the other. -/
import Derived.Test.YtlilcmjbaknafaaGreatDoorB12
import Derived.Test.YtlilcmjbaknafaaGreatDoorRows
set_option linter.unusedVariables false
set_option linter.unusedSimpArgs false
set_option maxRecDepth 100000
namespace Go.Proofs.YtlilcmjbaknafaaGreatDoor
open Go.Px
theorem B0P {M B R B' : Mem} (h : M.Perm (B ++ R)) (hs : B'.Sublist B) : Fit M B' := ⟨_, h, hs.trans (List.sublist_append_left _ _)⟩
theorem Sl.cast {sz n n' : Nat} {v : Value} {xs xs' : List Value} {B : Mem} (h : Sl sz v n xs B) (h1 : n = n') (h2 : xs = xs') : Sl sz v n' xs' B := by subst h1; subst h2; exact h
def A5j (sks : List Skp) (of : LN) (n : Nat) : Option (LN) := if A1d (tst of n) sks < 0 then none else (sks[(A1d (tst of n) sks).toNat]?).map (·.key)
theorem B0Q {sks : List Skp} {of : LN} {n : Nat} (h : A1d (tst of n) sks = -1) : A5j sks of n = none := if_pos (by rw [h]; decide)
theorem A7S {sks : List Skp} {of : LN} {n i : Nat} {x : Skp} (h : A1d (tst of n) sks = (i : Int)) (hx : sks[i]? = some x) : A5j sks of n = some x.key := by
  unfold A5j; rw [h, if_neg qO, Int.toNat_natCast, hx]; rfl
theorem B3z (sb : Nat) (vof vk : Value) (sks : List Skp) (of key : LN) (n : Nat) (R MS A : Mem) (hS : Sto R sb sks MS) (hR : ∀ x, x ∈ R → x ∈ A) (hl : sks.length ≤ 1000000) (hof : By R vof of) (hk : By R vk key) (hn : n < 4294967296) : FnX Tryz.prog 15 [(vP sb), .agg #[vof, (vU n), vk]] MS A fun q M J => q = .tuple #[] ∧ Sto (J ++ R) sb (B4G sks ⟨of, n, key⟩) M := by
  obtain ⟨v, rows, B, rfl, hsl, hrw⟩ := hS.ex
  haveI := hsl.cel
  haveI := hof.cel
  haveI := hk.cel
  refine FnX.enterZ (N := 59) Tryz.func15 rfl rfl rfl fun w_ => ?_
  refine B0 (D2 0 1) (A1 ?_)
  refine A5 rfl (bx_ fun b3 => ?_)
  refine A0 (D2 0 3) (A3 (A1 (mv_ ?_)))
  refine A2 (H7 (e := 80) rfl rfl kR) rfl ?_
  refine A0 (D6 0 3 6) ?_
  refine C6 rfl ?_
  refine A6 (nx (D2 0 3) ?_)
  refine P4 (α := Value × List (List Value) × Mem) (fun x => [(0, (vP sb)), (3, (vP b3))]) (fun x => (b3, blk [vof, (vU n), vk] 55) :: (sb, blk [x.1] 80) :: x.2.2) (fun _ => []) (fun x => Sl 3 x.1 (A4s sks of n).length x.2.1.flatten x.2.2 ∧ RwL skR R x.2.1 (A4s sks of n)) ?_ ?_
  ·
    refine A1 (mv_ ?_)
    refine A2 (qf_ 0 0) rfl ?_
    refine A2 ql_ rfl ?_
    refine A2 (qf_ 1 1) rfl ?_
    refine A2 ql_ rfl ?_
    refine F1 (aS rfl (aS rfl (aS rfl a0))) kR (A3z sb v vof rows sks of n _ qM (hsl.rd qS) (hrw.mono skT (fun x hx => mA (hR x hx))) hl (hof.mono (fun x hx => mA (hR x hx)))) rfl ?_
    refine as_ (A0 (D6 0 3 4) (A1 (mv_ ?_)))
    refine A2 (D4 rfl rfl rfl) rfl ?_
    refine A0 (D8 0 3 4 14) ?_
    refine C1 rfl ?_ ?_ <;> intro hc
    ·
      obtain ⟨hf, hz⟩ | ⟨i, x, hf, hxi, hq, hmin⟩ := V3 (tst of n) sks
      · rw [hf] at hc; simp at hc
      have hil := (List.getElem?_eq_some_iff.1 hxi).1
      rw [hf]
      obtain ⟨p, rfl, h0, _, _⟩ | ⟨b, o, cap, cs, e, rfl, rfl, g1, g2, g3, g4, g5⟩ := hsl
      · omega
      refine A7 (mv_ (mv_ ?_))
      refine A2 (E6 rfl) rfl ?_
      refine A2 (qf_ 0 0) rfl ?_
      refine A2 ql_ rfl ?_
      refine mv_ (mv_ ?_)
      refine A2 (I4 (b := 1) rfl rfl rfl rfl qO) rfl ?_
      refine A5 rfl (E0 (Mc := [(b, blk cs e)]) (R := _) (aS rfl (aS rfl (aS rfl a0))) kR qP (A3y b o cap sks.length i (i + 1) cs rows.flatten e _ g1 g2 g3 g4 g5 (hrw.ones skT) qO qO) rfl ?_)
      rintro v23 M23 J23 ⟨rfl, hs23⟩
      have hsd : Sl 3 v23 (sks.eraseIdx i).length (rows.take i ++ rows.drop (i + 1)).flatten M23 := by
        have h := hs23
        rw [A4q (hrw.lens skT)] at h
        exact Sl.cast h (by rw [List.length_eraseIdx, if_pos hil]; omega) rfl
      haveI := hsd.cel
      refine A2 (E6 rfl) rfl ?_
      refine A2 (qf_ 0 0) rfl ?_
      refine A5 rfl (D9 rfl rfl hsd.one kR SetC.set UpC.upd ?_)
      refine C0 ?_
      exact jn (v23, rows.take i ++ rows.drop (i + 1), M23) ⟨by rw [A2N hf]; exact hsd, by rw [A2N hf]; exact hrw.erase i⟩ (D2 0 3) (Fit.pick (B := [_]) qP (Fit.pick (B := [_]) qP (Fit.last qP))) (fun _ h => by cases h)
    ·
      have hf : A1d (tst of n) sks = -1 := by
        obtain ⟨hf, hz⟩ | ⟨i, x, hf, hxi, hq, hmin⟩ := V3 (tst of n) sks
        · exact hf
        · rw [hf] at hc; (simp at hc) <;> omega
      refine A6 ?_
      exact jn (v, rows, B) ⟨by rw [A5h hf]; exact hsl, by rw [A5h hf]; exact hrw⟩ (D2 0 3) .rfl qI
  ·
    rintro ⟨v1, rows1, B1⟩ ⟨hsl1, hrw1⟩
    dsimp only at hsl1 hrw1 ⊢
    haveI := hsl1.cel
    have hdl := A5i sks of n
    have hdd : B4G sks ⟨of, n, key⟩ = List.drop ((A4s sks of n ++ [(⟨of, n, key⟩ : Skp)]).length - 32) (A4s sks of n ++ [(⟨of, n, key⟩ : Skp)]) := rfl
    generalize A4s sks of n = ds at *
    rw [List.length_append, List.length_singleton] at hdd
    refine C9 [0, 1, 2, 3, 4, 5, 6, 7, 8, 9, 10, 11, 12, 13, 14, 16, 17] [(0, 0), (1, 0), (2, 0), (3, 0), (4, 1), (5, 0), (6, 1), (8, 0), (9, 1), (10, 0), (11, 1), (7, 2), (12, 2), (13, 0), (14, 2), (15, 2), (16, 0), (17, 0), (18, 2)] kR kR fun hs => ?_
    refine fm_ hs ?_
    refine fm_ hs ?_
    refine C2 hs rfl (E6 rfl) rfl ?_
    refine C2 hs rfl (qf_ 0 0) rfl ?_
    refine G4 hs rfl ql_ rfl ?_
    refine C2 hs rfl (qf_ 0 0) rfl ?_
    refine G4 hs rfl ql_ rfl ?_
    refine C2 hs rfl (qf_ 1 1) rfl ?_
    refine G4 hs rfl ql_ rfl ?_
    refine C2 hs rfl (qf_ 2 2) rfl ?_
    refine G4 hs rfl ql_ rfl ?_
    refine L8 rfl (aS rfl a0) kR (A1y vof of _ (hof.mono (fun x hx => mA (hR x hx)))) rfl ?_
    rintro v33 M33 J33 ⟨rfl, h33⟩
    haveI := h33.cel
    refine L8 rfl (aS rfl a0) kR (A1y vk key _ (hk.mono (fun x hx => mA (hR x hx)))) rfl ?_
    rintro v38 M38 J38 ⟨rfl, h38⟩
    haveI := h38.cel
    refine C2 hs rfl (G6 (place := fun x => #[(0, 1), (1, 1), (2, 1)][x]?) (z := [vS, .int .u32 0, vS]) (fun _ => by kernel_rfl) (eS rfl (eS rfl (eS rfl e0))) (bdS 0 1 rfl qR (bdS 1 1 rfl qR (bdS 2 1 rfl qR bd0)))) rfl ?_
    refine B2q rfl rfl fun _ => (C3 (e := 55) (sz := 3) (z := [vS, .int .u32 0, vS]) kR (eS rfl e0) (bdS 0 3 rfl qR bd0) rfl fun b40 => ?_)
    refine F5 rfl rfl rfl (F9 (e := 55) (sz := 3) (by_ := 56) rfl rfl kR rfl hsl1 (Rd.whole (n := 1) At.mem qR) (by intro c hc; simp only [List.mem_cons, List.not_mem_nil, or_false] at hc; rcases hc with rfl | rfl | rfl; exact h33.one; rfl; exact h38.one) qP (by unfold maxLen; omega) qO rfl fun v41 B41 hs41 => ?_)
    haveI := hs41.cel
    refine C2 hs rfl (E6 rfl) rfl ?_
    refine C2 hs rfl (qf_ 0 0) rfl ?_
    refine F5 rfl rfl rfl (D9 rfl rfl hs41.one kR SetC.set UpC.upd ?_)
    obtain ⟨B42, hsub42, hs42⟩ := hs41.loV (ds.length + 1 - 32) qO
    refine E7 (D7 0) ?_
    refine F8 (.range 15) (zp 0 [0, 0, 0, 0, 1, 0, 0, 0, 1, 0, 0, 0, 0, 0, 0, 2]) kR kR fun hs => ?_
    refine fm_ hs ?_
    refine fm_ hs ?_
    refine C2 hs rfl (E6 rfl) rfl ?_
    refine C2 hs rfl (qf_ 0 0) rfl ?_
    refine G4 hs rfl ql_ rfl ?_
    refine fm_ hs ?_
    refine C2 hs rfl (E6 rfl) rfl ?_
    refine C2 hs rfl (qf_ 0 0) rfl ?_
    refine G4 hs rfl ql_ rfl ?_
    refine C2 hs rfl (G1 (sz := 3) rfl kR (hs41.rd (R := B41) fun _ h => h)) rfl ?_
    refine C2 hs rfl (C7 (((ds.length + 1 : Nat) : Int) - 32) rfl rfl (A0h qO qO qO)) rfl ?_
    refine C2 hs rfl (A88 (((ds.length + 1 - 32 : Nat)) : Int) rfl rfl (by split <;> omega)) rfl ?_
    refine C2 hs rfl (A28 (sz := 3) (a := ds.length + 1 - 32) rfl rfl kR rfl (hs41.rd (R := B41) fun _ h => h) qO) rfl ?_
    refine C2 hs rfl (E6 rfl) rfl ?_
    refine C2 hs rfl (qf_ 0 0) rfl ?_
    refine F5 rfl rfl rfl (D9 rfl rfl hs42.one kR SetC.set UpC.upd ?_)
    refine Q8 ?_
    refine ⟨_, (sb, blk [vLo (ds.length + 1 - 32) 3 v41] 80) :: B42, [], B5h rfl, Fit.none (Fit.pick (B := [_]) qP (B0P (B := B41) qP hsub42)), rfl, ⟨_, (rows1 ++ [[v33, (vU n), v38]]).drop (ds.length + 1 - 32), B42, rfl, ?_, ?_⟩⟩
    · refine Sl.cast hs42 ?_ ?_
      · rw [hdd, List.length_drop, List.length_append, List.length_singleton]
      · rw [← A2T (s := 3) (by intro r hr; rcases List.mem_append.1 hr with h | h; exact hrw1.lens skT r h; rw [List.mem_singleton.1 h]; rfl)]; simp
    · rw [hdd]
      refine (RwL.snoc (x := (⟨of, n, key⟩ : Skp)) (r := [v33, (vU n), v38]) (hrw1.mono skT (fun x hx => List.mem_append_right _ hx)) ⟨v33, v38, rfl, h33.mono (fun x hx => ?_), h38.mono (fun x hx => ?_), hn⟩).drop _ <;> simp [hx]
theorem B3A (sb : Nat) (v vof : Value) (rows : List (List Value)) (sks : List Skp) (of : LN) (n : Nat) (A : Mem) (hsb : (sb, blk [v] 80) ∈ A) (hv : Rd A 3 v sks.length rows.flatten) (hrw : RwL skR A rows sks) (hl : sks.length ≤ 1000000) (hof : By A vof of) : FnX Tryz.prog 56 [(vP sb), vof, (vU n)] [] A fun q M J => M = [] ∧ ∃ u, q = .tuple #[u, .bool (A5j sks of n).isSome] ∧ By J u ((A5j sks of n).getD []) := by
 haveI := hof.cel
 haveI := hv.cel
 refine FnX.enterZ (N := 24) Tryz.func56 rfl rfl rfl fun w_ => ?_
 refine B0 (D6 0 1 2) (A1 (as_ (as_ (A0 (D6 0 1 2) (A1 (mv_ (mv_ (mv_ ?_))))))))
 refine F1 (aS rfl (aS rfl (aS rfl a0))) kR (A3z sb v vof rows sks of n _ (mA hsb) (hv.mono qS) (hrw.mono skT qS) hl (hof.mono qS)) rfl ?_
 refine as_ (A0 (D2 0 8) (A3 (A1 (mv_ ?_))))
 refine A2 (D4 rfl rfl rfl) rfl ?_
 refine A0 (D6 0 8 14) ?_
 refine C1 rfl ?_ ?_ <;> intro hc
 ·
  have hf : A1d (tst of n) sks = -1 := by
   obtain ⟨hf, hz⟩ | ⟨i, x, hf, hxi, hq, hmin⟩ := V3 (tst of n) sks
   · exact hf
   · rw [hf] at hc; (simp at hc) <;> omega
  refine A1 (as_ (as_ (A0 (D2 6 7) (B4 (tr ?_)))))
  exact ⟨_, [], [], A13 rfl rfl rfl, qZ, rfl, _, by rw [B0Q hf]; rfl, by rw [B0Q hf]; exact By.nil⟩
 ·
  obtain ⟨hf, hz⟩ | ⟨i, x, hf, hxi, hq, hmin⟩ := V3 (tst of n) sks
  · rw [hf] at hc; simp at hc
  have hil := (List.getElem?_eq_some_iff.1 hxi).1
  rw [hf]
  obtain ⟨r, hr, vo, vk, rfl, ho, hk, hn⟩ := hrw.get i x hxi
  haveI := hk.cel
  refine A6 (nx (D2 0 8) (A1 (mv_ ?_)))
  refine A2 (E6 rfl) rfl ?_
  refine A2 (qf_ 0 0) rfl ?_
  refine A2 (K2 rfl kR (mA hsb) qR) rfl ?_
  refine mv_ ?_
  refine A2 (I5 (sz := 3) rfl rfl kR rfl hv hil) rfl ?_
  refine A2 (B7K (off := 2) rfl hv hil kR) rfl ?_
  refine A2 (B7L (u := vk) rfl (hv.mono qS) qO kR (by rw [A4G (hrw.lens skT) hr 2 qD]; rfl)) rfl ?_
  refine C5 (aS rfl a0) kR (A1y vk x.key _ (hk.mono qS)) rfl ?_
  rintro v23 M23 J23 ⟨rfl, h23⟩
  haveI := h23.cel
  refine as_ (as_ (A0 (D2 6 7) (B4 ?_)))
  exact ⟨_, [], [], A13 rfl rfl rfl, qZ, rfl, _, by rw [A7S hf hxi]; rfl, by rw [A7S hf hxi]; exact h23.mono qS⟩
theorem B0R (sb : Nat) (vof : Value) (sks : List Skp) (of : LN) (n : Nat) (R MS A : Mem) (hS : Sto R sb sks MS) (hR : ∀ x, x ∈ R → x ∈ A) (hl : sks.length ≤ 1000000) (hof : By R vof of) : FnX Tryz.prog 58 [(vP sb), vof, (vU n)] MS A fun q M J => q = .bool (decide (A1d (tst of n) sks ≥ 0)) ∧ Sto R sb (A4s sks of n) M := by
 obtain ⟨v, rows, B, rfl, hsl, hrw⟩ := hS.ex
 haveI := hsl.cel
 haveI := hof.cel
 refine FnX.enterZ (N := 27) Tryz.func58 rfl rfl rfl fun w_ => ?_
 refine B0 (D6 0 1 2) (A1 (as_ (A0 (D6 0 1 2) (A1 (mv_ (mv_ (mv_ ?_)))))))
 refine F1 (aS rfl (aS rfl (aS rfl a0))) kR (A3z sb v vof rows sks of n _ qM (hsl.rd qS) (hrw.mono skT (fun x hx => mA (hR x hx))) hl (hof.mono (fun x hx => mA (hR x hx)))) rfl ?_
 refine as_ (A0 (D2 0 7) ?_)
 refine P4 (α := Value × List (List Value) × Mem) (fun x => [(7, .int .i64 (A1d (tst of n) sks))]) (fun x => (sb, blk [x.1] 80) :: x.2.2) (fun _ => []) (fun x => Sl 3 x.1 (A4s sks of n).length x.2.1.flatten x.2.2 ∧ RwL skR R x.2.1 (A4s sks of n)) ?_ ?_
 ·
  refine A1 (mv_ ?_)
  refine A2 (D4 rfl rfl rfl) rfl ?_
  refine A0 (D6 0 7 13) ?_
  refine C1 rfl ?_ ?_ <;> intro hc
  ·
   obtain ⟨hf, hz⟩ | ⟨i, x, hf, hxi, hq, hmin⟩ := V3 (tst of n) sks
   · rw [hf] at hc; simp at hc
   have hil := (List.getElem?_eq_some_iff.1 hxi).1
   rw [hf]
   obtain ⟨p, rfl, h0, _, _⟩ | ⟨b, o, cap, cs, e, rfl, rfl, g1, g2, g3, g4, g5⟩ := hsl
   · omega
   refine A7 (mv_ (mv_ ?_))
   refine A2 (E6 rfl) rfl ?_
   refine A2 (qf_ 0 0) rfl ?_
   refine A2 ql_ rfl ?_
   refine mv_ (mv_ ?_)
   refine A2 (I4 (b := 1) rfl rfl rfl rfl qO) rfl ?_
   refine A5 rfl (E0 (Mc := [(b, blk cs e)]) (R := _) (aS rfl (aS rfl (aS rfl a0))) kR qP (A3y b o cap sks.length i (i + 1) cs rows.flatten e _ g1 g2 g3 g4 g5 (hrw.ones skT) qO qO) rfl ?_)
   rintro v22 M22 J22 ⟨rfl, hs22⟩
   have hsd : Sl 3 v22 (sks.eraseIdx i).length (rows.take i ++ rows.drop (i + 1)).flatten M22 := by
    have h := hs22
    rw [A4q (hrw.lens skT)] at h
    exact Sl.cast h (by rw [List.length_eraseIdx, if_pos hil]; omega) rfl
   haveI := hsd.cel
   refine A2 (E6 rfl) rfl ?_
   refine A2 (qf_ 0 0) rfl ?_
   refine A5 rfl (D9 rfl rfl hsd.one kR SetC.set UpC.upd ?_)
   refine C0 ?_
   exact jn (v22, rows.take i ++ rows.drop (i + 1), M22) ⟨by rw [A2N hf]; exact hsd, by rw [A2N hf]; exact hrw.erase i⟩ (D7 7) (Fit.pick (B := [_]) qP (Fit.last qP)) (fun _ h => by cases h)
  ·
   have hf : A1d (tst of n) sks = -1 := by
    obtain ⟨hf, hz⟩ | ⟨i, x, hf, hxi, hq, hmin⟩ := V3 (tst of n) sks
    · exact hf
    · rw [hf] at hc; (simp at hc) <;> omega
   refine A6 ?_
   exact jn (v, rows, B) ⟨by rw [A5h hf]; exact hsl, by rw [A5h hf]; exact hrw⟩ (D7 7) .rfl qI
 ·
  rintro ⟨v1, rows1, B1⟩ ⟨hsl1, hrw1⟩
  dsimp only at hsl1 hrw1 ⊢
  refine A1 (mv_ ?_)
  refine A2 (D4 rfl rfl rfl) rfl ?_
  refine as_ (A0 (D7 6) (B4 ?_))
  exact ⟨_, _, [], K9 rfl rfl, Fit.none .rfl, rfl, ⟨v1, rows1, B1, rfl, hsl1, hrw1⟩⟩
theorem A7T (sb k : Nat) (v : Value) (xs : List Value) (A : Mem) (hsb : (sb, blk [v] 80) ∈ A) (hv : Rd A 3 v k xs) (h1 : ∀ c ∈ xs, c.oneCell' = true) (hk : k ≤ 1099511627776) : FnX Tryz.prog 30 [(vP sb)] [] A fun q M J => Sl 3 q k xs M := by
 haveI := hv.cel
 refine FnX.enterZ (N := 10) Tryz.func30 rfl rfl rfl fun w_ => ?_
 refine B0 (D7 0) (A1 (as_ (A0 (D7 0) (A3 (A1 (mv_ ?_))))))
 refine A2 (H7 (e := 80) rfl rfl kR) rfl ?_
 refine A0 (D2 0 4) ?_
 refine C6 rfl ?_
 refine A6 (nx (D7 0) (A1 (mv_ ?_)))
 refine A2 (E6 rfl) rfl ?_
 refine A2 (qf_ 0 0) rfl ?_
 refine A2 (K2 rfl kR (mA hsb) qR) rfl ?_
 refine C5 (aS rfl a0) kR (A8N v k xs _ (hv.mono qS) h1 hk) rfl ?_
 rintro v9 M9 J9 hs9
 haveI := hs9.cel
 refine as_ (A0 (D7 2) (B4 ?_))
 exact ⟨_, M9, [], K9 rfl rfl, Fit.none (Fit.last qP), hs9⟩
theorem B0S (sb k : Nat) (v : Value) (xs : List Value) (A : Mem) (hsb : (sb, blk [v] 80) ∈ A) (hv : Rd A 3 v k xs) (h1 : ∀ c ∈ xs, c.oneCell' = true) (hk : k ≤ 1099511627776) : FnX Tryz.prog 31 [(vP sb)] [] A fun q M J => ∃ cb u B, q = (vP cb) ∧ M = (cb, blk [u] 80) :: B ∧ Sl 3 u k xs B := by
 refine FnX.enterZ (N := 7) Tryz.func31 rfl rfl rfl fun w_ => ?_
 refine B0 (D7 0) (A1 (as_ (A0 (D7 0) (A1 (mv_ ?_)))))
 refine C5 (aS rfl a0) kR (A7T sb k v xs _ (mA hsb) (hv.mono qS) h1 hk) rfl ?_
 rintro v4 M4 J4 hs4
 haveI := hs4.cel
 refine A2 (G6 (place := fun x => #[(0, 1)][x]?) (z := [vS]) (fun _ => by kernel_rfl) (eS rfl e0) (bdS 0 1 rfl qR bd0)) rfl ?_
 refine A5 rfl (bx_ fun b6 => ?_)
 refine as_ (A0 (D7 2) (B4 ?_))
 exact ⟨_, (b6, _) :: M4, [], K9 rfl rfl, Fit.none (Fit.pick (B := [_]) qP (Fit.last qP)), b6, v4, M4, rfl, rfl, hs4⟩

def A2b : LN := [115, 116, 101, 112]
def W3 (s : Ps) (key : LN) : Ps := A3X s key [] A2b 2
def B9b (s : Ps) (key : LN) : List (LN) := A5v s key [] A2b 2
def A0g (s : Ps) (key : LN) : LN := (B9b s key).getD 0 []
def A1e (s : Ps) (key : LN) : LN := (B9b s key).getD 1 []
theorem A7U (s : Ps) (key : LN) (ws : List (LN)) (lb : LN) (n : Nat) : (A5v s key ws lb n).length = n := by
  unfold A5v
  split
  · exact A46 _ _
  · exact (A01 _ _ _ _).1
theorem B0T {R : Mem} {v : Value} {ls : List (LN)} (h : LsV R v ls) (hl : ls.length = 2) : ∃ vs u0 u1, Rd R 1 v 2 vs ∧ vs[0]? = some u0 ∧ vs[1]? = some u1 ∧ By R u0 (ls.getD 0 []) ∧ By R u1 (ls.getD 1 []) := by
  obtain ⟨vs, h1, h2⟩ := h.ex
  obtain ⟨u0, a0, b0⟩ := h2.at (j := 0) qO
  obtain ⟨u1, a1, b1⟩ := h2.at (j := 1) qO
  rw [hl] at h1
  refine ⟨vs, u0, u1, h1, a0, a1, ?_, ?_⟩
  · rw [List.getD_eq_getElem?_getD, List.getElem?_eq_getElem qO]; exact b0
  · rw [List.getD_eq_getElem?_getD, List.getElem?_eq_getElem qO]; exact b1
theorem B4H {P : Program} {fn : Func} {l : Env} {R : Mem} {t u b n : Nat} {ty : TypeId} {cs : List Value} {e : TypeId} {fr : Nat × Nat} {v : Value} (h : fn.results = #[.tmp u, .cell t ty]) (hv : lk l t = some (vP b)) (hu : lk l u = some v) (ht : A6w P ty = some n)
    (hb : (b, Obj.cells cs.toArray e fr) ∈ R) (hn : cs.length = n) : Res P fn l R (.tuple #[v, .agg cs.toArray]) := fun N a w ha hw => by
  obtain ⟨dsc, h1, h2, h3⟩ := V9 ht
  have hl := run_loadVar_row (P := P) w b e ty cs.toArray fr dsc (hw b _ hb) h1 (by cases dsc <;> simp_all [TypeDesc.isRow]) (by rw [h3, ← hn]; simp)
  simp [results, h, ha.slot t _ hv, ha.slot u _ hu, asAddr, hl]
theorem A3A (pb : Nat) (s : Ps) (kv : Value) (key : LN) (n : Nat) (MP A : Mem) (hP : Prm pb s MP) (hk : By A kv key) (hn : s.ts.length ≤ 1040000) (hG : Glb A) : FnX Tryz.prog 37 [(vP pb), .agg #[kv, (vU n)]] MP A fun q M J => ∃ v1 v2, q = .tuple #[v1, .agg #[v2, .int .u32 (((n + 1) % 4294967296 : Nat) : Int)]] ∧ Prm pb (W3 s key) M ∧ By J v1 (A0g s key) ∧ By J v2 (A1e s key) := by
 haveI := hk.cel
 refine FnX.enterZ (N := 25) Tryz.func37 rfl rfl rfl fun w_ => ?_
 refine B0 (D2 0 1) (A1 ?_)
 refine A5 rfl (B5g rfl Cel.cel rfl fun b3 => ?_)
 refine as_ ?_
 refine A5 rfl (C4 (cs := [vS, .int .u32 0]) kR rfl fun b5 => ?_)
 refine A0 (D6 0 3 5) (A1 (mv_ ?_))
 refine A2 (qf_ 0 0) rfl ?_
 refine A2 (K2 (v := kv) rfl kR At.mem qR) rfl ?_
 refine A5 rfl (E0 (Mc := MP) (R := _) (aS rfl (aS rfl (aS rfl (aS rfl (aS rfl a0))))) kR qP (A3h pb s kv (vS) key A2b [] 2 MP _ hP (hk.mono qS) LsV.nil qD ⟨by decide⟩ qD qD qD hn hG.up) rfl ?_)
 rintro v10 M10 J10 ⟨hP10, hL10⟩
 have hlen := A7U s key [] A2b 2
 obtain ⟨us, u0, u1, hr, hu0, hu1, hb0, hb1⟩ := B0T hL10 hlen
 haveI := hr.cel
 haveI := hb0.cel
 haveI := hb1.cel
 refine as_ (A0 (D6 3 5 6) (A3 (A1 (mv_ ?_))))
 refine A2 (G1 (sz := 1) rfl kR hr) rfl ?_
 refine A2 (E9 false rfl rfl (neF rfl)) rfl ?_
 refine A0 (D8 3 5 6 13) ?_
 refine C6 rfl ?_
 refine A6 (nx (D6 3 5 6) ?_)
 refine C9 (.range 11) (zp 0 [0, 0, 1, 0, 0, 1, 0, 1, 0, 0, 0, 2]) kR kR fun hs => ?_
 refine fm_ hs ?_
 refine C2 hs rfl (I5 (sz := 1) (a := 0) rfl rfl kR rfl hr qD) rfl ?_
 refine G4 hs rfl (A0i (u := u0) (hr.mono qS) rfl kR hu0) rfl ?_
 refine fm_ hs ?_
 refine C2 hs rfl (I5 (sz := 1) (a := 1) rfl rfl kR rfl hr qD) rfl ?_
 refine G4 hs rfl (A0i (u := u1) (hr.mono qS) rfl kR hu1) rfl ?_
 refine C2 hs rfl (qf_ 1 1) rfl ?_
 refine G4 hs rfl ql_ rfl ?_
 refine C2 hs rfl (F2 4294967296 (b := 1) rfl rfl rfl rfl rfl rfl) rfl ?_
 refine C2 hs rfl (G6 (place := fun x => #[(0, 1), (1, 1)][x]?) (z := [vS, .int .u32 0]) (fun _ => by kernel_rfl) (eS rfl (eS rfl e0)) (bdS 0 1 rfl qR (bdS 1 1 rfl qR bd0))) rfl ?_
 refine fa_ hs ?_
 refine F5 rfl rfl rfl (A9 rfl rfl Cel.cel kR qR (by intro c hc; simp only [List.mem_cons, List.not_mem_nil, or_false] at hc; rcases hc with rfl | rfl; exact hb1.one; rfl) UpC.upd ?_)
 refine E7 (D2 4 5) (B4 ?_)
 refine ⟨_, M10, [], B4H (n := 2) rfl rfl rfl kR At.mem qR, Fit.none (Fit.last qP), u0, u1, rfl, hP10, hb0.mono (fun x hx => by simp [hx]), hb1.mono (fun x hx => by simp [hx])⟩

theorem up2 {X J R A : Mem} (hR : ∀ x, x ∈ R → x ∈ A) : ∀ x, x ∈ J ++ R → x ∈ X ++ (J ++ A) := fun x hx => List.mem_append_right _ ((List.mem_append.1 hx).elim (fun h => List.mem_append_left _ h) (fun h => List.mem_append_right _ (hR x h)))
def rep {α : Type} (f : α → α) : Nat → α → α
  | 0, x => x
  | k + 1, x => f (rep f k x)
abbrev Ast := Ps × LN × Nat × List Skp
def aSt (of : LN) (x : Ast) : Ast := (W3 x.1 x.2.1, A1e x.1 x.2.1, x.2.2.1 + 1, B4G x.2.2.2 ⟨of, x.2.2.1, A0g x.1 x.2.1⟩)
theorem B3B (of : LN) (i : Nat) (x : Ast) : (rep (aSt of) i x).2.2.1 = x.2.2.1 + i := by
  induction i with
  | zero => rfl
  | succ i ih => show (rep (aSt of) i x).2.2.1 + 1 = _; rw [ih]; rfl
theorem B0U (of : LN) (i : Nat) (x : Ast) : (rep (aSt of) i x).1.ts.length ≤ x.1.ts.length + 3 * i := by
  induction i with
  | zero => exact Nat.le_refl _
  | succ i ih =>
    show (W3 (rep (aSt of) i x).1 (rep (aSt of) i x).2.1).ts.length ≤ _
    have := A2I (rep (aSt of) i x).1 (rep (aSt of) i x).2.1 [] A2b 2
    unfold W3
    simp at this
    omega
theorem B4I (of : LN) (i : Nat) (x : Ast) (h : x.2.2.2.length ≤ 1000) : (rep (aSt of) i x).2.2.2.length ≤ 1000 := by
  cases i with
  | zero => exact h
  | succ i => exact Nat.le_trans (B3w _ _) qD
theorem A8O (pb sb : Nat) (s : Ps) (kv vof : Value) (key of : LN) (N n : Nat) (sks : List Skp) (R MP MS A : Mem) (hP : Prm pb s MP) (hS : Sto R sb sks MS) (hR : ∀ x, x ∈ R → x ∈ A) (hk : By R kv key) (hof : By R vof of) (hl : sks.length ≤ 1000) (hNn : N ≤ n) (h16 : n - N ≤ 16) (hn32 : n < 4294967296) (hn : s.ts.length ≤ 1000000) (hG : Glb A) : FnX Tryz.prog 59 [(vP pb), .agg #[kv, (vU N)], vof, (vU n), (vP sb)] (MP ++ MS) A fun q M J => ∃ MP' MS' kv', M = MP' ++ MS' ∧ q = .tuple #[.agg #[kv', .int .u32 (((rep (aSt of) (n - N) (s, key, N, sks)).2.2.1 : Nat) : Int)], .int .i64 0] ∧ Prm pb (rep (aSt of) (n - N) (s, key, N, sks)).1 MP' ∧ Sto (J ++ R) sb (rep (aSt of) (n - N) (s, key, N, sks)).2.2.2 MS' ∧ By (J ++ R) kv' (rep (aSt of) (n - N) (s, key, N, sks)).2.1 := by
 haveI := hk.cel
 haveI := hof.cel
 refine FnX.enterZ (N := 51) Tryz.func59 rfl rfl rfl fun w_ => ?_
 refine B0 (E4 0 1 2 3 4) (A1 ?_)
 refine A5 rfl (bx_ fun b6 => ?_)
 refine A5 rfl (C4 (cs := [vS, .int .u32 0]) kR rfl fun b10 => ?_)
 refine as_ (A0 (H3 0 2 3 4 6 10) (A3 (A4 (A1 (mv_ ?_)))))
 refine A2 (qf_ 1 1) rfl ?_
 refine A2 ql_ rfl ?_
 refine A2 (E9 false rfl rfl (ltF qO)) rfl ?_
 refine as_ (A0 (N0 0 2 3 4 6 10 14) ?_)
 refine C6 rfl ?_
 refine A1 (mv_ ?_)
 refine A2 (qf_ 1 1) rfl ?_
 refine A2 ql_ rfl ?_
 refine A2 (C7 (((n - N : Nat)) : Int) rfl rfl (by simp only [I1]; rw [A7h qO qO]; congr 2; omega)) rfl ?_
 refine A2 (E9 false rfl rfl (gtF qO)) rfl ?_
 refine as_ (A0 (N0 0 2 3 4 6 10 20) ?_)
 refine C6 rfl ?_
 refine A6 (nb (nx (H3 0 2 3 4 6 10) (A3 (A4 ?_))))
 refine D3 (α := Nat × Mem × Mem × Value × Mem) (fun x => [(0, (vP pb)), (2, vof), (3, (vU n)), (4, (vP sb)), (6, (vP b6)), (10, (vP b10))]) (fun x => x.2.1 ++ (x.2.2.1 ++ [(b6, blk [x.2.2.2.1, .int .u32 ((N + x.1 : Nat) : Int)] 38), (b10, blk [vS, .int .u32 0] 38)])) (fun x => x.2.2.2.2) (fun x => x.1 ≤ n - N ∧ Prm pb (rep (aSt of) x.1 (s, key, N, sks)).1 x.2.1 ∧ Sto (x.2.2.2.2 ++ R) sb (rep (aSt of) x.1 (s, key, N, sks)).2.2.2 x.2.2.1 ∧ By (x.2.2.2.2 ++ R) x.2.2.2.1 (rep (aSt of) x.1 (s, key, N, sks)).2.1) (fun x => n - N - x.1) ⟨0, MP, MS, kv, []⟩ ⟨Nat.zero_le _, hP, hS, hk⟩ (H3 0 2 3 4 6 10) (Fit.pick qP (Fit.pick qP (Fit.pick (B := [_]) qP (Fit.last qP)))) (fun _ h => by cases h) ?_
 rintro ⟨i, MPi, MSi, kvi, Ji⟩ ⟨hi, hPi, hSi, hki⟩
 dsimp only at hi hPi hSi hki ⊢
 haveI := hki.cel
 have hts := B0U of i (s, key, N, sks)
 have hsk := B4I of i (s, key, N, sks) hl
 dsimp only at hts hsk
 refine A3 (A1 ?_)
 refine A2 (qf_ 1 1) rfl ?_
 refine A2 ql_ rfl ?_
 refine mv_ ?_
 refine A2 (D4 rfl rfl rfl) rfl ?_
 refine A0 (N0 0 2 3 4 6 10 30) ?_
 refine C1 rfl ?_ ?_ <;> intro hc
 ·
  have hlt : i < n - N := by simp at hc; omega
  refine A6 (nx (H3 0 2 3 4 6 10) (A4 (A1 (as_ (A0 (H3 0 2 3 4 6 10) (A1 ?_))))))
  refine A2 (qf_ 1 1) rfl ?_
  refine A2 ql_ rfl ?_
  refine as_ (A0 (N0 0 2 3 4 6 10 13) (A3 (A1 (mv_ ?_))))
  refine A2 (qw_ 2) rfl ?_
  refine A5 rfl (E0 (Mc := MPi) (R := _) (aS rfl (aS rfl a0)) kR qP (A3A pb (rep (aSt of) i (s, key, N, sks)).1 kvi (rep (aSt of) i (s, key, N, sks)).2.1 (N + i) MPi _ hPi (hki.mono (up2 hR)) qO hG.up) rfl ?_)
  rintro v36 M36 J36 ⟨v1, v2, rfl, hP36, hb1, hb2⟩
  haveI := hb1.cel
  haveI := hb2.cel
  rw [Nat.mod_eq_of_lt (show N + i + 1 < 4294967296 by omega), show N + i + 1 = N + (i + 1) from rfl]
  refine mv_ ?_
  refine A2 (A0T rfl) rfl ?_
  refine A2 (A0L rfl) rfl ?_
  refine as_ ?_
  refine A5 rfl (A9 rfl rfl Cel.cel kR qR (by intro c hc; simp only [List.mem_cons, List.not_mem_nil, or_false] at hc; rcases hc with rfl | rfl; exact hb2.one; rfl) UpC.upd ?_)
  refine A0 (T6 0 2 3 4 6 10 12 13) (A1 ?_)
  refine A2 (qf_ 1 1) rfl ?_
  refine A2 ql_ rfl ?_
  refine mv_ ?_
  refine A2 (E9 false rfl rfl (eqF qO)) rfl ?_
  refine A0 (Z7 0 2 3 4 6 10 12 13 42) ?_
  refine C6 rfl ?_
  refine A6 (nx (T6 0 2 3 4 6 10 12 13) (A7 (mv_ (mv_ (mv_ (mv_ ?_))))))
  refine A2 (G6 (place := fun x => #[(0, 1), (1, 1), (2, 1)][x]?) (z := [vS, .int .u32 0, vS]) (fun _ => by kernel_rfl) (eS rfl (eS rfl (eS rfl e0))) (bdS 0 1 rfl qR (bdS 1 1 rfl qR (bdS 2 1 rfl qR bd0)))) rfl ?_
  refine A5 rfl (E0 (Mc := MSi) (R := _) (aS rfl (aS rfl a0)) kR qP (B3z sb vof v1 (rep (aSt of) i (s, key, N, sks)).2.2.2 of (A0g (rep (aSt of) i (s, key, N, sks)).1 (rep (aSt of) i (s, key, N, sks)).2.1) (N + i) ((J36 ++ Ji) ++ R) MSi _ (hSi.mono (fun x hx => by simp only [List.mem_append] at hx ⊢; rcases hx with h | h <;> simp [h])) (up2 hR) qO (hof.mono (fun x hx => List.mem_append_right _ hx)) (hb1.mono (fun x hx => by simp [hx])) qO) rfl ?_)
  rintro v49 M49 J49 ⟨rfl, hS49⟩
  refine C0 (nb ?_)
  exact rn ⟨i + 1, M36, M49, v2, J49 ++ (J36 ++ Ji)⟩ ⟨by dsimp only; omega, hP36, (by have h := hS49; rw [← B3B of i (s, key, N, sks)] at h; exact h.mono (fun x hx => by simp only [List.mem_append] at hx ⊢; rcases hx with h | h | h <;> simp [h]) : Sto ((J49 ++ (J36 ++ Ji)) ++ R) sb _ M49), hb2.mono (fun x hx => by simp [hx])⟩ (by dsimp only; omega) (H3 0 2 3 4 6 10) (Fit.pick qP (Fit.pick qP (Fit.pick (B := [_]) qP (Fit.last qP)))) qI
 ·
  have hge : i = n - N := by simp at hc; omega
  subst hge
  refine D0 (te (re (be rfl (nx (D2 6 10) (A1 ?_)))))
  refine A2 (qw_ 2) rfl ?_
  refine A5 rfl (A9 rfl rfl Cel.cel kR qR (by intro c hc; simp only [List.mem_cons, List.not_mem_nil, or_false] at hc; rcases hc with rfl | rfl; exact hki.one; rfl) UpC.upd ?_)
  refine as_ (A0 (D2 10 11) (B4 ?_))
  refine ⟨_, MPi ++ MSi, [], A5y (n := 2) rfl rfl rfl kR At.mem qR, Fit.none (Fit.pick qP (Fit.last qP)), MPi, MSi, kvi, rfl, ?_, hPi, hSi, hki⟩
  rw [B3B]
theorem A8P (pv sv kv vof : Value) (key of : LN) (N n : Nat) (A : Mem) (hk : By A kv key) (hof : By A vof of) (hNn : n < N) : FnV Tryz.prog 59 [pv, .agg #[kv, (vU N)], vof, (vU n), sv] A (.tuple #[.agg #[kv, (vU N)], .int .i64 8]) := by
 haveI := hk.cel
 haveI := hof.cel
 refine FnX.enter (N := 51) Tryz.func59 rfl rfl rfl fun w => ?_
 refine B0 (E4 0 1 2 3 4) (A1 ?_)
 refine A5 rfl (bx_ fun b6 => ?_)
 refine A5 rfl (C4 (cs := [vS, .int .u32 0]) kR rfl fun b10 => ?_)
 refine as_ (A0 (H3 0 2 3 4 6 10) (A3 (A4 (A1 (mv_ ?_)))))
 refine A2 (qf_ 1 1) rfl ?_
 refine A2 ql_ rfl ?_
 refine A2 (E9 true rfl rfl (ltT qO)) rfl ?_
 refine as_ (A0 (N0 0 2 3 4 6 10 14) ?_)
 refine D5 rfl ?_
 refine A1 ?_
 refine A2 (qw_ 2) rfl ?_
 refine A5 rfl (A9 rfl rfl Cel.cel kR qR (by intro c hc; simp only [List.mem_cons, List.not_mem_nil, or_false] at hc; rcases hc with rfl | rfl; exact hk.one; rfl) UpC.upd ?_)
 refine as_ (A0 (D2 10 11) (B4 (br (tr ?_))))
 exact ⟨_, [], [], A5y (n := 2) rfl rfl rfl kR At.mem qR, List.nil_sublist _, by simp, rfl, rfl, rfl⟩
theorem A8Q (pv sv kv vof : Value) (key of : LN) (N n : Nat) (A : Mem) (hk : By A kv key) (hof : By A vof of) (hNn : N ≤ n) (hn32 : n < 4294967296) (h16 : 16 < n - N) : FnV Tryz.prog 59 [pv, .agg #[kv, (vU N)], vof, (vU n), sv] A (.tuple #[.agg #[kv, (vU N)], .int .i64 7]) := by
 haveI := hk.cel
 haveI := hof.cel
 refine FnX.enter (N := 51) Tryz.func59 rfl rfl rfl fun w => ?_
 refine B0 (E4 0 1 2 3 4) (A1 ?_)
 refine A5 rfl (bx_ fun b6 => ?_)
 refine A5 rfl (C4 (cs := [vS, .int .u32 0]) kR rfl fun b10 => ?_)
 refine as_ (A0 (H3 0 2 3 4 6 10) (A3 (A4 (A1 (mv_ ?_)))))
 refine A2 (qf_ 1 1) rfl ?_
 refine A2 ql_ rfl ?_
 refine A2 (E9 false rfl rfl (ltF qO)) rfl ?_
 refine as_ (A0 (N0 0 2 3 4 6 10 14) ?_)
 refine C6 rfl ?_
 refine A1 (mv_ ?_)
 refine A2 (qf_ 1 1) rfl ?_
 refine A2 ql_ rfl ?_
 refine A2 (C7 (((n - N : Nat)) : Int) rfl rfl (by simp only [I1]; rw [A7h qO qO]; congr 2; omega)) rfl ?_
 refine A2 (E9 true rfl rfl (gtT qO)) rfl ?_
 refine as_ (A0 (N0 0 2 3 4 6 10 20) ?_)
 refine D5 rfl ?_
 refine A1 ?_
 refine A2 (qw_ 2) rfl ?_
 refine A5 rfl (A9 rfl rfl Cel.cel kR qR (by intro c hc; simp only [List.mem_cons, List.not_mem_nil, or_false] at hc; rcases hc with rfl | rfl; exact hk.one; rfl) UpC.upd ?_)
 refine as_ (A0 (D2 10 11) (B4 (br (tr ?_))))
 exact ⟨_, [], [], A5y (n := 2) rfl rfl rfl kR At.mem qR, List.nil_sublist _, by simp, rfl, rfl, rfl⟩

def bes (n k x : Nat) : LN := (List.range x).map fun j => n / 2 ^ (8 * (k - 1 - j)) % 256
def beN (n k : Nat) : LN := bes n k k
theorem B0V (n k x : Nat) : (bes n k x).length = x := by simp [bes]
theorem A02 (n k : Nat) : (beN n k).length = k := B0V n k k
theorem B3C (n k x : Nat) : bes n k (x + 1) = bes n k x ++ [n / 2 ^ (8 * (k - 1 - x)) % 256] := by simp [bes, List.range_succ]
theorem B8t (n k x : Nat) : ∀ y ∈ bes n k x, y < 256 := by
  intro y hy
  simp only [bes, List.mem_map] at hy
  obtain ⟨j, _, rfl⟩ := hy
  exact Nat.mod_lt _ qD
theorem A4t (n k : Nat) : ∀ y ∈ beN n k, y < 256 := B8t n k k
theorem B4J {a b : LN} (ha : ∀ x ∈ a, x < 256) (hb : ∀ x ∈ b, x < 256) : ∀ x ∈ a ++ b, x < 256 := fun x hx => (List.mem_append.1 hx).elim (ha x) (hb x)
def bev (ws : LN) : Nat := ws.foldl (fun n b => n * 256 + b) 0
structure Wtr (wb : Nat) (ws : LN) (M : Mem) : Prop where
  ex : ∃ (v : Value) (B : Mem), M = (wb, blk [v] 64) :: B ∧ Sl 1 v ws.length (nums .u8 ws) B
  lt : ∀ x ∈ ws, x < 256
theorem Wtr.new {b : Nat} : Wtr b [] [(b, blk [vS] 64)] := ⟨⟨_, [], rfl, Sl.nil⟩, fun x h => by cases h⟩
theorem A3B (wb n k : Nat) (ws : LN) (M A : Mem) (hW : Wtr wb ws M) (hn : n < 18446744073709551616) (hk : k ≤ 8) (hl : ws.length ≤ 1099511627776) : FnX Tryz.prog 41 [(vP wb), .int .u64 ((n : Nat) : Int), (vI k)] M A fun q M J => q = (vP wb) ∧ Wtr wb (ws ++ beN n k) M := by
 obtain ⟨⟨v, B, rfl, hsl⟩, hlt⟩ := hW
 haveI := hsl.cel
 refine FnX.enterZ (N := 33) Tryz.func41 rfl rfl rfl fun w_ => ?_
 refine B0 (D6 0 1 2) (A1 (as_ (A0 (D6 0 1 2) (A3 (A1 (mv_ ?_))))))
 refine A2 (C7 ((k : Int) - 1) rfl rfl (A0h rfl qO qO)) rfl ?_
 refine as_ (A0 (D6 0 1 7) (A4 ?_))
 refine D3 (α := Nat × Value × Mem) (fun x => [(0, (vP wb)), (1, .int .u64 ((n : Nat) : Int)), (7, .int .i64 ((k : Int) - 1 - (x.1 : Int)))]) (fun x => (wb, blk [x.2.1] 64) :: x.2.2) (fun _ => []) (fun x => x.1 ≤ k ∧ Sl 1 x.2.1 (ws ++ bes n k x.1).length (nums .u8 (ws ++ bes n k x.1)) x.2.2) (fun x => k - x.1) ⟨0, v, B⟩ ⟨Nat.zero_le _, by simpa [bes] using hsl⟩ (kq 0 (kq 1 (kp 7 (by simp; rfl) kn))) .rfl qI ?_
 clear hsl
 rintro ⟨x, v, B⟩ ⟨hx, hsl⟩
 dsimp only at hx hsl ⊢
 haveI := hsl.cel
 have hbl := B0V n k x
 have hll : (ws ++ bes n k x).length = ws.length + x := by rw [List.length_append, hbl]
 refine A3 (A1 (mv_ ?_))
 refine A2 (D4 rfl rfl rfl) rfl ?_
 refine mv_ ?_
 refine Z6 (t := 12) rfl (fun hb => ?_) (fun hb => ?_)
 ·
  have hltx : x < k := by simp at hb; omega
  obtain ⟨m, hm, hm2⟩ : ∃ m : Nat, ((k : Int) - 1 - (x : Int)) = (m : Int) ∧ m = k - 1 - x := ⟨k - 1 - x, by omega, rfl⟩
  rw [hm]
  refine G5 rfl rfl (OpQ.opL qm_ rfl ?_)
  refine G5 rfl rfl (OpQ.opL (E9 true rfl rfl (ltT qO)) rfl ?_)
  refine A2 (I6 rfl rfl) rfl ?_
  refine A0 (D8 0 1 7 15) ?_
  refine D5 rfl ?_
  refine A6 (nx (D6 0 1 7) (A3 (A4 ?_)))
  refine F8 [0, 1, 2, 3, 4, 5, 6, 7, 8, 9, 10, 12, 13] (zp 0 [0, 0, 0, 0, 1, 0, 0, 0, 0, 0, 2, 2, 0, 0, 2]) kR kR fun hs => ?_
  refine fm_ hs ?_
  refine fm_ hs ?_
  refine C2 hs rfl (E6 rfl) rfl ?_
  refine C2 hs rfl (qf_ 0 0) rfl ?_
  refine G4 hs rfl ql_ rfl ?_
  refine fm_ hs ?_
  refine fm_ hs ?_
  refine C2 hs rfl (A0F (a := 8) rfl rfl rfl rfl qO) rfl ?_
  refine C2 hs rfl (A9v (a := n) (b := 8 * m) rfl rfl rfl rfl (by show _ ≤ 64; omega)) rfl ?_
  refine C2 hs rfl (A1m rfl kR) rfl ?_
  refine B2q rfl rfl fun _ => (C3 (e := 5) (sz := 1) (z := [.int .u8 0]) kR (eS rfl e0) (bdS 0 1 rfl qR bd0) rfl fun b28 => ?_)
  refine F5 rfl rfl rfl (F9 (e := 5) (sz := 1) (by_ := 1) rfl rfl kR rfl (by first | assumption | exact Sl.nil) (Rd.whole (n := 1) At.mem qR) (by first | (simp [Value.oneCell']; done) | (intro c hc; simp only [List.mem_singleton] at hc; subst hc; first | exact Rd.one (by assumption) | exact Sl.one (by assumption))) qP (by unfold maxLen; omega) qO rfl fun v29 B29 hs29 => ?_)
  refine C2 hs rfl (E6 rfl) rfl ?_
  refine C2 hs rfl (qf_ 0 0) rfl ?_
  refine F5 rfl rfl rfl (D9 rfl rfl hs29.one kR SetC.set UpC.upd ?_)
  refine Q8 (nb (nx (D6 0 1 7) (A7 (mv_ ?_))))
  refine A2 (C7 ((m : Int) - 1) rfl rfl (A0h rfl qO qO)) rfl ?_
  refine as_ (C0 ?_)
  exact rn ⟨x + 1, v29, B29⟩ ⟨by dsimp only; omega, by dsimp only; rw [B3C, ← List.append_assoc, ← hm2]; exact W6 hs29 (by simp only [List.length_append, List.length_singleton]) (by simp [nums])⟩ (by dsimp only; omega) (kq 0 (kq 1 (kp 7 (by dsimp only; rw [show ((k : Int) - 1 - ((x + 1 : Nat) : Int)) = (m : Int) - 1 by omega]; rfl) kn))) (Fit.pick (B := [_]) qP (Fit.last qP)) (fun _ h => by first | exact h | cases h)
 ·
  have hge : x = k := by simp at hb; omega
  subst hge
  refine K8 rfl rfl rfl rfl ?_
  refine K8 rfl rfl rfl rfl ?_
  refine A2 (I0 rfl rfl) rfl ?_
  refine A0 (D8 0 1 7 15) ?_
  refine C6 rfl ?_
  refine D0 (te (re (be rfl (nx (D7 0) (A1 (mv_ (as_ (A0 (D7 6) ?_))))))))
  refine B4 ?_
  exact ⟨_, (wb, blk [v] 64) :: B, [], K9 rfl rfl, Fit.none (Fit.last qP), rfl, ⟨⟨v, B, rfl, hsl⟩, B4J hlt (A4t n x)⟩⟩
theorem A1z (wb : Nat) (p : Value) (w ws : LN) (M A : Mem) (hW : Wtr wb ws M) (hp : By A p w) (hl : ws.length ≤ 1099511620000) : FnX Tryz.prog 40 [(vP wb), p] M A fun q M J => q = (vP wb) ∧ Wtr wb (ws ++ beN w.length 4 ++ w) M := by
 haveI := hp.cel
 have hpl := hp.len
 refine FnX.enterZ (N := 20) Tryz.func40 rfl rfl rfl fun w_ => ?_
 refine B0 (D2 0 1) (A1 (as_ (A0 (D2 0 1) (A1 (mv_ (mv_ ?_))))))
 refine A2 (G1 (sz := 1) rfl kR hp.rd) rfl ?_
 refine A2 (A9e rfl kR) rfl ?_
 rw [Nat.mod_eq_of_lt (show w.length < 18446744073709551616 by omega)]
 refine A5 rfl (E0 (Mc := _) (R := _) (aS rfl (aS rfl (aS rfl (a0)))) kR qP (A3B wb w.length 4 ws _ _ hW qO qD qO) rfl ?_)
 rintro v9 M9 J9 ⟨rfl, hW9⟩
 obtain ⟨⟨v, B, rfl, hsl⟩, hlt⟩ := hW9
 haveI := hsl.cel
 have hbl := A02 w.length 4
 have hll : (ws ++ beN w.length 4).length = ws.length + 4 := by rw [List.length_append, hbl]
 refine A0 (D2 0 1) (A1 (mv_ (mv_ ?_)))
 refine A2 (E6 rfl) rfl ?_
 refine A2 (qf_ 0 0) rfl ?_
 refine A2 ql_ rfl ?_
 refine mv_ ?_
 refine A5 rfl (F9 (e := 5) (sz := 1) (by_ := 1) rfl rfl kR rfl hsl (hp.rd.mono qS) E5 qP (by unfold maxLen; omega) qO rfl fun v16 B16 hs16 => ?_)
 refine A2 (E6 rfl) rfl ?_
 refine A2 (qf_ 0 0) rfl ?_
 refine A5 rfl (D9 rfl rfl hs16.one kR SetC.set UpC.upd ?_)
 refine A0 (D7 0) (A1 (mv_ (as_ (A0 (D7 4) (B4 ?_)))))
 exact ⟨_, (wb, blk [v16] 64) :: B16, [], K9 rfl rfl, Fit.none (Fit.pick (B := [_]) qP (Fit.last qP)), rfl, ⟨⟨v16, B16, rfl, W6 hs16 (by simp only [List.length_append]) (by simp [nums])⟩, B4J hlt hp.lt⟩⟩
theorem A4u (wb : Nat) (ws : LN) (M A : Mem) (hW : Wtr wb ws M) (hl : ws.length ≤ 16777216) : FnX Tryz.prog 20 [(vP wb)] M A fun q M J => Wtr wb ws M ∧ By J q ws := by
 obtain ⟨⟨v, B, rfl, hsl⟩, hlt⟩ := hW
 haveI := hsl.cel
 refine FnX.enterZ (N := 8) Tryz.func20 rfl rfl rfl fun w_ => ?_
 refine B0 (D7 0) (A1 (as_ (A0 (D7 0) (A1 (mv_ ?_)))))
 refine A2 (E6 rfl) rfl ?_
 refine A2 (qf_ 0 0) rfl ?_
 refine A2 ql_ rfl ?_
 refine A5 rfl (F9 (e := 5) (sz := 1) (by_ := 1) rfl rfl kR rfl Sl.nil (hsl.rd qS) E5 qP (by unfold maxLen; omega) qO rfl fun v7 B7 hs7 => ?_)
 refine as_ (A0 (D7 2) (B4 ?_))
 exact ⟨_, (wb, blk [v] 64) :: B, B7, K9 rfl rfl, Fit.pick qP (Fit.last qP), ⟨⟨v, B, rfl, hsl⟩, hlt⟩, ⟨by simpa using hs7.rd (R := B7) qS, hlt, hl⟩⟩

end Go.Proofs.YtlilcmjbaknafaaGreatDoor
set_option maxRecDepth 10000
namespace Go.Ed
variable {n : Nat} [NeZero n]
theorem A4v {x y d : Fin n} (h : y*y - x*x = 1 + d*x*x*y*y) : x*x*(1 + d*(y*y)) = y*y - 1 := by grind
theorem B90 (x2 y2 x3 y3 d : Fin n) (h2 : y2*y2 - x2*x2 = 1 + d*x2*x2*y2*y2) (h3 : y3*y3 - x3*x3 = 1 + d*x3*x3*y3*y3) :
    (1 + d*(y2*y2))*(1 + d*(y3*y3))*((1 - y2*y3 - (d*x2*x3*y2*y3 + x2*x3))*(1 - y2*y3 + (d*x2*x3*y2*y3 + x2*x3))) = (y2 - y3)*(y2 - y3)*((1 + d)*(1 + d*(y2*y3)*(y2*y3))) := by
  have e2 := A4v h2
  have e3 := A4v h3
  have e : (1 + d*(y2*y2))*(1 + d*(y3*y3))*((1 - y2*y3 - (d*x2*x3*y2*y3 + x2*x3))*(1 - y2*y3 + (d*x2*x3*y2*y3 + x2*x3))) = (1 + d*(y2*y2))*(1 + d*(y3*y3))*((1 - y2*y3)*(1 - y2*y3)) - (x2*x2*(1 + d*(y2*y2)))*(x3*x3*(1 + d*(y3*y3)))*((1 + d*(y2*y3))*(1 + d*(y2*y3))) := by clear h2 h3 e2 e3; grind
  rw [e, e2, e3]
  clear h2 h3 e2 e3 e
  grind
theorem B91 (x2 y2 x3 y3 d : Fin n) (h2 : y2*y2 - x2*x2 = 1 + d*x2*x2*y2*y2) (h3 : y3*y3 - x3*x3 = 1 + d*x3*x3*y3*y3) :
    (1 + d*(y2*y2))*(1 + d*(y3*y3))*((1 + y2*y3 + (x2*x3 - d*x2*x3*y2*y3))*(1 + y2*y3 - (x2*x3 - d*x2*x3*y2*y3))) = (y2 + y3)*(y2 + y3)*((1 + d)*(1 + d*(y2*y3)*(y2*y3))) := by
  have e2 := A4v h2
  have e3 := A4v h3
  have e : (1 + d*(y2*y2))*(1 + d*(y3*y3))*((1 + y2*y3 + (x2*x3 - d*x2*x3*y2*y3))*(1 + y2*y3 - (x2*x3 - d*x2*x3*y2*y3))) = (1 + d*(y2*y2))*(1 + d*(y3*y3))*((1 + y2*y3)*(1 + y2*y3)) - (x2*x2*(1 + d*(y2*y2)))*(x3*x3*(1 + d*(y3*y3)))*((1 - d*(y2*y3))*(1 - d*(y2*y3))) := by clear h2 h3 e2 e3; grind
  rw [e, e2, e3]
  clear h2 h3 e2 e3 e
  grind
theorem pf1 {m k t S t2 : Fin n} (h : 1 - t = t2) (s : S*t2 = m + k) : 1 - m - (t + k) = (1 - S)*t2 := by grind
theorem pf2 {m k t y t1 : Fin n} (h : 1 + t = t1) (s : y*t1 = m - k) : 1 - m + (t + k) = (1 - y)*t1 := by grind
theorem pf3 {m k t S t2 : Fin n} (h : 1 - t = t2) (s : S*t2 = m + k) : 1 + m + (k - t) = (1 + S)*t2 := by grind
theorem pf4 {m k t y t1 : Fin n} (h : 1 + t = t1) (s : y*t1 = m - k) : 1 + m - (k - t) = (1 + y)*t1 := by grind
theorem pf5 {a b y z : Fin n} : (b*(1 + z) - b*(1 - z))*(a*(1 + y) + a*(1 - y)) + (b*(1 + z) + b*(1 - z))*(a*(1 + y) - a*(1 - y)) = 4*(a*b)*(y + z) := by grind
theorem pf6 {a b y z : Fin n} : (b*(1 + z) - b*(1 - z))*(a*(1 + y) + a*(1 - y)) - (b*(1 + z) + b*(1 - z))*(a*(1 + y) - a*(1 - y)) = 4*(a*b)*(z - y) := by grind
theorem pf7 {Y L M I : Fin n} (h : L = Y*M) (hi : M*I = 1) : Y = L*I := by grind
theorem pf8 {c y a2 a3 S t2 t1 v I : Fin n} (h : y*y = a2*a3*((1 + S)*t2*((1 + v)*t1))*I) : 4*c*y*(4*c*y) = 16*(c*c)*(t1*t2)*(a2*a3)*I*(1 + v)*(1 + S) := by
  have : 4*c*y*(4*c*y) = 16*(c*c)*(y*y) := by grind
  rw [this, h]; clear this h; grind
theorem pf9 {c y a2 a3 S t2 t1 v I u : Fin n} (h : y*y = a2*a3*((1 - S)*t2*((1 - v)*t1))*I) (hu : u*(1 - v) = 1 + v) : u*(4*c*y*(4*c*y)) = 16*(c*c)*(t1*t2)*(a2*a3)*I*(1 + v)*(1 - S) := by
  have e : u*(4*c*y*(4*c*y)) = u*(16*(c*c)*(y*y)) := by clear h hu; grind
  have e2 : u*(16*(c*c)*(a2*a3*((1 - S)*t2*((1 - v)*t1))*I)) = (u*(1 - v))*(16*(c*c)*(a2*a3*((1 - S)*t2*t1)*I)) := by clear h hu e; grind
  rw [e, h, e2, hu]; clear h hu e e2; grind
theorem pg1 {a y : Fin n} : (a*(1 + y) + a*(1 - y))*(a*(1 + y) + a*(1 - y)) = 4*(a*a) := by grind
theorem pg2 {a y : Fin n} : (a*(1 + y) - a*(1 - y))*(a*(1 + y) - a*(1 - y)) = 4*(a*a)*(y*y) := by grind
theorem pg3 {d k y : Fin n} (h : d*(k + 1) = -k) : (1 + d)*(1 + k*(1 - y*y)) = 1 + d*(y*y) := by grind
theorem pg4 {d w x y : Fin n} (h : (1 + d)*w = 1 + d*(y*y)) (hx : x*x*(1 + d*(y*y)) = y*y - 1) : (1 + d)*((1 + x*x)*w) = (1 + d)*(y*y) := by
  have : (1 + d)*((1 + x*x)*w) = (1 + x*x)*((1 + d)*w) := by clear h hx; grind
  rw [this, h]; clear this h; grind
theorem pg5 {d x y D S : Fin n} (he : y*y - x*x = 1 + d*x*x*y*y) (hD : 1 - d*x*x*y*y = D) (s : S*D = y*y + x*x) : D*(1 + S) = 2 + 2*(x*x) ∧ D*(1 - S) = 2 - 2*(y*y) := by
  have : D = 2 - y*y + x*x := by grind
  constructor
  · have : D*(1 + S) = D + S*D := by clear s he hD this; grind
    rw [this, s]; clear this s; grind
  · have : D*(1 - S) = D - S*D := by clear s he hD this; grind
    rw [this, s]; clear this s; grind
theorem pg6 {a w D S x y : Fin n} (g : D*(1 + S) = 2 + 2*(x*x)) (h : (1 + x*x)*w = y*y) : 4*(a*a)*(4*(a*a)*(y*y)) = 8*(a*a*(a*a))*w*D*(1 + S) := by
  have e : 8*(a*a*(a*a))*w*D*(1 + S) = 8*(a*a*(a*a))*w*(D*(1 + S)) := by clear g h; grind
  have e2 : 8*(a*a*(a*a))*w*(2 + 2*(x*x)) = 16*(a*a*(a*a))*((1 + x*x)*w) := by clear g h e; grind
  rw [e, g, e2, h]; clear g h e e2; grind
theorem pg7 {a k D S y : Fin n} (g : D*(1 - S) = 2 - 2*(y*y)) : (4*(a*a) - 4*(a*a)*(y*y))*(4*(a*a) + k*(4*(a*a) - 4*(a*a)*(y*y))) = 8*(a*a*(a*a))*(1 + k*(1 - y*y))*D*(1 - S) := by
  have e : 8*(a*a*(a*a))*(1 + k*(1 - y*y))*D*(1 - S) = 8*(a*a*(a*a))*(1 + k*(1 - y*y))*(D*(1 - S)) := by clear g; grind
  rw [e, g]; clear g e; grind
variable {d : Fin n} (F : Fld n d)
structure RepU (X Z : Fin n) (P : Fin n × Fin n) : Prop where
  ex : ∃ c, c ≠ 0 ∧ X = c * (1 + P.2) ∧ Z = c * (1 - P.2)
include F
theorem Fld.four : (4 : Fin n) ≠ 0 := fun h => F.two ((F.mul0 2 2 (by grind)).elim id id)
theorem Fld.a_ne (y : Fin n) : 1 + d*(y*y) ≠ 0 := fun h => F.dy_ne (y := y) (by grind)
theorem Fld.rep_dif {A B C D u yD : Fin n} {P Q : Fin n × Fin n} (hP : On d P) (hQ : On d Q) (h1 : RepU A B P) (h2 : RepU C D Q) (hD : yD*(1 + d*P.1*Q.1*P.2*Q.2) = P.2*Q.2 - P.1*Q.1) (hu : u*(1 - yD) = 1 + yD) (hy : 1 + yD ≠ 0) {p q da cb : Fin n} (hp : p = A + B) (hq : q = A - B) (hda : da = (C - D)*p) (hcb : cb = (C + D)*q) :
    RepU ((da + cb)*(da + cb)) (u*((da - cb)*(da - cb))) (F.add P Q) := by
  obtain ⟨a, ha, rfl, rfl⟩ := h1
  obtain ⟨b, hb, rfl, rfl⟩ := h2
  obtain ⟨k1, k2⟩ := F.complete hP hQ
  obtain ⟨-, s2⟩ := F.add_spec hP hQ
  have hL := B90 P.1 P.2 Q.1 Q.2 d hP.eq hQ.eq
  have hR := B91 P.1 P.2 Q.1 Q.2 d hP.eq hQ.eq
  have n2 := F.a_ne P.2
  have n3 := F.a_ne Q.2
  have n4 : (1 + d) ≠ 0 := by have := F.a_ne 1; rwa [show d * ((1 : Fin n) * 1) = d by grind] at this
  have n5 : 1 + d*(P.2*Q.2)*(P.2*Q.2) ≠ 0 := by have := F.a_ne (P.2*Q.2); rwa [← show d*(P.2*Q.2)*(P.2*Q.2) = d*((P.2*Q.2)*(P.2*Q.2)) by grind] at this
  have n6 := F.mul_ne n4 n5
  have hi := F.hinv _ n6
  generalize F.add P Q = S at *
  have hI : F.inv ((1 + d)*(1 + d*(P.2*Q.2)*(P.2*Q.2))) ≠ 0 := fun h => by rw [h] at hi; exact F.one (by rw [← hi]; grind)
  rw [pf1 (S := S.2) rfl s2, pf2 rfl hD] at hL
  rw [pf3 (S := S.2) rfl s2, pf4 rfl hD] at hR
  have g : (16 : Fin n) ≠ 0 := fun h => F.four ((F.mul0 4 4 (by grind)).elim id id)
  refine ⟨16*(a*b*(a*b))*((1 + d*P.1*Q.1*P.2*Q.2)*(1 - d*P.1*Q.1*P.2*Q.2))*((1 + d*(P.2*P.2))*(1 + d*(Q.2*Q.2)))*F.inv ((1 + d)*(1 + d*(P.2*Q.2)*(P.2*Q.2)))*(1 + yD), ?_, ?_, ?_⟩
  · exact F.mul_ne (F.mul_ne (F.mul_ne (F.mul_ne (F.mul_ne g (F.mul_ne (F.mul_ne ha hb) (F.mul_ne ha hb))) (F.mul_ne k1 k2)) (F.mul_ne n2 n3)) hI) hy
  · subst hp hq hda hcb
    rw [pf5]
    exact pf8 (pf7 hR hi)
  · subst hp hq hda hcb
    rw [pf6]
    have e : (Q.2 - P.2)*(Q.2 - P.2) = (P.2 - Q.2)*(P.2 - Q.2) := by clear hL hR hi s2 hD hu; grind
    exact pf9 (e.trans (pf7 hL hi)) hu
theorem Fld.rep_dbl {A B k : Fin n} {P : Fin n × Fin n} (hP : On d P) (h1 : RepU A B P) (hk : d*(k + 1) = -k) {ss tt : Fin n} (hs : ss = (A + B)*(A + B)) (ht : tt = (A - B)*(A - B)) :
    RepU (ss*tt) ((ss - tt)*(ss + k*(ss - tt))) (F.add P P) := by
  obtain ⟨a, ha, rfl, rfl⟩ := h1
  obtain ⟨k1, k2⟩ := F.complete hP hP
  obtain ⟨-, s2⟩ := F.add_spec hP hP
  have n2 := F.a_ne P.2
  have n4 : (1 + d) ≠ 0 := by have := F.a_ne 1; rwa [show d * ((1 : Fin n) * 1) = d by grind] at this
  have hk1 := pg3 (y := P.2) hk
  have hw : 1 + k*(1 - P.2*P.2) ≠ 0 := fun h => by rw [h] at hk1; exact n2 (by rw [← hk1]; grind)
  have hx1 := F.cancel n4 (pg4 hk1 (A4v hP.eq))
  obtain ⟨g1, g2⟩ := pg5 hP.eq rfl s2
  rw [pg1] at hs
  rw [pg2] at ht
  subst hs ht
  have g : (8 : Fin n) ≠ 0 := fun h => F.two ((F.mul0 2 4 (by grind)).elim id fun h => absurd h F.four)
  exact ⟨8*(a*a*(a*a))*(1 + k*(1 - P.2*P.2))*(1 - d*P.1*P.1*P.2*P.2), F.mul_ne (F.mul_ne (F.mul_ne g (F.mul_ne (F.mul_ne ha ha) (F.mul_ne ha ha))) hw) k2, pg6 g1 hx1, pg7 g2⟩
theorem Fld.add_neg {P : Fin n × Fin n} (hP : On d P) : On d (-P.1, P.2) ∧ F.add P (-P.1, P.2) = ((0 : Fin n), (1 : Fin n)) := by
  have he := hP.eq
  have ho : On d (-P.1, P.2) := ⟨by show P.2*P.2 - -P.1 * -P.1 = 1 + d * -P.1 * -P.1 * P.2 * P.2; grind⟩
  refine ⟨ho, F.add_eq hP ho ?_ ?_⟩
  · show 0 * (1 + d*P.1* -P.1*P.2*P.2) = P.1*P.2 + -P.1*P.2; grind
  · show 1 * (1 - d*P.1* -P.1*P.2*P.2) = P.2*P.2 + P.1* -P.1; grind
theorem Fld.dif {P Q : Fin n × Fin n} (hP : On d P) (hQ : On d Q) : Q.2*(1 + d*P.1*(F.add P Q).1*P.2*(F.add P Q).2) = P.2*(F.add P Q).2 - P.1*(F.add P Q).1 := by
  obtain ⟨o, e⟩ := F.add_neg hP
  have hS := F.add_on hP hQ
  have e2 : F.add (F.add P Q) (-P.1, P.2) = Q := by
    rw [F.add_comm P Q, F.add_assoc hQ hP o, e, F.add_o]
  have h := (F.add_spec hS o).2
  rw [e2] at h
  dsimp only at h
  generalize F.add P Q = S at *
  clear e2 e hS
  grind
end Go.Ed

namespace Go.Proofs.YtlilcmjbaknafaaGreatDoor
open Go.Px Go.Ed
theorem A7V : Go.Px.IsPr 531581 := A6X 730 qD qD (by decide +kernel)
theorem A6l : Go.Px.IsPr 1224481 := A6X 1107 qD qD (by decide +kernel)
theorem prL1 : Go.Px.IsPr 1257559732178653 := A8E (F := 531581 * 1224481) qD qD fun s hs hd => Y7 A7V A6l qD (H4 (a := 2) qD qD A7V (by decide +kernel) s hs hd) (H4 (a := 2) qD qD A6l (by decide +kernel) s hs hd)
theorem prL2 : Go.Px.IsPr 4434155615661930479 := A8E (F := 1257559732178653) qD qD (H4 (a := 2) qD qD prL1 (by decide +kernel))
theorem prL3 : Go.Px.IsPr 172054593956031949258510691 := A8E (F := 4434155615661930479) qD qD (H4 (a := 2) qD qD prL2 (by decide +kernel))
theorem prL4 : Go.Px.IsPr 19757330305831588566944191468367130476339 := A8E (F := 172054593956031949258510691) qD qD (H4 (a := 2) qD qD prL3 (by decide +kernel))
theorem prL5 : Go.Px.IsPr 276602624281642239937218680557139826668747 := A8E (F := 19757330305831588566944191468367130476339) qD qD (H4 (a := 2) qD qD prL4 (by decide +kernel))
theorem prL : Go.Px.IsPr lN := A8E (F := 276602624281642239937218680557139826668747) qD qD (H4 (a := 2) qD qD prL5 (by decide +kernel))
structure LR (P : Fin p25 × Fin p25) (s : Lad) (m1 m2 : Nat) : Prop where
  r1 : RepU (fF s.a) (fF s.b) (FF.nsm m1 P)
  r2 : RepU (fF s.c) (fF s.d) (FF.nsm m2 P)
  la : s.a < p25
  lb : s.b < p25
  lc : s.c < p25
  ld : s.d < p25
theorem LR.sw {P : Fin p25 × Fin p25} {s : Lad} {m1 m2 : Nat} (h : LR P s m1 m2) : LR P ⟨s.c, s.d, s.a, s.b⟩ m2 m1 := ⟨h.r2, h.r1, h.lc, h.ld, h.la, h.lb⟩
theorem B92 : fF dN * (fF 121665 + 1) = -fF 121665 := by decide +kernel
theorem LR.step {P : Fin p25 × Fin p25} {u : Nat} {s : Lad} {m1 m2 : Nat} (hP : On (fF dN) P) (hU : fF u * (1 - P.2) = 1 + P.2) (h2 : 1 + P.2 ≠ 0) (h : LR P s m1 m2) (hm : m2 = m1 + 1 ∨ m1 = m2 + 1) : LR P (A30 u s) (m1 + m1) (m1 + m2) := by
  have o1 := FF.nsm_on hP m1
  have o2 := FF.nsm_on hP m2
  have hD : P.2*(1 + fF dN*(FF.nsm m1 P).1*(FF.nsm m2 P).1*(FF.nsm m1 P).2*(FF.nsm m2 P).2) = (FF.nsm m1 P).2*(FF.nsm m2 P).2 - (FF.nsm m1 P).1*(FF.nsm m2 P).1 := by
    rcases hm with rfl | rfl
    · exact FF.dif o1 hP
    · have h1 := FF.dif o2 hP
      rw [← FF.nsm_succ] at h1
      generalize FF.nsm m2 P = Q at *
      generalize FF.nsm (m2 + 1) P = R at *
      have e1 : fF dN*R.1*Q.1*R.2*Q.2 = fF dN*Q.1*R.1*Q.2*R.2 := by clear h1 h hU; grind
      have e2 : R.2*Q.2 - R.1*Q.1 = Q.2*R.2 - Q.1*R.1 := by clear h1 h hU; grind
      rw [e1, e2]; exact h1
  refine ⟨?_, ?_, A0f _ _, A0f _ _, A0f _ _, A0f _ _⟩
  · rw [FF.nsm_add hP]
    show RepU (fF (fM (fM (fA s.a s.b) (fA s.a s.b)) (fM (fS s.a s.b) (fS s.a s.b)))) (fF (fM (fS (fM (fA s.a s.b) (fA s.a s.b)) (fM (fS s.a s.b) (fS s.a s.b))) (fA (fM (fA s.a s.b) (fA s.a s.b)) (fM 121665 (fS (fM (fA s.a s.b) (fA s.a s.b)) (fM (fS s.a s.b) (fS s.a s.b))))))) _
    rw [A1X, A1X (fS _ _) (fA _ _), B1U, A1X 121665, B3m (A0f _ _)]
    exact FF.rep_dbl o1 h.r1 B92 (by rw [A1X, B1U]) (by rw [A1X, B3m h.lb])
  · rw [FF.nsm_add hP]
    show RepU (fF (fM (fA (fM (fS s.c s.d) (fA s.a s.b)) (fM (fA s.c s.d) (fS s.a s.b))) (fA (fM (fS s.c s.d) (fA s.a s.b)) (fM (fA s.c s.d) (fS s.a s.b))))) (fF (fM u (fM (fS (fM (fS s.c s.d) (fA s.a s.b)) (fM (fA s.c s.d) (fS s.a s.b))) (fS (fM (fS s.c s.d) (fA s.a s.b)) (fM (fA s.c s.d) (fS s.a s.b)))))) _
    rw [A1X (fA _ _), A1X u, A1X (fS _ _) (fS _ _), B1U (fM _ _), B3m (A0f _ _)]
    exact FF.rep_dif o1 o2 h.r1 h.r2 hD hU h2 (p := fF s.a + fF s.b) (q := fF s.a - fF s.b) rfl rfl (by rw [A1X, B3m h.ld, B1U]) (by rw [A1X, B1U, B3m h.lb])
theorem B0W {P : Fin p25 × Fin p25} {u : Nat} (hP : On (fF dN) P) (hu : u < p25) (hU : fF u * (1 - P.2) = 1 + P.2) (h1 : 1 - P.2 ≠ 0) (h2 : 1 + P.2 ≠ 0) {n : Nat} (hn : n < 2 ^ 255) : ∀ k, k ≤ 255 → LR P (A0e u n k) (n / 2 ^ (255 - k)) (n / 2 ^ (255 - k) + 1)
  | 0, _ => by
    rw [Nat.div_eq_of_lt hn]
    have i2 := FF.hinv _ FF.two
    have i1 := FF.hinv _ h1
    have ne : ∀ {a : Fin p25}, a ≠ 0 → FF.inv a ≠ 0 := fun {a} ha h => by
      have := FF.hinv _ ha
      rw [h] at this
      exact FF.one (by rw [← this]; grind)
    refine ⟨⟨FF.inv 2, ne FF.two, ?_, ?_⟩, ⟨FF.inv (1 - P.2), ne h1, ?_, ?_⟩, by show 1 < p25; decide, by show 0 < p25; decide, hu, by show 1 < p25; decide⟩
    · show fF 1 = FF.inv 2 * (1 + 1)
      rw [show (1 : Fin p25) + 1 = 2 from rfl, ← show (2 : Fin p25) * FF.inv 2 = FF.inv 2 * 2 by grind, i2]; rfl
    · show fF 0 = FF.inv 2 * (1 - 1)
      rw [show (1 : Fin p25) - 1 = 0 from rfl, show FF.inv 2 * (0 : Fin p25) = 0 by grind]; rfl
    · show fF u = FF.inv (1 - P.2) * (1 + (FF.add ((0 : Fin p25), (1 : Fin p25)) P).2)
      rw [FF.add_comm, FF.add_o, ← hU]
      have : FF.inv (1 - P.2) * (fF u * (1 - P.2)) = fF u * ((1 - P.2) * FF.inv (1 - P.2)) := by clear i1 i2 hU; grind
      rw [this, i1]; grind
    · show fF 1 = FF.inv (1 - P.2) * (1 - (FF.add ((0 : Fin p25), (1 : Fin p25)) P).2)
      rw [FF.add_comm, FF.add_o]
      have : FF.inv (1 - P.2) * (1 - P.2) = (1 - P.2) * FF.inv (1 - P.2) := by clear i1 i2 hU; grind
      rw [this, i1]; rfl
  | k + 1, hk => by
    have ih := B0W hP hu hU h1 h2 hn k qO
    have e1 : 255 - (k + 1) = 254 - k := by omega
    have e2 : n / 2 ^ (254 - k) = 2 * (n / 2 ^ (255 - k)) + n / 2 ^ (254 - k) % 2 := by
      have e3 : n / 2 ^ (255 - k) = n / 2 ^ (254 - k) / 2 := by rw [Nat.div_div_eq_div_mul, ← Nat.pow_succ]; congr 2; omega
      rw [e3]; omega
    rw [e1, e2]
    generalize n / 2 ^ (255 - k) = m at *
    show LR P (swL (decide (n / 2 ^ (254 - k) % 2 = 1)) (A30 u (swL (decide (n / 2 ^ (254 - k) % 2 = 1)) (A0e u n k)))) _ _
    by_cases hb : n / 2 ^ (254 - k) % 2 = 1
    · rw [hb]
      have h3 := (ih.sw.step hP hU h2 (.inr rfl)).sw
      rw [show m + 1 + m = 2 * m + 1 by omega, show m + 1 + (m + 1) = 2 * m + 1 + 1 by omega] at h3
      exact h3
    · rw [show n / 2 ^ (254 - k) % 2 = 0 by omega]
      have h3 := ih.step hP hU h2 (.inl rfl)
      rw [show m + m = 2 * m + 0 by omega, show m + (m + 1) = 2 * m + 0 + 1 by omega] at h3
      exact h3
noncomputable def uOf (P : Fin p25 × Fin p25) : Fin p25 := (1 + P.2) * FF.inv (1 - P.2)
theorem B3D : FF.inv 0 = 0 := by
  show fF (fI (0 : Fin p25).val) = 0
  rw [B58, B8e qD]
  decide +kernel
theorem B8u {P : Fin p25 × Fin p25} {u : Nat} (hP : On (fF dN) P) (hu : u < p25) (hU : fF u * (1 - P.2) = 1 + P.2) (h1 : 1 - P.2 ≠ 0) (h2 : 1 + P.2 ≠ 0) {n : Nat} (hn : n < 2 ^ 255) : fM (A0e u n 255).a (fI (A0e u n 255).b) = (uOf (FF.nsm n P)).val := by
  have h := B0W hP hu hU h1 h2 hn 255 (Nat.le_refl _)
  rw [show 255 - 255 = 0 from rfl, Nat.pow_zero, Nat.div_one] at h
  obtain ⟨c, hc, e1, e2⟩ := h.r1
  have hb := h.lb
  generalize A0e u n 255 = s at *
  have e3 : fF (fM s.a (fI s.b)) = uOf (FF.nsm n P) := by
    rw [A1X, e1]
    have e4 : fF (fI s.b) = FF.inv (fF s.b) := by
      show _ = fF (fI (fF s.b).val)
      rw [A0G, Nat.mod_eq_of_lt hb]
    rw [e4, e2]
    unfold uOf
    generalize (FF.nsm n P).2 = y
    by_cases hy : 1 - y = 0
    · rw [hy, show c * (0 : Fin p25) = 0 by grind, B3D]; grind
    · have i1 := FF.hinv _ hy
      have i2 := FF.hinv _ (FF.mul_ne hc hy)
      have i3 : c * FF.inv (c * (1 - y)) = FF.inv (1 - y) := by
        refine FF.cancel hy ?_
        have e : (1 - y) * (c * FF.inv (c * (1 - y))) = c * (1 - y) * FF.inv (c * (1 - y)) := by
          generalize FF.inv (c * (1 - y)) = z
          clear i1 i2 e1 e2 e4
          grind
        rw [e, i2, i1]
      have : c * (1 + y) * FF.inv (c * (1 - y)) = (1 + y) * (c * FF.inv (c * (1 - y))) := by clear i1 i2 i3 e1 e2 e4; grind
      rw [this, i3]
  have := congrArg Fin.val e3
  rw [A0G, Nat.mod_eq_of_lt (A0f _ _)] at this
  exact this
theorem B6r {B : Fin p25 × Fin p25} (hB : On (fF dN) B) (hne : B ≠ ((0 : Fin p25), (1 : Fin p25))) (hL : FF.nsm lN B = ((0 : Fin p25), (1 : Fin p25))) {j : Nat} (h : FF.nsm j B = ((0 : Fin p25), (1 : Fin p25))) : lN ∣ j := by
  apply Decidable.byContradiction
  intro hd
  have hc := prL.cop hd
  -- gcd: some a * j = 1 + b * lN
  have key : ∀ a b : Nat, FF.nsm a B = ((0 : Fin p25), (1 : Fin p25)) → FF.nsm b B = ((0 : Fin p25), (1 : Fin p25)) → FF.nsm (Nat.gcd a b) B = ((0 : Fin p25), (1 : Fin p25)) := by
    intro a b
    induction a, b using Nat.gcd.induction with
    | H0 b => intro _ h; rwa [Nat.gcd_zero_left]
    | H1 a b ha ih =>
      intro h1 h2
      rw [Nat.gcd_rec]
      refine ih ?_ h1
      rw [FF.nsm_mod hB h1]; exact h2
  have h1 := key lN j hL h
  rw [hc] at h1
  apply hne
  have : FF.nsm 1 B = FF.add ((0 : Fin p25), (1 : Fin p25)) B := rfl
  rw [this, FF.add_comm, FF.add_o] at h1
  exact h1
theorem B93 {P : Fin p25 × Fin p25} (hP : On (fF dN) P) (h : P.2 * P.2 = 1) : FF.add P P = ((0 : Fin p25), (1 : Fin p25)) := by
  have hx := A4v hP.eq
  rw [h] at hx
  have hx0 : P.1 * P.1 * (1 + fF dN * 1) = 0 := by rw [hx]; grind
  have hn := FF.a_ne 1
  rw [show (1 : Fin p25) * 1 = 1 from rfl] at hn
  have h1 : P.1 * P.1 = 0 := (FF.mul0 _ _ hx0).resolve_right hn
  have h2 : P.1 = 0 := (FF.mul0 _ _ h1).elim id id
  obtain ⟨x, y⟩ := P
  dsimp only at h h2
  subst h2
  refine FF.add_eq hP hP ?_ ?_
  · show 0 * _ = 0 * y + 0 * y; grind
  · show 1 * (1 - fF dN * 0 * 0 * y * y) = y * y + 0 * 0
    rw [h]; grind
theorem y_ok {B : Fin p25 × Fin p25} (hB : On (fF dN) B) (hne : B ≠ ((0 : Fin p25), (1 : Fin p25))) (hL : FF.nsm lN B = ((0 : Fin p25), (1 : Fin p25))) {j : Nat} (hj : ¬ lN ∣ j + j) : 1 - (FF.nsm j B).2 ≠ 0 ∧ 1 + (FF.nsm j B).2 ≠ 0 := by
  have key : (FF.nsm j B).2 * (FF.nsm j B).2 ≠ 1 := fun h => hj (B6r hB hne hL (by rw [FF.nsm_add hB]; exact B93 (FF.nsm_on hB j) h))
  exact ⟨fun h => key (by grind), fun h => key (by grind)⟩
theorem B3E {B : Fin p25 × Fin p25} {b : Nat} (hB : On (fF dN) B) (hne : B ≠ ((0 : Fin p25), (1 : Fin p25))) (hL : FF.nsm lN B = ((0 : Fin p25), (1 : Fin p25))) (hb : b < p25) (hU : fF b * (1 - B.2) = 1 + B.2) (h1 : 1 - B.2 ≠ 0) (h2 : 1 + B.2 ≠ 0) {m k : Nat} (hm : m < 2 ^ 255) (hk : k < 2 ^ 255) (jm : ¬ lN ∣ m + m) (jk : ¬ lN ∣ k + k) {um uk : Nat} (em : um = fM (A0e b m 255).a (fI (A0e b m 255).b)) (ek : uk = fM (A0e b k 255).a (fI (A0e b k 255).b)) :
    fM (A0e um k 255).a (fI (A0e um k 255).b) = fM (A0e uk m 255).a (fI (A0e uk m 255).b) := by
  have go : ∀ {m k um : Nat}, m < 2 ^ 255 → k < 2 ^ 255 → ¬ lN ∣ m + m → um = fM (A0e b m 255).a (fI (A0e b m 255).b) → fM (A0e um k 255).a (fI (A0e um k 255).b) = (uOf (FF.nsm (k * m) B)).val := by
    intro m k um hm hk jm em
    rw [B8u hB hb hU h1 h2 hm] at em
    obtain ⟨y1, y2⟩ := y_ok hB hne hL jm
    rw [FF.nsm_mul hB]
    refine B8u (FF.nsm_on hB m) (by rw [em]; exact (uOf _).isLt) ?_ y1 y2 hk
    rw [em, A5c]
    unfold uOf
    have i1 := FF.hinv _ y1
    generalize (FF.nsm m B).2 = y at *
    have : (1 + y) * FF.inv (1 - y) * (1 - y) = (1 + y) * ((1 - y) * FF.inv (1 - y)) := by clear i1 hU; grind
    rw [this, i1]; grind
  rw [go hm hk jm em, go hk hm jk ek, Nat.mul_comm]
theorem rd32 {v : Nat} (h : v < p25) : rdN (A0J 8 32 v 255) = v := by
  unfold rdN
  rw [if_pos (P0 _ _ _ _), B50, show (57896044618658097711785492504343953926634992332820282019728792003956564819968 : Nat) = 2 ^ 255 from rfl, Nat.mod_mod, Nat.mod_eq_of_lt (a := v) (b := 2 ^ 255) (Nat.lt_trans h qD), Nat.mod_eq_of_lt h]
theorem B3F (x : Nat) : (x &&& 248) % 8 = 0 := by
  have := Nat.and_mod_two_pow (a := x) (b := 248) (n := 3)
  rw [show (2 : Nat) ^ 3 = 8 from rfl] at this
  rw [this]; simp
theorem B3G {w : LN} (h : ∀ x ∈ w, x < 256) : ∃ m, bv (G8 w) = 8 * m ∧ 2 ^ 251 ≤ m ∧ m < 2 ^ 252 := by
  have hl := A19 w
  have hlt := A6k h
  have hb := B75 hlt
  rw [hl] at hb
  have b0 := A6U hlt 0
  have b31 := A6U hlt 31
  have hf := K0 w 32
  have e0 : (G8 w).getD 0 0 = (F7 w 32).getD 0 0 &&& 248 := by
    unfold G8
    dsimp only
    rw [List.getD_eq_getElem?_getD, List.getElem?_set_ne qD, List.getElem?_set_self qO]
    rfl
  have e31 : ∃ z, (G8 w).getD 31 0 = z % 128 ||| 64 := by
    refine ⟨((F7 w 32).set 0 ((F7 w 32).getD 0 0 &&& 248)).getD 31 0, ?_⟩
    unfold G8
    dsimp only
    rw [List.getD_eq_getElem?_getD, List.getElem?_set_self (by rw [List.length_set]; omega)]
    rfl
  obtain ⟨z, e31⟩ := e31
  rw [e0] at b0
  rw [e31] at b31
  have z1 : 64 ≤ z % 128 ||| 64 := Nat.right_le_or
  have z2 : z % 128 ||| 64 < 2 ^ 7 := Nat.or_lt_two_pow (Nat.mod_lt _ qD) qD
  have c8 := B3F ((F7 w 32).getD 0 0)
  generalize (F7 w 32).getD 0 0 &&& 248 = c at *
  generalize z % 128 ||| 64 = y at *
  generalize bv (G8 w) = b at *
  clear e0 e31 hl hlt hf
  rw [Nat.pow_zero, Nat.div_one] at b0
  have d31 : b / 256 ^ 31 < 256 := Nat.div_lt_of_lt_mul (by rw [← Nat.pow_succ]; exact hb)
  rw [Nat.mod_eq_of_lt d31] at b31
  have l1 : 64 * 256 ^ 31 ≤ b := by have := (Nat.le_div_iff_mul_le (show 0 < 256 ^ 31 by decide)).1 (show 64 ≤ b / 256 ^ 31 by omega); exact this
  have l2 : b < 128 * 256 ^ 31 := by have := (Nat.div_lt_iff_lt_mul (show 0 < 256 ^ 31 by decide)).1 (show b / 256 ^ 31 < 128 by omega); exact this
  have h8 : b % 8 = 0 := by omega
  refine ⟨b / 8, by omega, ?_, ?_⟩
  · have : (64 : Nat) * 256 ^ 31 = 8 * 2 ^ 251 := by decide
    omega
  · have : (128 : Nat) * 256 ^ 31 = 8 * 2 ^ 252 := by decide
    omega
theorem A7W {w : LN} (h : ∀ x ∈ w, x < 256) : bv (G8 w) < 2 ^ 255 ∧ ¬ lN ∣ bv (G8 w) + bv (G8 w) := by
  obtain ⟨m, e, h1, h2⟩ := B3G h
  rw [e]
  refine ⟨by have : (2 : Nat) ^ 255 = 8 * 2 ^ 252 := by decide
             omega, fun hd => ?_⟩
  rw [show 8 * m + 8 * m = 16 * m by omega] at hd
  rcases prL.mul hd with h3 | h3
  · exact absurd (Nat.le_of_dvd qD h3) qD
  · have := Nat.le_of_dvd (by have : (0 : Nat) < 2 ^ 251 := by decide
                              omega) h3
    have : (2 : Nat) ^ 252 < lN := by decide
    omega
theorem b_u : fF 9 * (1 - bPt.2) = 1 + bPt.2 := by decide +kernel
theorem B94 : 1 - bPt.2 ≠ 0 ∧ 1 + bPt.2 ≠ 0 := by decide +kernel
theorem b_no : bPt ≠ ((0 : Fin p25), (1 : Fin p25)) := fun h => B94.1 (by rw [h]; rfl)
theorem B6s : rdN A8L = 9 := by decide +kernel
theorem A6m {t : LN} : rdN (A0o t) = fM (A0e 9 (bv (G8 t)) 255).a (fI (A0e 9 (bv (G8 t)) 255).b) := by
  unfold A0o x25
  rw [B6s]
  exact rd32 (A0f _ _)
theorem B3H {s t : LN} (hs : ∀ x ∈ s, x < 256) (ht : ∀ x ∈ t, x < 256) : x25 s (A0o t) = x25 t (A0o s) := by
  obtain ⟨s1, s2⟩ := A7W hs
  obtain ⟨t1, t2⟩ := A7W ht
  unfold x25
  rw [B3E b_on b_no B6l (b := 9) qD b_u B94.1 B94.2 t1 s1 t2 s2 (um := rdN (A0o t)) (uk := rdN (A0o s)) A6m A6m]

theorem A5k {w : LN} {n : Nat} (h : w.length = n) : F7 w n = w := by
  unfold F7; rw [List.take_of_length_le qO, h, Nat.sub_self]; simp
theorem B0X (w : LN) : (A0o w).length = 32 := A2a _ _
theorem B3I (x y : Int) : srt x y = srt y x := by
  unfold srt
  rcases Int.lt_trichotomy x y with h | h | h
  · rw [if_neg qO, if_pos h]
  · subst h; rfl
  · rw [if_pos h, if_neg qO]
def B6t (i j : Nat) : Tm := ⟨4, srt ((i : Nat) : Int) ((j : Nat) : Int), [], 0⟩
theorem B6u {i j : Nat} (hi : i ≤ 1048576) (hj : j ≤ 1048576) : Tmo (B6t i j) := A90 (s := 0) (o := 0) (A1v _ _) (fun z hz => (A9Z hz).elim (fun e => e ▸ A5g hi) (fun e => e ▸ A5g hj)) (.inl rfl)
def B9c (s : Ps) (a b k : LN) : Prop := ∃ i j m : Nat, i < s.ts.length ∧ j < s.ts.length ∧ a = bts ((i : Nat) : Int) ∧ b = bts ((j : Nat) : Int) ∧ s.ts[m]? = some (B6t i j) ∧ k = bts ((m : Nat) : Int)
def A2c (s : Ps) (a b k : LN) : Prop := if s.real then k = x25 (F7 a 32) (A0o (F7 b 32)) ∧ (∀ x ∈ a, x < 256) ∧ ∀ x ∈ b, x < 256 else B9c s a b k
theorem A2c.t {s : Ps} (h : s.real = true) {a b k : LN} : A2c s a b k ↔ k = x25 (F7 a 32) (A0o (F7 b 32)) ∧ (∀ x ∈ a, x < 256) ∧ ∀ x ∈ b, x < 256 := by unfold A2c; rw [if_pos h]
theorem A2c.f {s : Ps} (h : s.real = false) {a b k : LN} : A2c s a b k ↔ B9c s a b k := by unfold A2c; rw [if_neg (by rw [h]; decide)]
theorem B9c.ext {s s' : Ps} {a b k : LN} (h : B9c s a b k) (he : Pext s s') : B9c s' a b k := by
  obtain ⟨l, e⟩ := he.ts
  obtain ⟨i, j, m, h1, h2, h3, h4, h5, h6⟩ := h
  exact ⟨i, j, m, by rw [e, List.length_append]; omega, by rw [e, List.length_append]; omega, h3, h4, by rw [e]; exact A3i h5, h6⟩
theorem A2c.ext {s s' : Ps} {a b k : LN} (h : A2c s a b k) (he : Pext s s') : A2c s' a b k := by
  cases hr : s.real with
  | true => rw [A2c.t hr] at h; rw [A2c.t (he.real.trans hr)]; exact h
  | false => rw [A2c.f hr] at h; rw [A2c.f (he.real.trans hr)]; exact h.ext he
theorem A2c.comm {s : Ps} {a b k : LN} (h : A2c s a b k) : A2c s b a k := by
  cases hr : s.real with
  | true =>
    rw [A2c.t hr] at h ⊢
    refine ⟨?_, h.2.2, h.2.1⟩
    rw [h.1]
    exact B3H (A00 h.2.1 32) (A00 h.2.2 32)
  | false =>
    rw [A2c.f hr] at h ⊢
    obtain ⟨i, j, m, h1, h2, h3, h4, h5, h6⟩ := h
    exact ⟨j, i, m, h2, h1, h4, h3, by rw [h5]; unfold B6t; rw [B3I], h6⟩
theorem B6v {ts : List Tm} {i j p : Nat} (hp : ts[p]? = some (B0b ((j : Nat) : Int))) : agT ts ((i : Nat) : Int) ((p : Nat) : Int) = B6t i j := by
  rw [A9Y (t := B0b ((j : Nat) : Int)) qO (by rw [Int.toNat_natCast]; exact hp) ⟨rfl, rfl⟩]
  rfl
theorem B0Y {s : Ps} {i j p : Nat} (hi : i < s.ts.length) (hp : s.ts[p]? = some (B0b ((j : Nat) : Int))) (hl : s.ts.length ≤ 1048576) :
    B5U s (bts ((i : Nat) : Int)) (bts ((p : Nat) : Int)) = { s with ts := add s.ts (B6t i j) } ∧ B7i s (bts ((i : Nat) : Int)) (bts ((p : Nat) : Int)) = bts ((at_ s.ts (B6t i j) : Nat) : Int) := by
  have hpl := (List.getElem?_eq_some_iff.1 hp).1
  obtain ⟨a1, a2⟩ := A3j hi hl
  obtain ⟨b1, b2⟩ := A3j hpl hl
  unfold B5U B7i
  rw [a1, a2, b1, b2, B6v hp]
  exact ⟨rfl, rfl⟩
theorem A2d {s : Ps} (h : s.real = true) (a B : LN) : W9 s a B = s ∧ A0p s a B = x25 (F7 a 32) (F7 B 32) := by unfold W9 A0p; rw [if_pos h, if_pos h]; exact ⟨rfl, rfl⟩
theorem A2e {s : Ps} (h : s.real = false) (a B : LN) : W9 s a B = B5U s a B ∧ A0p s a B = B7i s a B := by unfold W9 A0p; rw [if_neg (by rw [h]; decide), if_neg (by rw [h]; decide)]; exact ⟨rfl, rfl⟩
theorem B4K (s : Ps) (a B : LN) : Ext s (W9 s a B) := by
  cases hr : s.real with
  | true => rw [(A2d hr a B).1]; exact Ext.refl s
  | false =>
    rw [(A2e hr a B).1]
    obtain ⟨l1, e1⟩ := A1x s.ts a
    obtain ⟨l2, e2⟩ := A1x (rdT s.ts a) B
    obtain ⟨l3, e3⟩ := A5f (rdT (rdT s.ts a) B) (agT (rdT (rdT s.ts a) B) ((rdI s.ts a : Nat) : Int) ((rdI (rdT s.ts a) B : Nat) : Int))
    refine ⟨⟨rfl, l1 ++ (l2 ++ l3), ?_⟩, rfl, Nat.le_refl _⟩
    show add _ _ = _
    rw [e3, e2, e1]; simp
theorem A3C (s : Ps) (a B : LN) : (W9 s a B).ts.length ≤ s.ts.length + 3 := by
  cases hr : s.real with
  | true => rw [(A2d hr a B).1]; omega
  | false =>
    rw [(A2e hr a B).1]
    have h1 := U0 (ts := s.ts) (ws := a)
    have h2 := U0 (ts := rdT s.ts a) (ws := B)
    have h3 := A1t (ts := rdT (rdT s.ts a) B) (t := agT (rdT (rdT s.ts a) B) ((rdI s.ts a : Nat) : Int) ((rdI (rdT s.ts a) B : Nat) : Int))
    show (add _ _).length ≤ _
    omega
theorem B6w (s : Ps) (a B : LN) : (W9 s a B).n = s.n := by unfold W9; split <;> rfl
theorem B8v {s : Ps} {a b B : LN} (ha : Kok s a) (hB : U6 s b B) (ht : Tok s.ts) (hl : s.ts.length ≤ 1048576) (h1 : ∀ x ∈ a, x < 256) (h2 : ∀ x ∈ b, x < 256) : A2c (W9 s a B) a b (A0p s a B) ∧ Tok (W9 s a B).ts := by
  cases hr : s.real with
  | true =>
    rw [(A2d hr a B).1, (A2d hr a B).2, A2c.t hr]
    unfold U6 at hB
    rw [if_pos hr] at hB
    rw [hB, A5k (B0X _)]
    exact ⟨⟨rfl, h1, h2⟩, ht⟩
  | false =>
    unfold U6 at hB
    rw [if_neg (by rw [hr]; decide)] at hB
    obtain ⟨i, hi, rfl⟩ := ha hr
    obtain ⟨j, p, hj, rfl, hp, rfl⟩ := hB
    obtain ⟨e1, e2⟩ := B0Y hi hp hl
    rw [(A2e hr _ _).1, (A2e hr _ _).2, e1, e2]
    obtain ⟨l, g1, g2, g3, g4⟩ := A3Y (B6u (show i ≤ 1048576 by omega) (show j ≤ 1048576 by omega)) ht
    exact ⟨(A2c.f (s := { s with ts := add s.ts (B6t i j) }) hr).2 ⟨i, j, _, by show i < (add s.ts _).length; rw [g1, List.length_append]; omega, by show j < (add s.ts _).length; rw [g1, List.length_append]; omega, rfl, rfl, g3, rfl⟩, g4⟩
theorem A2c.eq {s : Ps} {a b B k : LN} (h : A2c s a b k) (hB : U6 s b B) (ht : Tok s.ts) (hl : s.ts.length ≤ 1048576) : W9 s a B = s ∧ A0p s a B = k := by
  cases hr : s.real with
  | true =>
    rw [A2c.t hr] at h
    unfold U6 at hB
    rw [if_pos hr] at hB
    rw [(A2d hr a B).1, (A2d hr a B).2, hB, A5k (B0X _), h.1]
    exact ⟨rfl, rfl⟩
  | false =>
    rw [A2c.f hr] at h
    unfold U6 at hB
    rw [if_neg (by rw [hr]; decide)] at hB
    obtain ⟨i, j, m, g1, g2, rfl, rfl, g3, rfl⟩ := h
    obtain ⟨j', p, hj, e, hp, rfl⟩ := hB
    have := B5S qO qO e
    subst this
    obtain ⟨e1, e2⟩ := B0Y g1 hp hl
    obtain ⟨e3, e4⟩ := B5R ht g3
    rw [(A2e hr _ _).1, (A2e hr _ _).2, e1, e2, e3, e4]
    exact ⟨rfl, rfl⟩
theorem A63 (seed : LN) (i : Nat) : B85 seed i = W8 (W8 [] seed) (([107, 101, 121] ++ A7B i) ++ [1]) := by
  unfold B85
  rw [← A0B]
  exact B3r _ _
def aw0 (r : Bool) : Ps := ⟨r, [115], 0, []⟩
noncomputable def aw2 (r : Bool) : Ps := E2 (E2 (aw0 r))
end Go.Proofs.YtlilcmjbaknafaaGreatDoor
namespace Go.Px
section
variable {C : Cx} {l : Env} {M J : Mem} {K : Env → Mem → Mem → Prop} {ty t : TypeId} {pos : String} {af : Array Edge} {g : Option (Nat × Bool)} {x y : Operand} {v : Value} {xs : List Value} {n j sz : Nat} {B M0 : Mem}
end
def kpt {β : Type} (p : Nat → Bool) (rows : List β) : Nat → List β
  | 0 => []
  | j + 1 => kpt p rows j ++ (if p j then [] else rows[j]?.toList)
structure Dfs (sz : Nat) (p : Nat → Bool) (rows cur : List (List Value)) (j i : Nat) : Prop where
  jn : j ≤ rows.length
  ki : i = (kpt p rows j).length
  ij : i < j
  cl : cur.length = rows.length
  ct : cur.take i = kpt p rows j
  cd : cur.drop j = rows.drop j
  cs : ∀ r ∈ cur, r.length = sz
  cr : ∀ r ∈ cur, r ∈ rows
section
variable {sz : Nat} {p : Nat → Bool} {rows cur : List (List Value)} {j i i0 : Nat} {r : List Value}
theorem Dfs.skip (h : Dfs sz p rows cur j i) (hjl : j < rows.length) (hp : p j = true) : Dfs sz p rows cur (j + 1) i := by
  obtain ⟨h1, h2, h3, h4, h5, h6, h7, h8⟩ := h
  have hk : kpt p rows (j + 1) = kpt p rows j := by rw [kpt, hp]; simp
  exact ⟨hjl, by rw [hk]; exact h2, by omega, h4, by rw [hk]; exact h5, by rw [← List.drop_drop, ← List.drop_drop, h6], h7, h8⟩
end
end Go.Px

namespace Go.Proofs.YtlilcmjbaknafaaGreatDoor
open Go.Px
theorem A0C (s : Ps) : (E2 s).ts.length ≤ s.ts.length + 1 ∧ (E2 s).n = s.n + 1 := by
  unfold E2
  split
  · exact ⟨by simp, rfl⟩
  · refine ⟨?_, rfl⟩
    show (add s.ts _).length ≤ _
    unfold add
    split <;> simp
theorem A3D (s : Ps) (w : LN) : (K1 s w).ts.length ≤ s.ts.length + 2 := by
  unfold K1
  split
  · omega
  · have h1 := U0 (ts := s.ts) (ws := w)
    have h2 := A1t (ts := rdT s.ts w) (t := B0b ((rdI s.ts w : Nat) : Int))
    show (add (rdT s.ts w) _).length ≤ _
    omega
theorem B6x (s : Ps) (w : LN) : (K1 s w).n = s.n := by unfold K1; split <;> rfl
theorem A3E (s : Ps) (w : LN) : (H5 s w).length = 32 := by
  unfold H5
  split
  · exact A2a _ _
  · exact A0w _ qD
def A3F : LN := [114, 111, 111, 116]
noncomputable def A2O (s : Ps) (root sec pub : LN) : Ps := A3X (W9 s sec pub) root [A0p s sec pub] A3F 2
noncomputable def B8w (s : Ps) (root sec pub : LN) : List (LN) := A5v (W9 s sec pub) root [A0p s sec pub] A3F 2
noncomputable def A7X (s : Ps) (root sec pub : LN) : LN := (B8w s root sec pub).getD 0 []
noncomputable def A6y (s : Ps) (root sec pub : LN) : LN := (B8w s root sec pub).getD 1 []
theorem A09 (s : Ps) (root sec pub : LN) : (A2O s root sec pub).ts.length ≤ s.ts.length + 7 ∧ (A2O s root sec pub).n = s.n := by
  have h1 := A3C s sec pub
  have h2 := A2I (W9 s sec pub) root [A0p s sec pub] A3F 2
  have h3 := B6w s sec pub
  have h4 := (A1T (W9 s sec pub) root [A0p s sec pub] A3F 2).2.1
  have e : [A0p s sec pub].length = 1 := rfl
  unfold A2O
  omega
structure Rsd where
  own : LN
  their : LN
  root : LN
  sk : LN
  sn : Nat
  tk : LN
  tn : Nat
  prev : Nat
  sks : List Skp
def StF (R : Mem) (v : Value) (sks : List Skp) : Prop := ∃ sb u rows, v = (vP sb) ∧ (sb, blk [u] 80) ∈ R ∧ Rd R 3 u sks.length rows.flatten ∧ RwL skR R rows sks
theorem StF.mono {R R' : Mem} {v : Value} {sks : List Skp} (h : StF R v sks) (hR : ∀ x, x ∈ R → x ∈ R') : StF R' v sks := by
  obtain ⟨sb, u, rows, h1, h2, h3, h4⟩ := h
  exact ⟨sb, u, rows, h1, hR _ h2, h3.mono hR, h4.mono skT hR⟩
def rsC (vo vt vr vk vl vs : Value) (r : Rsd) : List Value := [vo, vt, vr, vk, (vU r.sn), vl, (vU r.tn), (vU r.prev), vs]
structure RsR (R : Mem) (r : Rsd) (vo vt vr vk vl vs : Value) : Prop where
  own : By R vo r.own
  their : By R vt r.their
  root : By R vr r.root
  sk : By R vk r.sk
  tk : By R vl r.tk
  st : StF R vs r.sks
  sn : r.sn < 4294967296
  tn : r.tn < 4294967296
  prev : r.prev < 4294967296
  sks : r.sks.length ≤ 1000
theorem RsR.mono {R R' : Mem} {r : Rsd} {vo vt vr vk vl vs : Value} (h : RsR R r vo vt vr vk vl vs) (hR : ∀ x, x ∈ R → x ∈ R') : RsR R' r vo vt vr vk vl vs :=
  ⟨h.own.mono hR, h.their.mono hR, h.root.mono hR, h.sk.mono hR, h.tk.mono hR, h.st.mono hR, h.sn, h.tn, h.prev, h.sks⟩
theorem StF.one {R : Mem} {v : Value} {sks : List Skp} (h : StF R v sks) : v.oneCell' = true := by obtain ⟨sb, u, rows, rfl, _⟩ := h; rfl
theorem StF.new {b : Nat} {R : Mem} (h : (b, blk [vS] 80) ∈ R) : StF R (vP b) [] := ⟨b, _, [], rfl, h, Rd.nil, RwL.nil⟩
def RsV (R : Mem) (v : Value) (r : Rsd) : Prop := ∃ vo vt vr vk vl vs, v = .agg (rsC vo vt vr vk vl vs r).toArray ∧ RsR R r vo vt vr vk vl vs
theorem RsV.mono {R R' : Mem} {v : Value} {r : Rsd} (h : RsV R v r) (hR : ∀ x, x ∈ R → x ∈ R') : RsV R' v r := by
  obtain ⟨vo, vt, vr, vk, vl, vs, e, g⟩ := h
  exact ⟨vo, vt, vr, vk, vl, vs, e, g.mono hR⟩
noncomputable def B1W (s : Ps) (sec their : LN) : Rsd := ⟨G2 s, their, A7X (E2 s) sec (G2 s) their, A6y (E2 s) sec (G2 s) their, 0, [], 0, 0, []⟩
noncomputable def B0Z (s : Ps) (sec their : LN) : Ps := A2O (E2 s) sec (G2 s) their
def B8x (sec own : LN) : Rsd := ⟨own, [], sec, [], 0, [], 0, 0, []⟩
theorem Y9 (v : Value) (w : LN) (A : Mem) (h : By A v w) : FnX Tryz.prog 29 [v] [] A fun r M J => M = [] ∧ By J r w := by
 haveI := h.cel
 have hwl := h.len
 refine FnX.enterZ (N := 8) Tryz.func29 rfl rfl rfl fun w_ => ?_
 refine B0 (D7 0) (A1 (as_ (A0 (D7 0) (A3 (A1 (mv_ ?_))))))
 refine A2 (A1R (e := 5) rfl kR (by first | assumption | exact Sl.rd (by assumption) qI | exact By.rd (by assumption))) rfl ?_
 refine A0 (D2 0 4) ?_
 refine C1 rfl ?_ ?_ <;> intro hc
 ·
  have h0 := h.rd.isNil hc
  obtain rfl : w = [] := List.eq_nil_of_length_eq_zero h0
  refine A1 (as_ (A0 (D7 2) (B4 (tr ?_))))
  exact ⟨_, [], [], K9 rfl rfl, qZ, rfl, By.nil⟩
 ·
  refine A6 (nx (D7 0) (A1 ?_))
  refine A5 rfl (C3 (e := 5) (sz := 1) (z := []) kR e0 bd0 rfl fun b5 => ?_)
  refine mv_ ?_
  refine A5 rfl (F9 (e := 5) (sz := 1) (by_ := 1) rfl rfl kR rfl (Sl.fresh (n := 0) (cs := []) (e := 5) rfl qD) (h.rd.mono qS) E5 qP (by unfold maxLen; omega) qO rfl fun v7 B7 hs7 => ?_)
  refine as_ (A0 (D7 2) (B4 ?_))
  exact ⟨_, [], B7, K9 rfl rfl, Fit.pick qP qZ, rfl, ⟨A0H (hs7.rd fun x hx => by simp [hx]) qO qM, h.lt, h.len⟩⟩
theorem B00 (pb : Nat) (s : Ps) (v1 v2 v3 : Value) (root sec pub : LN) (MP A : Mem) (hP : Prm pb s MP) (hn : s.ts.length + 100 ≤ 1040000) (h1 : By A v1 root) (h2 : By A v2 sec) (h3 : By A v3 pub) (hG : Glb A) : FnX Tryz.prog 52 [(vP pb), v1, v2, v3] MP A fun q M J => ∃ u0 u1, q = .tuple #[u0, .agg #[u1, (vU 0)]] ∧ Prm pb (A2O s root sec pub) M ∧ By J u0 (A7X s root sec pub) ∧ By J u1 (A6y s root sec pub) := by
 haveI := h1.cel
 haveI := h2.cel
 haveI := h3.cel
 have hal := A3C s sec pub
 refine FnX.enterZ (N := 30) Tryz.func52 rfl rfl rfl fun w_ => ?_
 refine B0 (D8 0 1 2 3) (A1 (as_ ?_))
 refine A5 rfl (C4 (cs := [vS, .int .u32 0]) kR rfl fun b9 => ?_)
 refine A0 (E4 0 1 2 3 9) (A1 (mv_ (mv_ (mv_ (mv_ (mv_ ?_))))))
 refine A5 rfl (E0 (Mc := MP) (R := _) (aS rfl (aS rfl (aS rfl (a0)))) kR qP (B6p pb s v2 v3 sec pub MP _ hP qO (h2.mono qS) (h3.mono qS) hG.up) rfl ?_)
 rintro v16 M16 J16 ⟨hP16, h16⟩
 haveI := h16.cel
 refine A5 rfl (C3 (e := 26) (sz := 1) (z := [vS]) kR (eS rfl e0) (bdS 0 1 rfl qR bd0) rfl fun b17 => ?_)
 refine A5 rfl (E0 (Mc := M16) (R := _) (aS rfl (aS rfl (aS rfl (aS rfl (aS rfl (a0)))))) kR qP (A3h pb (W9 s sec pub) v1 (.slice (some ⟨b17, 0, none⟩) 1 1) root A3F [A0p s sec pub] 2 M16 _ hP16 (h1.mono qS) ⟨[v16], Rd.whole (n := 1) At.mem qR, Lst.cons (h16.mono qS) Lst.nil⟩ (show 1 ≤ 1000 by decide) ⟨by decide⟩ qD qD qD qO hG.up) rfl ?_)
 rintro v18 M18 J18 ⟨hP18, hL18⟩
 have hlen := A7U (W9 s sec pub) root [A0p s sec pub] A3F 2
 obtain ⟨us, u0, u1, hr, hu0, hu1, hb0, hb1⟩ := B0T hL18 hlen
 haveI := hr.cel
 haveI := hb0.cel
 haveI := hb1.cel
 refine as_ (A0 (D2 9 10) (A3 (A1 (mv_ ?_))))
 refine A2 (G1 (sz := 1) rfl kR hr) rfl ?_
 refine A2 (E9 false rfl rfl (neF rfl)) rfl ?_
 refine A0 (D6 9 10 21) ?_
 refine C6 rfl ?_
 refine A6 (nx (D2 9 10) ?_)
 refine C9 (.range 8) (zp 0 [0, 0, 1, 0, 0, 1, 0, 0, 2]) kR kR fun hs => ?_
 refine fm_ hs ?_
 refine C2 hs rfl (I5 (sz := 1) (a := 0) rfl rfl kR rfl hr qD) rfl ?_
 refine G4 hs rfl (A0i (u := u0) (hr.mono qS) rfl kR hu0) rfl ?_
 refine fm_ hs ?_
 refine C2 hs rfl (I5 (sz := 1) (a := 1) rfl rfl kR rfl hr qD) rfl ?_
 refine G4 hs rfl (A0i (u := u1) (hr.mono qS) rfl kR hu1) rfl ?_
 refine C2 hs rfl (G6 (place := fun x => #[(0, 1), (1, 1)][x]?) (z := [vS, .int .u32 0]) (fun _ => by kernel_rfl) (eS rfl e0) (bdS 0 1 rfl qR bd0)) rfl ?_
 refine fa_ hs ?_
 refine F5 rfl rfl rfl (A9 rfl rfl Cel.cel kR qR (by intro c hc; simp only [List.mem_cons, List.not_mem_nil, or_false] at hc; rcases hc with rfl | rfl; exact hb1.one; rfl) UpC.upd ?_)
 refine E7 (D2 8 9) (B4 ?_)
 exact ⟨_, M18, [], B4H (n := 2) rfl rfl rfl kR At.mem qR, Fit.none (Fit.last qP), u0, u1, rfl, hP18, hb0.mono (fun x hx => by simp [hx]), hb1.mono (fun x hx => by simp [hx])⟩

end Go.Proofs.YtlilcmjbaknafaaGreatDoor
