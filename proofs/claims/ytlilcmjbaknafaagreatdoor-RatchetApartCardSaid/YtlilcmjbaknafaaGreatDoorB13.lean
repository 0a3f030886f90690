/- Part 13 of the texts of this claim, one behind the other. -/
import Derived.Test.YtlilcmjbaknafaaGreatDoorB12
import Derived.Test.YtlilcmjbaknafaaGreatDoorRows
set_option linter.unusedVariables false
set_option linter.unusedSimpArgs false
set_option maxRecDepth 100000
namespace Go.Proofs.YtlilcmjbaknafaaGreatDoor
open Go.Px
structure Skp where
  of : List Nat
  n : Nat
  key : List Nat
deriving DecidableEq
def skR (R : Mem) (s : Skp) (r : List Value) : Prop := ∃ vo vk, r = [vo, .int .u32 ((s.n : Nat) : Int), vk] ∧ By R vo s.of ∧ By R vk s.key ∧ s.n < 4294967296
theorem skT : RowT 3 skR := ⟨fun R R' x r hR ⟨vo, vk, h1, h2, h3, h4⟩ => ⟨vo, vk, h1, h2.mono hR, h3.mono hR, h4⟩, fun R x r ⟨vo, vk, h1, _⟩ => by rw [h1]; rfl, fun R x r ⟨vo, vk, h1, h2, h3, _⟩ c hc => by
  rw [h1] at hc
  simp only [List.mem_cons, List.not_mem_nil, or_false] at hc
  rcases hc with rfl | rfl | rfl
  · exact h2.one
  · rfl
  · exact h3.one⟩
structure Sto (R : Mem) (sb : Nat) (sks : List Skp) (M : Mem) : Prop where
  ex : ∃ v rows B, M = (sb, blk [v] 80) :: B ∧ Sl 3 v sks.length rows.flatten B ∧ RwL skR R rows sks
theorem Sto.mono {R R' : Mem} {sb : Nat} {sks : List Skp} {M : Mem} (h : Sto R sb sks M) (hR : ∀ x, x ∈ R → x ∈ R') : Sto R' sb sks M := by
  obtain ⟨v, rows, B, h1, h2, h3⟩ := h.ex
  exact ⟨v, rows, B, h1, h2, h3.mono skT hR⟩
def tst (of : List Nat) (n : Nat) (s : Skp) : Bool := decide (s.n = n) && decide (s.of = of)
def A4u (sks : List Skp) (of : List Nat) (n : Nat) : List Skp := if A1i (tst of n) sks < 0 then sks else sks.eraseIdx (A1i (tst of n) sks).toNat
def A7M (sks : List Skp) (x : Skp) : List Skp := (A4u sks x.of x.n ++ [x]).drop ((A4u sks x.of x.n ++ [x]).length - 32)
theorem A5j {sks : List Skp} {of : List Nat} {n : Nat} (h : A1i (tst of n) sks = -1) : A4u sks of n = sks := if_pos (by rw [h]; decide)
theorem A2T {sks : List Skp} {of : List Nat} {n i : Nat} (h : A1i (tst of n) sks = (i : Int)) : A4u sks of n = sks.eraseIdx i := by
  unfold A4u; rw [h, if_neg (by omega), Int.toNat_natCast]
theorem A5k (sks : List Skp) (of : List Nat) (n : Nat) : (A4u sks of n).length ≤ sks.length := by
  unfold A4u; split
  · exact Nat.le_refl _
  · exact List.length_eraseIdx_le _ _
theorem A7N (sks : List Skp) (x : Skp) : (A7M sks x).length ≤ 32 := by
  unfold A7M; rw [List.length_drop]; omega
theorem B3p (vo vk vof : Value) (s : Skp) (of : List Nat) (n : Nat) (b4 b5 : Nat) (A : Mem) (ho : By A vo s.of) (hk : By A vk s.key) (hof : By A vof of) (hb5 : (b5, blk [.int .u32 ((n : Nat) : Int)] 27) ∈ A) (hb4 : (b4, blk [vof] 26) ∈ A) : FnV Tryz.prog 62 [.agg #[vo, .int .u32 ((s.n : Nat) : Int), vk], .pointer (some ⟨b5, 0, none⟩), .pointer (some ⟨b4, 0, none⟩)] A (.bool (tst of n s)) := by
 haveI := ho.cel
 haveI := hk.cel
 haveI := hof.cel
 refine FnX.enter (N := 15) Tryz.func62 rfl rfl rfl fun w => ?_
 refine B0 (D4 0 1 2) (A1 ?_)
 refine A4 rfl (bx_ fun b3 => ?_)
 refine as_ (A0 (D4 1 2 3) (A1 ?_))
 refine A2 (qf_ 1 1) rfl ?_
 refine A2 ql_ rfl ?_
 refine A2 (I9 rfl kR (mA hb5) (by rfl)) rfl ?_
 refine A2 (D8 rfl rfl rfl) rfl ?_
 refine mv_ ?_
 refine X3 (t := 9) rfl (fun hb => ?_) (fun hb => ?_)
 ·
  have hnn : s.n = n := by simp at hb; omega
  refine F8 rfl rfl (OpQ.opL (qf_ 0 0) rfl ?_)
  refine F8 rfl rfl (OpQ.opL ql_ rfl ?_)
  refine F8 rfl rfl (OpQ.opL (I9 rfl kR (mA hb4) (by rfl)) rfl ?_)
  refine A5G rfl rfl (aS rfl (aS rfl a0)) kR (P5 vo vof s.of of _ (ho.mono SubC.sub) (hof.mono SubC.sub)) rfl ?_
  refine A2 (E1 rfl rfl) rfl ?_
  refine as_ (A0 (D7 4) (B4 ?_))
  exact ⟨_, [], [], I7 rfl rfl, List.nil_sublist _, by simp, by unfold tst; rw [hnn]; simp, rfl, rfl⟩
 ·
  have hnn : s.n ≠ n := by simp at hb; omega
  refine K3 rfl rfl rfl rfl ?_
  refine K3 rfl rfl rfl rfl ?_
  refine K3 rfl rfl rfl rfl ?_
  refine K3 rfl rfl rfl rfl ?_
  refine A2 (F6 rfl rfl) rfl ?_
  refine as_ (A0 (D7 4) (B4 ?_))
  exact ⟨_, [], [], I7 rfl rfl, List.nil_sublist _, by simp, by unfold tst; simp [hnn], rfl, rfl⟩
theorem B3q {vof : Value} {sks : List Skp} {rows : List (List Value)} {of : List Nat} {n b4 b5 : Nat} {A : Mem} (hR : RwL skR A rows sks) (hof : By A vof of) (hb5 : (b5, blk [.int .u32 ((n : Nat) : Int)] 27) ∈ A) (hb4 : (b4, blk [vof] 26) ∈ A) :
    ∀ (j : Nat) (r : List Value), rows[j]? = some r → FnV Tryz.prog 62 (.agg r.toArray :: [.pointer (some ⟨b5, 0, none⟩), .pointer (some ⟨b4, 0, none⟩)]) A (.bool ((fun j => (sks[j]?.map (tst of n)).getD false) j)) := fun j r hr => by
  obtain ⟨s, hs, vo, vk, rfl, ho, hk, _⟩ := hR.of hr
  dsimp only
  rw [hs]
  exact B3p vo vk vof s of n b4 b5 _ ho hk hof hb5 hb4
theorem A3D (sb : Nat) (v vof : Value) (rows : List (List Value)) (sks : List Skp) (of : List Nat) (n : Nat) (A : Mem) (hsb : (sb, blk [v] 80) ∈ A) (hv : Rd A 3 v sks.length rows.flatten) (hR : RwL skR A rows sks) (hl : sks.length ≤ 1000000) (hof : By A vof of) : FnV Tryz.prog 34 [.pointer (some ⟨sb, 0, none⟩), vof, .int .u32 ((n : Nat) : Int)] A (.int .i64 (A1i (tst of n) sks)) := by
 haveI := hof.cel
 haveI := hv.cel
 refine FnX.enter (N := 15) Tryz.func34 rfl rfl rfl fun w => ?_
 refine B0 (D4 0 1 2) (A1 ?_)
 refine A4 rfl (bx_ fun b4 => ?_)
 refine A4 rfl (bx_ fun b5 => ?_)
 refine as_ (A0 (D4 0 4 5) (A3 (A1 (mv_ ?_))))
 refine A2 (H2 (e := 80) rfl rfl kR) rfl ?_
 refine A0 (D6 0 4 5 8) ?_
 refine D0 rfl ?_
 refine A6 (nx (D4 0 4 5) (A1 (mv_ ?_)))
 refine A2 (E8 rfl) rfl ?_
 refine A2 (qf_ 0 0) rfl ?_
 refine A2 (I9 rfl kR (mA hsb) (by rfl)) rfl ?_
 refine A2 (B3c (aS rfl (aS rfl a0))) rfl ?_
 refine F3 (aS rfl (aS rfl a0)) kR (A8I v rows 62 [.pointer (some ⟨b5, 0, none⟩), .pointer (some ⟨b4, 0, none⟩)] (fun j => (sks[j]?.map (tst of n)).getD false) _ (by rw [hR.len]; exact hv.mono SubC.sub) (hR.lens skT) (by rw [hR.len]; omega) kR (B3q (hR.mono skT SubC.sub) (hof.mono SubC.sub) (by simp) (by simp))) rfl ?_
 refine as_ (A0 (D7 6) (B4 ?_))
 exact ⟨_, [], [], I7 rfl rfl, List.nil_sublist _, by simp, by rw [hR.len]; rfl, rfl, rfl⟩

theorem B0S {M B R B' : Mem} (h : M.Perm (B ++ R)) (hs : B'.Sublist B) : Fit M B' := ⟨_, h, hs.trans (List.sublist_append_left _ _)⟩
theorem Sl.cast {sz n n' : Nat} {v : Value} {xs xs' : List Value} {B : Mem} (h : Sl sz v n xs B) (h1 : n = n') (h2 : xs = xs') : Sl sz v n' xs' B := by subst h1; subst h2; exact h
def A5l (sks : List Skp) (of : List Nat) (n : Nat) : Option (List Nat) := if A1i (tst of n) sks < 0 then none else (sks[(A1i (tst of n) sks).toNat]?).map (·.key)
theorem B0T {sks : List Skp} {of : List Nat} {n : Nat} (h : A1i (tst of n) sks = -1) : A5l sks of n = none := if_pos (by rw [h]; decide)
theorem A7O {sks : List Skp} {of : List Nat} {n i : Nat} {x : Skp} (h : A1i (tst of n) sks = (i : Int)) (hx : sks[i]? = some x) : A5l sks of n = some x.key := by
  unfold A5l; rw [h, if_neg (by omega), Int.toNat_natCast, hx]; rfl
theorem A7P (sb : Nat) (vof vk : Value) (sks : List Skp) (of key : List Nat) (n : Nat) (R MS A : Mem) (hS : Sto R sb sks MS) (hR : ∀ x, x ∈ R → x ∈ A) (hl : sks.length ≤ 1000000) (hof : By R vof of) (hk : By R vk key) (hn : n < 4294967296) : FnX Tryz.prog 15 [.pointer (some ⟨sb, 0, none⟩), .agg #[vof, .int .u32 ((n : Nat) : Int), vk]] MS A fun q M J => q = .tuple #[] ∧ Sto (J ++ R) sb (A7M sks ⟨of, n, key⟩) M := by
  obtain ⟨v, rows, B, rfl, hsl, hrw⟩ := hS.ex
  haveI := hsl.cel
  haveI := hof.cel
  haveI := hk.cel
  refine FnX.enterZ (N := 59) Tryz.func15 rfl rfl rfl fun w_ => ?_
  refine B0 (D3 0 1) (A1 ?_)
  refine A4 rfl (bx_ fun b3 => ?_)
  refine A0 (D3 0 3) (A3 (A1 (mv_ ?_)))
  refine A2 (H2 (e := 80) rfl rfl kR) rfl ?_
  refine A0 (D4 0 3 6) ?_
  refine D0 rfl ?_
  refine A6 (nx (D3 0 3) ?_)
  refine N3 (α := Value × List (List Value) × Mem) (fun x => [(0, .pointer (some ⟨sb, 0, none⟩)), (3, .pointer (some ⟨b3, 0, none⟩))]) (fun x => (b3, blk [vof, .int .u32 ((n : Nat) : Int), vk] 55) :: (sb, blk [x.1] 80) :: x.2.2) (fun _ => []) (fun x => Sl 3 x.1 (A4u sks of n).length x.2.1.flatten x.2.2 ∧ RwL skR R x.2.1 (A4u sks of n)) ?_ ?_
  ·
    refine A1 (mv_ ?_)
    refine A2 (qf_ 0 0) rfl ?_
    refine A2 ql_ rfl ?_
    refine A2 (qf_ 1 1) rfl ?_
    refine A2 ql_ rfl ?_
    refine F3 (aS rfl (aS rfl (aS rfl a0))) kR (A3D sb v vof rows sks of n _ (by simp) (hsl.rd SubC.sub) (hrw.mono skT (fun x hx => mA (hR x hx))) hl (hof.mono (fun x hx => mA (hR x hx)))) rfl ?_
    refine as_ (A0 (D4 0 3 4) (A1 (mv_ ?_)))
    refine A2 (D8 rfl rfl rfl) rfl ?_
    refine A0 (D6 0 3 4 14) ?_
    refine C0 rfl (fun hc => ?_) (fun hc => ?_)
    ·
      obtain ⟨hf, hz⟩ | ⟨i, x, hf, hxi, hq, hmin⟩ := V0 (tst of n) sks
      · rw [hf] at hc; simp at hc
      have hil := (List.getElem?_eq_some_iff.1 hxi).1
      rw [hf]
      obtain ⟨p, rfl, h0, _, _⟩ | ⟨b, o, cap, cs, e, rfl, rfl, g1, g2, g3, g4, g5⟩ := hsl
      · omega
      refine A8 (mv_ (mv_ ?_))
      refine A2 (E8 rfl) rfl ?_
      refine A2 (qf_ 0 0) rfl ?_
      refine A2 ql_ rfl ?_
      refine mv_ (mv_ ?_)
      refine A2 (I3 (b := 1) rfl rfl rfl rfl (by omega)) rfl ?_
      refine A4 rfl (E0 (Mc := [(b, blk cs e)]) (R := _) (aS rfl (aS rfl (aS rfl a0))) kR PickC.perm (A3C b o cap sks.length i (i + 1) cs rows.flatten e _ g1 g2 g3 g4 g5 (hrw.ones skT) (by omega) (by omega)) rfl ?_)
      rintro v23 M23 J23 ⟨rfl, hs23⟩
      have hsd : Sl 3 v23 (sks.eraseIdx i).length (rows.take i ++ rows.drop (i + 1)).flatten M23 := by
        have h := hs23
        rw [A4s (hrw.lens skT)] at h
        exact Sl.cast h (by rw [List.length_eraseIdx, if_pos hil]; omega) rfl
      haveI := hsd.cel
      refine A2 (E8 rfl) rfl ?_
      refine A2 (qf_ 0 0) rfl ?_
      refine A4 rfl (D5 rfl rfl hsd.one kR SetC.set UpC.upd ?_)
      refine C1 ?_
      exact jn (v23, rows.take i ++ rows.drop (i + 1), M23) ⟨by rw [A2T hf]; exact hsd, by rw [A2T hf]; exact hrw.erase i⟩ (D3 0 3) (Fit.pick (B := [_]) PickC.perm (Fit.pick (B := [_]) PickC.perm (Fit.last PickC.perm))) (fun _ h => by cases h)
    ·
      have hf : A1i (tst of n) sks = -1 := by
        obtain ⟨hf, hz⟩ | ⟨i, x, hf, hxi, hq, hmin⟩ := V0 (tst of n) sks
        · exact hf
        · rw [hf] at hc; (simp at hc) <;> omega
      refine A6 ?_
      exact jn (v, rows, B) ⟨by rw [A5j hf]; exact hsl, by rw [A5j hf]; exact hrw⟩ (D3 0 3) .rfl (fun _ h => h)
  ·
    rintro ⟨v1, rows1, B1⟩ ⟨hsl1, hrw1⟩
    dsimp only at hsl1 hrw1 ⊢
    haveI := hsl1.cel
    have hdl := A5k sks of n
    have hdd : A7M sks ⟨of, n, key⟩ = List.drop ((A4u sks of n ++ [(⟨of, n, key⟩ : Skp)]).length - 32) (A4u sks of n ++ [(⟨of, n, key⟩ : Skp)]) := rfl
    generalize A4u sks of n = ds at *
    rw [List.length_append, List.length_singleton] at hdd
    refine C7 [0, 1, 2, 3, 4, 5, 6, 7, 8, 9, 10, 11, 12, 13, 14, 16, 17] [(0, 0), (1, 0), (2, 0), (3, 0), (4, 1), (5, 0), (6, 1), (8, 0), (9, 1), (10, 0), (11, 1), (7, 2), (12, 2), (13, 0), (14, 2), (15, 2), (16, 0), (17, 0), (18, 2)] kR kR fun hs => ?_
    refine fm_ hs ?_
    refine fm_ hs ?_
    refine C2 hs rfl (E8 rfl) rfl ?_
    refine C2 hs rfl (qf_ 0 0) rfl ?_
    refine G4 hs rfl ql_ rfl ?_
    refine C2 hs rfl (qf_ 0 0) rfl ?_
    refine G4 hs rfl ql_ rfl ?_
    refine C2 hs rfl (qf_ 1 1) rfl ?_
    refine G4 hs rfl ql_ rfl ?_
    refine C2 hs rfl (qf_ 2 2) rfl ?_
    refine G4 hs rfl ql_ rfl ?_
    refine N6 rfl (aS rfl a0) kR (A1E vof of _ (hof.mono (fun x hx => mA (hR x hx)))) rfl ?_
    rintro v33 M33 J33 ⟨rfl, h33⟩
    haveI := h33.cel
    refine N6 rfl (aS rfl a0) kR (A1E vk key _ (hk.mono (fun x hx => mA (hR x hx)))) rfl ?_
    rintro v38 M38 J38 ⟨rfl, h38⟩
    haveI := h38.cel
    refine C2 hs rfl (G1 (place := fun x => #[(0, 1), (1, 1), (2, 1)][x]?) (z := [.slice none 0 0, .int .u32 0, .slice none 0 0]) (fun _ => by kernel_rfl) (eS rfl (eS rfl (eS rfl e0))) (bdS 0 1 rfl (by rfl) (bdS 1 1 rfl (by rfl) (bdS 2 1 rfl (by rfl) bd0)))) rfl ?_
    refine B2n rfl rfl fun _ => (C3 (e := 55) (sz := 3) (z := [.slice none 0 0, .int .u32 0, .slice none 0 0]) kR (eS rfl e0) (bdS 0 3 rfl (by rfl) bd0) rfl fun b40 => ?_)
    refine F5 rfl rfl rfl (H5 (e := 55) (sz := 3) (by_ := 56) rfl rfl kR rfl hsl1 (Rd.whole (n := 1) At.mem (by rfl)) (by intro c hc; simp only [List.mem_cons, List.not_mem_nil, or_false] at hc; rcases hc with rfl | rfl | rfl; exact h33.one; rfl; exact h38.one) PickC.perm (by unfold maxLen; omega) (by omega) rfl fun v41 B41 hs41 => ?_)
    haveI := hs41.cel
    refine C2 hs rfl (E8 rfl) rfl ?_
    refine C2 hs rfl (qf_ 0 0) rfl ?_
    refine F5 rfl rfl rfl (D5 rfl rfl hs41.one kR SetC.set UpC.upd ?_)
    obtain ⟨B42, hsub42, hs42⟩ := hs41.loV (ds.length + 1 - 32) (by omega)
    refine E4 (D7 0) ?_
    refine F9 (.range 15) (zp 0 [0, 0, 0, 0, 1, 0, 0, 0, 1, 0, 0, 0, 0, 0, 0, 2]) kR kR fun hs => ?_
    refine fm_ hs ?_
    refine fm_ hs ?_
    refine C2 hs rfl (E8 rfl) rfl ?_
    refine C2 hs rfl (qf_ 0 0) rfl ?_
    refine G4 hs rfl ql_ rfl ?_
    refine fm_ hs ?_
    refine C2 hs rfl (E8 rfl) rfl ?_
    refine C2 hs rfl (qf_ 0 0) rfl ?_
    refine G4 hs rfl ql_ rfl ?_
    refine C2 hs rfl (G3 (sz := 3) rfl kR (hs41.rd (R := B41) fun _ h => h)) rfl ?_
    refine C2 hs rfl (C8 (((ds.length + 1 : Nat) : Int) - 32) rfl rfl (A0i (by omega) (by omega) (by omega))) rfl ?_
    refine C2 hs rfl (A87 (((ds.length + 1 - 32 : Nat)) : Int) rfl rfl (by split <;> omega)) rfl ?_
    refine C2 hs rfl (A3d (sz := 3) (a := ds.length + 1 - 32) rfl rfl kR rfl (hs41.rd (R := B41) fun _ h => h) (by omega)) rfl ?_
    refine C2 hs rfl (E8 rfl) rfl ?_
    refine C2 hs rfl (qf_ 0 0) rfl ?_
    refine F5 rfl rfl rfl (D5 rfl rfl hs42.one kR SetC.set UpC.upd ?_)
    refine Q9 ?_
    refine ⟨_, (sb, blk [vLo (ds.length + 1 - 32) 3 v41] 80) :: B42, [], B4R rfl, Fit.none (Fit.pick (B := [_]) PickC.perm (B0S (B := B41) PickC.perm hsub42)), rfl, ⟨_, (rows1 ++ [[v33, .int .u32 ((n : Nat) : Int), v38]]).drop (ds.length + 1 - 32), B42, rfl, ?_, ?_⟩⟩
    · refine Sl.cast hs42 ?_ ?_
      · rw [hdd, List.length_drop, List.length_append, List.length_singleton]
      · rw [← A2Y (s := 3) (by intro r hr; rcases List.mem_append.1 hr with h | h; exact hrw1.lens skT r h; rw [List.mem_singleton.1 h]; rfl)]; simp
    · rw [hdd]
      refine (RwL.snoc (x := (⟨of, n, key⟩ : Skp)) (r := [v33, .int .u32 ((n : Nat) : Int), v38]) (hrw1.mono skT (fun x hx => List.mem_append_right _ hx)) ⟨v33, v38, rfl, h33.mono (fun x hx => ?_), h38.mono (fun x hx => ?_), hn⟩).drop _ <;> simp [hx]
theorem B3r (sb : Nat) (v vof : Value) (rows : List (List Value)) (sks : List Skp) (of : List Nat) (n : Nat) (A : Mem) (hsb : (sb, blk [v] 80) ∈ A) (hv : Rd A 3 v sks.length rows.flatten) (hrw : RwL skR A rows sks) (hl : sks.length ≤ 1000000) (hof : By A vof of) : FnX Tryz.prog 56 [.pointer (some ⟨sb, 0, none⟩), vof, .int .u32 ((n : Nat) : Int)] [] A fun q M J => M = [] ∧ ∃ u, q = .tuple #[u, .bool (A5l sks of n).isSome] ∧ By J u ((A5l sks of n).getD []) := by
 haveI := hof.cel
 haveI := hv.cel
 refine FnX.enterZ (N := 24) Tryz.func56 rfl rfl rfl fun w_ => ?_
 refine B0 (D4 0 1 2) (A1 (as_ (as_ (A0 (D4 0 1 2) (A1 (mv_ (mv_ (mv_ ?_))))))))
 refine F3 (aS rfl (aS rfl (aS rfl a0))) kR (A3D sb v vof rows sks of n _ (mA hsb) (hv.mono SubC.sub) (hrw.mono skT SubC.sub) hl (hof.mono SubC.sub)) rfl ?_
 refine as_ (A0 (D3 0 8) (A3 (A1 (mv_ ?_))))
 refine A2 (D8 rfl rfl rfl) rfl ?_
 refine A0 (D4 0 8 14) ?_
 refine C0 rfl (fun hc => ?_) (fun hc => ?_)
 ·
  have hf : A1i (tst of n) sks = -1 := by
   obtain ⟨hf, hz⟩ | ⟨i, x, hf, hxi, hq, hmin⟩ := V0 (tst of n) sks
   · exact hf
   · rw [hf] at hc; (simp at hc) <;> omega
  refine A1 (as_ (as_ (A0 (D3 6 7) (B4 (tr ?_)))))
  exact ⟨_, [], [], A19 rfl rfl rfl, Fit.sub (List.nil_sublist _), rfl, _, by rw [B0T hf]; rfl, by rw [B0T hf]; exact By.nil⟩
 ·
  obtain ⟨hf, hz⟩ | ⟨i, x, hf, hxi, hq, hmin⟩ := V0 (tst of n) sks
  · rw [hf] at hc; simp at hc
  have hil := (List.getElem?_eq_some_iff.1 hxi).1
  rw [hf]
  obtain ⟨r, hr, vo, vk, rfl, ho, hk, hn⟩ := hrw.get i x hxi
  haveI := hk.cel
  refine A6 (nx (D3 0 8) (A1 (mv_ ?_)))
  refine A2 (E8 rfl) rfl ?_
  refine A2 (qf_ 0 0) rfl ?_
  refine A2 (I9 rfl kR (mA hsb) (by rfl)) rfl ?_
  refine mv_ ?_
  refine A2 (I1 (sz := 3) rfl rfl kR rfl hv hil) rfl ?_
  refine A2 (A7q (off := 2) rfl hv hil kR) rfl ?_
  refine A2 (A7r (u := vk) rfl (hv.mono SubC.sub) (by omega) kR (by rw [A06 (hrw.lens skT) hr 2 (by decide)]; rfl)) rfl ?_
  refine C6 (aS rfl a0) kR (A1E vk x.key _ (hk.mono SubC.sub)) rfl ?_
  rintro v23 M23 J23 ⟨rfl, h23⟩
  haveI := h23.cel
  refine as_ (as_ (A0 (D3 6 7) (B4 ?_)))
  exact ⟨_, [], [], A19 rfl rfl rfl, Fit.sub (List.nil_sublist _), rfl, _, by rw [A7O hf hxi]; rfl, by rw [A7O hf hxi]; exact h23.mono SubC.sub⟩
theorem B0U (sb : Nat) (vof : Value) (sks : List Skp) (of : List Nat) (n : Nat) (R MS A : Mem) (hS : Sto R sb sks MS) (hR : ∀ x, x ∈ R → x ∈ A) (hl : sks.length ≤ 1000000) (hof : By R vof of) : FnX Tryz.prog 58 [.pointer (some ⟨sb, 0, none⟩), vof, .int .u32 ((n : Nat) : Int)] MS A fun q M J => q = .bool (decide (A1i (tst of n) sks ≥ 0)) ∧ Sto R sb (A4u sks of n) M := by
 obtain ⟨v, rows, B, rfl, hsl, hrw⟩ := hS.ex
 haveI := hsl.cel
 haveI := hof.cel
 refine FnX.enterZ (N := 27) Tryz.func58 rfl rfl rfl fun w_ => ?_
 refine B0 (D4 0 1 2) (A1 (as_ (A0 (D4 0 1 2) (A1 (mv_ (mv_ (mv_ ?_)))))))
 refine F3 (aS rfl (aS rfl (aS rfl a0))) kR (A3D sb v vof rows sks of n _ (by simp) (hsl.rd SubC.sub) (hrw.mono skT (fun x hx => mA (hR x hx))) hl (hof.mono (fun x hx => mA (hR x hx)))) rfl ?_
 refine as_ (A0 (D3 0 7) ?_)
 refine N3 (α := Value × List (List Value) × Mem) (fun x => [(7, .int .i64 (A1i (tst of n) sks))]) (fun x => (sb, blk [x.1] 80) :: x.2.2) (fun _ => []) (fun x => Sl 3 x.1 (A4u sks of n).length x.2.1.flatten x.2.2 ∧ RwL skR R x.2.1 (A4u sks of n)) ?_ ?_
 ·
  refine A1 (mv_ ?_)
  refine A2 (D8 rfl rfl rfl) rfl ?_
  refine A0 (D4 0 7 13) ?_
  refine C0 rfl (fun hc => ?_) (fun hc => ?_)
  ·
   obtain ⟨hf, hz⟩ | ⟨i, x, hf, hxi, hq, hmin⟩ := V0 (tst of n) sks
   · rw [hf] at hc; simp at hc
   have hil := (List.getElem?_eq_some_iff.1 hxi).1
   rw [hf]
   obtain ⟨p, rfl, h0, _, _⟩ | ⟨b, o, cap, cs, e, rfl, rfl, g1, g2, g3, g4, g5⟩ := hsl
   · omega
   refine A8 (mv_ (mv_ ?_))
   refine A2 (E8 rfl) rfl ?_
   refine A2 (qf_ 0 0) rfl ?_
   refine A2 ql_ rfl ?_
   refine mv_ (mv_ ?_)
   refine A2 (I3 (b := 1) rfl rfl rfl rfl (by omega)) rfl ?_
   refine A4 rfl (E0 (Mc := [(b, blk cs e)]) (R := _) (aS rfl (aS rfl (aS rfl a0))) kR PickC.perm (A3C b o cap sks.length i (i + 1) cs rows.flatten e _ g1 g2 g3 g4 g5 (hrw.ones skT) (by omega) (by omega)) rfl ?_)
   rintro v22 M22 J22 ⟨rfl, hs22⟩
   have hsd : Sl 3 v22 (sks.eraseIdx i).length (rows.take i ++ rows.drop (i + 1)).flatten M22 := by
    have h := hs22
    rw [A4s (hrw.lens skT)] at h
    exact Sl.cast h (by rw [List.length_eraseIdx, if_pos hil]; omega) rfl
   haveI := hsd.cel
   refine A2 (E8 rfl) rfl ?_
   refine A2 (qf_ 0 0) rfl ?_
   refine A4 rfl (D5 rfl rfl hsd.one kR SetC.set UpC.upd ?_)
   refine C1 ?_
   exact jn (v22, rows.take i ++ rows.drop (i + 1), M22) ⟨by rw [A2T hf]; exact hsd, by rw [A2T hf]; exact hrw.erase i⟩ (D7 7) (Fit.pick (B := [_]) PickC.perm (Fit.last PickC.perm)) (fun _ h => by cases h)
  ·
   have hf : A1i (tst of n) sks = -1 := by
    obtain ⟨hf, hz⟩ | ⟨i, x, hf, hxi, hq, hmin⟩ := V0 (tst of n) sks
    · exact hf
    · rw [hf] at hc; (simp at hc) <;> omega
   refine A6 ?_
   exact jn (v, rows, B) ⟨by rw [A5j hf]; exact hsl, by rw [A5j hf]; exact hrw⟩ (D7 7) .rfl (fun _ h => h)
 ·
  rintro ⟨v1, rows1, B1⟩ ⟨hsl1, hrw1⟩
  dsimp only at hsl1 hrw1 ⊢
  refine A1 (mv_ ?_)
  refine A2 (D8 rfl rfl rfl) rfl ?_
  refine as_ (A0 (D7 6) (B4 ?_))
  exact ⟨_, _, [], I7 rfl rfl, Fit.none .rfl, rfl, ⟨v1, rows1, B1, rfl, hsl1, hrw1⟩⟩
theorem A6i (sb k : Nat) (v : Value) (xs : List Value) (A : Mem) (hsb : (sb, blk [v] 80) ∈ A) (hv : Rd A 3 v k xs) : FnV Tryz.prog 11 [.pointer (some ⟨sb, 0, none⟩)] A (.int .i64 (k : Int)) := by
 haveI := hv.cel
 refine FnX.enter (N := 10) Tryz.func11 rfl rfl rfl fun w => ?_
 refine B0 (D7 0) (A1 (as_ (A0 (D7 0) (A3 (A1 (mv_ ?_))))))
 refine A2 (H2 (e := 80) rfl rfl kR) rfl ?_
 refine A0 (D3 0 4) ?_
 refine D0 rfl ?_
 refine A6 (nx (D7 0) (A1 (mv_ ?_)))
 refine A2 (E8 rfl) rfl ?_
 refine A2 (qf_ 0 0) rfl ?_
 refine A2 (I9 rfl kR (mA hsb) (by rfl)) rfl ?_
 refine A2 (G3 (sz := 3) rfl kR hv) rfl ?_
 refine as_ (A0 (D7 2) (B4 ?_))
 exact ⟨_, [], [], I7 rfl rfl, List.nil_sublist _, by simp, rfl, rfl, rfl⟩
theorem A5m (sb k : Nat) (v : Value) (xs : List Value) (A : Mem) (hsb : (sb, blk [v] 80) ∈ A) (hv : Rd A 3 v k xs) (h1 : ∀ c ∈ xs, c.oneCell' = true) (hk : k ≤ 1099511627776) : FnX Tryz.prog 30 [.pointer (some ⟨sb, 0, none⟩)] [] A fun q M J => Sl 3 q k xs M := by
 haveI := hv.cel
 refine FnX.enterZ (N := 10) Tryz.func30 rfl rfl rfl fun w_ => ?_
 refine B0 (D7 0) (A1 (as_ (A0 (D7 0) (A3 (A1 (mv_ ?_))))))
 refine A2 (H2 (e := 80) rfl rfl kR) rfl ?_
 refine A0 (D3 0 4) ?_
 refine D0 rfl ?_
 refine A6 (nx (D7 0) (A1 (mv_ ?_)))
 refine A2 (E8 rfl) rfl ?_
 refine A2 (qf_ 0 0) rfl ?_
 refine A2 (I9 rfl kR (mA hsb) (by rfl)) rfl ?_
 refine C6 (aS rfl a0) kR (A8J v k xs _ (hv.mono SubC.sub) h1 hk) rfl ?_
 rintro v9 M9 J9 hs9
 haveI := hs9.cel
 refine as_ (A0 (D7 2) (B4 ?_))
 exact ⟨_, M9, [], I7 rfl rfl, Fit.none (Fit.last PickC.perm), hs9⟩
theorem B0V (sb k : Nat) (v : Value) (xs : List Value) (A : Mem) (hsb : (sb, blk [v] 80) ∈ A) (hv : Rd A 3 v k xs) (h1 : ∀ c ∈ xs, c.oneCell' = true) (hk : k ≤ 1099511627776) : FnX Tryz.prog 31 [.pointer (some ⟨sb, 0, none⟩)] [] A fun q M J => ∃ cb u B, q = .pointer (some ⟨cb, 0, none⟩) ∧ M = (cb, blk [u] 80) :: B ∧ Sl 3 u k xs B := by
 refine FnX.enterZ (N := 7) Tryz.func31 rfl rfl rfl fun w_ => ?_
 refine B0 (D7 0) (A1 (as_ (A0 (D7 0) (A1 (mv_ ?_)))))
 refine C6 (aS rfl a0) kR (A5m sb k v xs _ (mA hsb) (hv.mono SubC.sub) h1 hk) rfl ?_
 rintro v4 M4 J4 hs4
 haveI := hs4.cel
 refine A2 (G1 (place := fun x => #[(0, 1)][x]?) (z := [.slice none 0 0]) (fun _ => by kernel_rfl) (eS rfl e0) (bdS 0 1 rfl (by rfl) bd0)) rfl ?_
 refine A4 rfl (bx_ fun b6 => ?_)
 refine as_ (A0 (D7 2) (B4 ?_))
 exact ⟨_, (b6, _) :: M4, [], I7 rfl rfl, Fit.none (Fit.pick (B := [_]) PickC.perm (Fit.last PickC.perm)), b6, v4, M4, rfl, rfl, hs4⟩

def A34 : List Nat := [115, 116, 101, 112]
def W1 (s : Ps) (key : List Nat) : Ps := A31 s key [] A34 2
def B9u (s : Ps) (key : List Nat) : List (List Nat) := A51 s key [] A34 2
def A0h (s : Ps) (key : List Nat) : List Nat := (B9u s key).getD 0 []
def A2B (s : Ps) (key : List Nat) : List Nat := (B9u s key).getD 1 []
theorem A7Q (s : Ps) (key : List Nat) (ws : List (List Nat)) (lb : List Nat) (n : Nat) : (A51 s key ws lb n).length = n := by
  unfold A51
  split
  · exact A46 _ _
  · exact (A00 _ _ _ _).1
theorem B0W {R : Mem} {v : Value} {ls : List (List Nat)} (h : LsV R v ls) (hl : ls.length = 2) : ∃ vs u0 u1, Rd R 1 v 2 vs ∧ vs[0]? = some u0 ∧ vs[1]? = some u1 ∧ By R u0 (ls.getD 0 []) ∧ By R u1 (ls.getD 1 []) := by
  obtain ⟨vs, h1, h2⟩ := h.ex
  obtain ⟨u0, a0, b0⟩ := h2.at (j := 0) (by omega)
  obtain ⟨u1, a1, b1⟩ := h2.at (j := 1) (by omega)
  rw [hl] at h1
  refine ⟨vs, u0, u1, h1, a0, a1, ?_, ?_⟩
  · rw [List.getD_eq_getElem?_getD, List.getElem?_eq_getElem (by omega)]; exact b0
  · rw [List.getD_eq_getElem?_getD, List.getElem?_eq_getElem (by omega)]; exact b1
theorem B4s {P : Program} {fn : Func} {l : Env} {R : Mem} {t u b n : Nat} {ty : TypeId} {cs : List Value} {e : TypeId} {fr : Nat × Nat} {v : Value} (h : fn.results = #[.tmp u, .cell t ty]) (hv : lk l t = some (.pointer (some ⟨b, 0, none⟩))) (hu : lk l u = some v) (ht : A6s P ty = some n)
    (hb : (b, Obj.cells cs.toArray e fr) ∈ R) (hn : cs.length = n) : Res P fn l R (.tuple #[v, .agg cs.toArray]) := fun N a w ha hw => by
  obtain ⟨dsc, h1, h2, h3⟩ := V5 ht
  have hl := run_loadVar_row (P := P) w b e ty cs.toArray fr dsc (hw b _ hb) h1 (by cases dsc <;> simp_all [TypeDesc.isRow]) (by rw [h3, ← hn]; simp)
  simp [results, h, ha.slot t _ hv, ha.slot u _ hu, asAddr, hl]
theorem A3E (pb : Nat) (s : Ps) (kv : Value) (key : List Nat) (n : Nat) (MP A : Mem) (hP : Prm pb s MP) (hk : By A kv key) (hn : s.ts.length ≤ 1040000) (hG : Glb A) : FnX Tryz.prog 37 [.pointer (some ⟨pb, 0, none⟩), .agg #[kv, .int .u32 ((n : Nat) : Int)]] MP A fun q M J => ∃ v1 v2, q = .tuple #[v1, .agg #[v2, .int .u32 (((n + 1) % 4294967296 : Nat) : Int)]] ∧ Prm pb (W1 s key) M ∧ By J v1 (A0h s key) ∧ By J v2 (A2B s key) := by
 haveI := hk.cel
 refine FnX.enterZ (N := 25) Tryz.func37 rfl rfl rfl fun w_ => ?_
 refine B0 (D3 0 1) (A1 ?_)
 refine A4 rfl (B4Q rfl Cel.cel rfl fun b3 => ?_)
 refine as_ ?_
 refine A4 rfl (C4 (cs := [.slice none 0 0, .int .u32 0]) kR rfl fun b5 => ?_)
 refine A0 (D4 0 3 5) (A1 (mv_ ?_))
 refine A2 (qf_ 0 0) rfl ?_
 refine A2 (I9 (v := kv) rfl kR At.mem (by rfl)) rfl ?_
 refine A4 rfl (E0 (Mc := MP) (R := _) (aS rfl (aS rfl (aS rfl (aS rfl (aS rfl a0))))) kR PickC.perm (A3m pb s kv (.slice none 0 0) key A34 [] 2 MP _ hP (hk.mono SubC.sub) LsV.nil (by decide) ⟨by decide⟩ (by decide) (by decide) (by decide) hn hG.up) rfl ?_)
 rintro v10 M10 J10 ⟨hP10, hL10⟩
 have hlen := A7Q s key [] A34 2
 obtain ⟨us, u0, u1, hr, hu0, hu1, hb0, hb1⟩ := B0W hL10 hlen
 haveI := hr.cel
 haveI := hb0.cel
 haveI := hb1.cel
 refine as_ (A0 (D4 3 5 6) (A3 (A1 (mv_ ?_))))
 refine A2 (G3 (sz := 1) rfl kR hr) rfl ?_
 refine A2 (F0 false rfl rfl (neF rfl)) rfl ?_
 refine A0 (D6 3 5 6 13) ?_
 refine D0 rfl ?_
 refine A6 (nx (D4 3 5 6) ?_)
 refine C7 (.range 11) (zp 0 [0, 0, 1, 0, 0, 1, 0, 1, 0, 0, 0, 2]) kR kR fun hs => ?_
 refine fm_ hs ?_
 refine C2 hs rfl (I1 (sz := 1) (a := 0) rfl rfl kR rfl hr (by decide)) rfl ?_
 refine G4 hs rfl (A0Q (u := u0) (hr.mono SubC.sub) rfl kR hu0) rfl ?_
 refine fm_ hs ?_
 refine C2 hs rfl (I1 (sz := 1) (a := 1) rfl rfl kR rfl hr (by decide)) rfl ?_
 refine G4 hs rfl (A0Q (u := u1) (hr.mono SubC.sub) rfl kR hu1) rfl ?_
 refine C2 hs rfl (qf_ 1 1) rfl ?_
 refine G4 hs rfl ql_ rfl ?_
 refine C2 hs rfl (F1 4294967296 (b := 1) rfl rfl rfl rfl rfl rfl) rfl ?_
 refine C2 hs rfl (G1 (place := fun x => #[(0, 1), (1, 1)][x]?) (z := [.slice none 0 0, .int .u32 0]) (fun _ => by kernel_rfl) (eS rfl (eS rfl e0)) (bdS 0 1 rfl (by rfl) (bdS 1 1 rfl (by rfl) bd0))) rfl ?_
 refine fa_ hs ?_
 refine F5 rfl rfl rfl (A9 rfl rfl Cel.cel kR (by rfl) (by intro c hc; simp only [List.mem_cons, List.not_mem_nil, or_false] at hc; rcases hc with rfl | rfl; exact hb1.one; rfl) UpC.upd ?_)
 refine E4 (D3 4 5) (B4 ?_)
 refine ⟨_, M10, [], B4s (n := 2) rfl rfl rfl kR At.mem (by rfl), Fit.none (Fit.last PickC.perm), u0, u1, rfl, hP10, hb0.mono (fun x hx => by simp [hx]), hb1.mono (fun x hx => by simp [hx])⟩

theorem up2 {X J R A : Mem} (hR : ∀ x, x ∈ R → x ∈ A) : ∀ x, x ∈ J ++ R → x ∈ X ++ (J ++ A) := fun x hx => List.mem_append_right _ ((List.mem_append.1 hx).elim (fun h => List.mem_append_left _ h) (fun h => List.mem_append_right _ (hR x h)))
def rep {α : Type} (f : α → α) : Nat → α → α
  | 0, x => x
  | k + 1, x => f (rep f k x)
abbrev Ast := Ps × List Nat × Nat × List Skp
def aSt (of : List Nat) (x : Ast) : Ast := (W1 x.1 x.2.1, A2B x.1 x.2.1, x.2.2.1 + 1, A7M x.2.2.2 ⟨of, x.2.2.1, A0h x.1 x.2.1⟩)
theorem B3s (of : List Nat) (i : Nat) (x : Ast) : (rep (aSt of) i x).2.2.1 = x.2.2.1 + i := by
  induction i with
  | zero => rfl
  | succ i ih => show (rep (aSt of) i x).2.2.1 + 1 = _; rw [ih]; rfl
theorem B0X (of : List Nat) (i : Nat) (x : Ast) : (rep (aSt of) i x).1.ts.length ≤ x.1.ts.length + 3 * i := by
  induction i with
  | zero => exact Nat.le_refl _
  | succ i ih =>
    show (W1 (rep (aSt of) i x).1 (rep (aSt of) i x).2.1).ts.length ≤ _
    have := A2O (rep (aSt of) i x).1 (rep (aSt of) i x).2.1 [] A34 2
    unfold W1
    simp at this
    omega
theorem B4t (of : List Nat) (i : Nat) (x : Ast) (h : x.2.2.2.length ≤ 1000) : (rep (aSt of) i x).2.2.2.length ≤ 1000 := by
  cases i with
  | zero => exact h
  | succ i => exact Nat.le_trans (A7N _ _) (by decide)
theorem A8K (pb sb : Nat) (s : Ps) (kv vof : Value) (key of : List Nat) (N n : Nat) (sks : List Skp) (R MP MS A : Mem) (hP : Prm pb s MP) (hS : Sto R sb sks MS) (hR : ∀ x, x ∈ R → x ∈ A) (hk : By R kv key) (hof : By R vof of) (hl : sks.length ≤ 1000) (hNn : N ≤ n) (h16 : n - N ≤ 16) (hn32 : n < 4294967296) (hn : s.ts.length ≤ 1000000) (hG : Glb A) : FnX Tryz.prog 59 [.pointer (some ⟨pb, 0, none⟩), .agg #[kv, .int .u32 ((N : Nat) : Int)], vof, .int .u32 ((n : Nat) : Int), .pointer (some ⟨sb, 0, none⟩)] (MP ++ MS) A fun q M J => ∃ MP' MS' kv', M = MP' ++ MS' ∧ q = .tuple #[.agg #[kv', .int .u32 (((rep (aSt of) (n - N) (s, key, N, sks)).2.2.1 : Nat) : Int)], .int .i64 0] ∧ Prm pb (rep (aSt of) (n - N) (s, key, N, sks)).1 MP' ∧ Sto (J ++ R) sb (rep (aSt of) (n - N) (s, key, N, sks)).2.2.2 MS' ∧ By (J ++ R) kv' (rep (aSt of) (n - N) (s, key, N, sks)).2.1 := by
 haveI := hk.cel
 haveI := hof.cel
 refine FnX.enterZ (N := 51) Tryz.func59 rfl rfl rfl fun w_ => ?_
 refine B0 (E5 0 1 2 3 4) (A1 ?_)
 refine A4 rfl (bx_ fun b6 => ?_)
 refine A4 rfl (C4 (cs := [.slice none 0 0, .int .u32 0]) kR rfl fun b10 => ?_)
 refine as_ (A0 (H9 0 2 3 4 6 10) (A3 (A5 (A1 (mv_ ?_)))))
 refine A2 (qf_ 1 1) rfl ?_
 refine A2 ql_ rfl ?_
 refine A2 (F0 false rfl rfl (ltF (by omega))) rfl ?_
 refine as_ (A0 (R9 0 2 3 4 6 10 14) ?_)
 refine D0 rfl ?_
 refine A1 (mv_ ?_)
 refine A2 (qf_ 1 1) rfl ?_
 refine A2 ql_ rfl ?_
 refine A2 (C8 (((n - N : Nat)) : Int) rfl rfl (by simp only [I2]; rw [A69 (by omega) (by omega)]; congr 2; omega)) rfl ?_
 refine A2 (F0 false rfl rfl (gtF (by omega))) rfl ?_
 refine as_ (A0 (R9 0 2 3 4 6 10 20) ?_)
 refine D0 rfl ?_
 refine A6 (nb (nx (H9 0 2 3 4 6 10) (A3 (A5 ?_))))
 refine D9 (α := Nat × Mem × Mem × Value × Mem) (fun x => [(0, .pointer (some ⟨pb, 0, none⟩)), (2, vof), (3, .int .u32 ((n : Nat) : Int)), (4, .pointer (some ⟨sb, 0, none⟩)), (6, .pointer (some ⟨b6, 0, none⟩)), (10, .pointer (some ⟨b10, 0, none⟩))]) (fun x => x.2.1 ++ (x.2.2.1 ++ [(b6, blk [x.2.2.2.1, .int .u32 ((N + x.1 : Nat) : Int)] 38), (b10, blk [.slice none 0 0, .int .u32 0] 38)])) (fun x => x.2.2.2.2) (fun x => x.1 ≤ n - N ∧ Prm pb (rep (aSt of) x.1 (s, key, N, sks)).1 x.2.1 ∧ Sto (x.2.2.2.2 ++ R) sb (rep (aSt of) x.1 (s, key, N, sks)).2.2.2 x.2.2.1 ∧ By (x.2.2.2.2 ++ R) x.2.2.2.1 (rep (aSt of) x.1 (s, key, N, sks)).2.1) (fun x => n - N - x.1) ⟨0, MP, MS, kv, []⟩ ⟨Nat.zero_le _, hP, hS, hk⟩ (H9 0 2 3 4 6 10) (Fit.pick PickC.perm (Fit.pick PickC.perm (Fit.pick (B := [_]) PickC.perm (Fit.last PickC.perm)))) (fun _ h => by cases h) ?_
 rintro ⟨i, MPi, MSi, kvi, Ji⟩ ⟨hi, hPi, hSi, hki⟩
 dsimp only at hi hPi hSi hki ⊢
 haveI := hki.cel
 have hts := B0X of i (s, key, N, sks)
 have hsk := B4t of i (s, key, N, sks) hl
 dsimp only at hts hsk
 refine A3 (A1 ?_)
 refine A2 (qf_ 1 1) rfl ?_
 refine A2 ql_ rfl ?_
 refine mv_ ?_
 refine A2 (D8 rfl rfl rfl) rfl ?_
 refine A0 (R9 0 2 3 4 6 10 30) ?_
 refine C0 rfl (fun hc => ?_) (fun hc => ?_)
 ·
  have hlt : i < n - N := by simp at hc; omega
  refine A6 (nx (H9 0 2 3 4 6 10) (A5 (A1 (as_ (A0 (H9 0 2 3 4 6 10) (A1 ?_))))))
  refine A2 (qf_ 1 1) rfl ?_
  refine A2 ql_ rfl ?_
  refine as_ (A0 (R9 0 2 3 4 6 10 13) (A3 (A1 (mv_ ?_))))
  refine A2 (qw_ 2) rfl ?_
  refine A4 rfl (E0 (Mc := MPi) (R := _) (aS rfl (aS rfl a0)) kR PickC.perm (A3E pb (rep (aSt of) i (s, key, N, sks)).1 kvi (rep (aSt of) i (s, key, N, sks)).2.1 (N + i) MPi _ hPi (hki.mono (up2 hR)) (by omega) hG.up) rfl ?_)
  rintro v36 M36 J36 ⟨v1, v2, rfl, hP36, hb1, hb2⟩
  haveI := hb1.cel
  haveI := hb2.cel
  rw [Nat.mod_eq_of_lt (show N + i + 1 < 4294967296 by omega), show N + i + 1 = N + (i + 1) from rfl]
  refine mv_ ?_
  refine A2 (A1l rfl) rfl ?_
  refine A2 (A1g rfl) rfl ?_
  refine as_ ?_
  refine A4 rfl (A9 rfl rfl Cel.cel kR (by rfl) (by intro c hc; simp only [List.mem_cons, List.not_mem_nil, or_false] at hc; rcases hc with rfl | rfl; exact hb2.one; rfl) UpC.upd ?_)
  refine A0 (V7 0 2 3 4 6 10 12 13) (A1 ?_)
  refine A2 (qf_ 1 1) rfl ?_
  refine A2 ql_ rfl ?_
  refine mv_ ?_
  refine A2 (F0 false rfl rfl (eqF (by omega))) rfl ?_
  refine A0 (Z9 0 2 3 4 6 10 12 13 42) ?_
  refine D0 rfl ?_
  refine A6 (nx (V7 0 2 3 4 6 10 12 13) (A8 (mv_ (mv_ (mv_ (mv_ ?_))))))
  refine A2 (G1 (place := fun x => #[(0, 1), (1, 1), (2, 1)][x]?) (z := [.slice none 0 0, .int .u32 0, .slice none 0 0]) (fun _ => by kernel_rfl) (eS rfl (eS rfl (eS rfl e0))) (bdS 0 1 rfl (by rfl) (bdS 1 1 rfl (by rfl) (bdS 2 1 rfl (by rfl) bd0)))) rfl ?_
  refine A4 rfl (E0 (Mc := MSi) (R := _) (aS rfl (aS rfl a0)) kR PickC.perm (A7P sb vof v1 (rep (aSt of) i (s, key, N, sks)).2.2.2 of (A0h (rep (aSt of) i (s, key, N, sks)).1 (rep (aSt of) i (s, key, N, sks)).2.1) (N + i) ((J36 ++ Ji) ++ R) MSi _ (hSi.mono (fun x hx => by simp only [List.mem_append] at hx ⊢; rcases hx with h | h <;> simp [h])) (up2 hR) (by omega) (hof.mono (fun x hx => List.mem_append_right _ hx)) (hb1.mono (fun x hx => by simp [hx])) (by omega)) rfl ?_)
  rintro v49 M49 J49 ⟨rfl, hS49⟩
  refine C1 (nb ?_)
  exact rn ⟨i + 1, M36, M49, v2, J49 ++ (J36 ++ Ji)⟩ ⟨by dsimp only; omega, hP36, (by have h := hS49; rw [← B3s of i (s, key, N, sks)] at h; exact h.mono (fun x hx => by simp only [List.mem_append] at hx ⊢; rcases hx with h | h | h <;> simp [h]) : Sto ((J49 ++ (J36 ++ Ji)) ++ R) sb _ M49), hb2.mono (fun x hx => by simp [hx])⟩ (by dsimp only; omega) (H9 0 2 3 4 6 10) (Fit.pick PickC.perm (Fit.pick PickC.perm (Fit.pick (B := [_]) PickC.perm (Fit.last PickC.perm)))) (fun _ h => h)
 ·
  have hge : i = n - N := by simp at hc; omega
  subst hge
  refine D2 (te (re (be rfl (nx (D3 6 10) (A1 ?_)))))
  refine A2 (qw_ 2) rfl ?_
  refine A4 rfl (A9 rfl rfl Cel.cel kR (by rfl) (by intro c hc; simp only [List.mem_cons, List.not_mem_nil, or_false] at hc; rcases hc with rfl | rfl; exact hki.one; rfl) UpC.upd ?_)
  refine as_ (A0 (D3 10 11) (B4 ?_))
  refine ⟨_, MPi ++ MSi, [], A5w (n := 2) rfl rfl rfl kR At.mem (by rfl), Fit.none (Fit.pick PickC.perm (Fit.last PickC.perm)), MPi, MSi, kvi, rfl, ?_, hPi, hSi, hki⟩
  rw [B3s]
theorem A8L (pv sv kv vof : Value) (key of : List Nat) (N n : Nat) (A : Mem) (hk : By A kv key) (hof : By A vof of) (hNn : n < N) : FnV Tryz.prog 59 [pv, .agg #[kv, .int .u32 ((N : Nat) : Int)], vof, .int .u32 ((n : Nat) : Int), sv] A (.tuple #[.agg #[kv, .int .u32 ((N : Nat) : Int)], .int .i64 8]) := by
 haveI := hk.cel
 haveI := hof.cel
 refine FnX.enter (N := 51) Tryz.func59 rfl rfl rfl fun w => ?_
 refine B0 (E5 0 1 2 3 4) (A1 ?_)
 refine A4 rfl (bx_ fun b6 => ?_)
 refine A4 rfl (C4 (cs := [.slice none 0 0, .int .u32 0]) kR rfl fun b10 => ?_)
 refine as_ (A0 (H9 0 2 3 4 6 10) (A3 (A5 (A1 (mv_ ?_)))))
 refine A2 (qf_ 1 1) rfl ?_
 refine A2 ql_ rfl ?_
 refine A2 (F0 true rfl rfl (ltT (by omega))) rfl ?_
 refine as_ (A0 (R9 0 2 3 4 6 10 14) ?_)
 refine D1 rfl ?_
 refine A1 ?_
 refine A2 (qw_ 2) rfl ?_
 refine A4 rfl (A9 rfl rfl Cel.cel kR (by rfl) (by intro c hc; simp only [List.mem_cons, List.not_mem_nil, or_false] at hc; rcases hc with rfl | rfl; exact hk.one; rfl) UpC.upd ?_)
 refine as_ (A0 (D3 10 11) (B4 (br (tr ?_))))
 exact ⟨_, [], [], A5w (n := 2) rfl rfl rfl kR At.mem (by rfl), List.nil_sublist _, by simp, rfl, rfl, rfl⟩
theorem A8M (pv sv kv vof : Value) (key of : List Nat) (N n : Nat) (A : Mem) (hk : By A kv key) (hof : By A vof of) (hNn : N ≤ n) (hn32 : n < 4294967296) (h16 : 16 < n - N) : FnV Tryz.prog 59 [pv, .agg #[kv, .int .u32 ((N : Nat) : Int)], vof, .int .u32 ((n : Nat) : Int), sv] A (.tuple #[.agg #[kv, .int .u32 ((N : Nat) : Int)], .int .i64 7]) := by
 haveI := hk.cel
 haveI := hof.cel
 refine FnX.enter (N := 51) Tryz.func59 rfl rfl rfl fun w => ?_
 refine B0 (E5 0 1 2 3 4) (A1 ?_)
 refine A4 rfl (bx_ fun b6 => ?_)
 refine A4 rfl (C4 (cs := [.slice none 0 0, .int .u32 0]) kR rfl fun b10 => ?_)
 refine as_ (A0 (H9 0 2 3 4 6 10) (A3 (A5 (A1 (mv_ ?_)))))
 refine A2 (qf_ 1 1) rfl ?_
 refine A2 ql_ rfl ?_
 refine A2 (F0 false rfl rfl (ltF (by omega))) rfl ?_
 refine as_ (A0 (R9 0 2 3 4 6 10 14) ?_)
 refine D0 rfl ?_
 refine A1 (mv_ ?_)
 refine A2 (qf_ 1 1) rfl ?_
 refine A2 ql_ rfl ?_
 refine A2 (C8 (((n - N : Nat)) : Int) rfl rfl (by simp only [I2]; rw [A69 (by omega) (by omega)]; congr 2; omega)) rfl ?_
 refine A2 (F0 true rfl rfl (gtT (by omega))) rfl ?_
 refine as_ (A0 (R9 0 2 3 4 6 10 20) ?_)
 refine D1 rfl ?_
 refine A1 ?_
 refine A2 (qw_ 2) rfl ?_
 refine A4 rfl (A9 rfl rfl Cel.cel kR (by rfl) (by intro c hc; simp only [List.mem_cons, List.not_mem_nil, or_false] at hc; rcases hc with rfl | rfl; exact hk.one; rfl) UpC.upd ?_)
 refine as_ (A0 (D3 10 11) (B4 (br (tr ?_))))
 exact ⟨_, [], [], A5w (n := 2) rfl rfl rfl kR At.mem (by rfl), List.nil_sublist _, by simp, rfl, rfl, rfl⟩

def bes (n k x : Nat) : List Nat := (List.range x).map fun j => n / 2 ^ (8 * (k - 1 - j)) % 256
def beN (n k : Nat) : List Nat := bes n k k
theorem B0Y (n k x : Nat) : (bes n k x).length = x := by simp [bes]
theorem A03 (n k : Nat) : (beN n k).length = k := B0Y n k k
theorem B3t (n k x : Nat) : bes n k (x + 1) = bes n k x ++ [n / 2 ^ (8 * (k - 1 - x)) % 256] := by simp [bes, List.range_succ]
theorem B78 (n k x : Nat) : ∀ y ∈ bes n k x, y < 256 := by
  intro y hy
  simp only [bes, List.mem_map] at hy
  obtain ⟨j, _, rfl⟩ := hy
  exact Nat.mod_lt _ (by decide)
theorem A4v (n k : Nat) : ∀ y ∈ beN n k, y < 256 := B78 n k k
theorem B4u {a b : List Nat} (ha : ∀ x ∈ a, x < 256) (hb : ∀ x ∈ b, x < 256) : ∀ x ∈ a ++ b, x < 256 := fun x hx => (List.mem_append.1 hx).elim (ha x) (hb x)
def bev (ws : List Nat) : Nat := ws.foldl (fun n b => n * 256 + b) 0
structure Wtr (wb : Nat) (ws : List Nat) (M : Mem) : Prop where
  ex : ∃ (v : Value) (B : Mem), M = (wb, blk [v] 64) :: B ∧ Sl 1 v ws.length (nums .u8 ws) B
  lt : ∀ x ∈ ws, x < 256
theorem Wtr.new {b : Nat} : Wtr b [] [(b, blk [.slice none 0 0] 64)] := ⟨⟨_, [], rfl, Sl.nil⟩, fun x h => by cases h⟩
theorem A3F (wb n k : Nat) (ws : List Nat) (M A : Mem) (hW : Wtr wb ws M) (hn : n < 18446744073709551616) (hk : k ≤ 8) (hl : ws.length ≤ 1099511627776) : FnX Tryz.prog 41 [.pointer (some ⟨wb, 0, none⟩), .int .u64 ((n : Nat) : Int), .int .i64 ((k : Nat) : Int)] M A fun q M J => q = .pointer (some ⟨wb, 0, none⟩) ∧ Wtr wb (ws ++ beN n k) M := by
 obtain ⟨⟨v, B, rfl, hsl⟩, hlt⟩ := hW
 haveI := hsl.cel
 refine FnX.enterZ (N := 33) Tryz.func41 rfl rfl rfl fun w_ => ?_
 refine B0 (D4 0 1 2) (A1 (as_ (A0 (D4 0 1 2) (A3 (A1 (mv_ ?_))))))
 refine A2 (C8 ((k : Int) - 1) rfl rfl (A0i rfl (by omega) (by omega))) rfl ?_
 refine as_ (A0 (D4 0 1 7) (A5 ?_))
 refine D9 (α := Nat × Value × Mem) (fun x => [(0, .pointer (some ⟨wb, 0, none⟩)), (1, .int .u64 ((n : Nat) : Int)), (7, .int .i64 ((k : Int) - 1 - (x.1 : Int)))]) (fun x => (wb, blk [x.2.1] 64) :: x.2.2) (fun _ => []) (fun x => x.1 ≤ k ∧ Sl 1 x.2.1 (ws ++ bes n k x.1).length (nums .u8 (ws ++ bes n k x.1)) x.2.2) (fun x => k - x.1) ⟨0, v, B⟩ ⟨Nat.zero_le _, by simpa [bes] using hsl⟩ (kq 0 (kq 1 (kp 7 (by simp; rfl) kn))) .rfl (fun _ h => h) ?_
 clear hsl
 rintro ⟨x, v, B⟩ ⟨hx, hsl⟩
 dsimp only at hx hsl ⊢
 haveI := hsl.cel
 have hbl := B0Y n k x
 have hll : (ws ++ bes n k x).length = ws.length + x := by rw [List.length_append, hbl]
 refine A3 (A1 (mv_ ?_))
 refine A2 (D8 rfl rfl rfl) rfl ?_
 refine mv_ ?_
 refine X3 (t := 12) rfl (fun hb => ?_) (fun hb => ?_)
 ·
  have hltx : x < k := by simp at hb; omega
  obtain ⟨m, hm, hm2⟩ : ∃ m : Nat, ((k : Int) - 1 - (x : Int)) = (m : Int) ∧ m = k - 1 - x := ⟨k - 1 - x, by omega, rfl⟩
  rw [hm]
  refine F8 rfl rfl (OpQ.opL qm_ rfl ?_)
  refine F8 rfl rfl (OpQ.opL (F0 true rfl rfl (ltT (by omega))) rfl ?_)
  refine A2 (E1 rfl rfl) rfl ?_
  refine A0 (D6 0 1 7 15) ?_
  refine D1 rfl ?_
  refine A6 (nx (D4 0 1 7) (A3 (A5 ?_)))
  refine F9 [0, 1, 2, 3, 4, 5, 6, 7, 8, 9, 10, 12, 13] (zp 0 [0, 0, 0, 0, 1, 0, 0, 0, 0, 0, 2, 2, 0, 0, 2]) kR kR fun hs => ?_
  refine fm_ hs ?_
  refine fm_ hs ?_
  refine C2 hs rfl (E8 rfl) rfl ?_
  refine C2 hs rfl (qf_ 0 0) rfl ?_
  refine G4 hs rfl ql_ rfl ?_
  refine fm_ hs ?_
  refine fm_ hs ?_
  refine C2 hs rfl (A0E (a := 8) rfl rfl rfl rfl (by omega)) rfl ?_
  refine C2 hs rfl (A9t (a := n) (b := 8 * m) rfl rfl rfl rfl (by show _ ≤ 64; omega)) rfl ?_
  refine C2 hs rfl (A1t rfl kR) rfl ?_
  refine B2n rfl rfl fun _ => (C3 (e := 5) (sz := 1) (z := [.int .u8 0]) kR (eS rfl e0) (bdS 0 1 rfl (by rfl) bd0) rfl fun b28 => ?_)
  refine F5 rfl rfl rfl (H5 (e := 5) (sz := 1) (by_ := 1) rfl rfl kR rfl (by first | assumption | exact Sl.nil) (Rd.whole (n := 1) At.mem (by rfl)) (by first | (simp [Value.oneCell']; done) | (intro c hc; simp only [List.mem_singleton] at hc; subst hc; first | exact Rd.one (by assumption) | exact Sl.one (by assumption))) PickC.perm (by unfold maxLen; omega) (by omega) rfl fun v29 B29 hs29 => ?_)
  refine C2 hs rfl (E8 rfl) rfl ?_
  refine C2 hs rfl (qf_ 0 0) rfl ?_
  refine F5 rfl rfl rfl (D5 rfl rfl hs29.one kR SetC.set UpC.upd ?_)
  refine Q9 (nb (nx (D4 0 1 7) (A8 (mv_ ?_))))
  refine A2 (C8 ((m : Int) - 1) rfl rfl (A0i rfl (by omega) (by omega))) rfl ?_
  refine as_ (C1 ?_)
  exact rn ⟨x + 1, v29, B29⟩ ⟨by dsimp only; omega, by dsimp only; rw [B3t, ← List.append_assoc, ← hm2]; exact W6 hs29 (by simp only [List.length_append, List.length_singleton]) (by simp [nums])⟩ (by dsimp only; omega) (kq 0 (kq 1 (kp 7 (by dsimp only; rw [show ((k : Int) - 1 - ((x + 1 : Nat) : Int)) = (m : Int) - 1 by omega]; rfl) kn))) (Fit.pick (B := [_]) PickC.perm (Fit.last PickC.perm)) (fun _ h => by first | exact h | cases h)
 ·
  have hge : x = k := by simp at hb; omega
  subst hge
  refine K3 rfl rfl rfl rfl ?_
  refine K3 rfl rfl rfl rfl ?_
  refine A2 (F6 rfl rfl) rfl ?_
  refine A0 (D6 0 1 7 15) ?_
  refine D0 rfl ?_
  refine D2 (te (re (be rfl (nx (D7 0) (A1 (mv_ (as_ (A0 (D7 6) ?_))))))))
  refine B4 ?_
  exact ⟨_, (wb, blk [v] 64) :: B, [], I7 rfl rfl, Fit.none (Fit.last PickC.perm), rfl, ⟨⟨v, B, rfl, hsl⟩, B4u hlt (A4v n x)⟩⟩
theorem A1F (wb : Nat) (p : Value) (w ws : List Nat) (M A : Mem) (hW : Wtr wb ws M) (hp : By A p w) (hl : ws.length ≤ 1099511620000) : FnX Tryz.prog 40 [.pointer (some ⟨wb, 0, none⟩), p] M A fun q M J => q = .pointer (some ⟨wb, 0, none⟩) ∧ Wtr wb (ws ++ beN w.length 4 ++ w) M := by
 haveI := hp.cel
 have hpl := hp.len
 refine FnX.enterZ (N := 20) Tryz.func40 rfl rfl rfl fun w_ => ?_
 refine B0 (D3 0 1) (A1 (as_ (A0 (D3 0 1) (A1 (mv_ (mv_ ?_))))))
 refine A2 (G3 (sz := 1) rfl kR hp.rd) rfl ?_
 refine A2 (A9d rfl kR) rfl ?_
 rw [Nat.mod_eq_of_lt (show w.length < 18446744073709551616 by omega)]
 refine A4 rfl (E0 (Mc := _) (R := _) (aS rfl (aS rfl (aS rfl (a0)))) kR PickC.perm (A3F wb w.length 4 ws _ _ hW (by omega) (by decide) (by omega)) rfl ?_)
 rintro v9 M9 J9 ⟨rfl, hW9⟩
 obtain ⟨⟨v, B, rfl, hsl⟩, hlt⟩ := hW9
 haveI := hsl.cel
 have hbl := A03 w.length 4
 have hll : (ws ++ beN w.length 4).length = ws.length + 4 := by rw [List.length_append, hbl]
 refine A0 (D3 0 1) (A1 (mv_ (mv_ ?_)))
 refine A2 (E8 rfl) rfl ?_
 refine A2 (qf_ 0 0) rfl ?_
 refine A2 ql_ rfl ?_
 refine mv_ ?_
 refine A4 rfl (H5 (e := 5) (sz := 1) (by_ := 1) rfl rfl kR rfl hsl (hp.rd.mono SubC.sub) E7 PickC.perm (by unfold maxLen; omega) (by omega) rfl fun v16 B16 hs16 => ?_)
 refine A2 (E8 rfl) rfl ?_
 refine A2 (qf_ 0 0) rfl ?_
 refine A4 rfl (D5 rfl rfl hs16.one kR SetC.set UpC.upd ?_)
 refine A0 (D7 0) (A1 (mv_ (as_ (A0 (D7 4) (B4 ?_)))))
 exact ⟨_, (wb, blk [v16] 64) :: B16, [], I7 rfl rfl, Fit.none (Fit.pick (B := [_]) PickC.perm (Fit.last PickC.perm)), rfl, ⟨⟨v16, B16, rfl, W6 hs16 (by simp only [List.length_append]) (by simp [nums])⟩, B4u hlt hp.lt⟩⟩
theorem A4w (wb : Nat) (ws : List Nat) (M A : Mem) (hW : Wtr wb ws M) (hl : ws.length ≤ 16777216) : FnX Tryz.prog 20 [.pointer (some ⟨wb, 0, none⟩)] M A fun q M J => Wtr wb ws M ∧ By J q ws := by
 obtain ⟨⟨v, B, rfl, hsl⟩, hlt⟩ := hW
 haveI := hsl.cel
 refine FnX.enterZ (N := 8) Tryz.func20 rfl rfl rfl fun w_ => ?_
 refine B0 (D7 0) (A1 (as_ (A0 (D7 0) (A1 (mv_ ?_)))))
 refine A2 (E8 rfl) rfl ?_
 refine A2 (qf_ 0 0) rfl ?_
 refine A2 ql_ rfl ?_
 refine A4 rfl (H5 (e := 5) (sz := 1) (by_ := 1) rfl rfl kR rfl Sl.nil (hsl.rd SubC.sub) E7 PickC.perm (by unfold maxLen; omega) (by omega) rfl fun v7 B7 hs7 => ?_)
 refine as_ (A0 (D7 2) (B4 ?_))
 exact ⟨_, (wb, blk [v] 64) :: B, B7, I7 rfl rfl, Fit.pick PickC.perm (Fit.last PickC.perm), ⟨⟨v, B, rfl, hsl⟩, hlt⟩, ⟨by simpa using hs7.rd (R := B7) SubC.sub, hlt, hl⟩⟩

end Go.Proofs.YtlilcmjbaknafaaGreatDoor
set_option maxRecDepth 10000
namespace Go.Ed
variable {n : Nat} [NeZero n]
theorem A4x {x y d : Fin n} (h : y*y - x*x = 1 + d*x*x*y*y) : x*x*(1 + d*(y*y)) = y*y - 1 := by grind
theorem B9v (x2 y2 x3 y3 d : Fin n) (h2 : y2*y2 - x2*x2 = 1 + d*x2*x2*y2*y2) (h3 : y3*y3 - x3*x3 = 1 + d*x3*x3*y3*y3) :
    (1 + d*(y2*y2))*(1 + d*(y3*y3))*((1 - y2*y3 - (d*x2*x3*y2*y3 + x2*x3))*(1 - y2*y3 + (d*x2*x3*y2*y3 + x2*x3))) = (y2 - y3)*(y2 - y3)*((1 + d)*(1 + d*(y2*y3)*(y2*y3))) := by
  have e2 := A4x h2
  have e3 := A4x h3
  have e : (1 + d*(y2*y2))*(1 + d*(y3*y3))*((1 - y2*y3 - (d*x2*x3*y2*y3 + x2*x3))*(1 - y2*y3 + (d*x2*x3*y2*y3 + x2*x3))) = (1 + d*(y2*y2))*(1 + d*(y3*y3))*((1 - y2*y3)*(1 - y2*y3)) - (x2*x2*(1 + d*(y2*y2)))*(x3*x3*(1 + d*(y3*y3)))*((1 + d*(y2*y3))*(1 + d*(y2*y3))) := by clear h2 h3 e2 e3; grind
  rw [e, e2, e3]
  clear h2 h3 e2 e3 e
  grind
theorem B9w (x2 y2 x3 y3 d : Fin n) (h2 : y2*y2 - x2*x2 = 1 + d*x2*x2*y2*y2) (h3 : y3*y3 - x3*x3 = 1 + d*x3*x3*y3*y3) :
    (1 + d*(y2*y2))*(1 + d*(y3*y3))*((1 + y2*y3 + (x2*x3 - d*x2*x3*y2*y3))*(1 + y2*y3 - (x2*x3 - d*x2*x3*y2*y3))) = (y2 + y3)*(y2 + y3)*((1 + d)*(1 + d*(y2*y3)*(y2*y3))) := by
  have e2 := A4x h2
  have e3 := A4x h3
  have e : (1 + d*(y2*y2))*(1 + d*(y3*y3))*((1 + y2*y3 + (x2*x3 - d*x2*x3*y2*y3))*(1 + y2*y3 - (x2*x3 - d*x2*x3*y2*y3))) = (1 + d*(y2*y2))*(1 + d*(y3*y3))*((1 + y2*y3)*(1 + y2*y3)) - (x2*x2*(1 + d*(y2*y2)))*(x3*x3*(1 + d*(y3*y3)))*((1 - d*(y2*y3))*(1 - d*(y2*y3))) := by clear h2 h3 e2 e3; grind
  rw [e, e2, e3]
  clear h2 h3 e2 e3 e
  grind
theorem pf1 {m k t S t2 : Fin n} (h : 1 - t = t2) (s : S*t2 = m + k) : 1 - m - (t + k) = (1 - S)*t2 := by grind
theorem pf2 {m k t y t1 : Fin n} (h : 1 + t = t1) (s : y*t1 = m - k) : 1 - m + (t + k) = (1 - y)*t1 := by grind
theorem pf3 {m k t S t2 : Fin n} (h : 1 - t = t2) (s : S*t2 = m + k) : 1 + m + (k - t) = (1 + S)*t2 := by grind
theorem pf4 {m k t y t1 : Fin n} (h : 1 + t = t1) (s : y*t1 = m - k) : 1 + m - (k - t) = (1 + y)*t1 := by grind
theorem pf5 {a b y z : Fin n} : (b*(1 + z) - b*(1 - z))*(a*(1 + y) + a*(1 - y)) + (b*(1 + z) + b*(1 - z))*(a*(1 + y) - a*(1 - y)) = 4*(a*b)*(y + z) := by grind
theorem pf6 {a b y z : Fin n} : (b*(1 + z) - b*(1 - z))*(a*(1 + y) + a*(1 - y)) - (b*(1 + z) + b*(1 - z))*(a*(1 + y) - a*(1 - y)) = 4*(a*b)*(z - y) := by grind
theorem pf7 {Y L M I : Fin n} (h : L = Y*M) (hi : M*I = 1) : Y = L*I := by grind
theorem pf8 {c y a2 a3 S t2 t1 v I : Fin n} (h : y*y = a2*a3*((1 + S)*t2*((1 + v)*t1))*I) : 4*c*y*(4*c*y) = 16*(c*c)*(t1*t2)*(a2*a3)*I*(1 + v)*(1 + S) := by
  have : 4*c*y*(4*c*y) = 16*(c*c)*(y*y) := by grind
  rw [this, h]; clear this h; grind
theorem pf9 {c y a2 a3 S t2 t1 v I u : Fin n} (h : y*y = a2*a3*((1 - S)*t2*((1 - v)*t1))*I) (hu : u*(1 - v) = 1 + v) : u*(4*c*y*(4*c*y)) = 16*(c*c)*(t1*t2)*(a2*a3)*I*(1 + v)*(1 - S) := by
  have e : u*(4*c*y*(4*c*y)) = u*(16*(c*c)*(y*y)) := by clear h hu; grind
  have e2 : u*(16*(c*c)*(a2*a3*((1 - S)*t2*((1 - v)*t1))*I)) = (u*(1 - v))*(16*(c*c)*(a2*a3*((1 - S)*t2*t1)*I)) := by clear h hu e; grind
  rw [e, h, e2, hu]; clear h hu e e2; grind
theorem pg1 {a y : Fin n} : (a*(1 + y) + a*(1 - y))*(a*(1 + y) + a*(1 - y)) = 4*(a*a) := by grind
theorem pg2 {a y : Fin n} : (a*(1 + y) - a*(1 - y))*(a*(1 + y) - a*(1 - y)) = 4*(a*a)*(y*y) := by grind
theorem pg3 {d k y : Fin n} (h : d*(k + 1) = -k) : (1 + d)*(1 + k*(1 - y*y)) = 1 + d*(y*y) := by grind
theorem pg4 {d w x y : Fin n} (h : (1 + d)*w = 1 + d*(y*y)) (hx : x*x*(1 + d*(y*y)) = y*y - 1) : (1 + d)*((1 + x*x)*w) = (1 + d)*(y*y) := by
  have : (1 + d)*((1 + x*x)*w) = (1 + x*x)*((1 + d)*w) := by clear h hx; grind
  rw [this, h]; clear this h; grind
theorem pg5 {d x y D S : Fin n} (he : y*y - x*x = 1 + d*x*x*y*y) (hD : 1 - d*x*x*y*y = D) (s : S*D = y*y + x*x) : D*(1 + S) = 2 + 2*(x*x) ∧ D*(1 - S) = 2 - 2*(y*y) := by
  have : D = 2 - y*y + x*x := by grind
  constructor
  · have : D*(1 + S) = D + S*D := by clear s he hD this; grind
    rw [this, s]; clear this s; grind
  · have : D*(1 - S) = D - S*D := by clear s he hD this; grind
    rw [this, s]; clear this s; grind
theorem pg6 {a w D S x y : Fin n} (g : D*(1 + S) = 2 + 2*(x*x)) (h : (1 + x*x)*w = y*y) : 4*(a*a)*(4*(a*a)*(y*y)) = 8*(a*a*(a*a))*w*D*(1 + S) := by
  have e : 8*(a*a*(a*a))*w*D*(1 + S) = 8*(a*a*(a*a))*w*(D*(1 + S)) := by clear g h; grind
  have e2 : 8*(a*a*(a*a))*w*(2 + 2*(x*x)) = 16*(a*a*(a*a))*((1 + x*x)*w) := by clear g h e; grind
  rw [e, g, e2, h]; clear g h e e2; grind
theorem pg7 {a k D S y : Fin n} (g : D*(1 - S) = 2 - 2*(y*y)) : (4*(a*a) - 4*(a*a)*(y*y))*(4*(a*a) + k*(4*(a*a) - 4*(a*a)*(y*y))) = 8*(a*a*(a*a))*(1 + k*(1 - y*y))*D*(1 - S) := by
  have e : 8*(a*a*(a*a))*(1 + k*(1 - y*y))*D*(1 - S) = 8*(a*a*(a*a))*(1 + k*(1 - y*y))*(D*(1 - S)) := by clear g; grind
  rw [e, g]; clear g e; grind
variable {d : Fin n} (F : Fld n d)
structure RepU (X Z : Fin n) (P : Fin n × Fin n) : Prop where
  ex : ∃ c, c ≠ 0 ∧ X = c * (1 + P.2) ∧ Z = c * (1 - P.2)
include F
theorem Fld.four : (4 : Fin n) ≠ 0 := fun h => F.two ((F.mul0 2 2 (by grind)).elim id id)
theorem Fld.a_ne (y : Fin n) : 1 + d*(y*y) ≠ 0 := fun h => F.dy_ne (y := y) (by grind)
theorem Fld.rep_dif {A B C D u yD : Fin n} {P Q : Fin n × Fin n} (hP : On d P) (hQ : On d Q) (h1 : RepU A B P) (h2 : RepU C D Q) (hD : yD*(1 + d*P.1*Q.1*P.2*Q.2) = P.2*Q.2 - P.1*Q.1) (hu : u*(1 - yD) = 1 + yD) (hy : 1 + yD ≠ 0) {p q da cb : Fin n} (hp : p = A + B) (hq : q = A - B) (hda : da = (C - D)*p) (hcb : cb = (C + D)*q) :
    RepU ((da + cb)*(da + cb)) (u*((da - cb)*(da - cb))) (F.add P Q) := by
  obtain ⟨a, ha, rfl, rfl⟩ := h1
  obtain ⟨b, hb, rfl, rfl⟩ := h2
  obtain ⟨k1, k2⟩ := F.complete hP hQ
  obtain ⟨-, s2⟩ := F.add_spec hP hQ
  have hL := B9v P.1 P.2 Q.1 Q.2 d hP.eq hQ.eq
  have hR := B9w P.1 P.2 Q.1 Q.2 d hP.eq hQ.eq
  have n2 := F.a_ne P.2
  have n3 := F.a_ne Q.2
  have n4 : (1 + d) ≠ 0 := by have := F.a_ne 1; rwa [show d * ((1 : Fin n) * 1) = d by grind] at this
  have n5 : 1 + d*(P.2*Q.2)*(P.2*Q.2) ≠ 0 := by have := F.a_ne (P.2*Q.2); rwa [← show d*(P.2*Q.2)*(P.2*Q.2) = d*((P.2*Q.2)*(P.2*Q.2)) by grind] at this
  have n6 := F.mul_ne n4 n5
  have hi := F.hinv _ n6
  generalize F.add P Q = S at *
  have hI : F.inv ((1 + d)*(1 + d*(P.2*Q.2)*(P.2*Q.2))) ≠ 0 := fun h => by rw [h] at hi; exact F.one (by rw [← hi]; grind)
  rw [pf1 (S := S.2) rfl s2, pf2 rfl hD] at hL
  rw [pf3 (S := S.2) rfl s2, pf4 rfl hD] at hR
  have g : (16 : Fin n) ≠ 0 := fun h => F.four ((F.mul0 4 4 (by grind)).elim id id)
  refine ⟨16*(a*b*(a*b))*((1 + d*P.1*Q.1*P.2*Q.2)*(1 - d*P.1*Q.1*P.2*Q.2))*((1 + d*(P.2*P.2))*(1 + d*(Q.2*Q.2)))*F.inv ((1 + d)*(1 + d*(P.2*Q.2)*(P.2*Q.2)))*(1 + yD), ?_, ?_, ?_⟩
  · exact F.mul_ne (F.mul_ne (F.mul_ne (F.mul_ne (F.mul_ne g (F.mul_ne (F.mul_ne ha hb) (F.mul_ne ha hb))) (F.mul_ne k1 k2)) (F.mul_ne n2 n3)) hI) hy
  · subst hp hq hda hcb
    rw [pf5]
    exact pf8 (pf7 hR hi)
  · subst hp hq hda hcb
    rw [pf6]
    have e : (Q.2 - P.2)*(Q.2 - P.2) = (P.2 - Q.2)*(P.2 - Q.2) := by clear hL hR hi s2 hD hu; grind
    exact pf9 (e.trans (pf7 hL hi)) hu
theorem Fld.rep_dbl {A B k : Fin n} {P : Fin n × Fin n} (hP : On d P) (h1 : RepU A B P) (hk : d*(k + 1) = -k) {ss tt : Fin n} (hs : ss = (A + B)*(A + B)) (ht : tt = (A - B)*(A - B)) :
    RepU (ss*tt) ((ss - tt)*(ss + k*(ss - tt))) (F.add P P) := by
  obtain ⟨a, ha, rfl, rfl⟩ := h1
  obtain ⟨k1, k2⟩ := F.complete hP hP
  obtain ⟨-, s2⟩ := F.add_spec hP hP
  have n2 := F.a_ne P.2
  have n4 : (1 + d) ≠ 0 := by have := F.a_ne 1; rwa [show d * ((1 : Fin n) * 1) = d by grind] at this
  have hk1 := pg3 (y := P.2) hk
  have hw : 1 + k*(1 - P.2*P.2) ≠ 0 := fun h => by rw [h] at hk1; exact n2 (by rw [← hk1]; grind)
  have hx1 := F.cancel n4 (pg4 hk1 (A4x hP.eq))
  obtain ⟨g1, g2⟩ := pg5 hP.eq rfl s2
  rw [pg1] at hs
  rw [pg2] at ht
  subst hs ht
  have g : (8 : Fin n) ≠ 0 := fun h => F.two ((F.mul0 2 4 (by grind)).elim id fun h => absurd h F.four)
  exact ⟨8*(a*a*(a*a))*(1 + k*(1 - P.2*P.2))*(1 - d*P.1*P.1*P.2*P.2), F.mul_ne (F.mul_ne (F.mul_ne g (F.mul_ne (F.mul_ne ha ha) (F.mul_ne ha ha))) hw) k2, pg6 g1 hx1, pg7 g2⟩
theorem Fld.add_neg {P : Fin n × Fin n} (hP : On d P) : On d (-P.1, P.2) ∧ F.add P (-P.1, P.2) = ((0 : Fin n), (1 : Fin n)) := by
  have he := hP.eq
  have ho : On d (-P.1, P.2) := ⟨by show P.2*P.2 - -P.1 * -P.1 = 1 + d * -P.1 * -P.1 * P.2 * P.2; grind⟩
  refine ⟨ho, F.add_eq hP ho ?_ ?_⟩
  · show 0 * (1 + d*P.1* -P.1*P.2*P.2) = P.1*P.2 + -P.1*P.2; grind
  · show 1 * (1 - d*P.1* -P.1*P.2*P.2) = P.2*P.2 + P.1* -P.1; grind
theorem Fld.dif {P Q : Fin n × Fin n} (hP : On d P) (hQ : On d Q) : Q.2*(1 + d*P.1*(F.add P Q).1*P.2*(F.add P Q).2) = P.2*(F.add P Q).2 - P.1*(F.add P Q).1 := by
  obtain ⟨o, e⟩ := F.add_neg hP
  have hS := F.add_on hP hQ
  have e2 : F.add (F.add P Q) (-P.1, P.2) = Q := by
    rw [F.add_comm P Q, F.add_assoc hQ hP o, e, F.add_o]
  have h := (F.add_spec hS o).2
  rw [e2] at h
  dsimp only at h
  generalize F.add P Q = S at *
  clear e2 e hS
  grind
end Go.Ed

namespace Go.Proofs.YtlilcmjbaknafaaGreatDoor
open Go.Px Go.Ed
theorem A7R : Go.Px.IsPr 531581 := A6R 730 (by decide) (by decide) (by decide +kernel)
theorem A6j : Go.Px.IsPr 1224481 := A6R 1107 (by decide) (by decide) (by decide +kernel)
theorem prL1 : Go.Px.IsPr 1257559732178653 := A8B (F := 531581 * 1224481) (by decide) (by decide) fun s hs hd => Z4 A7R A6j (by decide) (H4 (a := 2) (by decide) (by decide) A7R (by decide +kernel) s hs hd) (H4 (a := 2) (by decide) (by decide) A6j (by decide +kernel) s hs hd)
theorem prL2 : Go.Px.IsPr 4434155615661930479 := A8B (F := 1257559732178653) (by decide) (by decide) (H4 (a := 2) (by decide) (by decide) prL1 (by decide +kernel))
theorem prL3 : Go.Px.IsPr 172054593956031949258510691 := A8B (F := 4434155615661930479) (by decide) (by decide) (H4 (a := 2) (by decide) (by decide) prL2 (by decide +kernel))
theorem prL4 : Go.Px.IsPr 19757330305831588566944191468367130476339 := A8B (F := 172054593956031949258510691) (by decide) (by decide) (H4 (a := 2) (by decide) (by decide) prL3 (by decide +kernel))
theorem prL5 : Go.Px.IsPr 276602624281642239937218680557139826668747 := A8B (F := 19757330305831588566944191468367130476339) (by decide) (by decide) (H4 (a := 2) (by decide) (by decide) prL4 (by decide +kernel))
theorem prL : Go.Px.IsPr lN := A8B (F := 276602624281642239937218680557139826668747) (by decide) (by decide) (H4 (a := 2) (by decide) (by decide) prL5 (by decide +kernel))
structure LR (P : Fin p25 × Fin p25) (s : Lad) (m1 m2 : Nat) : Prop where
  r1 : RepU (fF s.a) (fF s.b) (FF.nsm m1 P)
  r2 : RepU (fF s.c) (fF s.d) (FF.nsm m2 P)
  la : s.a < p25
  lb : s.b < p25
  lc : s.c < p25
  ld : s.d < p25
theorem LR.sw {P : Fin p25 × Fin p25} {s : Lad} {m1 m2 : Nat} (h : LR P s m1 m2) : LR P ⟨s.c, s.d, s.a, s.b⟩ m2 m1 := ⟨h.r2, h.r1, h.lc, h.ld, h.la, h.lb⟩
theorem B9x : fF dN * (fF 121665 + 1) = -fF 121665 := by decide +kernel
theorem LR.step {P : Fin p25 × Fin p25} {u : Nat} {s : Lad} {m1 m2 : Nat} (hP : On (fF dN) P) (hU : fF u * (1 - P.2) = 1 + P.2) (h2 : 1 + P.2 ≠ 0) (h : LR P s m1 m2) (hm : m2 = m1 + 1 ∨ m1 = m2 + 1) : LR P (B0M u s) (m1 + m1) (m1 + m2) := by
  have o1 := FF.nsm_on hP m1
  have o2 := FF.nsm_on hP m2
  have hD : P.2*(1 + fF dN*(FF.nsm m1 P).1*(FF.nsm m2 P).1*(FF.nsm m1 P).2*(FF.nsm m2 P).2) = (FF.nsm m1 P).2*(FF.nsm m2 P).2 - (FF.nsm m1 P).1*(FF.nsm m2 P).1 := by
    rcases hm with rfl | rfl
    · exact FF.dif o1 hP
    · have h1 := FF.dif o2 hP
      rw [← FF.nsm_succ] at h1
      generalize FF.nsm m2 P = Q at *
      generalize FF.nsm (m2 + 1) P = R at *
      have e1 : fF dN*R.1*Q.1*R.2*Q.2 = fF dN*Q.1*R.1*Q.2*R.2 := by clear h1 h hU; grind
      have e2 : R.2*Q.2 - R.1*Q.1 = Q.2*R.2 - Q.1*R.1 := by clear h1 h hU; grind
      rw [e1, e2]; exact h1
  refine ⟨?_, ?_, A0g _ _, A0g _ _, A0g _ _, A0g _ _⟩
  · rw [FF.nsm_add hP]
    show RepU (fF (fM (fM (fA s.a s.b) (fA s.a s.b)) (fM (fS s.a s.b) (fS s.a s.b)))) (fF (fM (fS (fM (fA s.a s.b) (fA s.a s.b)) (fM (fS s.a s.b) (fS s.a s.b))) (fA (fM (fA s.a s.b) (fA s.a s.b)) (fM 121665 (fS (fM (fA s.a s.b) (fA s.a s.b)) (fM (fS s.a s.b) (fS s.a s.b))))))) _
    rw [A12, A12 (fS _ _) (fA _ _), B1P, A12 121665, B3f (A0g _ _)]
    exact FF.rep_dbl o1 h.r1 B9x (by rw [A12, B1P]) (by rw [A12, B3f h.lb])
  · rw [FF.nsm_add hP]
    show RepU (fF (fM (fA (fM (fS s.c s.d) (fA s.a s.b)) (fM (fA s.c s.d) (fS s.a s.b))) (fA (fM (fS s.c s.d) (fA s.a s.b)) (fM (fA s.c s.d) (fS s.a s.b))))) (fF (fM u (fM (fS (fM (fS s.c s.d) (fA s.a s.b)) (fM (fA s.c s.d) (fS s.a s.b))) (fS (fM (fS s.c s.d) (fA s.a s.b)) (fM (fA s.c s.d) (fS s.a s.b)))))) _
    rw [A12 (fA _ _), A12 u, A12 (fS _ _) (fS _ _), B1P (fM _ _), B3f (A0g _ _)]
    exact FF.rep_dif o1 o2 h.r1 h.r2 hD hU h2 (p := fF s.a + fF s.b) (q := fF s.a - fF s.b) rfl rfl (by rw [A12, B3f h.ld, B1P]) (by rw [A12, B1P, B3f h.lb])
theorem B0Z {P : Fin p25 × Fin p25} {u : Nat} (hP : On (fF dN) P) (hu : u < p25) (hU : fF u * (1 - P.2) = 1 + P.2) (h1 : 1 - P.2 ≠ 0) (h2 : 1 + P.2 ≠ 0) {n : Nat} (hn : n < 2 ^ 255) : ∀ k, k ≤ 255 → LR P (A13 u n k) (n / 2 ^ (255 - k)) (n / 2 ^ (255 - k) + 1)
  | 0, _ => by
    rw [Nat.div_eq_of_lt hn]
    have i2 := FF.hinv _ FF.two
    have i1 := FF.hinv _ h1
    have ne : ∀ {a : Fin p25}, a ≠ 0 → FF.inv a ≠ 0 := fun {a} ha h => by
      have := FF.hinv _ ha
      rw [h] at this
      exact FF.one (by rw [← this]; grind)
    refine ⟨⟨FF.inv 2, ne FF.two, ?_, ?_⟩, ⟨FF.inv (1 - P.2), ne h1, ?_, ?_⟩, by show 1 < p25; decide, by show 0 < p25; decide, hu, by show 1 < p25; decide⟩
    · show fF 1 = FF.inv 2 * (1 + 1)
      rw [show (1 : Fin p25) + 1 = 2 from rfl, ← show (2 : Fin p25) * FF.inv 2 = FF.inv 2 * 2 by grind, i2]; rfl
    · show fF 0 = FF.inv 2 * (1 - 1)
      rw [show (1 : Fin p25) - 1 = 0 from rfl, show FF.inv 2 * (0 : Fin p25) = 0 by grind]; rfl
    · show fF u = FF.inv (1 - P.2) * (1 + (FF.add ((0 : Fin p25), (1 : Fin p25)) P).2)
      rw [FF.add_comm, FF.add_o, ← hU]
      have : FF.inv (1 - P.2) * (fF u * (1 - P.2)) = fF u * ((1 - P.2) * FF.inv (1 - P.2)) := by clear i1 i2 hU; grind
      rw [this, i1]; grind
    · show fF 1 = FF.inv (1 - P.2) * (1 - (FF.add ((0 : Fin p25), (1 : Fin p25)) P).2)
      rw [FF.add_comm, FF.add_o]
      have : FF.inv (1 - P.2) * (1 - P.2) = (1 - P.2) * FF.inv (1 - P.2) := by clear i1 i2 hU; grind
      rw [this, i1]; rfl
  | k + 1, hk => by
    have ih := B0Z hP hu hU h1 h2 hn k (by omega)
    have e1 : 255 - (k + 1) = 254 - k := by omega
    have e2 : n / 2 ^ (254 - k) = 2 * (n / 2 ^ (255 - k)) + n / 2 ^ (254 - k) % 2 := by
      have e3 : n / 2 ^ (255 - k) = n / 2 ^ (254 - k) / 2 := by rw [Nat.div_div_eq_div_mul, ← Nat.pow_succ]; congr 2; omega
      rw [e3]; omega
    rw [e1, e2]
    generalize n / 2 ^ (255 - k) = m at *
    show LR P (swL (decide (n / 2 ^ (254 - k) % 2 = 1)) (B0M u (swL (decide (n / 2 ^ (254 - k) % 2 = 1)) (A13 u n k)))) _ _
    by_cases hb : n / 2 ^ (254 - k) % 2 = 1
    · rw [hb]
      have h3 := (ih.sw.step hP hU h2 (.inr rfl)).sw
      rw [show m + 1 + m = 2 * m + 1 by omega, show m + 1 + (m + 1) = 2 * m + 1 + 1 by omega] at h3
      exact h3
    · rw [show n / 2 ^ (254 - k) % 2 = 0 by omega]
      have h3 := ih.step hP hU h2 (.inl rfl)
      rw [show m + m = 2 * m + 0 by omega, show m + (m + 1) = 2 * m + 0 + 1 by omega] at h3
      exact h3
noncomputable def uOf (P : Fin p25 × Fin p25) : Fin p25 := (1 + P.2) * FF.inv (1 - P.2)
theorem B3u : FF.inv 0 = 0 := by
  show fF (fI (0 : Fin p25).val) = 0
  rw [B5N, B7S (by decide)]
  decide +kernel
theorem B79 {P : Fin p25 × Fin p25} {u : Nat} (hP : On (fF dN) P) (hu : u < p25) (hU : fF u * (1 - P.2) = 1 + P.2) (h1 : 1 - P.2 ≠ 0) (h2 : 1 + P.2 ≠ 0) {n : Nat} (hn : n < 2 ^ 255) : fM (A13 u n 255).a (fI (A13 u n 255).b) = (uOf (FF.nsm n P)).val := by
  have h := B0Z hP hu hU h1 h2 hn 255 (Nat.le_refl _)
  rw [show 255 - 255 = 0 from rfl, Nat.pow_zero, Nat.div_one] at h
  obtain ⟨c, hc, e1, e2⟩ := h.r1
  have hb := h.lb
  generalize A13 u n 255 = s at *
  have e3 : fF (fM s.a (fI s.b)) = uOf (FF.nsm n P) := by
    rw [A12, e1]
    have e4 : fF (fI s.b) = FF.inv (fF s.b) := by
      show _ = fF (fI (fF s.b).val)
      rw [A0G, Nat.mod_eq_of_lt hb]
    rw [e4, e2]
    unfold uOf
    generalize (FF.nsm n P).2 = y
    by_cases hy : 1 - y = 0
    · rw [hy, show c * (0 : Fin p25) = 0 by grind, B3u]; grind
    · have i1 := FF.hinv _ hy
      have i2 := FF.hinv _ (FF.mul_ne hc hy)
      have i3 : c * FF.inv (c * (1 - y)) = FF.inv (1 - y) := by
        refine FF.cancel hy ?_
        have e : (1 - y) * (c * FF.inv (c * (1 - y))) = c * (1 - y) * FF.inv (c * (1 - y)) := by
          generalize FF.inv (c * (1 - y)) = z
          clear i1 i2 e1 e2 e4
          grind
        rw [e, i2, i1]
      have : c * (1 + y) * FF.inv (c * (1 - y)) = (1 + y) * (c * FF.inv (c * (1 - y))) := by clear i1 i2 i3 e1 e2 e4; grind
      rw [this, i3]
  have := congrArg Fin.val e3
  rw [A0G, Nat.mod_eq_of_lt (A0g _ _)] at this
  exact this
theorem B6a {B : Fin p25 × Fin p25} (hB : On (fF dN) B) (hne : B ≠ ((0 : Fin p25), (1 : Fin p25))) (hL : FF.nsm lN B = ((0 : Fin p25), (1 : Fin p25))) {j : Nat} (h : FF.nsm j B = ((0 : Fin p25), (1 : Fin p25))) : lN ∣ j := by
  apply Decidable.byContradiction
  intro hd
  have hc := prL.cop hd
  -- gcd: some a * j = 1 + b * lN
  have key : ∀ a b : Nat, FF.nsm a B = ((0 : Fin p25), (1 : Fin p25)) → FF.nsm b B = ((0 : Fin p25), (1 : Fin p25)) → FF.nsm (Nat.gcd a b) B = ((0 : Fin p25), (1 : Fin p25)) := by
    intro a b
    induction a, b using Nat.gcd.induction with
    | H0 b => intro _ h; rwa [Nat.gcd_zero_left]
    | H1 a b ha ih =>
      intro h1 h2
      rw [Nat.gcd_rec]
      refine ih ?_ h1
      rw [FF.nsm_mod hB h1]; exact h2
  have h1 := key lN j hL h
  rw [hc] at h1
  apply hne
  have : FF.nsm 1 B = FF.add ((0 : Fin p25), (1 : Fin p25)) B := rfl
  rw [this, FF.add_comm, FF.add_o] at h1
  exact h1
theorem B9y {P : Fin p25 × Fin p25} (hP : On (fF dN) P) (h : P.2 * P.2 = 1) : FF.add P P = ((0 : Fin p25), (1 : Fin p25)) := by
  have hx := A4x hP.eq
  rw [h] at hx
  have hx0 : P.1 * P.1 * (1 + fF dN * 1) = 0 := by rw [hx]; grind
  have hn := FF.a_ne 1
  rw [show (1 : Fin p25) * 1 = 1 from rfl] at hn
  have h1 : P.1 * P.1 = 0 := (FF.mul0 _ _ hx0).resolve_right hn
  have h2 : P.1 = 0 := (FF.mul0 _ _ h1).elim id id
  obtain ⟨x, y⟩ := P
  dsimp only at h h2
  subst h2
  refine FF.add_eq hP hP ?_ ?_
  · show 0 * _ = 0 * y + 0 * y; grind
  · show 1 * (1 - fF dN * 0 * 0 * y * y) = y * y + 0 * 0
    rw [h]; grind
theorem y_ok {B : Fin p25 × Fin p25} (hB : On (fF dN) B) (hne : B ≠ ((0 : Fin p25), (1 : Fin p25))) (hL : FF.nsm lN B = ((0 : Fin p25), (1 : Fin p25))) {j : Nat} (hj : ¬ lN ∣ j + j) : 1 - (FF.nsm j B).2 ≠ 0 ∧ 1 + (FF.nsm j B).2 ≠ 0 := by
  have key : (FF.nsm j B).2 * (FF.nsm j B).2 ≠ 1 := fun h => hj (B6a hB hne hL (by rw [FF.nsm_add hB]; exact B9y (FF.nsm_on hB j) h))
  exact ⟨fun h => key (by grind), fun h => key (by grind)⟩
theorem B3v {B : Fin p25 × Fin p25} {b : Nat} (hB : On (fF dN) B) (hne : B ≠ ((0 : Fin p25), (1 : Fin p25))) (hL : FF.nsm lN B = ((0 : Fin p25), (1 : Fin p25))) (hb : b < p25) (hU : fF b * (1 - B.2) = 1 + B.2) (h1 : 1 - B.2 ≠ 0) (h2 : 1 + B.2 ≠ 0) {m k : Nat} (hm : m < 2 ^ 255) (hk : k < 2 ^ 255) (jm : ¬ lN ∣ m + m) (jk : ¬ lN ∣ k + k) {um uk : Nat} (em : um = fM (A13 b m 255).a (fI (A13 b m 255).b)) (ek : uk = fM (A13 b k 255).a (fI (A13 b k 255).b)) :
    fM (A13 um k 255).a (fI (A13 um k 255).b) = fM (A13 uk m 255).a (fI (A13 uk m 255).b) := by
  have go : ∀ {m k um : Nat}, m < 2 ^ 255 → k < 2 ^ 255 → ¬ lN ∣ m + m → um = fM (A13 b m 255).a (fI (A13 b m 255).b) → fM (A13 um k 255).a (fI (A13 um k 255).b) = (uOf (FF.nsm (k * m) B)).val := by
    intro m k um hm hk jm em
    rw [B79 hB hb hU h1 h2 hm] at em
    obtain ⟨y1, y2⟩ := y_ok hB hne hL jm
    rw [FF.nsm_mul hB]
    refine B79 (FF.nsm_on hB m) (by rw [em]; exact (uOf _).isLt) ?_ y1 y2 hk
    rw [em, A5d]
    unfold uOf
    have i1 := FF.hinv _ y1
    generalize (FF.nsm m B).2 = y at *
    have : (1 + y) * FF.inv (1 - y) * (1 - y) = (1 + y) * ((1 - y) * FF.inv (1 - y)) := by clear i1 hU; grind
    rw [this, i1]; grind
  rw [go hm hk jm em, go hk hm jk ek, Nat.mul_comm]
theorem rd32 {v : Nat} (h : v < p25) : rdN (A01 8 32 v 255) = v := by
  unfold rdN
  rw [if_pos (N9 _ _ _ _), B5J, show (57896044618658097711785492504343953926634992332820282019728792003956564819968 : Nat) = 2 ^ 255 from rfl, Nat.mod_mod, Nat.mod_eq_of_lt (a := v) (b := 2 ^ 255) (Nat.lt_trans h (by decide)), Nat.mod_eq_of_lt h]
theorem B3w (x : Nat) : (x &&& 248) % 8 = 0 := by
  have := Nat.and_mod_two_pow (a := x) (b := 248) (n := 3)
  rw [show (2 : Nat) ^ 3 = 8 from rfl] at this
  rw [this]; simp
theorem B3x {w : List Nat} (h : ∀ x ∈ w, x < 256) : ∃ m, bv (I6 w) = 8 * m ∧ 2 ^ 251 ≤ m ∧ m < 2 ^ 252 := by
  have hl := A2f w
  have hlt := A6h h
  have hb := B7K hlt
  rw [hl] at hb
  have b0 := A6O hlt 0
  have b31 := A6O hlt 31
  have hf := K2 w 32
  have e0 : (I6 w).getD 0 0 = (G2 w 32).getD 0 0 &&& 248 := by
    unfold I6
    dsimp only
    rw [List.getD_eq_getElem?_getD, List.getElem?_set_ne (by decide), List.getElem?_set_self (by omega)]
    rfl
  have e31 : ∃ z, (I6 w).getD 31 0 = z % 128 ||| 64 := by
    refine ⟨((G2 w 32).set 0 ((G2 w 32).getD 0 0 &&& 248)).getD 31 0, ?_⟩
    unfold I6
    dsimp only
    rw [List.getD_eq_getElem?_getD, List.getElem?_set_self (by rw [List.length_set]; omega)]
    rfl
  obtain ⟨z, e31⟩ := e31
  rw [e0] at b0
  rw [e31] at b31
  have z1 : 64 ≤ z % 128 ||| 64 := Nat.right_le_or
  have z2 : z % 128 ||| 64 < 2 ^ 7 := Nat.or_lt_two_pow (Nat.mod_lt _ (by decide)) (by decide)
  have c8 := B3w ((G2 w 32).getD 0 0)
  generalize (G2 w 32).getD 0 0 &&& 248 = c at *
  generalize z % 128 ||| 64 = y at *
  generalize bv (I6 w) = b at *
  clear e0 e31 hl hlt hf
  rw [Nat.pow_zero, Nat.div_one] at b0
  have d31 : b / 256 ^ 31 < 256 := Nat.div_lt_of_lt_mul (by rw [← Nat.pow_succ]; exact hb)
  rw [Nat.mod_eq_of_lt d31] at b31
  have l1 : 64 * 256 ^ 31 ≤ b := by have := (Nat.le_div_iff_mul_le (show 0 < 256 ^ 31 by decide)).1 (show 64 ≤ b / 256 ^ 31 by omega); exact this
  have l2 : b < 128 * 256 ^ 31 := by have := (Nat.div_lt_iff_lt_mul (show 0 < 256 ^ 31 by decide)).1 (show b / 256 ^ 31 < 128 by omega); exact this
  have h8 : b % 8 = 0 := by omega
  refine ⟨b / 8, by omega, ?_, ?_⟩
  · have : (64 : Nat) * 256 ^ 31 = 8 * 2 ^ 251 := by decide
    omega
  · have : (128 : Nat) * 256 ^ 31 = 8 * 2 ^ 252 := by decide
    omega
theorem A7S {w : List Nat} (h : ∀ x ∈ w, x < 256) : bv (I6 w) < 2 ^ 255 ∧ ¬ lN ∣ bv (I6 w) + bv (I6 w) := by
  obtain ⟨m, e, h1, h2⟩ := B3x h
  rw [e]
  refine ⟨by have : (2 : Nat) ^ 255 = 8 * 2 ^ 252 := by decide
             omega, fun hd => ?_⟩
  rw [show 8 * m + 8 * m = 16 * m by omega] at hd
  rcases prL.mul hd with h3 | h3
  · exact absurd (Nat.le_of_dvd (by decide) h3) (by decide)
  · have := Nat.le_of_dvd (by have : (0 : Nat) < 2 ^ 251 := by decide
                              omega) h3
    have : (2 : Nat) ^ 252 < lN := by decide
    omega
theorem b_u : fF 9 * (1 - bPt.2) = 1 + bPt.2 := by decide +kernel
theorem B9z : 1 - bPt.2 ≠ 0 ∧ 1 + bPt.2 ≠ 0 := by decide +kernel
theorem b_no : bPt ≠ ((0 : Fin p25), (1 : Fin p25)) := fun h => B9z.1 (by rw [h]; rfl)
theorem B6b : rdN B3l = 9 := by decide +kernel
theorem A6k {t : List Nat} : rdN (A0m t) = fM (A13 9 (bv (I6 t)) 255).a (fI (A13 9 (bv (I6 t)) 255).b) := by
  unfold A0m x25
  rw [B6b]
  exact rd32 (A0g _ _)
theorem B3y {s t : List Nat} (hs : ∀ x ∈ s, x < 256) (ht : ∀ x ∈ t, x < 256) : x25 s (A0m t) = x25 t (A0m s) := by
  obtain ⟨s1, s2⟩ := A7S hs
  obtain ⟨t1, t2⟩ := A7S ht
  unfold x25
  rw [B3v b_on b_no B50 (b := 9) (by decide) b_u B9z.1 B9z.2 t1 s1 t2 s2 (um := rdN (A0m t)) (uk := rdN (A0m s)) A6k A6k]

theorem A6X {w : List Nat} {n : Nat} (h : w.length = n) : G2 w n = w := by
  unfold G2; rw [List.take_of_length_le (by omega), h, Nat.sub_self]; simp
theorem B00 (w : List Nat) : (A0m w).length = 32 := A2g _ _
theorem B3z (x y : Int) : srt x y = srt y x := by
  unfold srt
  rcases Int.lt_trichotomy x y with h | h | h
  · rw [if_neg (by omega), if_pos h]
  · subst h; rfl
  · rw [if_pos h, if_neg (by omega)]
def B6c (i j : Nat) : Tm := ⟨4, srt ((i : Nat) : Int) ((j : Nat) : Int), [], 0⟩
theorem B6d {i j : Nat} (hi : i ≤ 1048576) (hj : j ≤ 1048576) : Tmo (B6c i j) := A9Z (s := 0) (o := 0) (A1C _ _) (fun z hz => (A9Y hz).elim (fun e => e ▸ A5i hi) (fun e => e ▸ A5i hj)) (.inl rfl)
def B8G (s : Ps) (a b k : List Nat) : Prop := ∃ i j m : Nat, i < s.ts.length ∧ j < s.ts.length ∧ a = bts ((i : Nat) : Int) ∧ b = bts ((j : Nat) : Int) ∧ s.ts[m]? = some (B6c i j) ∧ k = bts ((m : Nat) : Int)
def A2h (s : Ps) (a b k : List Nat) : Prop := if s.real then k = x25 (G2 a 32) (A0m (G2 b 32)) ∧ (∀ x ∈ a, x < 256) ∧ ∀ x ∈ b, x < 256 else B8G s a b k
theorem A2h.t {s : Ps} (h : s.real = true) {a b k : List Nat} : A2h s a b k ↔ k = x25 (G2 a 32) (A0m (G2 b 32)) ∧ (∀ x ∈ a, x < 256) ∧ ∀ x ∈ b, x < 256 := by unfold A2h; rw [if_pos h]
theorem A2h.f {s : Ps} (h : s.real = false) {a b k : List Nat} : A2h s a b k ↔ B8G s a b k := by unfold A2h; rw [if_neg (by rw [h]; decide)]
theorem B8G.ext {s s' : Ps} {a b k : List Nat} (h : B8G s a b k) (he : Pext s s') : B8G s' a b k := by
  obtain ⟨l, e⟩ := he.ts
  obtain ⟨i, j, m, h1, h2, h3, h4, h5, h6⟩ := h
  exact ⟨i, j, m, by rw [e, List.length_append]; omega, by rw [e, List.length_append]; omega, h3, h4, by rw [e]; exact A3n h5, h6⟩
theorem A2h.ext {s s' : Ps} {a b k : List Nat} (h : A2h s a b k) (he : Pext s s') : A2h s' a b k := by
  cases hr : s.real with
  | true => rw [A2h.t hr] at h; rw [A2h.t (he.real.trans hr)]; exact h
  | false => rw [A2h.f hr] at h; rw [A2h.f (he.real.trans hr)]; exact h.ext he
theorem A2h.comm {s : Ps} {a b k : List Nat} (h : A2h s a b k) : A2h s b a k := by
  cases hr : s.real with
  | true =>
    rw [A2h.t hr] at h ⊢
    refine ⟨?_, h.2.2, h.2.1⟩
    rw [h.1]
    exact B3y (A0Z h.2.1 32) (A0Z h.2.2 32)
  | false =>
    rw [A2h.f hr] at h ⊢
    obtain ⟨i, j, m, h1, h2, h3, h4, h5, h6⟩ := h
    exact ⟨j, i, m, h2, h1, h4, h3, by rw [h5]; unfold B6c; rw [B3z], h6⟩
theorem B6e {ts : List Tm} {i j p : Nat} (hp : ts[p]? = some (B0a ((j : Nat) : Int))) : agT ts ((i : Nat) : Int) ((p : Nat) : Int) = B6c i j := by
  rw [A9X (t := B0a ((j : Nat) : Int)) (by omega) (by rw [Int.toNat_natCast]; exact hp) ⟨rfl, rfl⟩]
  rfl
theorem B01 {s : Ps} {i j p : Nat} (hi : i < s.ts.length) (hp : s.ts[p]? = some (B0a ((j : Nat) : Int))) (hl : s.ts.length ≤ 1048576) :
    B5D s (bts ((i : Nat) : Int)) (bts ((p : Nat) : Int)) = { s with ts := add s.ts (B6c i j) } ∧ B60 s (bts ((i : Nat) : Int)) (bts ((p : Nat) : Int)) = bts ((at_ s.ts (B6c i j) : Nat) : Int) := by
  have hpl := (List.getElem?_eq_some_iff.1 hp).1
  obtain ⟨a1, a2⟩ := A3o hi hl
  obtain ⟨b1, b2⟩ := A3o hpl hl
  unfold B5D B60
  rw [a1, a2, b1, b2, B6e hp]
  exact ⟨rfl, rfl⟩
theorem A2i {s : Ps} (h : s.real = true) (a B : List Nat) : W7 s a B = s ∧ A0K s a B = x25 (G2 a 32) (G2 B 32) := by unfold W7 A0K; rw [if_pos h, if_pos h]; exact ⟨rfl, rfl⟩
theorem A2j {s : Ps} (h : s.real = false) (a B : List Nat) : W7 s a B = B5D s a B ∧ A0K s a B = B60 s a B := by unfold W7 A0K; rw [if_neg (by rw [h]; decide), if_neg (by rw [h]; decide)]; exact ⟨rfl, rfl⟩
theorem B4v (s : Ps) (a B : List Nat) : Ext s (W7 s a B) := by
  cases hr : s.real with
  | true => rw [(A2i hr a B).1]; exact Ext.refl s
  | false =>
    rw [(A2j hr a B).1]
    obtain ⟨l1, e1⟩ := A1D s.ts a
    obtain ⟨l2, e2⟩ := A1D (rdT s.ts a) B
    obtain ⟨l3, e3⟩ := A5h (rdT (rdT s.ts a) B) (agT (rdT (rdT s.ts a) B) ((rdI s.ts a : Nat) : Int) ((rdI (rdT s.ts a) B : Nat) : Int))
    refine ⟨⟨rfl, l1 ++ (l2 ++ l3), ?_⟩, rfl, Nat.le_refl _⟩
    show add _ _ = _
    rw [e3, e2, e1]; simp
theorem A3G (s : Ps) (a B : List Nat) : (W7 s a B).ts.length ≤ s.ts.length + 3 := by
  cases hr : s.real with
  | true => rw [(A2i hr a B).1]; omega
  | false =>
    rw [(A2j hr a B).1]
    have h1 := U1 (ts := s.ts) (ws := a)
    have h2 := U1 (ts := rdT s.ts a) (ws := B)
    have h3 := A1A (ts := rdT (rdT s.ts a) B) (t := agT (rdT (rdT s.ts a) B) ((rdI s.ts a : Nat) : Int) ((rdI (rdT s.ts a) B : Nat) : Int))
    show (add _ _).length ≤ _
    omega
theorem B6f (s : Ps) (a B : List Nat) : (W7 s a B).n = s.n := by unfold W7; split <;> rfl
theorem B8a {s : Ps} {a b B : List Nat} (ha : Kok s a) (hB : U5 s b B) (ht : Tok s.ts) (hl : s.ts.length ≤ 1048576) (h1 : ∀ x ∈ a, x < 256) (h2 : ∀ x ∈ b, x < 256) : A2h (W7 s a B) a b (A0K s a B) ∧ Tok (W7 s a B).ts := by
  cases hr : s.real with
  | true =>
    rw [(A2i hr a B).1, (A2i hr a B).2, A2h.t hr]
    unfold U5 at hB
    rw [if_pos hr] at hB
    rw [hB, A6X (B00 _)]
    exact ⟨⟨rfl, h1, h2⟩, ht⟩
  | false =>
    unfold U5 at hB
    rw [if_neg (by rw [hr]; decide)] at hB
    obtain ⟨i, hi, rfl⟩ := ha hr
    obtain ⟨j, p, hj, rfl, hp, rfl⟩ := hB
    obtain ⟨e1, e2⟩ := B01 hi hp hl
    rw [(A2j hr _ _).1, (A2j hr _ _).2, e1, e2]
    obtain ⟨l, g1, g2, g3, g4⟩ := A32 (B6d (show i ≤ 1048576 by omega) (show j ≤ 1048576 by omega)) ht
    exact ⟨(A2h.f (s := { s with ts := add s.ts (B6c i j) }) hr).2 ⟨i, j, _, by show i < (add s.ts _).length; rw [g1, List.length_append]; omega, by show j < (add s.ts _).length; rw [g1, List.length_append]; omega, rfl, rfl, g3, rfl⟩, g4⟩
theorem A2h.eq {s : Ps} {a b B k : List Nat} (h : A2h s a b k) (hB : U5 s b B) (ht : Tok s.ts) (hl : s.ts.length ≤ 1048576) : W7 s a B = s ∧ A0K s a B = k := by
  cases hr : s.real with
  | true =>
    rw [A2h.t hr] at h
    unfold U5 at hB
    rw [if_pos hr] at hB
    rw [(A2i hr a B).1, (A2i hr a B).2, hB, A6X (B00 _), h.1]
    exact ⟨rfl, rfl⟩
  | false =>
    rw [A2h.f hr] at h
    unfold U5 at hB
    rw [if_neg (by rw [hr]; decide)] at hB
    obtain ⟨i, j, m, g1, g2, rfl, rfl, g3, rfl⟩ := h
    obtain ⟨j', p, hj, e, hp, rfl⟩ := hB
    have := B5B (by omega) (by omega) e
    subst this
    obtain ⟨e1, e2⟩ := B01 g1 hp hl
    obtain ⟨e3, e4⟩ := B5A ht g3
    rw [(A2j hr _ _).1, (A2j hr _ _).2, e1, e2, e3, e4]
    exact ⟨rfl, rfl⟩
theorem B6g (seed : List Nat) (i : Nat) : B8A seed i = B0J (B0J [] seed) (([107, 101, 121] ++ A8v i) ++ [1]) := by
  unfold B8A
  rw [← A5f]
  exact B3k _ _
def aw0 (r : Bool) : Ps := ⟨r, [115], 0, []⟩
noncomputable def aw2 (r : Bool) : Ps := E6 (E6 (aw0 r))
end Go.Proofs.YtlilcmjbaknafaaGreatDoor
