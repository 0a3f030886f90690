/- Part 14 of the texts of this claim, one behind the other. -/
import Derived.Test.YthbhpfefdnffaaaGreatDoorB13
import Derived.Test.YthbhpfefdnffaaaGreatDoorRows
set_option linter.unusedVariables false
set_option linter.unusedSimpArgs false
set_option maxRecDepth 100000
namespace Go.Proofs.YthbhpfefdnffaaaGreatDoor
open Go.Px
theorem A0C (v : Value) (w : List Nat) (A : Mem) (h : By A v w) : FnX Tryz.prog 89 [v] [] A fun r M J => M = [] ∧ By J r w := by
 haveI := h.cel
 have hwl := h.len
 refine FnX.enterZ (N := 8) Tryz.func89 rfl rfl rfl fun w_ => ?_
 refine B0 (D2 0) (A1 (as_ (A0 (D2 0) (A3 (A1 (mv_ ?_))))))
 refine A2 (A0W (e := 5) rfl kR (by first | assumption | exact Sl.rd (by assumption) (fun _ h => h) | exact By.rd (by assumption))) rfl ?_
 refine A0 (C9 0 4) ?_
 refine C5 rfl (fun hc => ?_) (fun hc => ?_)
 ·
  have h0 := h.rd.isNil hc
  obtain rfl : w = [] := List.eq_nil_of_length_eq_zero h0
  refine A1 (as_ (A0 (D2 2) (B4 (tr ?_))))
  exact ⟨_, [], [], I9 rfl rfl, Fit.sub (List.nil_sublist _), rfl, By.nil⟩
 ·
  refine A5 (nx (D2 0) (A1 ?_))
  refine A4 rfl (C0 (e := 5) (sz := 1) (z := []) kR e0 bd0 rfl fun b5 => ?_)
  refine mv_ ?_
  refine A4 rfl (F8 (e := 5) (sz := 1) (by_ := 1) rfl rfl kR rfl (Sl.fresh (n := 0) (cs := []) (e := 5) rfl (by decide)) (h.rd.mono SubC.sub) F4 PickC.perm (by unfold maxLen; omega) (by omega) rfl fun v7 B7 hs7 => ?_)
  refine as_ (A0 (D2 2) (B4 ?_))
  exact ⟨_, [], B7, I9 rfl rfl, Fit.pick PickC.perm (Fit.sub (List.nil_sublist _)), rfl, ⟨A0L (hs7.rd fun x hx => by simp [hx]) (by omega) (by simp), h.lt, h.len⟩⟩
theorem A2e (va vb : Value) (a b : List Nat) (A : Mem) (ha : By A va a) (hb : By A vb b) : FnV Tryz.prog 73 [va, vb] A (.bool (decide (a = b))) := by
 haveI := ha.cel
 haveI := hb.cel
 refine FnX.enter (N := 10) Tryz.func73 rfl rfl rfl fun w => ?_
 refine B0 (C9 0 1) (A1 (as_ (A0 (C9 0 1) (A1 (mv_ ?_)))))
 refine A2 (P3 rfl kR (ha.rd.mono SubC.sub)) rfl ?_
 refine mv_ ?_
 refine A2 (P3 rfl kR (hb.rd.mono SubC.sub)) rfl ?_
 refine A2 (B2C rfl rfl rfl rfl ha.lt hb.lt) rfl ?_
 refine as_ (A0 (D2 4) (B4 ?_))
 exact ⟨_, [], [], I9 rfl rfl, List.nil_sublist _, by simp, rfl, rfl, rfl⟩
theorem A6r (v : Value) (rows : List (List Value)) (f : FuncId) (cs : List Value) (p : Nat → Bool) (A : Mem) (hv : Rd A 3 v rows.length rows.flatten) (hl : ∀ r ∈ rows, r.length = 3) (hn : rows.length ≤ 1099511627776) (hc_ : H6 Tryz.prog f = true) (hf : ∀ (j : Nat) (r : List Value), rows[j]? = some r → FnV Tryz.prog f (.agg r.toArray :: cs) A (.bool (p j))) : FnV Tryz.prog 123 [v, .func (.func f) #[] cs.toArray] A (.int .i64 (B0t p rows.length)) := by
 haveI := hv.cel
 refine FnX.enter (N := 19) Tryz.func123 rfl rfl rfl fun w => ?_
 refine B0 (C9 0 1) (A1 (as_ (A0 (C9 0 1) (A3 (A1 (mv_ ?_))))))
 refine A2 (H5 (sz := 3) rfl kR hv) rfl ?_
 refine mv_ (A0 (D8 0 1 7 8) (A6 ?_))
 refine E2 (α := Nat) (fun i => [(0, v), (1, .func (.func f) #[] cs.toArray), (7, .int .i64 ((rows.length : Nat) : Int)), (8, .int .i64 (i : Int))]) (fun _ => []) (fun _ => []) (fun i => i ≤ rows.length ∧ ∀ j, j < i → p j = false) (fun i => rows.length - i) 0 ⟨Nat.zero_le _, fun j h => absurd h (Nat.not_lt_zero j)⟩ (D8 0 1 7 8) .rfl (fun _ h => h) ?_
 rintro i ⟨hi, hp⟩
 refine A1 ?_
 refine A2 (E0 rfl rfl rfl) rfl ?_
 refine A0 (E4 0 1 7 8 9) (A3 ?_)
 refine C5 rfl (fun hc => ?_) (fun hc => ?_)
 ·
  have hlt : i < rows.length := by simp at hc; omega
  obtain ⟨r, hr⟩ : ∃ r, rows[i]? = some r := ⟨_, List.getElem?_eq_getElem hlt⟩
  refine A5 (nx (D8 0 1 7 8) (A3 (A6 (A1 (mv_ (as_ (A0 (E4 0 1 5 7 8) (A1 ?_))))))))
  refine mv_ (mv_ (mv_ ?_))
  refine A2 (K0 (sz := 3) rfl rfl kR rfl hv hlt) rfl ?_
  refine A2 (B0f rfl kR (hv.mono SubC.sub) hl (by decide) hr) rfl ?_
  refine A4 rfl (A9H rfl (aS rfl a0) hc_ (hf i r hr) rfl ?_)
  refine A0 (H9 0 1 5 7 8 16) ?_
  refine C5 rfl (fun hc => ?_) (fun hc => ?_)
  ·
   refine A1 (mv_ (as_ (A0 (D2 4) (B4 (br (tr (rr (br ?_))))))))
   refine tr ?_
   exact ⟨_, [], [], I9 rfl rfl, List.nil_sublist _, by simp, by rw [A4g hlt hp hc], rfl, rfl⟩
  ·
   refine A5 (nb (nx (D8 0 1 7 8) (A9 ?_)))
   refine A2 (G5 (b := 1) rfl rfl rfl rfl (by omega)) rfl ?_
   refine mv_ (C2 ?_)
   exact rn (i + 1) ⟨hlt, fun j hj => by rcases Nat.lt_succ_iff_lt_or_eq.1 hj with h | h; exact hp j h; rw [h]; exact hc⟩ (by omega) (D8 0 1 7 8) .rfl (fun _ h => h)
 ·
  have hge : i = rows.length := by simp at hc; omega
  subst hge
  refine D6 (te (re (be rfl (nx kn (A1 (as_ (A0 (D2 4) ?_)))))))
  refine B4 ?_
  exact ⟨_, [], [], I9 rfl rfl, List.nil_sublist _, by simp, by rw [A4h hp], rfl, rfl⟩
theorem A42 (b o cap n i j : Nat) (cs xs : List Value) (e : TypeId) (A : Mem) (hn : n ≤ cap) (hcap : cap ≤ maxLen) (hfit : o + cap * 3 ≤ cs.length) (hl : xs.length = n * 3) (hx : ∀ j u, xs[j]? = some u → cs[o + j]? = some u)
    (h1 : ∀ c ∈ xs, c.oneCell' = true) (hij : i < j) (hjn : j ≤ n) :
    FnX Tryz.prog 88 [.slice (some ⟨b, o, none⟩) n cap, .int .i64 i, .int .i64 j] [(b, blk cs e)] A
      fun v M J => J = [] ∧ Sl 3 v (n - (j - i)) (xs.take (i * 3) ++ xs.drop (j * 3)) M := by
  refine FnX.enter (N := 33) Tryz.func88 rfl rfl rfl fun w => ?_
  refine B0 (D3 0 1 2) (A1 (as_ (A0 (D3 0 1 2) (A1 (mv_ (mv_ (mv_ (mv_ ?_))))))))
  refine A2 (A2t (e := 91) rfl kR) rfl ?_
  refine A2 (A07 (e := 91) (sz := 3) rfl kR kR (o1 i rfl rfl) (o1 j rfl rfl) (o1 n rfl rfl) (by simp) (by simp; omega) (by simp; omega) (by simp; omega)) rfl ?_
  refine A0 (D3 0 1 2) (A3 (A1 (mv_ (mv_ ?_))))
  refine A2 (E0 rfl rfl rfl) rfl ?_
  refine A0 (D8 0 1 2 16) ?_
  refine C5 rfl (fun hc => ?_) (fun hc => ?_)
  ·
    simp at hc; omega
  ·
    refine A5 (nx (D3 0 1 2) (A1 (mv_ ?_)))
    refine A2 (A2t (e := 91) rfl kR) rfl ?_
    refine as_ (A0 (D8 0 1 2 7) ?_)
    refine A0q ([]) [] [(0, 0), (1, 0), (2, 0), (3, 0), (4, 0), (5, 0), (6, 2), (7, 0)] kR kR (by simp) fun hs => ?_
    refine H3 hs rfl qm_ rfl ?_
    refine H3 hs rfl qm_ rfl ?_
    refine H3 hs rfl (A94 (h := i) (e := 91) (sz := 3) rfl rfl kR kR rfl (by omega)) rfl ?_
    refine H3 hs rfl qm_ rfl ?_
    refine H3 hs rfl qm_ rfl ?_
    refine H3 hs rfl (A95 (h := j) (e := 91) (sz := 3) rfl rfl kR kR rfl (by omega) (by omega)) rfl ?_
    refine A0r rfl rfl rfl (A6I (e := 91) (sz := 3) (by_ := 56) (m := n - j) (cs := cs) rfl rfl kR ((Rd.lo ⟨_, cap, rfl, hl, hn, .inr ⟨b, o, cs, e, (0, 0), rfl, m0, hx⟩⟩ j hjn)) (fun c hc => h1 c (List.mem_of_mem_drop hc)) (by omega) hfit rfl UpC.upd rfl ?_)
    refine H3 hs rfl (F3 rfl) rfl ?_
    refine A1D (C9 0 7) ?_
    refine A1 (mv_ (mv_ ?_))
    refine A2 (A2t (e := 91) rfl kR) rfl ?_
    refine mv_ ?_
    refine A2 (B0E (lo := i + (n - j)) (hi := n) (e := 91) (sz := 3) rfl rfl rfl kR kR rfl rfl (by omega) (by omega) (by omega)) rfl ?_
    refine A4 rfl (B0D (e := 91) (sz := 3) (by_ := 56) (zs := (Builtin.zeroCells #[.slice none 0 0, .int .u32 0, .slice none 0 0] (n - (i + (n - j)))).toList) rfl kR kR (A2T (by simp [Value.oneCell']) (by simp) _) ?h1 rfl UpC.upd ?_)
    case h1 => simp [hl]; omega
    refine A0 (D2 0) (A1 (mv_ (as_ (A0 (D2 6) (B4 ?_)))))
    refine ⟨_, _, [], I9 rfl rfl, List.Sublist.refl _, by simp, rfl, ?_⟩
    show Sl 3 _ (n - (j - i)) _ _
    rw [show n - (j - i) = i + (n - j) from by omega]
    have hd : (xs.drop (j * 3)).length = (n - j) * 3 := by simp [hl]; omega
    refine .inr ⟨b, o, cap, _, e, rfl, rfl, by omega, hcap, ?_, ?_, ?_⟩
    · simp [hl, Builtin.zeroCells]; omega
    · simp [hl]; omega
    · intro q u hq
      have hlt : q < (i + (n - j)) * 3 := by have := (List.getElem?_eq_some_iff.1 hq).1; simp [hl] at this; omega
      rw [A3B (by simp [hl]; omega) (by omega)]
      by_cases hqi : q < i * 3
      · rw [A3B (by omega) (by omega)]
        rw [List.getElem?_append_left (by simp [hl]; omega), List.getElem?_take_of_lt hqi] at hq
        exact hx q u hq
      · rw [A5W (by omega) (by omega) (by omega)]
        rw [List.getElem?_append_right (by simp [hl]; omega)] at hq
        rw [← hq]
        congr 1
        simp [hl]; omega
theorem A6s (v : Value) (n : Nat) (xs : List Value) (A : Mem) (h : Rd A 3 v n xs) (h1 : ∀ c ∈ xs, c.oneCell' = true) (hn : n ≤ 1099511627776) : FnX Tryz.prog 122 [v] [] A fun r M J => Sl 3 r n xs M := by
 haveI := h.cel
 refine FnX.enterZ (N := 8) Tryz.func122 rfl rfl rfl fun w_ => ?_
 refine B0 (D2 0) (A1 (as_ (A0 (D2 0) (A3 (A1 (mv_ ?_))))))
 refine A2 (A0W (e := 91) rfl kR (by first | assumption | exact Sl.rd (by assumption) (fun _ h => h) | exact By.rd (by assumption))) rfl ?_
 refine A0 (C9 0 4) ?_
 refine C5 rfl (fun hc => ?_) (fun hc => ?_)
 ·
  have h0 := h.isNil hc
  subst h0
  obtain rfl : xs = [] := List.eq_nil_of_length_eq_zero (by have := h.len; omega)
  refine A1 (as_ (A0 (D2 2) (B4 (tr ?_))))
  exact ⟨_, [], [], I9 rfl rfl, Fit.sub (List.nil_sublist _), Sl.nil⟩
 ·
  refine A5 (nx (D2 0) (A1 ?_))
  refine A4 rfl (C0 (e := 91) (sz := 3) (z := []) kR e0 bd0 rfl fun b5 => ?_)
  refine mv_ ?_
  refine A4 rfl (F8 (e := 91) (sz := 3) (by_ := 56) rfl rfl kR rfl (Sl.fresh (n := 0) (cs := []) (e := 91) rfl (by decide)) (Rd.mono h SubC.sub) h1 PickC.perm (by unfold maxLen; omega) (by omega) rfl fun v7 B7 hs7 => ?_)
  refine as_ (A0 (D2 2) (B4 ?_))
  exact ⟨_, B7, [], I9 rfl rfl, Fit.none (Fit.last PickC.perm), by simpa using hs7⟩

structure Skp where
  of : List Nat
  n : Nat
  key : List Nat
deriving DecidableEq
def skR (R : Mem) (s : Skp) (r : List Value) : Prop := ∃ vo vk, r = [vo, .int .u32 ((s.n : Nat) : Int), vk] ∧ By R vo s.of ∧ By R vk s.key ∧ s.n < 4294967296
theorem skT : RowT 3 skR := ⟨fun R R' x r hR ⟨vo, vk, h1, h2, h3, h4⟩ => ⟨vo, vk, h1, h2.mono hR, h3.mono hR, h4⟩, fun R x r ⟨vo, vk, h1, _⟩ => by rw [h1]; rfl, fun R x r ⟨vo, vk, h1, h2, h3, _⟩ c hc => by
  rw [h1] at hc
  simp only [List.mem_cons, List.not_mem_nil, or_false] at hc
  rcases hc with rfl | rfl | rfl
  · exact h2.one
  · rfl
  · exact h3.one⟩
structure Sto (R : Mem) (sb : Nat) (sks : List Skp) (M : Mem) : Prop where
  ex : ∃ v rows B, M = (sb, blk [v] 153) :: B ∧ Sl 3 v sks.length rows.flatten B ∧ RwL skR R rows sks
theorem Sto.mono {R R' : Mem} {sb : Nat} {sks : List Skp} {M : Mem} (h : Sto R sb sks M) (hR : ∀ x, x ∈ R → x ∈ R') : Sto R' sb sks M := by
  obtain ⟨v, rows, B, h1, h2, h3⟩ := h.ex
  exact ⟨v, rows, B, h1, h2, h3.mono skT hR⟩
def tst (of : List Nat) (n : Nat) (s : Skp) : Bool := decide (s.n = n) && decide (s.of = of)
def A6B (sks : List Skp) (of : List Nat) (n : Nat) : List Skp := if A1d (tst of n) sks < 0 then sks else sks.eraseIdx (A1d (tst of n) sks).toNat
def B3O (sks : List Skp) (x : Skp) : List Skp := (A6B sks x.of x.n ++ [x]).drop ((A6B sks x.of x.n ++ [x]).length - 32)
theorem A8e {sks : List Skp} {of : List Nat} {n : Nat} (h : A1d (tst of n) sks = -1) : A6B sks of n = sks := if_pos (by rw [h]; decide)
theorem A5P {sks : List Skp} {of : List Nat} {n i : Nat} (h : A1d (tst of n) sks = (i : Int)) : A6B sks of n = sks.eraseIdx i := by
  unfold A6B; rw [h, if_neg (by omega), Int.toNat_natCast]
theorem A9P (sks : List Skp) (of : List Nat) (n : Nat) : (A6B sks of n).length ≤ sks.length := by
  unfold A6B; split
  · exact Nat.le_refl _
  · exact List.length_eraseIdx_le _ _
theorem A9Q (sks : List Skp) (x : Skp) : (B3O sks x).length ≤ 32 := by
  unfold B3O; rw [List.length_drop]; omega
theorem A9R (vo vk vof : Value) (s : Skp) (of : List Nat) (n : Nat) (b4 b5 : Nat) (A : Mem) (ho : By A vo s.of) (hk : By A vk s.key) (hof : By A vof of) (hb5 : (b5, blk [.int .u32 ((n : Nat) : Int)] 30) ∈ A) (hb4 : (b4, blk [vof] 27) ∈ A) : FnV Tryz.prog 124 [.agg #[vo, .int .u32 ((s.n : Nat) : Int), vk], .pointer (some ⟨b5, 0, none⟩), .pointer (some ⟨b4, 0, none⟩)] A (.bool (tst of n s)) := by
 haveI := ho.cel
 haveI := hk.cel
 haveI := hof.cel
 refine FnX.enter (N := 15) Tryz.func124 rfl rfl rfl fun w => ?_
 refine B0 (D3 0 1 2) (A1 ?_)
 refine A4 rfl (bx_ fun b3 => ?_)
 refine as_ (A0 (D3 1 2 3) (A1 ?_))
 refine A2 (qf_ 1 1) rfl ?_
 refine A2 ql_ rfl ?_
 refine A2 (H8 rfl kR (mA hb5) (by rfl)) rfl ?_
 refine A2 (E0 rfl rfl rfl) rfl ?_
 refine mv_ ?_
 refine U8 (t := 9) rfl (fun hb => ?_) (fun hb => ?_)
 ·
  have hnn : s.n = n := by simp at hb; omega
  refine E5 rfl rfl (OpQ.opL (qf_ 0 0) rfl ?_)
  refine E5 rfl rfl (OpQ.opL ql_ rfl ?_)
  refine E5 rfl rfl (OpQ.opL (H8 rfl kR (mA hb4) (by rfl)) rfl ?_)
  refine A64 rfl rfl (aS rfl (aS rfl a0)) kR (A2e vo vof s.of of _ (ho.mono SubC.sub) (hof.mono SubC.sub)) rfl ?_
  refine A2 (H7 rfl rfl) rfl ?_
  refine as_ (A0 (D2 4) (B4 ?_))
  exact ⟨_, [], [], I9 rfl rfl, List.nil_sublist _, by simp, by unfold tst; rw [hnn]; simp, rfl, rfl⟩
 ·
  have hnn : s.n ≠ n := by simp at hb; omega
  refine H2 rfl rfl rfl rfl ?_
  refine H2 rfl rfl rfl rfl ?_
  refine H2 rfl rfl rfl rfl ?_
  refine H2 rfl rfl rfl rfl ?_
  refine A2 (G2 rfl rfl) rfl ?_
  refine as_ (A0 (D2 4) (B4 ?_))
  exact ⟨_, [], [], I9 rfl rfl, List.nil_sublist _, by simp, by unfold tst; simp [hnn], rfl, rfl⟩
theorem A9S {vof : Value} {sks : List Skp} {rows : List (List Value)} {of : List Nat} {n b4 b5 : Nat} {A : Mem} (hR : RwL skR A rows sks) (hof : By A vof of) (hb5 : (b5, blk [.int .u32 ((n : Nat) : Int)] 30) ∈ A) (hb4 : (b4, blk [vof] 27) ∈ A) :
    ∀ (j : Nat) (r : List Value), rows[j]? = some r → FnV Tryz.prog 124 (.agg r.toArray :: [.pointer (some ⟨b5, 0, none⟩), .pointer (some ⟨b4, 0, none⟩)]) A (.bool ((fun j => (sks[j]?.map (tst of n)).getD false) j)) := fun j r hr => by
  obtain ⟨s, hs, vo, vk, rfl, ho, hk, _⟩ := hR.of hr
  dsimp only
  rw [hs]
  exact A9R vo vk vof s of n b4 b5 _ ho hk hof hb5 hb4
theorem A4k (sb : Nat) (v vof : Value) (rows : List (List Value)) (sks : List Skp) (of : List Nat) (n : Nat) (A : Mem) (hsb : (sb, blk [v] 153) ∈ A) (hv : Rd A 3 v sks.length rows.flatten) (hR : RwL skR A rows sks) (hl : sks.length ≤ 1000000) (hof : By A vof of) : FnV Tryz.prog 87 [.pointer (some ⟨sb, 0, none⟩), vof, .int .u32 ((n : Nat) : Int)] A (.int .i64 (A1d (tst of n) sks)) := by
 haveI := hof.cel
 haveI := hv.cel
 refine FnX.enter (N := 15) Tryz.func87 rfl rfl rfl fun w => ?_
 refine B0 (D3 0 1 2) (A1 ?_)
 refine A4 rfl (bx_ fun b4 => ?_)
 refine A4 rfl (bx_ fun b5 => ?_)
 refine as_ (A0 (D3 0 4 5) (A3 (A1 (mv_ ?_))))
 refine A2 (G4 (e := 153) rfl rfl kR) rfl ?_
 refine A0 (D8 0 4 5 8) ?_
 refine C6 rfl ?_
 refine A5 (nx (D3 0 4 5) (A1 (mv_ ?_)))
 refine A2 (G1 rfl) rfl ?_
 refine A2 (qf_ 0 0) rfl ?_
 refine A2 (H8 rfl kR (mA hsb) (by rfl)) rfl ?_
 refine A2 (A9G (aS rfl (aS rfl a0))) rfl ?_
 refine F7 (aS rfl (aS rfl a0)) kR (A6r v rows 124 [.pointer (some ⟨b5, 0, none⟩), .pointer (some ⟨b4, 0, none⟩)] (fun j => (sks[j]?.map (tst of n)).getD false) _ (by rw [hR.len]; exact hv.mono SubC.sub) (hR.lens skT) (by rw [hR.len]; omega) kR (A9S (hR.mono skT SubC.sub) (hof.mono SubC.sub) (by simp) (by simp))) rfl ?_
 refine as_ (A0 (D2 6) (B4 ?_))
 exact ⟨_, [], [], I9 rfl rfl, List.nil_sublist _, by simp, by rw [hR.len]; rfl, rfl, rfl⟩

theorem A8f {M B R B' : Mem} (h : M.Perm (B ++ R)) (hs : B'.Sublist B) : Fit M B' := ⟨_, h, hs.trans (List.sublist_append_left _ _)⟩
theorem Sl.cast {sz n n' : Nat} {v : Value} {xs xs' : List Value} {B : Mem} (h : Sl sz v n xs B) (h1 : n = n') (h2 : xs = xs') : Sl sz v n' xs' B := by subst h1; subst h2; exact h
def B1M (sks : List Skp) (of : List Nat) (n : Nat) : Option (List Nat) := if A1d (tst of n) sks < 0 then none else (sks[(A1d (tst of n) sks).toNat]?).map (·.key)
theorem A8g {sks : List Skp} {of : List Nat} {n : Nat} (h : A1d (tst of n) sks = -1) : B1M sks of n = none := if_pos (by rw [h]; decide)
theorem A5Q {sks : List Skp} {of : List Nat} {n i : Nat} {x : Skp} (h : A1d (tst of n) sks = (i : Int)) (hx : sks[i]? = some x) : B1M sks of n = some x.key := by
  unfold B1M; rw [h, if_neg (by omega), Int.toNat_natCast, hx]; rfl
theorem A9T (sb : Nat) (vof vk : Value) (sks : List Skp) (of key : List Nat) (n : Nat) (R MS A : Mem) (hS : Sto R sb sks MS) (hR : ∀ x, x ∈ R → x ∈ A) (hl : sks.length ≤ 1000000) (hof : By R vof of) (hk : By R vk key) (hn : n < 4294967296) : FnX Tryz.prog 42 [.pointer (some ⟨sb, 0, none⟩), .agg #[vof, .int .u32 ((n : Nat) : Int), vk]] MS A fun q M J => q = .tuple #[] ∧ Sto (J ++ R) sb (B3O sks ⟨of, n, key⟩) M := by
  obtain ⟨v, rows, B, rfl, hsl, hrw⟩ := hS.ex
  haveI := hsl.cel
  haveI := hof.cel
  haveI := hk.cel
  refine FnX.enterZ (N := 59) Tryz.func42 rfl rfl rfl fun w_ => ?_
  refine B0 (C9 0 1) (A1 ?_)
  refine A4 rfl (bx_ fun b3 => ?_)
  refine A0 (C9 0 3) (A3 (A1 (mv_ ?_)))
  refine A2 (G4 (e := 153) rfl rfl kR) rfl ?_
  refine A0 (D3 0 3 6) ?_
  refine C6 rfl ?_
  refine A5 (nx (C9 0 3) ?_)
  refine Y4 (α := Value × List (List Value) × Mem) (fun x => [(0, .pointer (some ⟨sb, 0, none⟩)), (3, .pointer (some ⟨b3, 0, none⟩))]) (fun x => (b3, blk [vof, .int .u32 ((n : Nat) : Int), vk] 91) :: (sb, blk [x.1] 153) :: x.2.2) (fun _ => []) (fun x => Sl 3 x.1 (A6B sks of n).length x.2.1.flatten x.2.2 ∧ RwL skR R x.2.1 (A6B sks of n)) ?_ ?_
  ·
    refine A1 (mv_ ?_)
    refine A2 (qf_ 0 0) rfl ?_
    refine A2 ql_ rfl ?_
    refine A2 (qf_ 1 1) rfl ?_
    refine A2 ql_ rfl ?_
    refine F7 (aS rfl (aS rfl (aS rfl a0))) kR (A4k sb v vof rows sks of n _ (by simp) (hsl.rd SubC.sub) (hrw.mono skT (fun x hx => mA (hR x hx))) hl (hof.mono (fun x hx => mA (hR x hx)))) rfl ?_
    refine as_ (A0 (D3 0 3 4) (A1 (mv_ ?_)))
    refine A2 (E0 rfl rfl rfl) rfl ?_
    refine A0 (D8 0 3 4 14) ?_
    refine C5 rfl (fun hc => ?_) (fun hc => ?_)
    ·
      obtain ⟨hf, hz⟩ | ⟨i, x, hf, hxi, hq, hmin⟩ := X5 (tst of n) sks
      · rw [hf] at hc; simp at hc
      have hil := (List.getElem?_eq_some_iff.1 hxi).1
      rw [hf]
      obtain ⟨p, rfl, h0, _, _⟩ | ⟨b, o, cap, cs, e, rfl, rfl, g1, g2, g3, g4, g5⟩ := hsl
      · omega
      refine A9 (mv_ (mv_ ?_))
      refine A2 (G1 rfl) rfl ?_
      refine A2 (qf_ 0 0) rfl ?_
      refine A2 ql_ rfl ?_
      refine mv_ (mv_ ?_)
      refine A2 (G5 (b := 1) rfl rfl rfl rfl (by omega)) rfl ?_
      refine A4 rfl (D4 (Mc := [(b, blk cs e)]) (R := _) (aS rfl (aS rfl (aS rfl a0))) kR PickC.perm (A42 b o cap sks.length i (i + 1) cs rows.flatten e _ g1 g2 g3 g4 g5 (hrw.ones skT) (by omega) (by omega)) rfl ?_)
      rintro v23 M23 J23 ⟨rfl, hs23⟩
      have hsd : Sl 3 v23 (sks.eraseIdx i).length (rows.take i ++ rows.drop (i + 1)).flatten M23 := by
        have h := hs23
        rw [A6q (hrw.lens skT)] at h
        exact Sl.cast h (by rw [List.length_eraseIdx, if_pos hil]; omega) rfl
      haveI := hsd.cel
      refine A2 (G1 rfl) rfl ?_
      refine A2 (qf_ 0 0) rfl ?_
      refine A4 rfl (C8 rfl rfl hsd.one kR SetC.set UpC.upd ?_)
      refine C2 ?_
      exact jn (v23, rows.take i ++ rows.drop (i + 1), M23) ⟨by rw [A5P hf]; exact hsd, by rw [A5P hf]; exact hrw.erase i⟩ (C9 0 3) (Fit.pick (B := [_]) PickC.perm (Fit.pick (B := [_]) PickC.perm (Fit.last PickC.perm))) (fun _ h => by cases h)
    ·
      have hf : A1d (tst of n) sks = -1 := by
        obtain ⟨hf, hz⟩ | ⟨i, x, hf, hxi, hq, hmin⟩ := X5 (tst of n) sks
        · exact hf
        · rw [hf] at hc; (simp at hc) <;> omega
      refine A5 ?_
      exact jn (v, rows, B) ⟨by rw [A8e hf]; exact hsl, by rw [A8e hf]; exact hrw⟩ (C9 0 3) .rfl (fun _ h => h)
  ·
    rintro ⟨v1, rows1, B1⟩ ⟨hsl1, hrw1⟩
    dsimp only at hsl1 hrw1 ⊢
    haveI := hsl1.cel
    have hdl := A9P sks of n
    have hdd : B3O sks ⟨of, n, key⟩ = List.drop ((A6B sks of n ++ [(⟨of, n, key⟩ : Skp)]).length - 32) (A6B sks of n ++ [(⟨of, n, key⟩ : Skp)]) := rfl
    generalize A6B sks of n = ds at *
    rw [List.length_append, List.length_singleton] at hdd
    refine D1 [0, 1, 2, 3, 4, 5, 6, 7, 8, 9, 10, 11, 12, 13, 14, 16, 17] [(0, 0), (1, 0), (2, 0), (3, 0), (4, 1), (5, 0), (6, 1), (8, 0), (9, 1), (10, 0), (11, 1), (7, 2), (12, 2), (13, 0), (14, 2), (15, 2), (16, 0), (17, 0), (18, 2)] kR kR fun hs => ?_
    refine fm_ hs ?_
    refine fm_ hs ?_
    refine C3 hs rfl (G1 rfl) rfl ?_
    refine C3 hs rfl (qf_ 0 0) rfl ?_
    refine G6 hs rfl ql_ rfl ?_
    refine C3 hs rfl (qf_ 0 0) rfl ?_
    refine G6 hs rfl ql_ rfl ?_
    refine C3 hs rfl (qf_ 1 1) rfl ?_
    refine G6 hs rfl ql_ rfl ?_
    refine C3 hs rfl (qf_ 2 2) rfl ?_
    refine G6 hs rfl ql_ rfl ?_
    refine N4 rfl (aS rfl a0) kR (A0C vof of _ (hof.mono (fun x hx => mA (hR x hx)))) rfl ?_
    rintro v33 M33 J33 ⟨rfl, h33⟩
    haveI := h33.cel
    refine N4 rfl (aS rfl a0) kR (A0C vk key _ (hk.mono (fun x hx => mA (hR x hx)))) rfl ?_
    rintro v38 M38 J38 ⟨rfl, h38⟩
    haveI := h38.cel
    refine C3 hs rfl (E7 (place := fun x => #[(0, 1), (1, 1), (2, 1)][x]?) (z := [.slice none 0 0, .int .u32 0, .slice none 0 0]) (fun _ => by kernel_rfl) (eS rfl (eS rfl (eS rfl e0))) (bdS 0 1 rfl (by rfl) (bdS 1 1 rfl (by rfl) (bdS 2 1 rfl (by rfl) bd0)))) rfl ?_
    refine A8T rfl rfl fun _ => (C0 (e := 91) (sz := 3) (z := [.slice none 0 0, .int .u32 0, .slice none 0 0]) kR (eS rfl e0) (bdS 0 3 rfl (by rfl) bd0) rfl fun b40 => ?_)
    refine E6 rfl rfl rfl (F8 (e := 91) (sz := 3) (by_ := 56) rfl rfl kR rfl hsl1 (Rd.whole (n := 1) At.mem (by rfl)) (by intro c hc; simp only [List.mem_cons, List.not_mem_nil, or_false] at hc; rcases hc with rfl | rfl | rfl; exact h33.one; rfl; exact h38.one) PickC.perm (by unfold maxLen; omega) (by omega) rfl fun v41 B41 hs41 => ?_)
    haveI := hs41.cel
    refine C3 hs rfl (G1 rfl) rfl ?_
    refine C3 hs rfl (qf_ 0 0) rfl ?_
    refine E6 rfl rfl rfl (C8 rfl rfl hs41.one kR SetC.set UpC.upd ?_)
    obtain ⟨B42, hsub42, hs42⟩ := hs41.loV (ds.length + 1 - 32) (by omega)
    refine F5 (D2 0) ?_
    refine F1 (.range 15) (zp 0 [0, 0, 0, 0, 1, 0, 0, 0, 1, 0, 0, 0, 0, 0, 0, 2]) kR kR fun hs => ?_
    refine fm_ hs ?_
    refine fm_ hs ?_
    refine C3 hs rfl (G1 rfl) rfl ?_
    refine C3 hs rfl (qf_ 0 0) rfl ?_
    refine G6 hs rfl ql_ rfl ?_
    refine fm_ hs ?_
    refine C3 hs rfl (G1 rfl) rfl ?_
    refine C3 hs rfl (qf_ 0 0) rfl ?_
    refine G6 hs rfl ql_ rfl ?_
    refine C3 hs rfl (H5 (sz := 3) rfl kR (hs41.rd (R := B41) fun _ h => h)) rfl ?_
    refine C3 hs rfl (D5 (((ds.length + 1 : Nat) : Int) - 32) rfl rfl (Y6 (by omega) (by omega) (by omega))) rfl ?_
    refine C3 hs rfl (A6K (((ds.length + 1 - 32 : Nat)) : Int) rfl rfl (by split <;> omega)) rfl ?_
    refine C3 hs rfl (B0e (sz := 3) (a := ds.length + 1 - 32) rfl rfl kR rfl (hs41.rd (R := B41) fun _ h => h) (by omega)) rfl ?_
    refine C3 hs rfl (G1 rfl) rfl ?_
    refine C3 hs rfl (qf_ 0 0) rfl ?_
    refine E6 rfl rfl rfl (C8 rfl rfl hs42.one kR SetC.set UpC.upd ?_)
    refine P0 ?_
    refine ⟨_, (sb, blk [vLo (ds.length + 1 - 32) 3 v41] 153) :: B42, [], B2d rfl, Fit.none (Fit.pick (B := [_]) PickC.perm (A8f (B := B41) PickC.perm hsub42)), rfl, ⟨_, (rows1 ++ [[v33, .int .u32 ((n : Nat) : Int), v38]]).drop (ds.length + 1 - 32), B42, rfl, ?_, ?_⟩⟩
    · refine Sl.cast hs42 ?_ ?_
      · rw [hdd, List.length_drop, List.length_append, List.length_singleton]
      · rw [← A1F (s := 3) (by intro r hr; rcases List.mem_append.1 hr with h | h; exact hrw1.lens skT r h; rw [List.mem_singleton.1 h]; rfl)]; simp
    · rw [hdd]
      refine (RwL.snoc (x := (⟨of, n, key⟩ : Skp)) (r := [v33, .int .u32 ((n : Nat) : Int), v38]) (hrw1.mono skT (fun x hx => List.mem_append_right _ hx)) ⟨v33, v38, rfl, h33.mono (fun x hx => ?_), h38.mono (fun x hx => ?_), hn⟩).drop _ <;> simp [hx]
theorem A9U (sb : Nat) (v vof : Value) (rows : List (List Value)) (sks : List Skp) (of : List Nat) (n : Nat) (A : Mem) (hsb : (sb, blk [v] 153) ∈ A) (hv : Rd A 3 v sks.length rows.flatten) (hrw : RwL skR A rows sks) (hl : sks.length ≤ 1000000) (hof : By A vof of) : FnX Tryz.prog 118 [.pointer (some ⟨sb, 0, none⟩), vof, .int .u32 ((n : Nat) : Int)] [] A fun q M J => M = [] ∧ ∃ u, q = .tuple #[u, .bool (B1M sks of n).isSome] ∧ By J u ((B1M sks of n).getD []) := by
 haveI := hof.cel
 haveI := hv.cel
 refine FnX.enterZ (N := 24) Tryz.func118 rfl rfl rfl fun w_ => ?_
 refine B0 (D3 0 1 2) (A1 (as_ (as_ (A0 (D3 0 1 2) (A1 (mv_ (mv_ (mv_ ?_))))))))
 refine F7 (aS rfl (aS rfl (aS rfl a0))) kR (A4k sb v vof rows sks of n _ (mA hsb) (hv.mono SubC.sub) (hrw.mono skT SubC.sub) hl (hof.mono SubC.sub)) rfl ?_
 refine as_ (A0 (C9 0 8) (A3 (A1 (mv_ ?_))))
 refine A2 (E0 rfl rfl rfl) rfl ?_
 refine A0 (D3 0 8 14) ?_
 refine C5 rfl (fun hc => ?_) (fun hc => ?_)
 ·
  have hf : A1d (tst of n) sks = -1 := by
   obtain ⟨hf, hz⟩ | ⟨i, x, hf, hxi, hq, hmin⟩ := X5 (tst of n) sks
   · exact hf
   · rw [hf] at hc; (simp at hc) <;> omega
  refine A1 (as_ (as_ (A0 (C9 6 7) (B4 (tr ?_)))))
  exact ⟨_, [], [], A4s rfl rfl rfl, Fit.sub (List.nil_sublist _), rfl, _, by rw [A8g hf]; rfl, by rw [A8g hf]; exact By.nil⟩
 ·
  obtain ⟨hf, hz⟩ | ⟨i, x, hf, hxi, hq, hmin⟩ := X5 (tst of n) sks
  · rw [hf] at hc; simp at hc
  have hil := (List.getElem?_eq_some_iff.1 hxi).1
  rw [hf]
  obtain ⟨r, hr, vo, vk, rfl, ho, hk, hn⟩ := hrw.get i x hxi
  haveI := hk.cel
  refine A5 (nx (C9 0 8) (A1 (mv_ ?_)))
  refine A2 (G1 rfl) rfl ?_
  refine A2 (qf_ 0 0) rfl ?_
  refine A2 (H8 rfl kR (mA hsb) (by rfl)) rfl ?_
  refine mv_ ?_
  refine A2 (K0 (sz := 3) rfl rfl kR rfl hv hil) rfl ?_
  refine A2 (B2J (off := 2) rfl hv hil kR) rfl ?_
  refine A2 (B2K (u := vk) rfl (hv.mono SubC.sub) (by omega) kR (by rw [A1s (hrw.lens skT) hr 2 (by decide)]; rfl)) rfl ?_
  refine C7 (aS rfl a0) kR (A0C vk x.key _ (hk.mono SubC.sub)) rfl ?_
  rintro v23 M23 J23 ⟨rfl, h23⟩
  haveI := h23.cel
  refine as_ (as_ (A0 (C9 6 7) (B4 ?_)))
  exact ⟨_, [], [], A4s rfl rfl rfl, Fit.sub (List.nil_sublist _), rfl, _, by rw [A5Q hf hxi]; rfl, by rw [A5Q hf hxi]; exact h23.mono SubC.sub⟩
theorem A9V (sb k : Nat) (v : Value) (xs : List Value) (A : Mem) (hsb : (sb, blk [v] 153) ∈ A) (hv : Rd A 3 v k xs) (h1 : ∀ c ∈ xs, c.oneCell' = true) (hk : k ≤ 1099511627776) : FnX Tryz.prog 84 [.pointer (some ⟨sb, 0, none⟩)] [] A fun q M J => Sl 3 q k xs M := by
 haveI := hv.cel
 refine FnX.enterZ (N := 10) Tryz.func84 rfl rfl rfl fun w_ => ?_
 refine B0 (D2 0) (A1 (as_ (A0 (D2 0) (A3 (A1 (mv_ ?_))))))
 refine A2 (G4 (e := 153) rfl rfl kR) rfl ?_
 refine A0 (C9 0 4) ?_
 refine C6 rfl ?_
 refine A5 (nx (D2 0) (A1 (mv_ ?_)))
 refine A2 (G1 rfl) rfl ?_
 refine A2 (qf_ 0 0) rfl ?_
 refine A2 (H8 rfl kR (mA hsb) (by rfl)) rfl ?_
 refine C7 (aS rfl a0) kR (A6s v k xs _ (hv.mono SubC.sub) h1 hk) rfl ?_
 rintro v9 M9 J9 hs9
 haveI := hs9.cel
 refine as_ (A0 (D2 2) (B4 ?_))
 exact ⟨_, M9, [], I9 rfl rfl, Fit.none (Fit.last PickC.perm), hs9⟩
theorem A8h (sb k : Nat) (v : Value) (xs : List Value) (A : Mem) (hsb : (sb, blk [v] 153) ∈ A) (hv : Rd A 3 v k xs) (h1 : ∀ c ∈ xs, c.oneCell' = true) (hk : k ≤ 1099511627776) : FnX Tryz.prog 85 [.pointer (some ⟨sb, 0, none⟩)] [] A fun q M J => ∃ cb u B, q = .pointer (some ⟨cb, 0, none⟩) ∧ M = (cb, blk [u] 153) :: B ∧ Sl 3 u k xs B := by
 refine FnX.enterZ (N := 7) Tryz.func85 rfl rfl rfl fun w_ => ?_
 refine B0 (D2 0) (A1 (as_ (A0 (D2 0) (A1 (mv_ ?_)))))
 refine C7 (aS rfl a0) kR (A9V sb k v xs _ (mA hsb) (hv.mono SubC.sub) h1 hk) rfl ?_
 rintro v4 M4 J4 hs4
 haveI := hs4.cel
 refine A2 (E7 (place := fun x => #[(0, 1)][x]?) (z := [.slice none 0 0]) (fun _ => by kernel_rfl) (eS rfl e0) (bdS 0 1 rfl (by rfl) bd0)) rfl ?_
 refine A4 rfl (bx_ fun b6 => ?_)
 refine as_ (A0 (D2 2) (B4 ?_))
 exact ⟨_, (b6, _) :: M4, [], I9 rfl rfl, Fit.none (Fit.pick (B := [_]) PickC.perm (Fit.last PickC.perm)), b6, v4, M4, rfl, rfl, hs4⟩

def A43 : List Nat := [115, 116, 101, 112]
def A1e (s : Ps) (key : List Nat) : Ps := A6y s key [] A43 2
def cstL (s : Ps) (key : List Nat) : List (List Nat) := B1j s key [] A43 2
def A44 (s : Ps) (key : List Nat) : List Nat := (cstL s key).getD 0 []
def A9W (s : Ps) (key : List Nat) : List Nat := (cstL s key).getD 1 []
theorem A5R (s : Ps) (key : List Nat) (ws : List (List Nat)) (lb : List Nat) (n : Nat) : (B1j s key ws lb n).length = n := by
  unfold B1j
  split
  · exact A5C _ _
  · exact (A10 _ _ _ _).1
theorem A8i {R : Mem} {v : Value} {ls : List (List Nat)} (h : LsV R v ls) (hl : ls.length = 2) : ∃ vs u0 u1, Rd R 1 v 2 vs ∧ vs[0]? = some u0 ∧ vs[1]? = some u1 ∧ By R u0 (ls.getD 0 []) ∧ By R u1 (ls.getD 1 []) := by
  obtain ⟨vs, h1, h2⟩ := h.ex
  obtain ⟨u0, a0, b0⟩ := h2.at (j := 0) (by omega)
  obtain ⟨u1, a1, b1⟩ := h2.at (j := 1) (by omega)
  rw [hl] at h1
  refine ⟨vs, u0, u1, h1, a0, a1, ?_, ?_⟩
  · rw [List.getD_eq_getElem?_getD, List.getElem?_eq_getElem (by omega)]; exact b0
  · rw [List.getD_eq_getElem?_getD, List.getElem?_eq_getElem (by omega)]; exact b1
theorem B0y {P : Program} {fn : Func} {l : Env} {R : Mem} {t u b n : Nat} {ty : TypeId} {cs : List Value} {e : TypeId} {fr : Nat × Nat} {v : Value} (h : fn.results = #[.tmp u, .cell t ty]) (hv : lk l t = some (.pointer (some ⟨b, 0, none⟩))) (hu : lk l u = some v) (ht : A4r P ty = some n)
    (hb : (b, Obj.cells cs.toArray e fr) ∈ R) (hn : cs.length = n) : Res P fn l R (.tuple #[v, .agg cs.toArray]) := fun N a w ha hw => by
  obtain ⟨dsc, h1, h2, h3⟩ := Q5 ht
  have hl := run_loadVar_row (P := P) w b e ty cs.toArray fr dsc (hw b _ hb) h1 (by cases dsc <;> simp_all [TypeDesc.isRow]) (by rw [h3, ← hn]; simp)
  simp [results, h, ha.slot t _ hv, ha.slot u _ hu, asAddr, hl]
theorem A2f (pb : Nat) (s : Ps) (kv : Value) (key : List Nat) (n : Nat) (MP A : Mem) (hP : Prm pb s MP) (hk : By A kv key) (hn : s.ts.length ≤ 1040000) (hG : Glb A) : FnX Tryz.prog 90 [.pointer (some ⟨pb, 0, none⟩), .agg #[kv, .int .u32 ((n : Nat) : Int)]] MP A fun q M J => ∃ v1 v2, q = .tuple #[v1, .agg #[v2, .int .u32 (((n + 1) % 4294967296 : Nat) : Int)]] ∧ Prm pb (A1e s key) M ∧ By J v1 (A44 s key) ∧ By J v2 (A9W s key) := by
 haveI := hk.cel
 refine FnX.enterZ (N := 25) Tryz.func90 rfl rfl rfl fun w_ => ?_
 refine B0 (C9 0 1) (A1 ?_)
 refine A4 rfl (B0C rfl Cel.cel rfl fun b3 => ?_)
 refine as_ ?_
 refine A4 rfl (C4 (cs := [.slice none 0 0, .int .u32 0]) kR rfl fun b5 => ?_)
 refine A0 (D3 0 3 5) (A1 (mv_ ?_))
 refine A2 (qf_ 0 0) rfl ?_
 refine A2 (H8 (v := kv) rfl kR At.mem (by rfl)) rfl ?_
 refine A4 rfl (D4 (Mc := MP) (R := _) (aS rfl (aS rfl (aS rfl (aS rfl (aS rfl a0))))) kR PickC.perm (A11 pb s kv (.slice none 0 0) key A43 [] 2 MP _ hP (hk.mono SubC.sub) LsV.nil (by decide) ⟨by decide⟩ (by decide) (by decide) (by decide) hn hG.up) rfl ?_)
 rintro v10 M10 J10 ⟨hP10, hL10⟩
 have hlen := A5R s key [] A43 2
 obtain ⟨us, u0, u1, hr, hu0, hu1, hb0, hb1⟩ := A8i hL10 hlen
 haveI := hr.cel
 haveI := hb0.cel
 haveI := hb1.cel
 refine as_ (A0 (D3 3 5 6) (A3 (A1 (mv_ ?_))))
 refine A2 (H5 (sz := 1) rfl kR hr) rfl ?_
 refine A2 (E1 false rfl rfl (neF rfl)) rfl ?_
 refine A0 (D8 3 5 6 13) ?_
 refine C6 rfl ?_
 refine A5 (nx (D3 3 5 6) ?_)
 refine D1 (.range 11) (zp 0 [0, 0, 1, 0, 0, 1, 0, 1, 0, 0, 0, 2]) kR kR fun hs => ?_
 refine fm_ hs ?_
 refine C3 hs rfl (K0 (sz := 1) (a := 0) rfl rfl kR rfl hr (by decide)) rfl ?_
 refine G6 hs rfl (Y9 (u := u0) (hr.mono SubC.sub) rfl kR hu0) rfl ?_
 refine fm_ hs ?_
 refine C3 hs rfl (K0 (sz := 1) (a := 1) rfl rfl kR rfl hr (by decide)) rfl ?_
 refine G6 hs rfl (Y9 (u := u1) (hr.mono SubC.sub) rfl kR hu1) rfl ?_
 refine C3 hs rfl (qf_ 1 1) rfl ?_
 refine G6 hs rfl ql_ rfl ?_
 refine C3 hs rfl (F9 4294967296 (b := 1) rfl rfl rfl rfl rfl rfl) rfl ?_
 refine C3 hs rfl (E7 (place := fun x => #[(0, 1), (1, 1)][x]?) (z := [.slice none 0 0, .int .u32 0]) (fun _ => by kernel_rfl) (eS rfl (eS rfl e0)) (bdS 0 1 rfl (by rfl) (bdS 1 1 rfl (by rfl) bd0))) rfl ?_
 refine fa_ hs ?_
 refine E6 rfl rfl rfl (A8 rfl rfl Cel.cel kR (by rfl) (by intro c hc; simp only [List.mem_cons, List.not_mem_nil, or_false] at hc; rcases hc with rfl | rfl; exact hb1.one; rfl) UpC.upd ?_)
 refine F5 (C9 4 5) (B4 ?_)
 refine ⟨_, M10, [], B0y (n := 2) rfl rfl rfl kR At.mem (by rfl), Fit.none (Fit.last PickC.perm), u0, u1, rfl, hP10, hb0.mono (fun x hx => by simp [hx]), hb1.mono (fun x hx => by simp [hx])⟩

theorem up2 {X J R A : Mem} (hR : ∀ x, x ∈ R → x ∈ A) : ∀ x, x ∈ J ++ R → x ∈ X ++ (J ++ A) := fun x hx => List.mem_append_right _ ((List.mem_append.1 hx).elim (fun h => List.mem_append_left _ h) (fun h => List.mem_append_right _ (hR x h)))
def rep {α : Type} (f : α → α) : Nat → α → α
  | 0, x => x
  | k + 1, x => f (rep f k x)
abbrev Ast := Ps × List Nat × Nat × List Skp
def aSt (of : List Nat) (x : Ast) : Ast := (A1e x.1 x.2.1, A9W x.1 x.2.1, x.2.2.1 + 1, B3O x.2.2.2 ⟨of, x.2.2.1, A44 x.1 x.2.1⟩)
theorem B3P (of : List Nat) (i : Nat) (x : Ast) : (rep (aSt of) i x).2.2.1 = x.2.2.1 + i := by
  induction i with
  | zero => rfl
  | succ i ih => show (rep (aSt of) i x).2.2.1 + 1 = _; rw [ih]; rfl
theorem B3Q (of : List Nat) (i : Nat) (x : Ast) : (rep (aSt of) i x).1.ts.length ≤ x.1.ts.length + 3 * i := by
  induction i with
  | zero => exact Nat.le_refl _
  | succ i ih =>
    show (A1e (rep (aSt of) i x).1 (rep (aSt of) i x).2.1).ts.length ≤ _
    have := A3i (rep (aSt of) i x).1 (rep (aSt of) i x).2.1 [] A43 2
    unfold A1e
    simp at this
    omega
theorem B3R (of : List Nat) (i : Nat) (x : Ast) (h : x.2.2.2.length ≤ 1000) : (rep (aSt of) i x).2.2.2.length ≤ 1000 := by
  cases i with
  | zero => exact h
  | succ i => exact Nat.le_trans (A9Q _ _) (by decide)
theorem A6t (pb sb : Nat) (s : Ps) (kv vof : Value) (key of : List Nat) (N n : Nat) (sks : List Skp) (R MP MS A : Mem) (hP : Prm pb s MP) (hS : Sto R sb sks MS) (hR : ∀ x, x ∈ R → x ∈ A) (hk : By R kv key) (hof : By R vof of) (hl : sks.length ≤ 1000) (hNn : N ≤ n) (h16 : n - N ≤ 16) (hn32 : n < 4294967296) (hn : s.ts.length ≤ 1000000) (hG : Glb A) : FnX Tryz.prog 121 [.pointer (some ⟨pb, 0, none⟩), .agg #[kv, .int .u32 ((N : Nat) : Int)], vof, .int .u32 ((n : Nat) : Int), .pointer (some ⟨sb, 0, none⟩)] (MP ++ MS) A fun q M J => ∃ MP' MS' kv', M = MP' ++ MS' ∧ q = .tuple #[.agg #[kv', .int .u32 (((rep (aSt of) (n - N) (s, key, N, sks)).2.2.1 : Nat) : Int)], .int .i64 0] ∧ Prm pb (rep (aSt of) (n - N) (s, key, N, sks)).1 MP' ∧ Sto (J ++ R) sb (rep (aSt of) (n - N) (s, key, N, sks)).2.2.2 MS' ∧ By (J ++ R) kv' (rep (aSt of) (n - N) (s, key, N, sks)).2.1 := by
 haveI := hk.cel
 haveI := hof.cel
 refine FnX.enterZ (N := 51) Tryz.func121 rfl rfl rfl fun w_ => ?_
 refine B0 (E4 0 1 2 3 4) (A1 ?_)
 refine A4 rfl (bx_ fun b6 => ?_)
 refine A4 rfl (C4 (cs := [.slice none 0 0, .int .u32 0]) kR rfl fun b10 => ?_)
 refine as_ (A0 (H9 0 2 3 4 6 10) (A3 (A6 (A1 (mv_ ?_)))))
 refine A2 (qf_ 1 1) rfl ?_
 refine A2 ql_ rfl ?_
 refine A2 (E1 false rfl rfl (ltF (by omega))) rfl ?_
 refine as_ (A0 (V6 0 2 3 4 6 10 14) ?_)
 refine C6 rfl ?_
 refine A1 (mv_ ?_)
 refine A2 (qf_ 1 1) rfl ?_
 refine A2 ql_ rfl ?_
 refine A2 (D5 (((n - N : Nat)) : Int) rfl rfl (by simp only [I8]; rw [A8J (by omega) (by omega)]; congr 2; omega)) rfl ?_
 refine A2 (E1 false rfl rfl (gtF (by omega))) rfl ?_
 refine as_ (A0 (V6 0 2 3 4 6 10 20) ?_)
 refine C6 rfl ?_
 refine A5 (nb (nx (H9 0 2 3 4 6 10) (A3 (A6 ?_))))
 refine E2 (α := Nat × Mem × Mem × Value × Mem) (fun x => [(0, .pointer (some ⟨pb, 0, none⟩)), (2, vof), (3, .int .u32 ((n : Nat) : Int)), (4, .pointer (some ⟨sb, 0, none⟩)), (6, .pointer (some ⟨b6, 0, none⟩)), (10, .pointer (some ⟨b10, 0, none⟩))]) (fun x => x.2.1 ++ (x.2.2.1 ++ [(b6, blk [x.2.2.2.1, .int .u32 ((N + x.1 : Nat) : Int)] 77), (b10, blk [.slice none 0 0, .int .u32 0] 77)])) (fun x => x.2.2.2.2) (fun x => x.1 ≤ n - N ∧ Prm pb (rep (aSt of) x.1 (s, key, N, sks)).1 x.2.1 ∧ Sto (x.2.2.2.2 ++ R) sb (rep (aSt of) x.1 (s, key, N, sks)).2.2.2 x.2.2.1 ∧ By (x.2.2.2.2 ++ R) x.2.2.2.1 (rep (aSt of) x.1 (s, key, N, sks)).2.1) (fun x => n - N - x.1) ⟨0, MP, MS, kv, []⟩ ⟨Nat.zero_le _, hP, hS, hk⟩ (H9 0 2 3 4 6 10) (Fit.pick PickC.perm (Fit.pick PickC.perm (Fit.pick (B := [_]) PickC.perm (Fit.last PickC.perm)))) (fun _ h => by cases h) ?_
 rintro ⟨i, MPi, MSi, kvi, Ji⟩ ⟨hi, hPi, hSi, hki⟩
 dsimp only at hi hPi hSi hki ⊢
 haveI := hki.cel
 have hts := B3Q of i (s, key, N, sks)
 have hsk := B3R of i (s, key, N, sks) hl
 dsimp only at hts hsk
 refine A3 (A1 ?_)
 refine A2 (qf_ 1 1) rfl ?_
 refine A2 ql_ rfl ?_
 refine mv_ ?_
 refine A2 (E0 rfl rfl rfl) rfl ?_
 refine A0 (V6 0 2 3 4 6 10 30) ?_
 refine C5 rfl (fun hc => ?_) (fun hc => ?_)
 ·
  have hlt : i < n - N := by simp at hc; omega
  refine A5 (nx (H9 0 2 3 4 6 10) (A6 (A1 (as_ (A0 (H9 0 2 3 4 6 10) (A1 ?_))))))
  refine A2 (qf_ 1 1) rfl ?_
  refine A2 ql_ rfl ?_
  refine as_ (A0 (V6 0 2 3 4 6 10 13) (A3 (A1 (mv_ ?_))))
  refine A2 (qw_ 2) rfl ?_
  refine A4 rfl (D4 (Mc := MPi) (R := _) (aS rfl (aS rfl a0)) kR PickC.perm (A2f pb (rep (aSt of) i (s, key, N, sks)).1 kvi (rep (aSt of) i (s, key, N, sks)).2.1 (N + i) MPi _ hPi (hki.mono (up2 hR)) (by omega) hG.up) rfl ?_)
  rintro v36 M36 J36 ⟨v1, v2, rfl, hP36, hb1, hb2⟩
  haveI := hb1.cel
  haveI := hb2.cel
  rw [Nat.mod_eq_of_lt (show N + i + 1 < 4294967296 by omega), show N + i + 1 = N + (i + 1) from rfl]
  refine mv_ ?_
  refine A2 (A04 rfl) rfl ?_
  refine A2 (A0U rfl) rfl ?_
  refine as_ ?_
  refine A4 rfl (A8 rfl rfl Cel.cel kR (by rfl) (by intro c hc; simp only [List.mem_cons, List.not_mem_nil, or_false] at hc; rcases hc with rfl | rfl; exact hb2.one; rfl) UpC.upd ?_)
  refine A0 (W4 0 2 3 4 6 10 12 13) (A1 ?_)
  refine A2 (qf_ 1 1) rfl ?_
  refine A2 ql_ rfl ?_
  refine mv_ ?_
  refine A2 (E1 false rfl rfl (eqF (by omega))) rfl ?_
  refine A0 (A2j 0 2 3 4 6 10 12 13 42) ?_
  refine C6 rfl ?_
  refine A5 (nx (W4 0 2 3 4 6 10 12 13) (A9 (mv_ (mv_ (mv_ (mv_ ?_))))))
  refine A2 (E7 (place := fun x => #[(0, 1), (1, 1), (2, 1)][x]?) (z := [.slice none 0 0, .int .u32 0, .slice none 0 0]) (fun _ => by kernel_rfl) (eS rfl (eS rfl (eS rfl e0))) (bdS 0 1 rfl (by rfl) (bdS 1 1 rfl (by rfl) (bdS 2 1 rfl (by rfl) bd0)))) rfl ?_
  refine A4 rfl (D4 (Mc := MSi) (R := _) (aS rfl (aS rfl a0)) kR PickC.perm (A9T sb vof v1 (rep (aSt of) i (s, key, N, sks)).2.2.2 of (A44 (rep (aSt of) i (s, key, N, sks)).1 (rep (aSt of) i (s, key, N, sks)).2.1) (N + i) ((J36 ++ Ji) ++ R) MSi _ (hSi.mono (fun x hx => by simp only [List.mem_append] at hx ⊢; rcases hx with h | h <;> simp [h])) (up2 hR) (by omega) (hof.mono (fun x hx => List.mem_append_right _ hx)) (hb1.mono (fun x hx => by simp [hx])) (by omega)) rfl ?_)
  rintro v49 M49 J49 ⟨rfl, hS49⟩
  refine C2 (nb ?_)
  exact rn ⟨i + 1, M36, M49, v2, J49 ++ (J36 ++ Ji)⟩ ⟨by dsimp only; omega, hP36, (by have h := hS49; rw [← B3P of i (s, key, N, sks)] at h; exact h.mono (fun x hx => by simp only [List.mem_append] at hx ⊢; rcases hx with h | h | h <;> simp [h]) : Sto ((J49 ++ (J36 ++ Ji)) ++ R) sb _ M49), hb2.mono (fun x hx => by simp [hx])⟩ (by dsimp only; omega) (H9 0 2 3 4 6 10) (Fit.pick PickC.perm (Fit.pick PickC.perm (Fit.pick (B := [_]) PickC.perm (Fit.last PickC.perm)))) (fun _ h => h)
 ·
  have hge : i = n - N := by simp at hc; omega
  subst hge
  refine D6 (te (re (be rfl (nx (C9 6 10) (A1 ?_)))))
  refine A2 (qw_ 2) rfl ?_
  refine A4 rfl (A8 rfl rfl Cel.cel kR (by rfl) (by intro c hc; simp only [List.mem_cons, List.not_mem_nil, or_false] at hc; rcases hc with rfl | rfl; exact hki.one; rfl) UpC.upd ?_)
  refine as_ (A0 (C9 10 11) (B4 ?_))
  refine ⟨_, MPi ++ MSi, [], A5U (n := 2) rfl rfl rfl kR At.mem (by rfl), Fit.none (Fit.pick PickC.perm (Fit.last PickC.perm)), MPi, MSi, kvi, rfl, ?_, hPi, hSi, hki⟩
  rw [B3P]

def bes (n k x : Nat) : List Nat := (List.range x).map fun j => n / 2 ^ (8 * (k - 1 - j)) % 256
def beN (n k : Nat) : List Nat := bes n k k
theorem A45 (n k x : Nat) : (bes n k x).length = x := by simp [bes]
theorem R6 (n k : Nat) : (beN n k).length = k := A45 n k k
theorem A5S (n k x : Nat) : bes n k (x + 1) = bes n k x ++ [n / 2 ^ (8 * (k - 1 - x)) % 256] := by simp [bes, List.range_succ]
theorem B3S (n k x : Nat) : ∀ y ∈ bes n k x, y < 256 := by
  intro y hy
  simp only [bes, List.mem_map] at hy
  obtain ⟨j, _, rfl⟩ := hy
  exact Nat.mod_lt _ (by decide)
theorem A8j (n k : Nat) : ∀ y ∈ beN n k, y < 256 := B3S n k k
theorem A4l {a b : List Nat} (ha : ∀ x ∈ a, x < 256) (hb : ∀ x ∈ b, x < 256) : ∀ x ∈ a ++ b, x < 256 := fun x hx => (List.mem_append.1 hx).elim (ha x) (hb x)
def bev (ws : List Nat) : Nat := ws.foldl (fun n b => n * 256 + b) 0
structure Wtr (wb : Nat) (ws : List Nat) (M : Mem) : Prop where
  ex : ∃ (v : Value) (B : Mem), M = (wb, blk [v] 100) :: B ∧ Sl 1 v ws.length (nums .u8 ws) B
  lt : ∀ x ∈ ws, x < 256
theorem Wtr.new {b : Nat} : Wtr b [] [(b, blk [.slice none 0 0] 100)] := ⟨⟨_, [], rfl, Sl.nil⟩, fun x h => by cases h⟩
theorem Wtr.eq {wb : Nat} {ws ws' : List Nat} {M : Mem} (h : Wtr wb ws M) (e : ws = ws') : Wtr wb ws' M := e ▸ h
theorem A2g (wb n k : Nat) (ws : List Nat) (M A : Mem) (hW : Wtr wb ws M) (hn : n < 18446744073709551616) (hk : k ≤ 8) (hl : ws.length ≤ 1099511627776) : FnX Tryz.prog 76 [.pointer (some ⟨wb, 0, none⟩), .int .u64 ((n : Nat) : Int), .int .i64 ((k : Nat) : Int)] M A fun q M J => q = .pointer (some ⟨wb, 0, none⟩) ∧ Wtr wb (ws ++ beN n k) M := by
 obtain ⟨⟨v, B, rfl, hsl⟩, hlt⟩ := hW
 haveI := hsl.cel
 refine FnX.enterZ (N := 33) Tryz.func76 rfl rfl rfl fun w_ => ?_
 refine B0 (D3 0 1 2) (A1 (as_ (A0 (D3 0 1 2) (A3 (A1 (mv_ ?_))))))
 refine A2 (D5 ((k : Int) - 1) rfl rfl (Y6 rfl (by omega) (by omega))) rfl ?_
 refine as_ (A0 (D3 0 1 7) (A6 ?_))
 refine E2 (α := Nat × Value × Mem) (fun x => [(0, .pointer (some ⟨wb, 0, none⟩)), (1, .int .u64 ((n : Nat) : Int)), (7, .int .i64 ((k : Int) - 1 - (x.1 : Int)))]) (fun x => (wb, blk [x.2.1] 100) :: x.2.2) (fun _ => []) (fun x => x.1 ≤ k ∧ Sl 1 x.2.1 (ws ++ bes n k x.1).length (nums .u8 (ws ++ bes n k x.1)) x.2.2) (fun x => k - x.1) ⟨0, v, B⟩ ⟨Nat.zero_le _, by simpa [bes] using hsl⟩ (kq 0 (kq 1 (kp 7 (by simp; rfl) kn))) .rfl (fun _ h => h) ?_
 clear hsl
 rintro ⟨x, v, B⟩ ⟨hx, hsl⟩
 dsimp only at hx hsl ⊢
 haveI := hsl.cel
 have hbl := A45 n k x
 have hll : (ws ++ bes n k x).length = ws.length + x := by rw [List.length_append, hbl]
 refine A3 (A1 (mv_ ?_))
 refine A2 (E0 rfl rfl rfl) rfl ?_
 refine mv_ ?_
 refine U8 (t := 12) rfl (fun hb => ?_) (fun hb => ?_)
 ·
  have hltx : x < k := by simp at hb; omega
  obtain ⟨m, hm, hm2⟩ : ∃ m : Nat, ((k : Int) - 1 - (x : Int)) = (m : Int) ∧ m = k - 1 - x := ⟨k - 1 - x, by omega, rfl⟩
  rw [hm]
  refine E5 rfl rfl (OpQ.opL qm_ rfl ?_)
  refine E5 rfl rfl (OpQ.opL (E1 true rfl rfl (ltT (by omega))) rfl ?_)
  refine A2 (H7 rfl rfl) rfl ?_
  refine A0 (D8 0 1 7 15) ?_
  refine D0 rfl ?_
  refine A5 (nx (D3 0 1 7) (A3 (A6 ?_)))
  refine F1 [0, 1, 2, 3, 4, 5, 6, 7, 8, 9, 10, 12, 13] (zp 0 [0, 0, 0, 0, 1, 0, 0, 0, 0, 0, 2, 2, 0, 0, 2]) kR kR fun hs => ?_
  refine fm_ hs ?_
  refine fm_ hs ?_
  refine C3 hs rfl (G1 rfl) rfl ?_
  refine C3 hs rfl (qf_ 0 0) rfl ?_
  refine G6 hs rfl ql_ rfl ?_
  refine fm_ hs ?_
  refine fm_ hs ?_
  refine C3 hs rfl (Z4 (a := 8) rfl rfl rfl rfl (by omega)) rfl ?_
  refine C3 hs rfl (A5m (a := n) (b := 8 * m) rfl rfl rfl rfl (by show _ ≤ 64; omega)) rfl ?_
  refine C3 hs rfl (A1H rfl kR) rfl ?_
  refine A8T rfl rfl fun _ => (C0 (e := 5) (sz := 1) (z := [.int .u8 0]) kR (eS rfl e0) (bdS 0 1 rfl (by rfl) bd0) rfl fun b28 => ?_)
  refine E6 rfl rfl rfl (F8 (e := 5) (sz := 1) (by_ := 1) rfl rfl kR rfl (by first | assumption | exact Sl.nil) (Rd.whole (n := 1) At.mem (by rfl)) (by first | (simp [Value.oneCell']; done) | (intro c hc; simp only [List.mem_singleton] at hc; subst hc; first | exact Rd.one (by assumption) | exact Sl.one (by assumption))) PickC.perm (by unfold maxLen; omega) (by omega) rfl fun v29 B29 hs29 => ?_)
  refine C3 hs rfl (G1 rfl) rfl ?_
  refine C3 hs rfl (qf_ 0 0) rfl ?_
  refine E6 rfl rfl rfl (C8 rfl rfl hs29.one kR SetC.set UpC.upd ?_)
  refine P0 (nb (nx (D3 0 1 7) (A9 (mv_ ?_))))
  refine A2 (D5 ((m : Int) - 1) rfl rfl (Y6 rfl (by omega) (by omega))) rfl ?_
  refine as_ (C2 ?_)
  exact rn ⟨x + 1, v29, B29⟩ ⟨by dsimp only; omega, by dsimp only; rw [A5S, ← List.append_assoc, ← hm2]; exact V5 hs29 (by simp only [List.length_append, List.length_singleton]) (by simp [nums])⟩ (by dsimp only; omega) (kq 0 (kq 1 (kp 7 (by dsimp only; rw [show ((k : Int) - 1 - ((x + 1 : Nat) : Int)) = (m : Int) - 1 by omega]; rfl) kn))) (Fit.pick (B := [_]) PickC.perm (Fit.last PickC.perm)) (fun _ h => by first | exact h | cases h)
 ·
  have hge : x = k := by simp at hb; omega
  subst hge
  refine H2 rfl rfl rfl rfl ?_
  refine H2 rfl rfl rfl rfl ?_
  refine A2 (G2 rfl rfl) rfl ?_
  refine A0 (D8 0 1 7 15) ?_
  refine C6 rfl ?_
  refine D6 (te (re (be rfl (nx (D2 0) (A1 (mv_ (as_ (A0 (D2 6) ?_))))))))
  refine B4 ?_
  exact ⟨_, (wb, blk [v] 100) :: B, [], I9 rfl rfl, Fit.none (Fit.last PickC.perm), rfl, ⟨⟨v, B, rfl, hsl⟩, A4l hlt (A8j n x)⟩⟩
theorem A0D (wb : Nat) (p : Value) (w ws : List Nat) (M A : Mem) (hW : Wtr wb ws M) (hp : By A p w) (hl : ws.length ≤ 1099511620000) : FnX Tryz.prog 77 [.pointer (some ⟨wb, 0, none⟩), p] M A fun q M J => q = .pointer (some ⟨wb, 0, none⟩) ∧ Wtr wb (ws ++ beN w.length 4 ++ w) M := by
 haveI := hp.cel
 have hpl := hp.len
 refine FnX.enterZ (N := 20) Tryz.func77 rfl rfl rfl fun w_ => ?_
 refine B0 (C9 0 1) (A1 (as_ (A0 (C9 0 1) (A1 (mv_ (mv_ ?_))))))
 refine A2 (H5 (sz := 1) rfl kR hp.rd) rfl ?_
 refine A2 (A5i rfl kR) rfl ?_
 rw [Nat.mod_eq_of_lt (show w.length < 18446744073709551616 by omega)]
 refine A4 rfl (D4 (Mc := _) (R := _) (aS rfl (aS rfl (aS rfl (a0)))) kR PickC.perm (A2g wb w.length 4 ws _ _ hW (by omega) (by decide) (by omega)) rfl ?_)
 rintro v9 M9 J9 ⟨rfl, hW9⟩
 obtain ⟨⟨v, B, rfl, hsl⟩, hlt⟩ := hW9
 haveI := hsl.cel
 have hbl := R6 w.length 4
 have hll : (ws ++ beN w.length 4).length = ws.length + 4 := by rw [List.length_append, hbl]
 refine A0 (C9 0 1) (A1 (mv_ (mv_ ?_)))
 refine A2 (G1 rfl) rfl ?_
 refine A2 (qf_ 0 0) rfl ?_
 refine A2 ql_ rfl ?_
 refine mv_ ?_
 refine A4 rfl (F8 (e := 5) (sz := 1) (by_ := 1) rfl rfl kR rfl hsl (hp.rd.mono SubC.sub) F4 PickC.perm (by unfold maxLen; omega) (by omega) rfl fun v16 B16 hs16 => ?_)
 refine A2 (G1 rfl) rfl ?_
 refine A2 (qf_ 0 0) rfl ?_
 refine A4 rfl (C8 rfl rfl hs16.one kR SetC.set UpC.upd ?_)
 refine A0 (D2 0) (A1 (mv_ (as_ (A0 (D2 4) (B4 ?_)))))
 exact ⟨_, (wb, blk [v16] 100) :: B16, [], I9 rfl rfl, Fit.none (Fit.pick (B := [_]) PickC.perm (Fit.last PickC.perm)), rfl, ⟨⟨v16, B16, rfl, V5 hs16 (by simp only [List.length_append]) (by simp [nums])⟩, A4l hlt hp.lt⟩⟩
theorem A2P (wb : Nat) (ws : List Nat) (M A : Mem) (hW : Wtr wb ws M) (hl : ws.length ≤ 16777216) : FnX Tryz.prog 47 [.pointer (some ⟨wb, 0, none⟩)] M A fun q M J => Wtr wb ws M ∧ By J q ws := by
 obtain ⟨⟨v, B, rfl, hsl⟩, hlt⟩ := hW
 haveI := hsl.cel
 refine FnX.enterZ (N := 8) Tryz.func47 rfl rfl rfl fun w_ => ?_
 refine B0 (D2 0) (A1 (as_ (A0 (D2 0) (A1 (mv_ ?_)))))
 refine A2 (G1 rfl) rfl ?_
 refine A2 (qf_ 0 0) rfl ?_
 refine A2 ql_ rfl ?_
 refine A4 rfl (F8 (e := 5) (sz := 1) (by_ := 1) rfl rfl kR rfl Sl.nil (hsl.rd SubC.sub) F4 PickC.perm (by unfold maxLen; omega) (by omega) rfl fun v7 B7 hs7 => ?_)
 refine as_ (A0 (D2 2) (B4 ?_))
 exact ⟨_, (wb, blk [v] 100) :: B, B7, I9 rfl rfl, Fit.pick PickC.perm (Fit.last PickC.perm), ⟨⟨v, B, rfl, hsl⟩, hlt⟩, ⟨by simpa using hs7.rd (R := B7) SubC.sub, hlt, hl⟩⟩

end Go.Proofs.YthbhpfefdnffaaaGreatDoor
set_option maxRecDepth 10000
namespace Go.Ed
variable {n : Nat} [NeZero n]
theorem A4m {x y d : Fin n} (h : y*y - x*x = 1 + d*x*x*y*y) : x*x*(1 + d*(y*y)) = y*y - 1 := by grind
theorem B5g (x2 y2 x3 y3 d : Fin n) (h2 : y2*y2 - x2*x2 = 1 + d*x2*x2*y2*y2) (h3 : y3*y3 - x3*x3 = 1 + d*x3*x3*y3*y3) :
    (1 + d*(y2*y2))*(1 + d*(y3*y3))*((1 - y2*y3 - (d*x2*x3*y2*y3 + x2*x3))*(1 - y2*y3 + (d*x2*x3*y2*y3 + x2*x3))) = (y2 - y3)*(y2 - y3)*((1 + d)*(1 + d*(y2*y3)*(y2*y3))) := by
  have e2 := A4m h2
  have e3 := A4m h3
  have e : (1 + d*(y2*y2))*(1 + d*(y3*y3))*((1 - y2*y3 - (d*x2*x3*y2*y3 + x2*x3))*(1 - y2*y3 + (d*x2*x3*y2*y3 + x2*x3))) = (1 + d*(y2*y2))*(1 + d*(y3*y3))*((1 - y2*y3)*(1 - y2*y3)) - (x2*x2*(1 + d*(y2*y2)))*(x3*x3*(1 + d*(y3*y3)))*((1 + d*(y2*y3))*(1 + d*(y2*y3))) := by clear h2 h3 e2 e3; grind
  rw [e, e2, e3]
  clear h2 h3 e2 e3 e
  grind
theorem B5h (x2 y2 x3 y3 d : Fin n) (h2 : y2*y2 - x2*x2 = 1 + d*x2*x2*y2*y2) (h3 : y3*y3 - x3*x3 = 1 + d*x3*x3*y3*y3) :
    (1 + d*(y2*y2))*(1 + d*(y3*y3))*((1 + y2*y3 + (x2*x3 - d*x2*x3*y2*y3))*(1 + y2*y3 - (x2*x3 - d*x2*x3*y2*y3))) = (y2 + y3)*(y2 + y3)*((1 + d)*(1 + d*(y2*y3)*(y2*y3))) := by
  have e2 := A4m h2
  have e3 := A4m h3
  have e : (1 + d*(y2*y2))*(1 + d*(y3*y3))*((1 + y2*y3 + (x2*x3 - d*x2*x3*y2*y3))*(1 + y2*y3 - (x2*x3 - d*x2*x3*y2*y3))) = (1 + d*(y2*y2))*(1 + d*(y3*y3))*((1 + y2*y3)*(1 + y2*y3)) - (x2*x2*(1 + d*(y2*y2)))*(x3*x3*(1 + d*(y3*y3)))*((1 - d*(y2*y3))*(1 - d*(y2*y3))) := by clear h2 h3 e2 e3; grind
  rw [e, e2, e3]
  clear h2 h3 e2 e3 e
  grind
theorem pf1 {m k t S t2 : Fin n} (h : 1 - t = t2) (s : S*t2 = m + k) : 1 - m - (t + k) = (1 - S)*t2 := by grind
theorem pf2 {m k t y t1 : Fin n} (h : 1 + t = t1) (s : y*t1 = m - k) : 1 - m + (t + k) = (1 - y)*t1 := by grind
theorem pf3 {m k t S t2 : Fin n} (h : 1 - t = t2) (s : S*t2 = m + k) : 1 + m + (k - t) = (1 + S)*t2 := by grind
theorem pf4 {m k t y t1 : Fin n} (h : 1 + t = t1) (s : y*t1 = m - k) : 1 + m - (k - t) = (1 + y)*t1 := by grind
theorem pf5 {a b y z : Fin n} : (b*(1 + z) - b*(1 - z))*(a*(1 + y) + a*(1 - y)) + (b*(1 + z) + b*(1 - z))*(a*(1 + y) - a*(1 - y)) = 4*(a*b)*(y + z) := by grind
theorem pf6 {a b y z : Fin n} : (b*(1 + z) - b*(1 - z))*(a*(1 + y) + a*(1 - y)) - (b*(1 + z) + b*(1 - z))*(a*(1 + y) - a*(1 - y)) = 4*(a*b)*(z - y) := by grind
theorem pf7 {Y L M I : Fin n} (h : L = Y*M) (hi : M*I = 1) : Y = L*I := by grind
theorem pf8 {c y a2 a3 S t2 t1 v I : Fin n} (h : y*y = a2*a3*((1 + S)*t2*((1 + v)*t1))*I) : 4*c*y*(4*c*y) = 16*(c*c)*(t1*t2)*(a2*a3)*I*(1 + v)*(1 + S) := by
  have : 4*c*y*(4*c*y) = 16*(c*c)*(y*y) := by grind
  rw [this, h]; clear this h; grind
theorem pf9 {c y a2 a3 S t2 t1 v I u : Fin n} (h : y*y = a2*a3*((1 - S)*t2*((1 - v)*t1))*I) (hu : u*(1 - v) = 1 + v) : u*(4*c*y*(4*c*y)) = 16*(c*c)*(t1*t2)*(a2*a3)*I*(1 + v)*(1 - S) := by
  have e : u*(4*c*y*(4*c*y)) = u*(16*(c*c)*(y*y)) := by clear h hu; grind
  have e2 : u*(16*(c*c)*(a2*a3*((1 - S)*t2*((1 - v)*t1))*I)) = (u*(1 - v))*(16*(c*c)*(a2*a3*((1 - S)*t2*t1)*I)) := by clear h hu e; grind
  rw [e, h, e2, hu]; clear h hu e e2; grind
theorem pg1 {a y : Fin n} : (a*(1 + y) + a*(1 - y))*(a*(1 + y) + a*(1 - y)) = 4*(a*a) := by grind
theorem pg2 {a y : Fin n} : (a*(1 + y) - a*(1 - y))*(a*(1 + y) - a*(1 - y)) = 4*(a*a)*(y*y) := by grind
theorem pg3 {d k y : Fin n} (h : d*(k + 1) = -k) : (1 + d)*(1 + k*(1 - y*y)) = 1 + d*(y*y) := by grind
theorem pg4 {d w x y : Fin n} (h : (1 + d)*w = 1 + d*(y*y)) (hx : x*x*(1 + d*(y*y)) = y*y - 1) : (1 + d)*((1 + x*x)*w) = (1 + d)*(y*y) := by
  have : (1 + d)*((1 + x*x)*w) = (1 + x*x)*((1 + d)*w) := by clear h hx; grind
  rw [this, h]; clear this h; grind
theorem pg5 {d x y D S : Fin n} (he : y*y - x*x = 1 + d*x*x*y*y) (hD : 1 - d*x*x*y*y = D) (s : S*D = y*y + x*x) : D*(1 + S) = 2 + 2*(x*x) ∧ D*(1 - S) = 2 - 2*(y*y) := by
  have : D = 2 - y*y + x*x := by grind
  constructor
  · have : D*(1 + S) = D + S*D := by clear s he hD this; grind
    rw [this, s]; clear this s; grind
  · have : D*(1 - S) = D - S*D := by clear s he hD this; grind
    rw [this, s]; clear this s; grind
theorem pg6 {a w D S x y : Fin n} (g : D*(1 + S) = 2 + 2*(x*x)) (h : (1 + x*x)*w = y*y) : 4*(a*a)*(4*(a*a)*(y*y)) = 8*(a*a*(a*a))*w*D*(1 + S) := by
  have e : 8*(a*a*(a*a))*w*D*(1 + S) = 8*(a*a*(a*a))*w*(D*(1 + S)) := by clear g h; grind
  have e2 : 8*(a*a*(a*a))*w*(2 + 2*(x*x)) = 16*(a*a*(a*a))*((1 + x*x)*w) := by clear g h e; grind
  rw [e, g, e2, h]; clear g h e e2; grind
theorem pg7 {a k D S y : Fin n} (g : D*(1 - S) = 2 - 2*(y*y)) : (4*(a*a) - 4*(a*a)*(y*y))*(4*(a*a) + k*(4*(a*a) - 4*(a*a)*(y*y))) = 8*(a*a*(a*a))*(1 + k*(1 - y*y))*D*(1 - S) := by
  have e : 8*(a*a*(a*a))*(1 + k*(1 - y*y))*D*(1 - S) = 8*(a*a*(a*a))*(1 + k*(1 - y*y))*(D*(1 - S)) := by clear g; grind
  rw [e, g]; clear g e; grind
variable {d : Fin n} (F : Fld n d)
structure RepU (X Z : Fin n) (P : Fin n × Fin n) : Prop where
  ex : ∃ c, c ≠ 0 ∧ X = c * (1 + P.2) ∧ Z = c * (1 - P.2)
include F
theorem Fld.four : (4 : Fin n) ≠ 0 := fun h => F.two ((F.mul0 2 2 (by grind)).elim id id)
theorem Fld.a_ne (y : Fin n) : 1 + d*(y*y) ≠ 0 := fun h => F.dy_ne (y := y) (by grind)
theorem Fld.rep_dif {A B C D u yD : Fin n} {P Q : Fin n × Fin n} (hP : On d P) (hQ : On d Q) (h1 : RepU A B P) (h2 : RepU C D Q) (hD : yD*(1 + d*P.1*Q.1*P.2*Q.2) = P.2*Q.2 - P.1*Q.1) (hu : u*(1 - yD) = 1 + yD) (hy : 1 + yD ≠ 0) {p q da cb : Fin n} (hp : p = A + B) (hq : q = A - B) (hda : da = (C - D)*p) (hcb : cb = (C + D)*q) :
    RepU ((da + cb)*(da + cb)) (u*((da - cb)*(da - cb))) (F.add P Q) := by
  obtain ⟨a, ha, rfl, rfl⟩ := h1
  obtain ⟨b, hb, rfl, rfl⟩ := h2
  obtain ⟨k1, k2⟩ := F.complete hP hQ
  obtain ⟨-, s2⟩ := F.add_spec hP hQ
  have hL := B5g P.1 P.2 Q.1 Q.2 d hP.eq hQ.eq
  have hR := B5h P.1 P.2 Q.1 Q.2 d hP.eq hQ.eq
  have n2 := F.a_ne P.2
  have n3 := F.a_ne Q.2
  have n4 : (1 + d) ≠ 0 := by have := F.a_ne 1; rwa [show d * ((1 : Fin n) * 1) = d by grind] at this
  have n5 : 1 + d*(P.2*Q.2)*(P.2*Q.2) ≠ 0 := by have := F.a_ne (P.2*Q.2); rwa [← show d*(P.2*Q.2)*(P.2*Q.2) = d*((P.2*Q.2)*(P.2*Q.2)) by grind] at this
  have n6 := F.mul_ne n4 n5
  have hi := F.hinv _ n6
  generalize F.add P Q = S at *
  have hI : F.inv ((1 + d)*(1 + d*(P.2*Q.2)*(P.2*Q.2))) ≠ 0 := fun h => by rw [h] at hi; exact F.one (by rw [← hi]; grind)
  rw [pf1 (S := S.2) rfl s2, pf2 rfl hD] at hL
  rw [pf3 (S := S.2) rfl s2, pf4 rfl hD] at hR
  have g : (16 : Fin n) ≠ 0 := fun h => F.four ((F.mul0 4 4 (by grind)).elim id id)
  refine ⟨16*(a*b*(a*b))*((1 + d*P.1*Q.1*P.2*Q.2)*(1 - d*P.1*Q.1*P.2*Q.2))*((1 + d*(P.2*P.2))*(1 + d*(Q.2*Q.2)))*F.inv ((1 + d)*(1 + d*(P.2*Q.2)*(P.2*Q.2)))*(1 + yD), ?_, ?_, ?_⟩
  · exact F.mul_ne (F.mul_ne (F.mul_ne (F.mul_ne (F.mul_ne g (F.mul_ne (F.mul_ne ha hb) (F.mul_ne ha hb))) (F.mul_ne k1 k2)) (F.mul_ne n2 n3)) hI) hy
  · subst hp hq hda hcb
    rw [pf5]
    exact pf8 (pf7 hR hi)
  · subst hp hq hda hcb
    rw [pf6]
    have e : (Q.2 - P.2)*(Q.2 - P.2) = (P.2 - Q.2)*(P.2 - Q.2) := by clear hL hR hi s2 hD hu; grind
    exact pf9 (e.trans (pf7 hL hi)) hu
theorem Fld.rep_dbl {A B k : Fin n} {P : Fin n × Fin n} (hP : On d P) (h1 : RepU A B P) (hk : d*(k + 1) = -k) {ss tt : Fin n} (hs : ss = (A + B)*(A + B)) (ht : tt = (A - B)*(A - B)) :
    RepU (ss*tt) ((ss - tt)*(ss + k*(ss - tt))) (F.add P P) := by
  obtain ⟨a, ha, rfl, rfl⟩ := h1
  obtain ⟨k1, k2⟩ := F.complete hP hP
  obtain ⟨-, s2⟩ := F.add_spec hP hP
  have n2 := F.a_ne P.2
  have n4 : (1 + d) ≠ 0 := by have := F.a_ne 1; rwa [show d * ((1 : Fin n) * 1) = d by grind] at this
  have hk1 := pg3 (y := P.2) hk
  have hw : 1 + k*(1 - P.2*P.2) ≠ 0 := fun h => by rw [h] at hk1; exact n2 (by rw [← hk1]; grind)
  have hx1 := F.cancel n4 (pg4 hk1 (A4m hP.eq))
  obtain ⟨g1, g2⟩ := pg5 hP.eq rfl s2
  rw [pg1] at hs
  rw [pg2] at ht
  subst hs ht
  have g : (8 : Fin n) ≠ 0 := fun h => F.two ((F.mul0 2 4 (by grind)).elim id fun h => absurd h F.four)
  exact ⟨8*(a*a*(a*a))*(1 + k*(1 - P.2*P.2))*(1 - d*P.1*P.1*P.2*P.2), F.mul_ne (F.mul_ne (F.mul_ne g (F.mul_ne (F.mul_ne ha ha) (F.mul_ne ha ha))) hw) k2, pg6 g1 hx1, pg7 g2⟩
theorem Fld.add_neg {P : Fin n × Fin n} (hP : On d P) : On d (-P.1, P.2) ∧ F.add P (-P.1, P.2) = ((0 : Fin n), (1 : Fin n)) := by
  have he := hP.eq
  have ho : On d (-P.1, P.2) := ⟨by show P.2*P.2 - -P.1 * -P.1 = 1 + d * -P.1 * -P.1 * P.2 * P.2; grind⟩
  refine ⟨ho, F.add_eq hP ho ?_ ?_⟩
  · show 0 * (1 + d*P.1* -P.1*P.2*P.2) = P.1*P.2 + -P.1*P.2; grind
  · show 1 * (1 - d*P.1* -P.1*P.2*P.2) = P.2*P.2 + P.1* -P.1; grind
theorem Fld.dif {P Q : Fin n × Fin n} (hP : On d P) (hQ : On d Q) : Q.2*(1 + d*P.1*(F.add P Q).1*P.2*(F.add P Q).2) = P.2*(F.add P Q).2 - P.1*(F.add P Q).1 := by
  obtain ⟨o, e⟩ := F.add_neg hP
  have hS := F.add_on hP hQ
  have e2 : F.add (F.add P Q) (-P.1, P.2) = Q := by
    rw [F.add_comm P Q, F.add_assoc hQ hP o, e, F.add_o]
  have h := (F.add_spec hS o).2
  rw [e2] at h
  dsimp only at h
  generalize F.add P Q = S at *
  clear e2 e hS
  grind
end Go.Ed

namespace Go.Proofs.YthbhpfefdnffaaaGreatDoor
open Go.Px Go.Ed
structure LR (P : Fin p25 × Fin p25) (s : Lad) (m1 m2 : Nat) : Prop where
  r1 : RepU (fF s.a) (fF s.b) (FF.nsm m1 P)
  r2 : RepU (fF s.c) (fF s.d) (FF.nsm m2 P)
  la : s.a < p25
  lb : s.b < p25
  lc : s.c < p25
  ld : s.d < p25
theorem B5i : fF dN * (fF 121665 + 1) = -fF 121665 := by decide +kernel
theorem LR.step {P : Fin p25 × Fin p25} {u : Nat} {s : Lad} {m1 m2 : Nat} (hP : On (fF dN) P) (hU : fF u * (1 - P.2) = 1 + P.2) (h2 : 1 + P.2 ≠ 0) (h : LR P s m1 m2) (hm : m2 = m1 + 1 ∨ m1 = m2 + 1) : LR P (A9K u s) (m1 + m1) (m1 + m2) := by
  have o1 := FF.nsm_on hP m1
  have o2 := FF.nsm_on hP m2
  have hD : P.2*(1 + fF dN*(FF.nsm m1 P).1*(FF.nsm m2 P).1*(FF.nsm m1 P).2*(FF.nsm m2 P).2) = (FF.nsm m1 P).2*(FF.nsm m2 P).2 - (FF.nsm m1 P).1*(FF.nsm m2 P).1 := by
    rcases hm with rfl | rfl
    · exact FF.dif o1 hP
    · have h1 := FF.dif o2 hP
      rw [← FF.nsm_succ] at h1
      generalize FF.nsm m2 P = Q at *
      generalize FF.nsm (m2 + 1) P = R at *
      have e1 : fF dN*R.1*Q.1*R.2*Q.2 = fF dN*Q.1*R.1*Q.2*R.2 := by clear h1 h hU; grind
      have e2 : R.2*Q.2 - R.1*Q.1 = Q.2*R.2 - Q.1*R.1 := by clear h1 h hU; grind
      rw [e1, e2]; exact h1
  refine ⟨?_, ?_, X6 _ _, X6 _ _, X6 _ _, X6 _ _⟩
  · rw [FF.nsm_add hP]
    show RepU (fF (fM (fM (fA s.a s.b) (fA s.a s.b)) (fM (fS s.a s.b) (fS s.a s.b)))) (fF (fM (fS (fM (fA s.a s.b) (fA s.a s.b)) (fM (fS s.a s.b) (fS s.a s.b))) (fA (fM (fA s.a s.b) (fA s.a s.b)) (fM 121665 (fS (fM (fA s.a s.b) (fA s.a s.b)) (fM (fS s.a s.b) (fS s.a s.b))))))) _
    rw [A05, A05 (fS _ _) (fA _ _), A8x, A05 121665, A9I (X6 _ _)]
    exact FF.rep_dbl o1 h.r1 B5i (by rw [A05, A8x]) (by rw [A05, A9I h.lb])
  · rw [FF.nsm_add hP]
    show RepU (fF (fM (fA (fM (fS s.c s.d) (fA s.a s.b)) (fM (fA s.c s.d) (fS s.a s.b))) (fA (fM (fS s.c s.d) (fA s.a s.b)) (fM (fA s.c s.d) (fS s.a s.b))))) (fF (fM u (fM (fS (fM (fS s.c s.d) (fA s.a s.b)) (fM (fA s.c s.d) (fS s.a s.b))) (fS (fM (fS s.c s.d) (fA s.a s.b)) (fM (fA s.c s.d) (fS s.a s.b)))))) _
    rw [A05 (fA _ _), A05 u, A05 (fS _ _) (fS _ _), A8x (fM _ _), A9I (X6 _ _)]
    exact FF.rep_dif o1 o2 h.r1 h.r2 hD hU h2 (p := fF s.a + fF s.b) (q := fF s.a - fF s.b) rfl rfl (by rw [A05, A9I h.ld, A8x]) (by rw [A05, A8x, A9I h.lb])
noncomputable def uOf (P : Fin p25 × Fin p25) : Fin p25 := (1 + P.2) * FF.inv (1 - P.2)
theorem B1N {w : List Nat} {n : Nat} (h : w.length = n) : U5 w n = w := by
  unfold U5; rw [List.take_of_length_le (by omega), h, Nat.sub_self]; simp
theorem B1O (w : List Nat) : (A2d w).length = 32 := A3p _ _
def B3T (i j : Nat) : Tm := ⟨4, srt ((i : Nat) : Int) ((j : Nat) : Int), [], 0⟩
def B2j (s : Ps) (a b k : List Nat) : Prop := ∃ i j m : Nat, i < s.ts.length ∧ j < s.ts.length ∧ a = bts ((i : Nat) : Int) ∧ b = bts ((j : Nat) : Int) ∧ s.ts[m]? = some (B3T i j) ∧ k = bts ((m : Nat) : Int)
def A46 (s : Ps) (a b k : List Nat) : Prop := if s.real then k = x25 (U5 a 32) (A2d (U5 b 32)) ∧ (∀ x ∈ a, x < 256) ∧ ∀ x ∈ b, x < 256 else B2j s a b k
theorem A46.t {s : Ps} (h : s.real = true) {a b k : List Nat} : A46 s a b k ↔ k = x25 (U5 a 32) (A2d (U5 b 32)) ∧ (∀ x ∈ a, x < 256) ∧ ∀ x ∈ b, x < 256 := by unfold A46; rw [if_pos h]
theorem A46.f {s : Ps} (h : s.real = false) {a b k : List Nat} : A46 s a b k ↔ B2j s a b k := by unfold A46; rw [if_neg (by rw [h]; decide)]
theorem B2j.ext {s s' : Ps} {a b k : List Nat} (h : B2j s a b k) (he : Pext s s') : B2j s' a b k := by
  obtain ⟨l, e⟩ := he.ts
  obtain ⟨i, j, m, h1, h2, h3, h4, h5, h6⟩ := h
  exact ⟨i, j, m, by rw [e, List.length_append]; omega, by rw [e, List.length_append]; omega, h3, h4, by rw [e]; exact A7B h5, h6⟩
theorem A46.ext {s s' : Ps} {a b k : List Nat} (h : A46 s a b k) (he : Pext s s') : A46 s' a b k := by
  cases hr : s.real with
  | true => rw [A46.t hr] at h; rw [A46.t (he.real.trans hr)]; exact h
  | false => rw [A46.f hr] at h; rw [A46.f (he.real.trans hr)]; exact h.ext he
theorem B1P {ts : List Tm} {i j p : Nat} (hp : ts[p]? = some (A7D ((j : Nat) : Int))) : agT ts ((i : Nat) : Int) ((p : Nat) : Int) = B3T i j := by
  rw [A7s (t := A7D ((j : Nat) : Int)) (by omega) (by rw [Int.toNat_natCast]; exact hp) ⟨rfl, rfl⟩]
  rfl
theorem B1Q {s : Ps} {i j p : Nat} (hi : i < s.ts.length) (hp : s.ts[p]? = some (A7D ((j : Nat) : Int))) (hl : s.ts.length ≤ 1048576) :
    B1o s (bts ((i : Nat) : Int)) (bts ((p : Nat) : Int)) = { s with ts := add s.ts (B3T i j) } ∧ B2g s (bts ((i : Nat) : Int)) (bts ((p : Nat) : Int)) = bts ((at_ s.ts (B3T i j) : Nat) : Int) := by
  have hpl := (List.getElem?_eq_some_iff.1 hp).1
  obtain ⟨a1, a2⟩ := A4P hi hl
  obtain ⟨b1, b2⟩ := A4P hpl hl
  unfold B1o B2g
  rw [a1, a2, b1, b2, B1P hp]
  exact ⟨rfl, rfl⟩
theorem A3r {s : Ps} (h : s.real = true) (a B : List Nat) : Y3 s a B = s ∧ A0B s a B = x25 (U5 a 32) (U5 B 32) := by unfold Y3 A0B; rw [if_pos h, if_pos h]; exact ⟨rfl, rfl⟩
theorem A3s {s : Ps} (h : s.real = false) (a B : List Nat) : Y3 s a B = B1o s a B ∧ A0B s a B = B2g s a B := by unfold Y3 A0B; rw [if_neg (by rw [h]; decide), if_neg (by rw [h]; decide)]; exact ⟨rfl, rfl⟩
theorem B3U (s : Ps) (a B : List Nat) : Ext s (Y3 s a B) := by
  cases hr : s.real with
  | true => rw [(A3r hr a B).1]; exact Ext.refl s
  | false =>
    rw [(A3s hr a B).1]
    obtain ⟨l1, e1⟩ := A40 s.ts a
    obtain ⟨l2, e2⟩ := A40 (rdT s.ts a) B
    obtain ⟨l3, e3⟩ := A4Z (rdT (rdT s.ts a) B) (agT (rdT (rdT s.ts a) B) ((rdI s.ts a : Nat) : Int) ((rdI (rdT s.ts a) B : Nat) : Int))
    refine ⟨⟨rfl, l1 ++ (l2 ++ l3), ?_⟩, rfl, Nat.le_refl _⟩
    show add _ _ = _
    rw [e3, e2, e1]; simp
theorem A4n (s : Ps) (a B : List Nat) : (Y3 s a B).ts.length ≤ s.ts.length + 3 := by
  cases hr : s.real with
  | true => rw [(A3r hr a B).1]; omega
  | false =>
    rw [(A3s hr a B).1]
    have h1 := Q3 (ts := s.ts) (ws := a)
    have h2 := Q3 (ts := rdT s.ts a) (ws := B)
    have h3 := A3e (ts := rdT (rdT s.ts a) B) (t := agT (rdT (rdT s.ts a) B) ((rdI s.ts a : Nat) : Int) ((rdI (rdT s.ts a) B : Nat) : Int))
    show (add _ _).length ≤ _
    omega
theorem B1R (s : Ps) (a B : List Nat) : (Y3 s a B).n = s.n := by unfold Y3; split <;> rfl
theorem A46.eq {s : Ps} {a b B k : List Nat} (h : A46 s a b k) (hB : A4j s b B) (ht : Tok s.ts) (hl : s.ts.length ≤ 1048576) : Y3 s a B = s ∧ A0B s a B = k := by
  cases hr : s.real with
  | true =>
    rw [A46.t hr] at h
    unfold A4j at hB
    rw [if_pos hr] at hB
    rw [(A3r hr a B).1, (A3r hr a B).2, hB, B1N (B1O _), h.1]
    exact ⟨rfl, rfl⟩
  | false =>
    rw [A46.f hr] at h
    unfold A4j at hB
    rw [if_neg (by rw [hr]; decide)] at hB
    obtain ⟨i, j, m, g1, g2, rfl, rfl, g3, rfl⟩ := h
    obtain ⟨j', p, hj, e, hp, rfl⟩ := hB
    have := A7C (by omega) (by omega) e
    subst this
    obtain ⟨e1, e2⟩ := B1Q g1 hp hl
    obtain ⟨e3, e4⟩ := B3c ht g3
    rw [(A3s hr _ _).1, (A3s hr _ _).2, e1, e2, e3, e4]
    exact ⟨rfl, rfl⟩
theorem B2j.inj {s : Ps} {a b a' b' k : List Nat} (h : B2j s a b k) (h' : B2j s a' b' k) (hl : s.ts.length ≤ 1048576) : (a = a' ∧ b = b') ∨ (a = b' ∧ b = a') := by
  obtain ⟨i, j, m, g1, g2, rfl, rfl, g3, rfl⟩ := h
  obtain ⟨i', j', m', f1, f2, rfl, rfl, f3, e⟩ := h'
  have b1 := (List.getElem?_eq_some_iff.1 g3).1
  have b2 := (List.getElem?_eq_some_iff.1 f3).1
  have := A7C (by omega) (by omega) e
  subst this
  rw [g3] at f3
  have e2 := Option.some.inj f3
  unfold B3T at e2
  injection e2 with _ e3 _ _
  unfold srt at e3
  have e4 : (i = i' ∧ j = j') ∨ (i = j' ∧ j = i') := by split at e3 <;> split at e3 <;> simp at e3 <;> omega
  rcases e4 with ⟨rfl, rfl⟩ | ⟨rfl, rfl⟩
  · exact .inl ⟨rfl, rfl⟩
  · exact .inr ⟨rfl, rfl⟩
def aw0 (r : Bool) : Ps := ⟨r, [115], 0, []⟩
noncomputable def aw2 (r : Bool) : Ps := I3 (I3 (aw0 r))
end Go.Proofs.YthbhpfefdnffaaaGreatDoor
namespace Go.Px
section
variable {C : Cx} {l : Env} {M J : Mem} {K : Env → Mem → Mem → Prop} {ty t : TypeId} {pos : String} {af : Array Edge} {g : Option (Nat × Bool)} {x y : Operand} {v : Value} {xs : List Value} {n j sz : Nat} {B M0 : Mem}
end
def kpt {β : Type} (p : Nat → Bool) (rows : List β) : Nat → List β
  | 0 => []
  | j + 1 => kpt p rows j ++ (if p j then [] else rows[j]?.toList)
structure Dfs (sz : Nat) (p : Nat → Bool) (rows cur : List (List Value)) (j i : Nat) : Prop where
  jn : j ≤ rows.length
  ki : i = (kpt p rows j).length
  ij : i < j
  cl : cur.length = rows.length
  ct : cur.take i = kpt p rows j
  cd : cur.drop j = rows.drop j
  cs : ∀ r ∈ cur, r.length = sz
  cr : ∀ r ∈ cur, r ∈ rows
section
variable {sz : Nat} {p : Nat → Bool} {rows cur : List (List Value)} {j i i0 : Nat} {r : List Value}
theorem Dfs.skip (h : Dfs sz p rows cur j i) (hjl : j < rows.length) (hp : p j = true) : Dfs sz p rows cur (j + 1) i := by
  obtain ⟨h1, h2, h3, h4, h5, h6, h7, h8⟩ := h
  have hk : kpt p rows (j + 1) = kpt p rows j := by rw [kpt, hp]; simp
  exact ⟨hjl, by rw [hk]; exact h2, by omega, h4, by rw [hk]; exact h5, by rw [← List.drop_drop, ← List.drop_drop, h6], h7, h8⟩
end
end Go.Px

namespace Go.Proofs.YthbhpfefdnffaaaGreatDoor
open Go.Px
theorem A3t (s : Ps) : (I3 s).ts.length ≤ s.ts.length + 1 ∧ (I3 s).n = s.n + 1 := by
  unfold I3
  split
  · exact ⟨by simp, rfl⟩
  · refine ⟨?_, rfl⟩
    show (add s.ts _).length ≤ _
    unfold add
    split <;> simp
theorem A8k (s : Ps) (w : List Nat) : (Q9 s w).ts.length ≤ s.ts.length + 2 := by
  unfold Q9
  split
  · omega
  · have h1 := Q3 (ts := s.ts) (ws := w)
    have h2 := A3e (ts := rdT s.ts w) (t := A7D ((rdI s.ts w : Nat) : Int))
    show (add (rdT s.ts w) _).length ≤ _
    omega
theorem B5j (s : Ps) (w : List Nat) : (Q9 s w).n = s.n := by unfold Q9; split <;> rfl
theorem A47 (s : Ps) (w : List Nat) : (L8 s w).length = 32 := by
  unfold L8
  split
  · exact A3p _ _
  · exact A3f _ (by decide)
def A6u : List Nat := [114, 111, 111, 116]
noncomputable def B1S (s : Ps) (root sec pub : List Nat) : Ps := A6y (Y3 s sec pub) root [A0B s sec pub] A6u 2
noncomputable def trnL (s : Ps) (root sec pub : List Nat) : List (List Nat) := B1j (Y3 s sec pub) root [A0B s sec pub] A6u 2
noncomputable def B1T (s : Ps) (root sec pub : List Nat) : List Nat := (trnL s root sec pub).getD 0 []
noncomputable def B4f (s : Ps) (root sec pub : List Nat) : List Nat := (trnL s root sec pub).getD 1 []
theorem A9X (s : Ps) (root sec pub : List Nat) : (B1S s root sec pub).ts.length ≤ s.ts.length + 7 ∧ (B1S s root sec pub).n = s.n := by
  have h1 := A4n s sec pub
  have h2 := A3i (Y3 s sec pub) root [A0B s sec pub] A6u 2
  have h3 := B1R s sec pub
  have h4 := (A12 (Y3 s sec pub) root [A0B s sec pub] A6u 2).2.1
  have e : [A0B s sec pub].length = 1 := rfl
  unfold B1S
  omega
structure Rsd where
  own : List Nat
  their : List Nat
  root : List Nat
  sk : List Nat
  sn : Nat
  tk : List Nat
  tn : Nat
  prev : Nat
  sks : List Skp
def StF (R : Mem) (v : Value) (sks : List Skp) : Prop := ∃ sb u rows, v = .pointer (some ⟨sb, 0, none⟩) ∧ (sb, blk [u] 153) ∈ R ∧ Rd R 3 u sks.length rows.flatten ∧ RwL skR R rows sks
theorem StF.mono {R R' : Mem} {v : Value} {sks : List Skp} (h : StF R v sks) (hR : ∀ x, x ∈ R → x ∈ R') : StF R' v sks := by
  obtain ⟨sb, u, rows, h1, h2, h3, h4⟩ := h
  exact ⟨sb, u, rows, h1, hR _ h2, h3.mono hR, h4.mono skT hR⟩
def rsC (vo vt vr vk vl vs : Value) (r : Rsd) : List Value := [vo, vt, vr, vk, .int .u32 ((r.sn : Nat) : Int), vl, .int .u32 ((r.tn : Nat) : Int), .int .u32 ((r.prev : Nat) : Int), vs]
structure RsR (R : Mem) (r : Rsd) (vo vt vr vk vl vs : Value) : Prop where
  own : By R vo r.own
  their : By R vt r.their
  root : By R vr r.root
  sk : By R vk r.sk
  tk : By R vl r.tk
  st : StF R vs r.sks
  sn : r.sn < 4294967296
  tn : r.tn < 4294967296
  prev : r.prev < 4294967296
  sks : r.sks.length ≤ 1000
theorem RsR.mono {R R' : Mem} {r : Rsd} {vo vt vr vk vl vs : Value} (h : RsR R r vo vt vr vk vl vs) (hR : ∀ x, x ∈ R → x ∈ R') : RsR R' r vo vt vr vk vl vs :=
  ⟨h.own.mono hR, h.their.mono hR, h.root.mono hR, h.sk.mono hR, h.tk.mono hR, h.st.mono hR, h.sn, h.tn, h.prev, h.sks⟩
theorem StF.one {R : Mem} {v : Value} {sks : List Skp} (h : StF R v sks) : v.oneCell' = true := by obtain ⟨sb, u, rows, rfl, _⟩ := h; rfl
theorem StF.new {b : Nat} {R : Mem} (h : (b, blk [.slice none 0 0] 153) ∈ R) : StF R (.pointer (some ⟨b, 0, none⟩)) [] := ⟨b, _, [], rfl, h, Rd.nil, RwL.nil⟩
def RsV (R : Mem) (v : Value) (r : Rsd) : Prop := ∃ vo vt vr vk vl vs, v = .agg (rsC vo vt vr vk vl vs r).toArray ∧ RsR R r vo vt vr vk vl vs
theorem RsV.mono {R R' : Mem} {v : Value} {r : Rsd} (h : RsV R v r) (hR : ∀ x, x ∈ R → x ∈ R') : RsV R' v r := by
  obtain ⟨vo, vt, vr, vk, vl, vs, e, g⟩ := h
  exact ⟨vo, vt, vr, vk, vl, vs, e, g.mono hR⟩
noncomputable def B4g (s : Ps) (sec their : List Nat) : Rsd := ⟨U0 s, their, B1T (I3 s) sec (U0 s) their, B4f (I3 s) sec (U0 s) their, 0, [], 0, 0, []⟩
noncomputable def B5k (s : Ps) (sec their : List Nat) : Ps := B1S (I3 s) sec (U0 s) their
def B4h (sec own : List Nat) : Rsd := ⟨own, [], sec, [], 0, [], 0, 0, []⟩
theorem X7 (v : Value) (w : List Nat) (A : Mem) (h : By A v w) : FnX Tryz.prog 83 [v] [] A fun r M J => M = [] ∧ By J r w := by
 haveI := h.cel
 have hwl := h.len
 refine FnX.enterZ (N := 8) Tryz.func83 rfl rfl rfl fun w_ => ?_
 refine B0 (D2 0) (A1 (as_ (A0 (D2 0) (A3 (A1 (mv_ ?_))))))
 refine A2 (A0W (e := 5) rfl kR (by first | assumption | exact Sl.rd (by assumption) (fun _ h => h) | exact By.rd (by assumption))) rfl ?_
 refine A0 (C9 0 4) ?_
 refine C5 rfl (fun hc => ?_) (fun hc => ?_)
 ·
  have h0 := h.rd.isNil hc
  obtain rfl : w = [] := List.eq_nil_of_length_eq_zero h0
  refine A1 (as_ (A0 (D2 2) (B4 (tr ?_))))
  exact ⟨_, [], [], I9 rfl rfl, Fit.sub (List.nil_sublist _), rfl, By.nil⟩
 ·
  refine A5 (nx (D2 0) (A1 ?_))
  refine A4 rfl (C0 (e := 5) (sz := 1) (z := []) kR e0 bd0 rfl fun b5 => ?_)
  refine mv_ ?_
  refine A4 rfl (F8 (e := 5) (sz := 1) (by_ := 1) rfl rfl kR rfl (Sl.fresh (n := 0) (cs := []) (e := 5) rfl (by decide)) (h.rd.mono SubC.sub) F4 PickC.perm (by unfold maxLen; omega) (by omega) rfl fun v7 B7 hs7 => ?_)
  refine as_ (A0 (D2 2) (B4 ?_))
  exact ⟨_, [], B7, I9 rfl rfl, Fit.pick PickC.perm (Fit.sub (List.nil_sublist _)), rfl, ⟨A0L (hs7.rd fun x hx => by simp [hx]) (by omega) (by simp), h.lt, h.len⟩⟩
theorem A8l (pb : Nat) (s : Ps) (v1 v2 v3 : Value) (root sec pub : List Nat) (MP A : Mem) (hP : Prm pb s MP) (hn : s.ts.length + 100 ≤ 1040000) (h1 : By A v1 root) (h2 : By A v2 sec) (h3 : By A v3 pub) (hG : Glb A) : FnX Tryz.prog 117 [.pointer (some ⟨pb, 0, none⟩), v1, v2, v3] MP A fun q M J => ∃ u0 u1, q = .tuple #[u0, .agg #[u1, .int .u32 ((0 : Nat) : Int)]] ∧ Prm pb (B1S s root sec pub) M ∧ By J u0 (B1T s root sec pub) ∧ By J u1 (B4f s root sec pub) := by
 haveI := h1.cel
 haveI := h2.cel
 haveI := h3.cel
 have hal := A4n s sec pub
 refine FnX.enterZ (N := 30) Tryz.func117 rfl rfl rfl fun w_ => ?_
 refine B0 (D8 0 1 2 3) (A1 (as_ ?_))
 refine A4 rfl (C4 (cs := [.slice none 0 0, .int .u32 0]) kR rfl fun b9 => ?_)
 refine A0 (E4 0 1 2 3 9) (A1 (mv_ (mv_ (mv_ (mv_ (mv_ ?_))))))
 refine A4 rfl (D4 (Mc := MP) (R := _) (aS rfl (aS rfl (aS rfl (a0)))) kR PickC.perm (B1L pb s v2 v3 sec pub MP _ hP (by omega) (h2.mono SubC.sub) (h3.mono SubC.sub) hG.up) rfl ?_)
 rintro v16 M16 J16 ⟨hP16, h16⟩
 haveI := h16.cel
 refine A4 rfl (C0 (e := 27) (sz := 1) (z := [.slice none 0 0]) kR (eS rfl e0) (bdS 0 1 rfl (by rfl) bd0) rfl fun b17 => ?_)
 refine A4 rfl (D4 (Mc := M16) (R := _) (aS rfl (aS rfl (aS rfl (aS rfl (aS rfl (a0)))))) kR PickC.perm (A11 pb (Y3 s sec pub) v1 (.slice (some ⟨b17, 0, none⟩) 1 1) root A6u [A0B s sec pub] 2 M16 _ hP16 (h1.mono SubC.sub) ⟨[v16], Rd.whole (n := 1) At.mem (by rfl), Lst.cons (h16.mono SubC.sub) Lst.nil⟩ (show 1 ≤ 1000 by decide) ⟨by decide⟩ (by decide) (by decide) (by decide) (by omega) hG.up) rfl ?_)
 rintro v18 M18 J18 ⟨hP18, hL18⟩
 have hlen := A5R (Y3 s sec pub) root [A0B s sec pub] A6u 2
 obtain ⟨us, u0, u1, hr, hu0, hu1, hb0, hb1⟩ := A8i hL18 hlen
 haveI := hr.cel
 haveI := hb0.cel
 haveI := hb1.cel
 refine as_ (A0 (C9 9 10) (A3 (A1 (mv_ ?_))))
 refine A2 (H5 (sz := 1) rfl kR hr) rfl ?_
 refine A2 (E1 false rfl rfl (neF rfl)) rfl ?_
 refine A0 (D3 9 10 21) ?_
 refine C6 rfl ?_
 refine A5 (nx (C9 9 10) ?_)
 refine D1 (.range 8) (zp 0 [0, 0, 1, 0, 0, 1, 0, 0, 2]) kR kR fun hs => ?_
 refine fm_ hs ?_
 refine C3 hs rfl (K0 (sz := 1) (a := 0) rfl rfl kR rfl hr (by decide)) rfl ?_
 refine G6 hs rfl (Y9 (u := u0) (hr.mono SubC.sub) rfl kR hu0) rfl ?_
 refine fm_ hs ?_
 refine C3 hs rfl (K0 (sz := 1) (a := 1) rfl rfl kR rfl hr (by decide)) rfl ?_
 refine G6 hs rfl (Y9 (u := u1) (hr.mono SubC.sub) rfl kR hu1) rfl ?_
 refine C3 hs rfl (E7 (place := fun x => #[(0, 1), (1, 1)][x]?) (z := [.slice none 0 0, .int .u32 0]) (fun _ => by kernel_rfl) (eS rfl e0) (bdS 0 1 rfl (by rfl) bd0)) rfl ?_
 refine fa_ hs ?_
 refine E6 rfl rfl rfl (A8 rfl rfl Cel.cel kR (by rfl) (by intro c hc; simp only [List.mem_cons, List.not_mem_nil, or_false] at hc; rcases hc with rfl | rfl; exact hb1.one; rfl) UpC.upd ?_)
 refine F5 (C9 8 9) (B4 ?_)
 exact ⟨_, M18, [], B0y (n := 2) rfl rfl rfl kR At.mem (by rfl), Fit.none (Fit.last PickC.perm), u0, u1, rfl, hP18, hb0.mono (fun x hx => by simp [hx]), hb1.mono (fun x hx => by simp [hx])⟩

end Go.Proofs.YthbhpfefdnffaaaGreatDoor
