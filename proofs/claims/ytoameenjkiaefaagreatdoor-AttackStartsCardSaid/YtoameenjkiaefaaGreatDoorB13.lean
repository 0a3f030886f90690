/- Part 13 of the texts of this claim, one behind the other. -/
import Derived.Test.YtoameenjkiaefaaGreatDoorB12
set_option linter.unusedVariables false
set_option linter.unusedSimpArgs false
set_option maxRecDepth 100000
namespace Go.Proofs.YtoameenjkiaefaaGreatDoor
open Go.Px
structure Knw (kb bt : Nat) (h : List Bool) (M : Mem) : Prop where
  ex : ∃ (v : Value) (B : Mem), M = (kb, blk [(vP bt), v] 112) :: B ∧ Sl 1 v h.length (P5 h) B
structure KnR (kb bt : Nat) (h : List Bool) (A : Mem) : Prop where
  ex : ∃ (v : Value), (kb, blk [(vP bt), v] 112) ∈ A ∧ Rd A 1 v h.length (P5 h)
structure TbR (bt bm : Nat) (ts : List Tm) (A : Mem) : Prop where
  ex : ∃ MT, Tab bt bm ts MT ∧ ∀ x, x ∈ MT → x ∈ A
theorem KnR.mono {kb bt : Nat} {h : List Bool} {A A' : Mem} (hk : KnR kb bt h A) (hs : ∀ x, x ∈ A → x ∈ A') : KnR kb bt h A' := by
  obtain ⟨v, h1, h2⟩ := hk.ex
  exact ⟨v, hs _ h1, h2.mono hs⟩
theorem Knw.rd {kb bt : Nat} {h : List Bool} {M A : Mem} (hk : Knw kb bt h M) (hs : ∀ x, x ∈ M → x ∈ A) : KnR kb bt h A := by
  obtain ⟨v, B, rfl, h2⟩ := hk.ex
  exact ⟨v, hs _ qM, h2.rd fun x hx => hs x (by simp [hx])⟩
theorem TbR.mono {bt bm : Nat} {ts : List Tm} {A A' : Mem} (hk : TbR bt bm ts A) (hs : ∀ x, x ∈ A → x ∈ A') : TbR bt bm ts A' := by
  obtain ⟨v, h1, h2⟩ := hk.ex
  exact ⟨v, h1, fun x hx => hs x (h2 x hx)⟩
theorem Tab.tbr {bt bm : Nat} {ts : List Tm} {MT A : Mem} (hT : Tab bt bm ts MT) (hs : ∀ x, x ∈ MT → x ∈ A) : TbR bt bm ts A := ⟨_, hT, hs⟩
theorem A37 {h : List Bool} {n : Nat} : isK h ((n : Nat) : Int) = h.getD n false := by
  unfold isK kat
  rw [decide_eq_true (Int.natCast_nonneg n), Bool.true_and]; rfl
theorem B4D {h : List Bool} {i : Int} (hi : ¬ 0 ≤ i) : isK h i = false := by
  unfold isK
  rw [decide_eq_false hi]; rfl
theorem B4E {h : List Bool} {n : Nat} (hn : ¬ n < h.length) : isK h ((n : Nat) : Int) = false := by
  rw [A37, List.getD_eq_getElem?_getD, List.getElem?_eq_none qO]; rfl
theorem A08 {ts : List Tm} {h : List Bool} {t : Tm} (hk : mkK t.kind = true) : A1y ts h t = t.of.all (isK h) := if_pos hk
theorem A09 {ts : List Tm} {h : List Bool} {t : Tm} (hk : t.kind = 4) (hn : t.n = 0) (hl : t.of.length = 2) : A1y ts h t = ((isK h (t.of.getD 0 0) && B1t ts h (t.of.getD 1 0)) || (isK h (t.of.getD 1 0) && B1t ts h (t.of.getD 0 0))) := by
  unfold A1y
  rw [if_neg (by rw [hk]; decide), if_pos hk, if_pos ⟨hn, hl⟩]
theorem A6I {ts : List Tm} {h : List Bool} {t : Tm} (hk : t.kind = 4) (hn : ¬ (t.n = 0 ∧ t.of.length = 2)) : A1y ts h t = t.of.all (isK h) := by
  unfold A1y
  rw [if_neg (by rw [hk]; decide), if_pos hk, if_neg hn]
theorem B1u {ts : List Tm} {h : List Bool} {t : Tm} (hk : mkK t.kind = false) (h4 : ¬ t.kind = 4) : A1y ts h t = false := by
  unfold A1y
  rw [if_neg (by rw [hk]; decide), if_neg h4]
theorem B4F {h : List Bool} {l : List Int} : (!(l.any fun x => !isK h x)) = l.all (isK h) := by
  rw [List.all_eq_not_any_not]
theorem Y1 (kb bt : Nat) (h : List Bool) (i : Int) (A : Mem) (hK : KnR kb bt h A) : FnV Tryz.prog 45 [(vP kb), .int .i64 i] A (.bool (isK h i)) := by
 obtain ⟨v, hkb, hrd⟩ := hK.ex
 haveI := hrd.cel
 refine FnX.enter (N := 25) Tryz.func45 rfl rfl rfl fun w => ?_
 refine A8 (D0 0 1) (A1 (as_ (A0 (D0 0 1) (A1 (mv_ ?_)))))
 refine A2 (F3 rfl rfl rfl) rfl ?_
 refine mv_ ?_
 refine H4 (t := 7) rfl (fun hb => ?_) (fun hb => ?_)
 ·
  have h0 : 0 ≤ i := by simpa using hb
  obtain ⟨n, rfl⟩ := Int.eq_ofNat_of_zero_le h0
  refine C0 rfl rfl (OpQ.opL qm_ rfl ?_)
  refine C0 rfl rfl (OpQ.opL qm_ rfl ?_)
  refine C0 rfl rfl (OpQ.opL (D8 rfl) rfl ?_)
  refine C0 rfl rfl (OpQ.opL (qf_ 1 1) rfl ?_)
  refine C0 rfl rfl (OpQ.opL ql_ rfl ?_)
  refine C0 rfl rfl (OpQ.opL (E2 (sz := 1) rfl kR hrd) rfl ?_)
  refine C0 rfl rfl (OpQ.opL (F3 rfl rfl rfl) rfl ?_)
  refine A2 (E3 rfl rfl) rfl ?_
  refine mv_ ?_
  refine H4 (t := 16) rfl (fun hb => ?_) (fun hb => ?_)
  ·
   have hlt : n < h.length := by simpa using hb
   refine C0 rfl rfl (OpQ.opL qm_ rfl ?_)
   refine C0 rfl rfl (OpQ.opL (D8 rfl) rfl ?_)
   refine C0 rfl rfl (OpQ.opL (qf_ 1 1) rfl ?_)
   refine C0 rfl rfl (OpQ.opL ql_ rfl ?_)
   refine C0 rfl rfl (OpQ.opL qm_ rfl ?_)
   refine C0 rfl rfl (OpQ.opL (F2 (sz := 1) rfl rfl kR rfl hrd hlt) rfl ?_)
   refine C0 rfl rfl (OpQ.opL (L0 (j := n) (u := .bool (h.getD n false)) (hrd.mono qS) rfl kR (A2u hlt)) rfl ?_)
   refine A2 (E3 rfl rfl) rfl ?_
   refine as_ (A0 (C7 4) (A7 ?_))
   exact ⟨_, [], [], F7 rfl rfl, List.nil_sublist _, by simp, by rw [A37], rfl, rfl⟩
  ·
   have hlt : ¬ n < h.length := by simpa using hb
   refine D1 rfl rfl rfl rfl ?_
   refine D1 rfl rfl rfl rfl ?_
   refine D1 rfl rfl rfl rfl ?_
   refine D1 rfl rfl rfl rfl ?_
   refine D1 rfl rfl rfl rfl ?_
   refine D1 rfl rfl rfl rfl ?_
   refine D1 rfl rfl rfl rfl ?_
   refine A2 (C8 rfl rfl) rfl ?_
   refine as_ (A0 (C7 4) (A7 ?_))
   exact ⟨_, [], [], F7 rfl rfl, List.nil_sublist _, by simp, by rw [B4E hlt], rfl, rfl⟩
 ·
  have h0 : ¬ 0 ≤ i := by simpa using hb
  refine D1 rfl rfl rfl rfl ?_
  refine D1 rfl rfl rfl rfl ?_
  refine D1 rfl rfl rfl rfl ?_
  refine D1 rfl rfl rfl rfl ?_
  refine D1 rfl rfl rfl rfl ?_
  refine D1 rfl rfl rfl rfl ?_
  refine D1 rfl rfl rfl rfl ?_
  refine A2 (C8 rfl rfl) rfl ?_
  refine mv_ ?_
  refine D1 rfl rfl rfl rfl ?_
  refine D1 rfl rfl rfl rfl ?_
  refine D1 rfl rfl rfl rfl ?_
  refine D1 rfl rfl rfl rfl ?_
  refine D1 rfl rfl rfl rfl ?_
  refine D1 rfl rfl rfl rfl ?_
  refine D1 rfl rfl rfl rfl ?_
  refine A2 (C8 rfl rfl) rfl ?_
  refine as_ (A0 (C7 4) (A7 ?_))
  exact ⟨_, [], [], F7 rfl rfl, List.nil_sublist _, by simp, by rw [B4D h0], rfl, rfl⟩
theorem A7u (kb bt : Nat) (h : List Bool) (i : Int) (A : Mem) (hK : KnR kb bt h A) : FnV Tryz.prog 132 [(vP kb), .int .i64 i] A (.bool (!isK h i)) := by
 skip
 refine FnX.enter (N := 9) Tryz.func132 rfl rfl rfl fun w => ?_
 refine A8 (D0 0 1) (A1 (as_ (A0 (D0 0 1) (A1 (mv_ (mv_ ?_))))))
 refine D7 (aS rfl (aS rfl a0)) kR (Y1 kb bt h i _ (hK.mono qS)) rfl ?_
 refine A2 (L6 rfl) rfl ?_
 refine as_ (A0 (C7 4) (A7 ?_))
 exact ⟨_, [], [], F7 rfl rfl, List.nil_sublist _, by simp, rfl, rfl, rfl⟩
theorem B6I {h : List Bool} {o : Option Nat} {b : Bool} : ((o.isSome && isK h ((o.getD 0 : Nat) : Int)) || b) = ((match o with
  | some j => kat h j
  | none => false) || b) := by
  cases o with
  | none => rfl
  | some j =>
    show ((true && isK h ((j : Nat) : Int)) || b) = _
    rw [A37, Bool.true_and]; rfl
theorem A5Q {ts : List Tm} {h : List Bool} {i : Int} {po : Option Nat} (hpo : pos ts (A4l i) = po) : B1t ts h i = ((po.isSome && isK h ((po.getD 0 : Nat) : Int)) || isK h i) := by
  subst hpo
  rw [B6I]; rfl
theorem A38 (kb bt bm : Nat) (ts : List Tm) (h : List Bool) (i : Int) (A : Mem) (hK : KnR kb bt h A) (hT0 : TbR bt bm ts A) (hi : i64 i) {e4 : TypeId} {f4 : Nat × Nat} (h4 : (4, Obj.cells (I3 .u64 N8).toArray e4 f4) ∈ A) : FnV Tryz.prog 133 [(vP kb), .int .i64 i] A (.bool (B1t ts h i)) := by
 obtain ⟨v, hkb, hrd⟩ := hK.ex
 haveI := hrd.cel
 obtain ⟨MT, hT, hsub⟩ := hT0.ex
 refine FnX.enter (N := 29) Tryz.func133 rfl rfl rfl fun w => ?_
 refine A8 (D0 0 1) (A1 (as_ (A0 (D0 0 1) (A1 (mv_ ?_)))))
 refine A2 (D8 rfl) rfl ?_
 refine A2 (qf_ 0 0) rfl ?_
 refine A2 ql_ rfl ?_
 refine mv_ ?_
 refine A4 rfl (C4 (e := 3) (sz := 1) (z := [.int .i64 0]) kR (eS rfl e0) (bdS 0 1 rfl qR bd0) rfl fun b13 => ?_)
 refine A2 (D6 (place := fun x => #[(0, 1), (1, 1), (2, 1), (3, 1)][x]?) (z := [.int .u8 0, vS, .string ByteArray.empty, .int .i64 0]) (fun _ => by kernel_rfl) (eS rfl (eS rfl e0)) (bdS 0 1 rfl qR (bdS 1 1 rfl qR bd0))) rfl ?_
 refine D7 (aS rfl (aS rfl a0)) kR (A69 bt bm ts _ (A4l i) MT _ hT (fun x hx => mA (hsub x hx)) (Rd.whole (n := 1) At.mem qR) (A8L hi) (mA h4)) rfl ?_
 generalize hpo : pos ts (A4l i) = po
 refine mv_ ?_
 refine A2 (R6 rfl) rfl ?_
 refine A2 (R4 rfl) rfl ?_
 refine as_ (as_ (A0 (F4 0 1 5 6) (A1 (mv_ (mv_ ?_)))))
 refine H4 (t := 19) rfl (fun hb => ?_) (fun hb => ?_)
 ·
  have hA := hb
  refine C0 rfl rfl (OpQ.opL qm_ rfl ?_)
  refine C0 rfl rfl (OpQ.opL qm_ rfl ?_)
  refine K4 rfl rfl (aS rfl (aS rfl a0)) kR (Y1 kb bt h _ _ (hK.mono qS)) rfl ?_
  refine A2 (E3 rfl rfl) rfl ?_
  refine mv_ ?_
  refine H4 (t := 24) rfl (fun hb => ?_) (fun hb => ?_)
  ·
   have hB := hb
   refine D1 rfl rfl rfl rfl ?_
   refine D1 rfl rfl rfl rfl ?_
   refine D1 rfl rfl rfl rfl ?_
   refine A2 (E3 rfl rfl) rfl ?_
   refine as_ (A0 (C7 4) (A7 ?_))
   exact ⟨_, [], [], F7 rfl rfl, List.nil_sublist _, by simp, by rw [A5Q hpo, hA, hB]; rfl, rfl, rfl⟩
  ·
   have hB := hb
   refine C0 rfl rfl (OpQ.opL qm_ rfl ?_)
   refine C0 rfl rfl (OpQ.opL qm_ rfl ?_)
   refine K4 rfl rfl (aS rfl (aS rfl a0)) kR (Y1 kb bt h _ _ (hK.mono qS)) rfl ?_
   refine A2 (C8 rfl rfl) rfl ?_
   refine as_ (A0 (C7 4) (A7 ?_))
   exact ⟨_, [], [], F7 rfl rfl, List.nil_sublist _, by simp, by rw [A5Q hpo, hA, hB]; rfl, rfl, rfl⟩
 ·
  have hA := hb
  refine D1 rfl rfl rfl rfl ?_
  refine D1 rfl rfl rfl rfl ?_
  refine D1 rfl rfl rfl rfl ?_
  refine A2 (C8 rfl rfl) rfl ?_
  refine mv_ ?_
  refine C0 rfl rfl (OpQ.opL qm_ rfl ?_)
  refine C0 rfl rfl (OpQ.opL qm_ rfl ?_)
  refine K4 rfl rfl (aS rfl (aS rfl a0)) kR (Y1 kb bt h _ _ (hK.mono qS)) rfl ?_
  refine A2 (C8 rfl rfl) rfl ?_
  refine as_ (A0 (C7 4) (A7 ?_))
  exact ⟨_, [], [], F7 rfl rfl, List.nil_sublist _, by simp, by rw [A5Q hpo, hA]; rfl, rfl, rfl⟩
theorem A0d {xs : List Int} {i : Nat} (hi : i < xs.length) : (Y3 xs)[i]? = some (.int .i64 (xs.getD i 0)) := by
  unfold Y3
  rw [List.getElem?_map, List.getD_eq_getElem?_getD, List.getElem?_eq_getElem hi]; rfl
theorem B4G (v : Value) (xs : List Int) (f : FuncId) (us : List Value) (q : Int → Bool) (A : Mem) (hv : Rd A 1 v xs.length (Y3 xs)) (hn : xs.length ≤ 1099511627776) (hc_ : H2 Tryz.prog f = true) (hf : ∀ (x : Int), FnV Tryz.prog f (us ++ [.int .i64 x] ++ []) A (.bool (q x))) : FnV Tryz.prog 162 [v, .func (.func f) us.toArray #[]] A (.int .i64 (A2K (fun j => q (xs.getD j 0)) xs.length)) := by
 haveI := hv.cel
 refine FnX.enter (N := 19) Tryz.func162 rfl rfl rfl fun w => ?_
 refine A8 (D0 0 1) (A1 (as_ (A0 (D0 0 1) (A6 (A1 (mv_ ?_))))))
 refine A2 (E2 (sz := 1) rfl kR hv) rfl ?_
 refine mv_ (A0 (F4 0 1 7 8) (C5 ?_))
 refine H0 (α := Nat) (fun i => [(0, v), (1, .func (.func f) us.toArray #[]), (7, (vI xs.length)), (8, .int .i64 (i : Int))]) (fun _ => []) (fun _ => []) (fun i => i ≤ xs.length ∧ ∀ j, j < i → q (xs.getD j 0) = false) (fun i => xs.length - i) 0 ⟨Nat.zero_le _, fun j h => absurd h (Nat.not_lt_zero j)⟩ (F4 0 1 7 8) .rfl qI ?_
 rintro i ⟨hi, hp⟩
 refine A1 ?_
 refine A2 (F3 rfl rfl rfl) rfl ?_
 refine A0 (G6 0 1 7 8 9) (A6 ?_)
 refine C3 rfl ?_ ?_ <;> intro hc
 ·
  have hlt : i < xs.length := by simp at hc; omega
  refine A5 (nx (F4 0 1 7 8) (A6 (C5 (A1 (mv_ (as_ (A0 (G6 0 1 5 7 8) (A1 ?_))))))))
  refine mv_ (mv_ (mv_ ?_))
  refine A2 (F2 (sz := 1) rfl rfl kR rfl hv hlt) rfl ?_
  refine A2 (L0 (j := i) (u := .int .i64 (xs.getD i 0)) (hv.mono qS) rfl kR (A0d hlt)) rfl ?_
  refine A4 rfl (A87 rfl (aS rfl a0) hc_ (hf (xs.getD i 0)) rfl ?_)
  refine A0 (I7 0 1 5 7 8 16) ?_
  refine C3 rfl ?_ ?_ <;> intro hc
  ·
   refine A1 (mv_ (as_ (A0 (C7 4) (A7 (br (tr (rr (br ?_))))))))
   refine tr ?_
   exact ⟨_, [], [], F7 rfl rfl, List.nil_sublist _, by simp, by rw [U9 hlt hp hc], rfl, rfl⟩
  ·
   refine A5 (nb (nx (F4 0 1 7 8) (C6 ?_)))
   refine A2 (G9 (b := 1) rfl rfl rfl rfl qO) rfl ?_
   refine mv_ (E1 ?_)
   exact rn (i + 1) ⟨hlt, fun j hj => by rcases Nat.lt_succ_iff_lt_or_eq.1 hj with h | h; exact hp j h; rw [h]; exact hc⟩ qO (F4 0 1 7 8) .rfl qI
 ·
  have hge : i = xs.length := by simp at hc; omega
  subst hge
  refine G4 (te (re (be rfl (nx kn (A1 (as_ (A0 (C7 4) ?_)))))))
  refine A7 ?_
  exact ⟨_, [], [], F7 rfl rfl, List.nil_sublist _, by simp, by rw [V0 hp], rfl, rfl⟩
theorem A9C {xs : List Int} {q : Int → Bool} : (List.range xs.length).any (fun j => q (xs.getD j 0)) = xs.any q := by
  rw [← A40 q xs, Bool.eq_iff_iff, List.any_eq_true, List.any_eq_true]
  constructor
  · rintro ⟨j, hj, h⟩
    refine ⟨j, hj, ?_⟩
    rw [List.getD_eq_getElem?_getD, List.getElem?_eq_getElem (List.mem_range.1 hj)] at h
    rw [List.getElem?_eq_getElem (List.mem_range.1 hj)]; exact h
  · rintro ⟨j, hj, h⟩
    refine ⟨j, hj, ?_⟩
    rw [List.getElem?_eq_getElem (List.mem_range.1 hj)] at h
    rw [List.getD_eq_getElem?_getD, List.getElem?_eq_getElem (List.mem_range.1 hj)]; exact h
theorem A7v (v : Value) (xs : List Int) (f : FuncId) (us : List Value) (q : Int → Bool) (A : Mem) (hv : Rd A 1 v xs.length (Y3 xs)) (hn : xs.length ≤ 1099511627776) (hc_ : H2 Tryz.prog f = true) (hf : ∀ (x : Int), FnV Tryz.prog f (us ++ [.int .i64 x] ++ []) A (.bool (q x))) : FnV Tryz.prog 131 [v, .func (.func f) us.toArray #[]] A (.bool (xs.any q)) := by
 haveI := hv.cel
 refine FnX.enter (N := 9) Tryz.func131 rfl rfl rfl fun w => ?_
 refine A8 (D0 0 1) (A1 (as_ (A0 (D0 0 1) (A1 (mv_ (mv_ ?_))))))
 refine D7 (aS rfl (aS rfl a0)) kR (B4G v xs f us q _ (hv.mono qS) hn hc_ hf) rfl ?_
 refine A2 (F0 (decide (A2K (fun j => q (xs.getD j 0)) xs.length ≥ 0)) rfl rfl rfl) rfl ?_
 refine as_ (A0 (C7 4) (A7 ?_))
 exact ⟨_, [], [], F7 rfl rfl, List.nil_sublist _, by simp, by rw [A88, A9C], rfl, rfl⟩
theorem B8r {k : Nat} (h2 : ¬ k = 2) (h3 : ¬ k = 3) (h5 : ¬ k = 5) (h6 : ¬ k = 6) (h7 : ¬ k = 7) : mkK k = false := by simp [mkK, h2, h3, h5, h6, h7]
theorem B6J (kb bt bm : Nat) (ts : List Tm) (h : List Bool) (n : Nat) (A : Mem) (hK : KnR kb bt h A) (hT0 : TbR bt bm ts A) (hn : n < ts.length) {e4 : TypeId} {f4 : Nat × Nat} (h4 : (4, Obj.cells (I3 .u64 N8).toArray e4 f4) ∈ A) : FnV Tryz.prog 90 [(vP kb), (vI n)] A (.bool (A0N ts h n)) := by
 obtain ⟨v, hkb, hrd⟩ := hK.ex
 haveI := hrd.cel
 obtain ⟨MT, hT, hsub⟩ := hT0.ex
 refine FnX.enter (N := 74) Tryz.func90 rfl rfl rfl fun w => ?_
 refine A8 (D0 0 1) (A1 (as_ (A0 (D0 0 1) (A1 (mv_ ?_)))))
 refine A2 (D8 rfl) rfl ?_
 refine A2 (qf_ 0 0) rfl ?_
 refine A2 ql_ rfl ?_
 refine mv_ ?_
 refine E0 (aS rfl (aS rfl a0)) kR (X0 bt bm ts ((n : Nat) : Int) MT _ hT (fun x hx => mA (hsub x hx))) rfl ?_
 rintro v14 M14 J14 ⟨rfl, rfl, c14, ok14, rfl, hg1, hg2⟩
 obtain ⟨rfl, t, ht, vo, rfl, hvo⟩ := hg1 ⟨by omega, by omega⟩
 rw [Int.toNat_natCast] at ht
 have hto := hT.tok.tmo t (List.mem_of_getElem? ht)
 haveI := hvo.cel
 have hmF : A0N ts h n = A1y ts h t := by unfold A0N; rw [ht]
 have hofl := hto.ofl
 have hofi : ∀ a, a < t.of.length → i64 (t.of.getD a 0) := fun a ha => hto.of _ (by rw [List.getD_eq_getElem?_getD, List.getElem?_eq_getElem ha]; exact List.getElem_mem _)
 refine mv_ ?_
 refine A2 (R6 rfl) rfl ?_
 refine A2 (R4 rfl) rfl ?_
 refine A4 rfl (D2 (cs := [.int .u8 0, vS, .string ByteArray.empty, .int .i64 0]) kR rfl fun b5 => ?_)
 refine A4 rfl (B8 rfl rfl rfl kR qR (by intro c hc; simp only [List.mem_cons, List.not_mem_nil, or_false] at hc; rcases hc with rfl | rfl | rfl | rfl <;> first | rfl | exact hvo.one) UpC.upd ?_)
 refine as_ (A0 (D0 0 5) (A1 ?_))
 refine A2 (qf_ 1 1) rfl ?_
 refine A2 ql_ rfl ?_
 refine mv_ ?_
 refine A2 (A05 (aS rfl a0) a0) rfl ?_
 refine D7 (aS rfl (aS rfl a0)) kR (A7v vo t.of 132 [(vP kb)] (fun x => !isK h x) _ (hvo.mono qS) qO kR (fun x => A7u kb bt h x _ (hK.mono qS))) rfl ?_
 refine A2 (L6 rfl) rfl ?_
 rw [B4F]
 refine as_ (A0 (E5 0 5 7) (A6 (A1 ?_)))
 refine A2 (qf_ 0 0) rfl ?_
 refine A2 ql_ rfl ?_
 refine A0 (F4 0 5 7 24) (C5 (A6 (A1 ?_)))
 refine A2 (F3 rfl rfl rfl) rfl ?_
 refine as_ (A0 (G6 0 5 7 24 25) ?_)
 refine C3 rfl ?_ ?_ <;> intro hc
 ·
  rw [hc]
  have hk2 : t.kind = 2 := by simp at hc; omega
  refine A5 (nx (G6 0 5 7 24 25) ?_)
  refine E9 rfl ?_
  refine A1 (mv_ (as_ (A0 (C7 4) (A7 (br (tr ?_))))))
  exact ⟨_, [], [], F7 rfl rfl, List.nil_sublist _, by simp, by rw [hmF, A08 (by rw [hk2]; rfl)], rfl, rfl⟩
 ·
  rw [hc]
  have hk2 : ¬ t.kind = 2 := by simp at hc; omega
  refine A1 ?_
  refine A2 (F3 rfl rfl rfl) rfl ?_
  refine as_ (A0 (G6 0 5 7 24 25) ?_)
  refine C3 rfl ?_ ?_ <;> intro hc
  ·
   rw [hc]
   have hk3 : t.kind = 3 := by simp at hc; omega
   refine A5 (nx (G6 0 5 7 24 25) ?_)
   refine E9 rfl ?_
   refine A1 (mv_ (as_ (A0 (C7 4) (A7 (br (tr ?_))))))
   exact ⟨_, [], [], F7 rfl rfl, List.nil_sublist _, by simp, by rw [hmF, A08 (by rw [hk3]; rfl)], rfl, rfl⟩
  ·
   rw [hc]
   have hk3 : ¬ t.kind = 3 := by simp at hc; omega
   refine A1 ?_
   refine A2 (F3 rfl rfl rfl) rfl ?_
   refine as_ (A0 (G6 0 5 7 24 25) ?_)
   refine C3 rfl ?_ ?_ <;> intro hc
   ·
    rw [hc]
    have hk5 : t.kind = 5 := by simp at hc; omega
    refine A5 (nx (G6 0 5 7 24 25) ?_)
    refine E9 rfl ?_
    refine A1 (mv_ (as_ (A0 (C7 4) (A7 (br (tr ?_))))))
    exact ⟨_, [], [], F7 rfl rfl, List.nil_sublist _, by simp, by rw [hmF, A08 (by rw [hk5]; rfl)], rfl, rfl⟩
   ·
    rw [hc]
    have hk5 : ¬ t.kind = 5 := by simp at hc; omega
    refine A1 ?_
    refine A2 (F3 rfl rfl rfl) rfl ?_
    refine as_ (A0 (G6 0 5 7 24 25) ?_)
    refine C3 rfl ?_ ?_ <;> intro hc
    ·
     rw [hc]
     have hk6 : t.kind = 6 := by simp at hc; omega
     refine A5 (nx (G6 0 5 7 24 25) ?_)
     refine E9 rfl ?_
     refine A1 (mv_ (as_ (A0 (C7 4) (A7 (br (tr ?_))))))
     exact ⟨_, [], [], F7 rfl rfl, List.nil_sublist _, by simp, by rw [hmF, A08 (by rw [hk6]; rfl)], rfl, rfl⟩
    ·
     rw [hc]
     have hk6 : ¬ t.kind = 6 := by simp at hc; omega
     refine C6 ?_
     refine A2 (F3 rfl rfl rfl) rfl ?_
     refine as_ (A0 (G6 0 5 7 24 25) ?_)
     refine C3 rfl ?_ ?_ <;> intro hc
     ·
      rw [hc]
      have hk7 : t.kind = 7 := by simp at hc; omega
      refine A1 (mv_ (as_ (A0 (C7 4) (A7 (br (tr ?_))))))
      exact ⟨_, [], [], F7 rfl rfl, List.nil_sublist _, by simp, by rw [hmF, A08 (by rw [hk7]; rfl)], rfl, rfl⟩
     ·
      rw [hc]
      have hk7 : ¬ t.kind = 7 := by simp at hc; omega
      refine A1 ?_
      refine A2 (F3 rfl rfl rfl) rfl ?_
      refine as_ (A0 (F4 0 5 7 32) ?_)
      refine C3 rfl ?_ ?_ <;> intro hc
      ·
       have hk4 : t.kind = 4 := by simp at hc; omega
       refine A6 (A1 ?_)
       refine A2 (qf_ 3 3) rfl ?_
       refine A2 ql_ rfl ?_
       refine A2 (F3 rfl rfl rfl) rfl ?_
       refine mv_ ?_
       refine H4 (t := 37) rfl (fun hb => ?_) (fun hb => ?_)
       ·
        have hn0 : t.n = 0 := by simpa using hb
        refine C0 rfl rfl (OpQ.opL (qf_ 1 1) rfl ?_)
        refine C0 rfl rfl (OpQ.opL ql_ rfl ?_)
        refine C0 rfl rfl (OpQ.opL (E2 (sz := 1) rfl kR hvo) rfl ?_)
        refine C0 rfl rfl (OpQ.opL (F3 rfl rfl rfl) rfl ?_)
        refine A2 (E3 rfl rfl) rfl ?_
        refine A0 (F4 0 5 7 42) ?_
        refine C3 rfl ?_ ?_ <;> intro hc
        ·
         have hl2 : t.of.length = 2 := by simp at hc; omega
         refine A1 (mv_ ?_)
         refine A2 (qf_ 1 1) rfl ?_
         refine A2 ql_ rfl ?_
         refine A2 (F2 (sz := 1) (a := 0) rfl rfl kR rfl hvo qO) rfl ?_
         refine A2 (L0 (j := 0) (u := .int .i64 (t.of.getD 0 0)) (hvo.mono qS) rfl kR (A0d qO)) rfl ?_
         refine D7 (aS rfl (aS rfl a0)) kR (Y1 kb bt h _ _ (hK.mono qS)) rfl ?_
         refine mv_ ?_
         refine H4 (t := 49) rfl (fun hb => ?_) (fun hb => ?_)
         ·
          have hA := hb
          refine C0 rfl rfl (OpQ.opL qm_ rfl ?_)
          refine C0 rfl rfl (OpQ.opL (qf_ 1 1) rfl ?_)
          refine C0 rfl rfl (OpQ.opL ql_ rfl ?_)
          refine C0 rfl rfl (OpQ.opL (F2 (sz := 1) (a := 1) rfl rfl kR rfl hvo qO) rfl ?_)
          refine C0 rfl rfl (OpQ.opL (L0 (j := 1) (u := .int .i64 (t.of.getD 1 0)) (hvo.mono qS) rfl kR (A0d qO)) rfl ?_)
          refine K4 rfl rfl (aS rfl (aS rfl a0)) kR (A38 kb bt bm ts h _ _ (hK.mono qS) (hT0.mono qS) (hofi 1 qO) (mA h4)) rfl ?_
          refine A2 (E3 rfl rfl) rfl ?_
          refine mv_ ?_
          refine H4 (t := 57) rfl (fun hb => ?_) (fun hb => ?_)
          ·
           have hB := hb
           refine D1 rfl rfl rfl rfl ?_
           refine D1 rfl rfl rfl rfl ?_
           refine D1 rfl rfl rfl rfl ?_
           refine D1 rfl rfl rfl rfl ?_
           refine D1 rfl rfl rfl rfl ?_
           refine D1 rfl rfl rfl rfl ?_
           refine D1 rfl rfl rfl rfl ?_
           refine A4o rfl rfl rfl ?_
           refine A4o rfl rfl rfl ?_
           refine A4o rfl rfl rfl ?_
           refine A4o rfl rfl rfl ?_
           refine A4o rfl rfl rfl ?_
           refine A4o rfl rfl rfl ?_
           refine D1 rfl rfl rfl rfl ?_
           refine A2 (E3 rfl rfl) rfl ?_
           refine as_ (A0 (C7 4) (A7 (tr (br (tr ?_)))))
           exact ⟨_, [], [], F7 rfl rfl, List.nil_sublist _, by simp, by rw [hmF, A09 hk4 hn0 hl2, hA, hB]; rfl, rfl, rfl⟩
          ·
           have hB := hb
           refine C0 rfl rfl (OpQ.opL qm_ rfl ?_)
           refine C0 rfl rfl (OpQ.opL (qf_ 1 1) rfl ?_)
           refine C0 rfl rfl (OpQ.opL ql_ rfl ?_)
           refine C0 rfl rfl (OpQ.opL (F2 (sz := 1) (a := 1) rfl rfl kR rfl hvo qO) rfl ?_)
           refine C0 rfl rfl (OpQ.opL (L0 (j := 1) (u := .int .i64 (t.of.getD 1 0)) (hvo.mono qS) rfl kR (A0d qO)) rfl ?_)
           refine K4 rfl rfl (aS rfl (aS rfl a0)) kR (Y1 kb bt h _ _ (hK.mono qS)) rfl ?_
           refine C0 rfl rfl (OpQ.opL qm_ rfl ?_)
           refine H4 (t := 64) rfl (fun hb => ?_) (fun hb => ?_)
           ·
            have hC := hb
            refine C0 rfl rfl (OpQ.opL qm_ rfl ?_)
            refine C0 rfl rfl (OpQ.opL (qf_ 1 1) rfl ?_)
            refine C0 rfl rfl (OpQ.opL ql_ rfl ?_)
            refine C0 rfl rfl (OpQ.opL (F2 (sz := 1) (a := 0) rfl rfl kR rfl hvo qO) rfl ?_)
            refine C0 rfl rfl (OpQ.opL (L0 (j := 0) (u := .int .i64 (t.of.getD 0 0)) (hvo.mono qS) rfl kR (A0d qO)) rfl ?_)
            refine K4 rfl rfl (aS rfl (aS rfl a0)) kR (A38 kb bt bm ts h _ _ (hK.mono qS) (hT0.mono qS) (hofi 0 qO) (mA h4)) rfl ?_
            refine C0 rfl rfl (OpQ.opL (E3 rfl rfl) rfl ?_)
            refine A2 (C8 rfl rfl) rfl ?_
            refine as_ (A0 (C7 4) (A7 (tr (br (tr ?_)))))
            exact ⟨_, [], [], F7 rfl rfl, List.nil_sublist _, by simp, by rw [hmF, A09 hk4 hn0 hl2, hA, hB, hC]; rfl, rfl, rfl⟩
           ·
            have hC := hb
            refine D1 rfl rfl rfl rfl ?_
            refine D1 rfl rfl rfl rfl ?_
            refine D1 rfl rfl rfl rfl ?_
            refine D1 rfl rfl rfl rfl ?_
            refine D1 rfl rfl rfl rfl ?_
            refine D1 rfl rfl rfl rfl ?_
            refine C0 rfl rfl (OpQ.opL (C8 rfl rfl) rfl ?_)
            refine A2 (C8 rfl rfl) rfl ?_
            refine as_ (A0 (C7 4) (A7 (tr (br (tr ?_)))))
            exact ⟨_, [], [], F7 rfl rfl, List.nil_sublist _, by simp, by rw [hmF, A09 hk4 hn0 hl2, hA, hB, hC]; rfl, rfl, rfl⟩
         ·
          have hA := hb
          refine D1 rfl rfl rfl rfl ?_
          refine D1 rfl rfl rfl rfl ?_
          refine D1 rfl rfl rfl rfl ?_
          refine D1 rfl rfl rfl rfl ?_
          refine D1 rfl rfl rfl rfl ?_
          refine D1 rfl rfl rfl rfl ?_
          refine A2 (C8 rfl rfl) rfl ?_
          refine mv_ ?_
          refine C0 rfl rfl (OpQ.opL qm_ rfl ?_)
          refine C0 rfl rfl (OpQ.opL (qf_ 1 1) rfl ?_)
          refine C0 rfl rfl (OpQ.opL ql_ rfl ?_)
          refine C0 rfl rfl (OpQ.opL (F2 (sz := 1) (a := 1) rfl rfl kR rfl hvo qO) rfl ?_)
          refine C0 rfl rfl (OpQ.opL (L0 (j := 1) (u := .int .i64 (t.of.getD 1 0)) (hvo.mono qS) rfl kR (A0d qO)) rfl ?_)
          refine K4 rfl rfl (aS rfl (aS rfl a0)) kR (Y1 kb bt h _ _ (hK.mono qS)) rfl ?_
          refine C0 rfl rfl (OpQ.opL qm_ rfl ?_)
          refine H4 (t := 64) rfl (fun hb => ?_) (fun hb => ?_)
          ·
           have hC := hb
           refine C0 rfl rfl (OpQ.opL qm_ rfl ?_)
           refine C0 rfl rfl (OpQ.opL (qf_ 1 1) rfl ?_)
           refine C0 rfl rfl (OpQ.opL ql_ rfl ?_)
           refine C0 rfl rfl (OpQ.opL (F2 (sz := 1) (a := 0) rfl rfl kR rfl hvo qO) rfl ?_)
           refine C0 rfl rfl (OpQ.opL (L0 (j := 0) (u := .int .i64 (t.of.getD 0 0)) (hvo.mono qS) rfl kR (A0d qO)) rfl ?_)
           refine K4 rfl rfl (aS rfl (aS rfl a0)) kR (A38 kb bt bm ts h _ _ (hK.mono qS) (hT0.mono qS) (hofi 0 qO) (mA h4)) rfl ?_
           refine C0 rfl rfl (OpQ.opL (E3 rfl rfl) rfl ?_)
           refine A2 (C8 rfl rfl) rfl ?_
           refine as_ (A0 (C7 4) (A7 (tr (br (tr ?_)))))
           exact ⟨_, [], [], F7 rfl rfl, List.nil_sublist _, by simp, by rw [hmF, A09 hk4 hn0 hl2, hA, hC]; rfl, rfl, rfl⟩
          ·
           have hC := hb
           refine D1 rfl rfl rfl rfl ?_
           refine D1 rfl rfl rfl rfl ?_
           refine D1 rfl rfl rfl rfl ?_
           refine D1 rfl rfl rfl rfl ?_
           refine D1 rfl rfl rfl rfl ?_
           refine D1 rfl rfl rfl rfl ?_
           refine C0 rfl rfl (OpQ.opL (C8 rfl rfl) rfl ?_)
           refine A2 (C8 rfl rfl) rfl ?_
           refine as_ (A0 (C7 4) (A7 (tr (br (tr ?_)))))
           exact ⟨_, [], [], F7 rfl rfl, List.nil_sublist _, by simp, by rw [hmF, A09 hk4 hn0 hl2, hA, hC]; rfl, rfl, rfl⟩
        ·
         have hl2 : ¬ t.of.length = 2 := by simp at hc; omega
         refine A5 (nx (C7 7) (A1 (mv_ (as_ (A0 (C7 4) (A7 (br (tr ?_))))))))
         exact ⟨_, [], [], F7 rfl rfl, List.nil_sublist _, by simp, by rw [hmF, A6I hk4 (fun h => hl2 h.2)], rfl, rfl⟩
       ·
        have hn0 : ¬ t.n = 0 := by simpa using hb
        refine D1 rfl rfl rfl rfl ?_
        refine D1 rfl rfl rfl rfl ?_
        refine D1 rfl rfl rfl rfl ?_
        refine D1 rfl rfl rfl rfl ?_
        refine A2 (C8 rfl rfl) rfl ?_
        refine A0 (F4 0 5 7 42) ?_
        refine B0 rfl ?_
        refine A5 (nx (C7 7) (A1 (mv_ (as_ (A0 (C7 4) (A7 (br (tr ?_))))))))
        exact ⟨_, [], [], F7 rfl rfl, List.nil_sublist _, by simp, by rw [hmF, A6I hk4 (fun h => hn0 h.1)], rfl, rfl⟩
      ·
       have hk4 : ¬ t.kind = 4 := by simp at hc; omega
       refine A5 (nb (nx kn (A1 (as_ (A0 (C7 4) (A7 ?_))))))
       exact ⟨_, [], [], F7 rfl rfl, List.nil_sublist _, by simp, by rw [hmF, B1u (B8r hk2 hk3 hk5 hk6 hk7) hk4], rfl, rfl⟩

def A3m (h : List Bool) (n : Nat) : List Bool := h ++ List.replicate (n - h.length) false
theorem A1a {h : List Bool} {n : Nat} (hl : h.length ≤ n) : (A3m h n).length = n := by simp [A3m]; omega
theorem A5R (h : List Bool) (n i : Nat) : kat (A3m h n) i = kat h i := by
  unfold kat A3m
  rw [List.getD_eq_getElem?_getD, List.getD_eq_getElem?_getD]
  by_cases hi : i < h.length
  · rw [List.getElem?_append_left hi]
  · rw [List.getElem?_append_right qO, List.getElem?_eq_none (l := h) qO, List.getElem?_replicate]
    split <;> rfl
theorem B6K (h : List Bool) (n : Nat) : Le h (A3m h n) := fun i hi => by rw [A5R]; exact hi
theorem B6L (h : List Bool) (n : Nat) : Le (A3m h n) h := fun i hi => by rw [A5R] at hi; exact hi
theorem B4H (h : List Bool) (n : Nat) : cnt (A3m h n) = cnt h := by
  unfold cnt A3m
  rw [List.countP_append]
  simp [List.countP_replicate]
theorem B4I (h : List Bool) : cnt h ≤ h.length := List.countP_le_length
def B0g (ts : List Tm) (h : List Bool) (n : Nat) : Bool := decide (psN ts h n ≠ h)
theorem B6M (ts : List Tm) (h : List Bool) : B0g ts h 0 = false := by unfold B0g; exact decide_eq_false (fun hh => hh rfl)
theorem B6N {ts : List Tm} {h : List Bool} {n : Nat} (hl : n < h.length) (h1 : kat (psN ts h n) n = false) (h2 : A0N ts (psN ts h n) n = true) : psN ts h (n + 1) = (psN ts h n).set n true ∧ B0g ts h (n + 1) = true := by
  have e : psN ts h (n + 1) = (psN ts h n).set n true := by rw [Y0]; unfold stF; rw [h1, h2]; rfl
  refine ⟨e, decide_eq_true fun hh => ?_⟩
  have h3 : kat h n = false := by
    cases hk : kat h n with
    | false => rfl
    | true => rw [A6H ts h n n hk] at h1; cases h1
  have h4 := A36 (h := psN ts h n) (i := n) (j := n) (by rw [A0c]; exact hl)
  rw [← e, hh, h3] at h4
  simp at h4
theorem B2S {ts : List Tm} {h : List Bool} {n : Nat} (h1 : (!kat (psN ts h n) n && A0N ts (psN ts h n) n) = false) : psN ts h (n + 1) = psN ts h n ∧ B0g ts h (n + 1) = B0g ts h n := by
  have e : psN ts h (n + 1) = psN ts h n := by rw [Y0]; unfold stF; rw [h1]; rfl
  exact ⟨e, by unfold B0g; rw [e]⟩
theorem A9D (bt : Nat) (A : Mem) : FnX Tryz.prog 69 [(vP bt)] [] A fun q M J => ∃ kb, q = (vP kb) ∧ Knw kb bt [] M := by
 skip
 refine FnX.enterZ (N := 6) Tryz.func69 rfl rfl rfl fun w_ => ?_
 refine A8 (C7 0) (A1 (as_ (A0 (C7 0) (A1 (mv_ ?_)))))
 refine A2 (D6 (place := fun x => #[(0, 1), (1, 1)][x]?) (z := [.pointer none, vS]) (fun _ => by kernel_rfl) (eS rfl e0) (bdS 0 1 rfl qR bd0)) rfl ?_
 refine A4 rfl (bx_ fun b5 => ?_)
 refine as_ (A0 (C7 2) (A7 ?_))
 exact ⟨_, [(b5, _)], [], F7 rfl rfl, Fit.none (Fit.last qP), b5, rfl, _, [], rfl, Sl.nil⟩
theorem A48 (kb bt bm : Nat) (ts : List Tm) (h : List Bool) (MK A : Mem) (hK : Knw kb bt h MK) (hT0 : TbR bt bm ts A) (hl : h.length ≤ ts.length) (hn : ts.length ≤ 1048576) : FnX Tryz.prog 76 [(vP kb)] MK A fun q M J => Knw kb bt (A3m h ts.length) M := by
 obtain ⟨v, B, rfl, hsl⟩ := hK.ex
 haveI := hsl.cel
 obtain ⟨MT, hT, hsub⟩ := hT0.ex
 refine FnX.enterZ (N := 21) Tryz.func76 rfl rfl rfl fun w_ => ?_
 refine A8 (C7 0) ?_
 refine S3 [0, 1, 2, 3, 4, 5, 6, 7, 8, 9, 10, 11, 12, 13, 14, 15, 17, 18] [(0, 0), (1, 0), (2, 0), (3, 0), (4, 1), (5, 0), (6, 0), (7, 0), (8, 1), (10, 0), (11, 0), (12, 0), (13, 1), (14, 0), (9, 2), (15, 0), (16, 2), (17, 0), (18, 0), (19, 2)] kR kR fun hs => ?_
 refine fm_ hs ?_
 refine fm_ hs ?_
 refine E8 hs rfl (D8 rfl) rfl ?_
 refine E8 hs rfl (qf_ 1 1) rfl ?_
 refine R5 hs rfl ql_ rfl ?_
 refine fm_ hs ?_
 refine E8 hs rfl (D8 rfl) rfl ?_
 refine E8 hs rfl (qf_ 0 0) rfl ?_
 refine R5 hs rfl ql_ rfl ?_
 refine fm_ hs ?_
 refine E8 hs rfl (D8 rfl) rfl ?_
 refine E8 hs rfl (qf_ 1 1) rfl ?_
 refine R5 hs rfl ql_ rfl ?_
 refine E8 hs rfl (E2 (sz := 1) rfl kR (hsl.rd (R := B) fun _ h => h)) rfl ?_
 refine Q2 rfl (aS rfl a0) kR (A4G bt bm ts MT _ hT (fun x hx => mA (hsub x hx))) rfl ?_
 refine E8 hs rfl (L3 rfl rfl rfl rfl qO qO) rfl ?_
 refine L7 rfl rfl rfl (A7l (e := 4) (by_ := 1) (m := ts.length - h.length) rfl rfl qO kR hsl qP (by unfold maxLen; omega) qO rfl fun v18 B18 hs18 => ?_)
 refine E8 hs rfl (D8 rfl) rfl ?_
 refine E8 hs rfl (qf_ 1 1) rfl ?_
 refine L7 rfl rfl rfl (F8 rfl rfl hs18.one kR SetC.set UpC.upd ?_)
 refine A10 ?_
 exact ⟨_, _, [], A2V rfl, Fit.none (Fit.last qP), v18, B18, rfl, by rw [A1a hl]; exact A73 hs18 qO (by rw [A3m, A85])⟩
theorem A3n (kb bt bm : Nat) (ts : List Tm) (h : List Bool) (MK A : Mem) (hK : Knw kb bt h MK) (hT0 : TbR bt bm ts A) (hl : h.length ≤ ts.length) (hn : ts.length ≤ 1048576) {e4 : TypeId} {f4 : Nat × Nat} (h4 : (4, Obj.cells (I3 .u64 N8).toArray e4 f4) ∈ A) : FnX Tryz.prog 49 [(vP kb)] MK A fun q M J => ∃ h', Clo ts h h' ∧ Knw kb bt h' M := by
  obtain ⟨v, B, rfl, hsl⟩ := hK.ex
  haveI := hsl.cel
  refine FnX.enterZ (N := 44) Tryz.func49 rfl rfl rfl fun w_ => ?_
  refine A8 (C7 0) (A6 (A1 (mv_ ?_)))
  refine A2 (C9 (e := 112) rfl rfl kR) rfl ?_
  refine mv_ ?_
  refine C0 rfl rfl (OpQ.opL qm_ rfl ?_)
  refine C0 rfl rfl (OpQ.opL (D8 rfl) rfl ?_)
  refine C0 rfl rfl (OpQ.opL (qf_ 0 0) rfl ?_)
  refine C0 rfl rfl (OpQ.opL ql_ rfl ?_)
  refine C0 rfl rfl (OpQ.opL (C9 (e := 160) rfl rfl kR) rfl ?_)
  refine A2 (C8 rfl rfl) rfl ?_
  refine A0 (D0 0 12) ?_
  refine B0 rfl ?_
  refine A5 (nx (C7 0) (A1 (as_ (A0 (D0 0 2) (C5 ?_)))))
  refine H0 (α := Bool × List Bool × Mem) (fun x => [(0, (vP kb)), (2, .bool x.1)]) (fun x => x.2.2) (fun _ => []) (fun x => Knw kb bt x.2.1 x.2.2 ∧ x.2.1.length ≤ ts.length ∧ Le h x.2.1 ∧ (∀ h', Le h h' → Cld ts h' → Le x.2.1 h') ∧ (x.1 = false → x.2.1.length = ts.length ∧ Cld ts x.2.1)) (fun x => 2 * (ts.length - cnt x.2.1) + (if x.1 then 1 else 0)) ⟨true, h, _⟩ ⟨hK, hl, Le.refl h, fun _ h1 _ => h1, fun h => by cases h⟩ (D0 0 2) .rfl qI ?_
  rintro ⟨mo, g, MKi⟩ ⟨hKi, hgl, hg1, hg2, hg3⟩
  dsimp only at hKi hgl hg1 hg2 hg3 ⊢
  refine A6 (A1 (mv_ (A0 (D0 0 13) ?_)))
  refine C3 rfl ?_ ?_ <;> intro hc
  ·
    obtain rfl : mo = true := hc
    refine A5 (nx (C7 0) (C5 (A1 (as_ (A0 (D0 0 2) (A1 (mv_ ?_)))))))
    refine A4 rfl (A9 (Mc := MKi) (R := _) (aS rfl a0) kR qP (A48 kb bt bm ts g MKi _ hKi (hT0.mono qS) hgl hn) rfl ?_)
    rintro v15 M15 J15 hK15
    clear hKi
    have hpl := A1a hgl
    have hq1 : Le g (A3m g ts.length) := B6K g _
    have hq2 := B6L g ts.length
    have hcp := B4H g ts.length
    generalize hp : A3m g ts.length = p at *
    obtain ⟨v, B, rfl, hsl⟩ := hK15.ex
    clear hK15
    haveI := hsl.cel
    refine A0 (D0 0 2) (A1 (mv_ ?_))
    refine A2 (D8 rfl) rfl ?_
    refine A2 (qf_ 1 1) rfl ?_
    refine A2 ql_ rfl ?_
    refine A2 (E2 (sz := 1) rfl kR (hsl.rd (R := B) fun _ h => h)) rfl ?_
    refine mv_ (A0 (F4 0 2 20 21) (C5 ?_))
    rw [hpl]
    refine H0 (α := Nat × Value × Mem) (fun x => [(0, (vP kb)), (2, .bool (B0g ts p x.1)), (20, (vI ts.length)), (21, (vI x.1))]) (fun x => (kb, blk [(vP bt), x.2.1] 112) :: x.2.2) (fun _ => []) (fun x => x.1 ≤ ts.length ∧ Sl 1 x.2.1 ts.length (P5 (psN ts p x.1)) x.2.2) (fun x => ts.length - x.1) ⟨0, v, B⟩ ⟨Nat.zero_le _, by rw [← hpl]; exact hsl⟩ (kq 0 (kp 2 (by rw [B6M]; rfl) (D0 20 21))) (Fit.last qP) (fun _ h => by cases h) ?_
    clear hsl
    rintro ⟨i, v, B⟩ ⟨hi, hsl⟩
    dsimp only at hi hsl ⊢
    haveI := hsl.cel
    refine A1 ?_
    refine A2 (F3 rfl rfl rfl) rfl ?_
    refine A0 (G6 0 2 20 21 22) (A6 ?_)
    refine C3 rfl ?_ ?_ <;> intro hc
    ·
      have hlt : i < ts.length := by simp at hc; omega
      refine A5 (nx (F4 0 2 20 21) (A6 (C5 (A1 (mv_ (as_ (A0 (G6 0 2 3 20 21) (A1 ?_))))))))
      refine mv_ ?_
      refine A2 (D8 rfl) rfl ?_
      refine A2 (qf_ 1 1) rfl ?_
      refine A2 ql_ rfl ?_
      refine mv_ ?_
      refine A2 (F2 (sz := 1) rfl rfl kR rfl (hsl.rd (R := B) fun _ h => h) hlt) rfl ?_
      refine A2 (L0 (j := i) (u := .bool ((psN ts p i).getD i false)) (hsl.rd qS) rfl kR (A2u (by rw [A0c]; omega))) rfl ?_
      refine A2 (L6 rfl) rfl ?_
      refine mv_ ?_
      refine H4 (t := 32) rfl (fun hb => ?_) (fun hb => ?_)
      ·
        have hk1 : kat (psN ts p i) i = false := by unfold kat; simpa using hb
        refine C0 rfl rfl (OpQ.opL qm_ rfl ?_)
        refine C0 rfl rfl (OpQ.opL qm_ rfl ?_)
        refine K4 rfl rfl (aS rfl (aS rfl a0)) kR (B6J kb bt bm ts (psN ts p i) i _ (Knw.rd ⟨v, B, rfl, by rw [A0c, hpl]; exact hsl⟩ qS) (hT0.mono qS) hlt (qS _ h4)) rfl ?_
        refine A2 (E3 rfl rfl) rfl ?_
        refine A0 (I7 0 2 3 20 21 36) ?_
        refine C3 rfl ?_ ?_ <;> intro hc
        ·
          obtain ⟨he1, he2⟩ := B6N qO hk1 hc
          refine C6 (mv_ ?_)
          refine A2 (D8 rfl) rfl ?_
          refine A2 (qf_ 1 1) rfl ?_
          refine A2 ql_ rfl ?_
          refine mv_ ?_
          refine A2 (F2 (sz := 1) rfl rfl kR rfl (hsl.rd (R := B) fun _ h => h) hlt) rfl ?_
          refine A4 rfl (B6p hsl rfl rfl rfl kR hlt qP fun B9 hs9 => ?_)
          refine as_ (E1 (nb (nx (F4 0 2 20 21) (C6 ?_))))
          refine A2 (G9 (b := 1) rfl rfl rfl rfl qO) rfl ?_
          refine mv_ (E1 ?_)
          exact rn ⟨i + 1, v, B9⟩ ⟨by dsimp only; omega, by dsimp only; rw [he1, ← A4Z]; exact hs9⟩ (by dsimp only; omega) (kq 0 (kp 2 (by dsimp only; rw [he2]; rfl) (D0 20 21))) (Fit.pick (B := [_]) qP (Fit.last qP)) qI
        ·
          obtain ⟨he1, he2⟩ := B2S (by rw [hk1, hc]; rfl)
          refine A5 (nb (nx (F4 0 2 20 21) (C6 ?_)))
          refine A2 (G9 (b := 1) rfl rfl rfl rfl qO) rfl ?_
          refine mv_ (E1 ?_)
          exact rn ⟨i + 1, v, B⟩ ⟨by dsimp only; omega, by dsimp only; rw [he1]; exact hsl⟩ (by dsimp only; omega) (kq 0 (kp 2 (by dsimp only; rw [he2]; rfl) (D0 20 21))) (Fit.pick (B := [_]) qP (Fit.last qP)) qI
      ·
        have hk1 : kat (psN ts p i) i = true := by unfold kat; simpa using hb
        obtain ⟨he1, he2⟩ := B2S (by rw [hk1]; rfl)
        refine D1 rfl rfl rfl rfl ?_
        refine D1 rfl rfl rfl rfl ?_
        refine D1 rfl rfl rfl rfl ?_
        refine A2 (C8 rfl rfl) rfl ?_
        refine A0 (I7 0 2 3 20 21 36) ?_
        refine B0 rfl ?_
        refine A5 (nb (nx (F4 0 2 20 21) (C6 ?_)))
        refine A2 (G9 (b := 1) rfl rfl rfl rfl qO) rfl ?_
        refine mv_ (E1 ?_)
        exact rn ⟨i + 1, v, B⟩ ⟨by dsimp only; omega, by dsimp only; rw [he1]; exact hsl⟩ (by dsimp only; omega) (kq 0 (kp 2 (by dsimp only; rw [he2]; rfl) (D0 20 21))) (Fit.pick (B := [_]) qP (Fit.last qP)) qI
    ·
      have hge : i = ts.length := by simp at hc; omega
      subst hge
      refine G4 (te (re (be rfl (nb ?_))))
      have hcl := B6H (h := p) (h' := psN ts p ts.length) (by rw [A0c]) (A6H _ _ _)
      have hct := B4I (psN ts p ts.length)
      rw [A0c, hpl] at hct
      have hne : B0g ts p ts.length = true → p ≠ psN ts p ts.length := fun h1 h2 => (of_decide_eq_true h1) h2.symm
      refine rn ⟨B0g ts p ts.length, psN ts p ts.length, (kb, blk [(vP bt), v] 112) :: B⟩ ⟨⟨v, B, rfl, by rw [A0c, hpl]; exact hsl⟩, by dsimp only; rw [A0c]; omega, hg1.trans (hq1.trans (A6H _ _ _)), fun h' a b => A9B (hq2.trans (hg2 h' a b)) b _, fun hf => ?_⟩ ?_ (D0 0 2) (Fit.last qP) (fun _ h => by cases h)
      · have e := Decidable.not_not.1 (of_decide_eq_false hf)
        dsimp only
        rw [e]
        exact ⟨hpl, Cld.of hpl e⟩
      · dsimp only
        cases hch : B0g ts p ts.length with
        | true =>
          have h5 := hne hch
          have : cnt p ≠ cnt (psN ts p ts.length) := fun h6 => h5 (hcl.2 h6)
          simp only [if_true]
          omega
        | false => simp only [if_true, Bool.false_eq_true, if_false]; omega
  ·
    obtain rfl : mo = false := hc
    obtain ⟨hg4, hg5⟩ := hg3 rfl
    refine G4 (te (re (be rfl ?_)))
    exact ⟨_, MKi, [], A2V rfl, Fit.none (Fit.last qP), g, ⟨hg4, hg1, hg5, hg2⟩, hKi⟩

abbrev B5z := List Tm × List Bool
def A49 (st : B5z) (w : LN) : B5z := (rdT st.1 w, (A3m st.2 (rdT st.1 w).length).set (rdI st.1 w) true)
def N4 (ts : List Tm) (h : List Bool) (ls : List (LN)) : B5z := ls.foldl A49 (ts, h)
theorem B1v {st : B5z} {w : LN} (hl : st.2.length ≤ st.1.length) : (A49 st w).2.length = (A49 st w).1.length := by
  show ((A3m st.2 (rdT st.1 w).length).set _ true).length = (rdT st.1 w).length
  have := A4P (ts := st.1) (w := w)
  rw [List.length_set, A1a qO]
theorem T8 (kb bt bm : Nat) (ts : List Tm) (h : List Bool) (vl : Value) (ls : List (LN)) (MK MT A : Mem) (hK : Knw kb bt h MK) (hT : Tab bt bm ts MT) (hw : LsV A vl ls) (hl : h.length ≤ ts.length) (hn : ts.length + ls.length ≤ 1048576) {e4 : TypeId} {f4 : Nat × Nat} (h4 : (4, Obj.cells (I3 .u64 N8).toArray e4 f4) ∈ A) : FnX Tryz.prog 32 [(vP kb), vl] (MK ++ MT) A fun q M J => ∃ h' MK' MT', M = MK' ++ MT' ∧ Clo (N4 ts h ls).1 (N4 ts h ls).2 h' ∧ Knw kb bt h' MK' ∧ Tab bt bm (N4 ts h ls).1 MT' := by
 have hK0 := hK
 obtain ⟨v, B, rfl, hsl⟩ := hK.ex
 clear hK
 haveI := hsl.cel
 obtain ⟨wvs, hwr, hwl⟩ := hw.ex
 haveI := hwr.cel
 refine FnX.enterZ (N := 39) Tryz.func32 rfl rfl rfl fun w_ => ?_
 refine A8 (D0 0 1) (A6 (A1 (mv_ ?_)))
 refine A2 (C9 (e := 112) rfl rfl kR) rfl ?_
 refine mv_ ?_
 refine C0 rfl rfl (OpQ.opL qm_ rfl ?_)
 refine C0 rfl rfl (OpQ.opL (D8 rfl) rfl ?_)
 refine C0 rfl rfl (OpQ.opL (qf_ 0 0) rfl ?_)
 refine C0 rfl rfl (OpQ.opL (G3 rfl kR At.mem qR) rfl ?_)
 refine C0 rfl rfl (OpQ.opL (C9 (e := 160) rfl rfl kR) rfl ?_)
 refine A2 (C8 rfl rfl) rfl ?_
 refine A0 (E5 0 1 15) ?_
 refine B0 rfl ?_
 refine A5 (nx (D0 0 1) (A6 (A1 (mv_ ?_))))
 refine A2 (E2 (sz := 1) rfl kR hwr) rfl ?_
 refine mv_ (A0 (F4 0 16 17 18) (C5 ?_))
 refine H0 (α := Nat × Mem × Mem) (fun x => [(0, (vP kb)), (16, vl), (17, (vI ls.length)), (18, (vI x.1))]) (fun x => x.2.1 ++ x.2.2) (fun _ => []) (fun x => x.1 ≤ ls.length ∧ Knw kb bt (((ls.take x.1).foldl A49 (ts, h)).2) x.2.1 ∧ Tab bt bm (((ls.take x.1).foldl A49 (ts, h)).1) x.2.2 ∧ (((ls.take x.1).foldl A49 (ts, h)).2).length ≤ (((ls.take x.1).foldl A49 (ts, h)).1).length ∧ (((ls.take x.1).foldl A49 (ts, h)).1).length ≤ ts.length + x.1) (fun x => ls.length - x.1) ⟨0, _, MT⟩ ⟨Nat.zero_le _, hK0, hT, hl, Nat.le_refl _⟩ (F4 0 16 17 18) .rfl qI ?_
 clear hK0 hT hsl
 rintro ⟨i, MKi, MTi⟩ ⟨hi, hKi, hTi, hli, hni⟩
 dsimp only at hi hKi hTi hli hni ⊢
 refine A1 ?_
 refine A2 (F3 rfl rfl rfl) rfl ?_
 refine A0 (G6 0 16 17 18 19) (A6 ?_)
 refine C3 rfl ?_ ?_ <;> intro hc
 ·
  have hlt : i < ls.length := by simp at hc; omega
  obtain ⟨p, hvi, hvb⟩ := hwl.at hlt
  haveI := hvb.cel
  have hft := A4O (f := A49) (b := (ts, h)) hlt
  generalize hst : (ls.take i).foldl A49 (ts, h) = st at *
  obtain ⟨us, g⟩ := st
  dsimp only at hKi hTi hli hni
  have hKi0 := hKi
  obtain ⟨v, B, rfl, hsl⟩ := hKi0.ex
  haveI := hsl.cel
  have hub := L8 (ts := us) (ws := ls[i])
  have huc := A4P (ts := us) (w := ls[i])
  refine A5 (nx (F4 0 16 17 18) (A6 (C5 (A1 ?_))))
  refine A2 (F2 (sz := 1) rfl rfl kR rfl hwr hlt) rfl ?_
  refine A2 (L0 (u := p) (hwr.mono qS) rfl kR hvi) rfl ?_
  refine as_ (A0 (G6 0 5 16 17 18) (A1 (mv_ ?_)))
  refine A2 (D8 rfl) rfl ?_
  refine A2 (qf_ 0 0) rfl ?_
  refine A2 (G3 rfl kR At.mem qR) rfl ?_
  refine mv_ ?_
  refine A4 rfl (A9 (Mc := MTi) (R := _) (aS rfl (aS rfl a0)) kR qP (A2h bt bm us p ls[i] MTi _ hTi qO (hvb.rd.mono qS) hvb.lt (by have := hvb.len; omega) (qS _ h4)) rfl ?_)
  rintro v27 M27 J27 ⟨rfl, rfl, hT27⟩
  have hri := A8I hvb.lt (by have := hvb.len; omega) hTi.tok.tmo
  refine as_ (A0 (G6 0 6 16 17 18) (A1 (mv_ ?_)))
  refine A4 rfl (A9 (Mc := (kb, blk [(vP bt), v] 112) :: B) (R := _) (aS rfl a0) kR qP (A48 kb bt bm (rdT us ls[i]) g _ _ hKi (hT27.tbr qS) qO qO) rfl ?_)
  rintro v29 M29 J29 hK29
  obtain ⟨v2, B2, rfl, hsl2⟩ := hK29.ex
  haveI := hsl2.cel
  rw [A1a qO] at hsl2
  refine A0 (G6 0 6 16 17 18) (C6 (mv_ ?_))
  refine A2 (D8 rfl) rfl ?_
  refine A2 (qf_ 1 1) rfl ?_
  refine A2 (G3 rfl kR At.mem qR) rfl ?_
  refine mv_ ?_
  refine A2 (F2 (sz := 1) rfl rfl kR rfl (hsl2.rd (R := B2) fun _ h => h) hri) rfl ?_
  refine A4 rfl (B6p hsl2 rfl rfl rfl kR hri qP fun B9 hs9 => ?_)
  refine E1 (nb (nx (F4 0 16 17 18) (C6 ?_)))
  refine A2 (G9 (b := 1) rfl rfl rfl rfl qO) rfl ?_
  refine mv_ (E1 ?_)
  have hll := B1v (st := (us, g)) (w := ls[i]) hli
  refine rn ⟨i + 1, (kb, blk [(vP bt), v2] 112) :: B9, M27⟩ ⟨by dsimp only; omega, ?_, by dsimp only; rw [hft]; exact hT27, by dsimp only; rw [hft]; omega, by dsimp only; rw [hft]; show (rdT us ls[i]).length ≤ _; omega⟩ (by dsimp only; omega) (F4 0 16 17 18) (Fit.pick (B := (kb, _) :: B9) qP (Fit.last qP)) (fun _ h => by cases h)
  dsimp only
  rw [hft]
  exact ⟨v2, B9, rfl, by rw [hll]; show Sl 1 v2 (rdT us ls[i]).length (P5 ((A3m g (rdT us ls[i]).length).set (rdI us ls[i]) true)) B9; rw [← A4Z]; exact hs9⟩
 ·
  have hge : i = ls.length := by simp at hc; omega
  subst hge
  rw [List.take_length] at hKi hTi hli hni
  refine G4 (te (re (be rfl (nx (C7 0) (C6 (mv_ ?_))))))
  refine A4 rfl (A9 (Mc := MKi) (R := _) (aS rfl a0) kR qP (A3n kb bt bm _ _ MKi _ hKi (hTi.tbr qS) hli qO (qS _ h4)) rfl ?_)
  rintro v38 M38 J38 ⟨h', hcl, hK38⟩
  refine E1 ?_
  exact ⟨_, M38 ++ MTi, [], A2V rfl, Fit.none (Fit.pick qP (Fit.last qP)), h', M38, MTi, rfl, hcl, hK38, hTi⟩
def B4J (ts : List Tm) (h : List Bool) (w : LN) : Bool := !(plc w ts.length).isSome || isK h (((plc w ts.length).getD 0 : Nat) : Int)
theorem A0o (kb bt bm : Nat) (ts : List Tm) (h : List Bool) (p : Value) (ws : LN) (A : Mem) (hK : KnR kb bt h A) (hT0 : TbR bt bm ts A) (hn : ts.length ≤ 1048576) (hp : By A p ws) : FnV Tryz.prog 14 [(vP kb), p] A (.bool (B4J ts h ws)) := by
 obtain ⟨v, hkb, hrd⟩ := hK.ex
 haveI := hrd.cel
 obtain ⟨MT, hT, hsub⟩ := hT0.ex
 haveI := hp.cel
 refine FnX.enter (N := 32) Tryz.func14 rfl rfl rfl fun w => ?_
 refine A8 (D0 0 1) (A1 (as_ (A0 (D0 0 1) (A6 (A1 (mv_ ?_))))))
 refine A2 (C9 (e := 112) rfl rfl kR) rfl ?_
 refine mv_ ?_
 refine C0 rfl rfl (OpQ.opL qm_ rfl ?_)
 refine C0 rfl rfl (OpQ.opL (D8 rfl) rfl ?_)
 refine C0 rfl rfl (OpQ.opL (qf_ 0 0) rfl ?_)
 refine C0 rfl rfl (OpQ.opL ql_ rfl ?_)
 refine C0 rfl rfl (OpQ.opL (C9 (e := 160) rfl rfl kR) rfl ?_)
 refine A2 (C8 rfl rfl) rfl ?_
 refine A0 (E5 0 1 15) ?_
 refine B0 rfl ?_
 refine A5 (nx (D0 0 1) (A1 (mv_ ?_)))
 refine A2 (D8 rfl) rfl ?_
 refine A2 (qf_ 0 0) rfl ?_
 refine A2 ql_ rfl ?_
 refine mv_ ?_
 refine D7 (aS rfl (aS rfl a0)) kR (T6 bt bm ts p ws MT _ hT (fun x hx => mA (hsub x hx)) hn (hp.rd.mono qS) hp.lt (by have := hp.len; unfold maxLen; omega)) rfl ?_
 generalize hpl : plc ws ts.length = pl
 refine mv_ ?_
 refine A2 (R6 rfl) rfl ?_
 refine A2 (R4 rfl) rfl ?_
 refine as_ (as_ (A0 (E5 0 5 6) (A1 (mv_ ?_))))
 refine A2 (L6 rfl) rfl ?_
 refine mv_ ?_
 refine H4 (t := 27) rfl (fun hb => ?_) (fun hb => ?_)
 ·
  have hA := hb
  refine D1 rfl rfl rfl rfl ?_
  refine D1 rfl rfl rfl rfl ?_
  refine D1 rfl rfl rfl rfl ?_
  refine A2 (E3 rfl rfl) rfl ?_
  refine as_ (A0 (C7 4) (A7 ?_))
  exact ⟨_, [], [], F7 rfl rfl, List.nil_sublist _, by simp, by unfold B4J; rw [hpl, hA]; rfl, rfl, rfl⟩
 ·
  have hA := hb
  refine C0 rfl rfl (OpQ.opL qm_ rfl ?_)
  refine C0 rfl rfl (OpQ.opL qm_ rfl ?_)
  refine K4 rfl rfl (aS rfl (aS rfl a0)) kR (Y1 kb bt h _ _ (hK.mono qS)) rfl ?_
  refine A2 (C8 rfl rfl) rfl ?_
  refine as_ (A0 (C7 4) (A7 ?_))
  exact ⟨_, [], [], F7 rfl rfl, List.nil_sublist _, by simp, by unfold B4J; rw [hpl, hA]; rfl, rfl, rfl⟩

def cloF (ts : List Tm) (h : List Bool) : List Bool := rds_ ts (A3m h ts.length) (ts.length + 1)
def lrn (st : B5z) (w : LN) : B5z := (rdT st.1 w, cloF (rdT st.1 w) (A49 st w).2)
def Hs (A : Mem) (kp v : Value) (r : Bool) : Prop := ∀ A', (∀ x, x ∈ A → x ∈ A') → FnV Tryz.prog 14 [kp, v] A' (.bool r)
theorem Hs.mono {A A' : Mem} {kp v : Value} {r : Bool} (h : Hs A kp v r) (hs : ∀ x, x ∈ A → x ∈ A') : Hs A' kp v r := fun B hB => h B fun x hx => hB x (hs x hx)
theorem B4K (v : Value) (vs : List Value) (f : FuncId) (cs : List Value) (p : Nat → Bool) (A : Mem) (hv : Rd A 1 v vs.length vs) (hn : vs.length ≤ 1099511627776) (hc_ : H2 Tryz.prog f = true) (hf : ∀ (j : Nat) (u : Value), vs[j]? = some u → FnV Tryz.prog f (u :: cs) A (.bool (p j)) ∧ Cel u [u]) : FnV Tryz.prog 107 [v, .func (.func f) #[] cs.toArray] A (.int .i64 (A2K p vs.length)) := by
 haveI := hv.cel
 refine FnX.enter (N := 19) Tryz.func107 rfl rfl rfl fun w => ?_
 refine A8 (D0 0 1) (A1 (as_ (A0 (D0 0 1) (A6 (A1 (mv_ ?_))))))
 refine A2 (E2 (sz := 1) rfl kR hv) rfl ?_
 refine mv_ (A0 (F4 0 1 7 8) (C5 ?_))
 refine H0 (α := Nat) (fun i => [(0, v), (1, .func (.func f) #[] cs.toArray), (7, (vI vs.length)), (8, .int .i64 (i : Int))]) (fun _ => []) (fun _ => []) (fun i => i ≤ vs.length ∧ ∀ j, j < i → p j = false) (fun i => vs.length - i) 0 ⟨Nat.zero_le _, fun j h => absurd h (Nat.not_lt_zero j)⟩ (F4 0 1 7 8) .rfl qI ?_
 rintro i ⟨hi, hp⟩
 refine A1 ?_
 refine A2 (F3 rfl rfl rfl) rfl ?_
 refine A0 (G6 0 1 7 8 9) (A6 ?_)
 refine C3 rfl ?_ ?_ <;> intro hc
 ·
  have hlt : i < vs.length := by simp at hc; omega
  obtain ⟨u, hu⟩ : ∃ u, vs[i]? = some u := ⟨_, List.getElem?_eq_getElem hlt⟩
  obtain ⟨hf1, hf2⟩ := hf i u hu
  haveI := hf2
  refine A5 (nx (F4 0 1 7 8) (A6 (C5 (A1 (mv_ (as_ (A0 (G6 0 1 5 7 8) (A1 ?_))))))))
  refine mv_ (mv_ (mv_ ?_))
  refine A2 (F2 (sz := 1) rfl rfl kR rfl hv hlt) rfl ?_
  refine A2 (L0 (j := i) (u := u) (hv.mono qS) rfl kR hu) rfl ?_
  refine A4 rfl (X7 rfl (aS rfl a0) hc_ hf1 rfl ?_)
  refine A0 (I7 0 1 5 7 8 16) ?_
  refine C3 rfl ?_ ?_ <;> intro hc
  ·
   refine A1 (mv_ (as_ (A0 (C7 4) (A7 (br (tr (rr (br ?_))))))))
   refine tr ?_
   exact ⟨_, [], [], F7 rfl rfl, List.nil_sublist _, by simp, by rw [U9 hlt hp hc], rfl, rfl⟩
  ·
   refine A5 (nb (nx (F4 0 1 7 8) (C6 ?_)))
   refine A2 (G9 (b := 1) rfl rfl rfl rfl qO) rfl ?_
   refine mv_ (E1 ?_)
   exact rn (i + 1) ⟨hlt, fun j hj => by rcases Nat.lt_succ_iff_lt_or_eq.1 hj with h | h; exact hp j h; rw [h]; exact hc⟩ qO (F4 0 1 7 8) .rfl qI
 ·
  have hge : i = vs.length := by simp at hc; omega
  subst hge
  refine G4 (te (re (be rfl (nx kn (A1 (as_ (A0 (C7 4) ?_)))))))
  refine A7 ?_
  exact ⟨_, [], [], F7 rfl rfl, List.nil_sublist _, by simp, by rw [V0 hp], rfl, rfl⟩
theorem A1o (v : Value) (vs : List Value) (f : FuncId) (cs : List Value) (p : Nat → Bool) (A : Mem) (hv : Rd A 1 v vs.length vs) (hn : vs.length ≤ 1099511627776) (hc_ : H2 Tryz.prog f = true) (hf : ∀ (j : Nat) (u : Value), vs[j]? = some u → FnV Tryz.prog f (u :: cs) A (.bool (p j)) ∧ Cel u [u]) : FnV Tryz.prog 59 [v, .func (.func f) #[] cs.toArray] A (.bool ((List.range vs.length).any p)) := by
 haveI := hv.cel
 refine FnX.enter (N := 9) Tryz.func59 rfl rfl rfl fun w => ?_
 refine A8 (D0 0 1) (A1 (as_ (A0 (D0 0 1) (A1 (mv_ (mv_ ?_))))))
 refine D7 (aS rfl (aS rfl a0)) kR (B4K v vs f cs p _ (hv.mono qS) hn hc_ hf) rfl ?_
 refine A2 (F0 (decide (A2K p vs.length ≥ 0)) rfl rfl rfl) rfl ?_
 refine as_ (A0 (C7 4) (A7 ?_))
 exact ⟨_, [], [], F7 rfl rfl, List.nil_sublist _, by simp, by rw [A88], rfl, rfl⟩
theorem A5a (b2 : Nat) (q : Option Addr) (u : Value) [hcu : Cel u [u]] (r : Bool) (e : TypeId) (A : Mem) (hb2 : (b2, blk [.pointer q] e) ∈ A) (hf : Hs A (.pointer q) u r) : FnV Tryz.prog 91 [u, (vP b2)] A (.bool (!r)) := by
 refine FnX.enter (N := 8) Tryz.func91 rfl rfl rfl fun w => ?_
 refine A8 (D0 0 1) (A1 (as_ (A0 (D0 0 1) (A1 ?_))))
 refine A2 (G3 rfl kR (mA hb2) qR) rfl ?_
 refine mv_ ?_
 refine D7 (aS rfl (aS rfl a0)) kR (hf _ qS) rfl ?_
 refine A2 (L6 rfl) rfl ?_
 refine as_ (A0 (C7 3) (A7 ?_))
 exact ⟨_, [], [], F7 rfl rfl, List.nil_sublist _, by simp, rfl, rfl, rfl⟩
theorem thr {φ : Value → Bool → Prop} {ψ : Value → Bool → Prop} {a b c : Value} {ra rb rc : Bool} (hφ : ∀ u r, Cel u [u] → ψ u r → φ u (!r)) (ca : Cel a [a]) (cb : Cel b [b]) (cc : Cel c [c]) (h1 : ψ a ra) (h2 : ψ b rb) (h3 : ψ c rc) :
    ∀ (j : Nat) (u : Value), ([a, b, c] : List Value)[j]? = some u → φ u (!([ra, rb, rc] : List Bool).getD j false) := by
  intro j u hj
  match j, hj with
  | 0, hj => cases hj; exact hφ _ _ ca h1
  | 1, hj => cases hj; exact hφ _ _ cb h2
  | 2, hj => cases hj; exact hφ _ _ cc h3
  | j + 3, hj => simp at hj
theorem six {φ : Value → Bool → Prop} {ψ : Value → Bool → Prop} {a b c d e f : Value} {ra rb rc rd re rf : Bool} (hφ : ∀ u r, Cel u [u] → ψ u r → φ u (!r)) (ca : Cel a [a]) (cb : Cel b [b]) (cc : Cel c [c]) (cd : Cel d [d]) (ce : Cel e [e]) (cf : Cel f [f]) (h1 : ψ a ra) (h2 : ψ b rb) (h3 : ψ c rc) (h4 : ψ d rd) (h5 : ψ e re) (h6 : ψ f rf) :
    ∀ (j : Nat) (u : Value), ([a, b, c, d, e, f] : List Value)[j]? = some u → φ u (!([ra, rb, rc, rd, re, rf] : List Bool).getD j false) := by
  intro j u hj
  match j, hj with
  | 0, hj => cases hj; exact hφ _ _ ca h1
  | 1, hj => cases hj; exact hφ _ _ cb h2
  | 2, hj => cases hj; exact hφ _ _ cc h3
  | 3, hj => cases hj; exact hφ _ _ cd h4
  | 4, hj => cases hj; exact hφ _ _ ce h5
  | 5, hj => cases hj; exact hφ _ _ cf h6
  | j + 6, hj => simp at hj
theorem B1w (q : Option Addr) (y0 : Int) (y1 : Int) (y2 : Int) (y3 : Int) (y4 : Value) (y5 : Bool) (y6 : Value) (y7 : Value) (y8 : Value) (y9 : Nat) (y10 : Bool) (y11 : Nat) (y12 : Value) (y13 : Nat) (y14 : Nat) (y15 : Value) [c4 : Cel y4 [y4]] [c6 : Cel y6 [y6]] [c7 : Cel y7 [y7]] [c8 : Cel y8 [y8]] [c12 : Cel y12 [y12]] [c15 : Cel y15 [y15]] (o4 : y4.oneCell' = true) (o6 : y6.oneCell' = true) (o7 : y7.oneCell' = true) (o8 : y8.oneCell' = true) (o12 : y12.oneCell' = true) (o15 : y15.oneCell' = true) (r4 r6 r7 r8 r12 r15 : Bool) (A : Mem) (h4 : Hs A (.pointer q) y4 r4) (h6 : Hs A (.pointer q) y6 r6) (h7 : Hs A (.pointer q) y7 r7) (h8 : Hs A (.pointer q) y8 r8) (h12 : Hs A (.pointer q) y12 r12) (h15 : Hs A (.pointer q) y15 r15) : FnV Tryz.prog 50 [.pointer q, .agg #[.int .i64 y0, .int .i64 y1, .int .i64 y2, .int .i64 y3, y4, .bool y5, y6, y7, y8, (vU y9), .bool y10, (vU y11), y12, (vU y13), (vU y14), y15]] A (.bool (r4 && r12 && r15 && (if y5 then r6 && r7 && r8 else true))) := by
 refine FnX.enter (N := 34) Tryz.func50 rfl rfl rfl fun w => ?_
 refine A8 (D0 0 1) (A1 ?_)
 refine A4 rfl (bx_ fun b2 => ?_)
 refine A4 rfl (bx_ fun b3 => ?_)
 refine as_ (A0 (D0 2 3) (A1 ?_))
 refine A2 (qf_ 4 4) rfl ?_
 refine A2 ql_ rfl ?_
 refine A2 (qf_ 12 12) rfl ?_
 refine A2 (qf_ 12 0) rfl ?_
 refine A2 ql_ rfl ?_
 refine A2 (qf_ 15 15) rfl ?_
 refine A2 ql_ rfl ?_
 refine A4 rfl (C4 (e := 22) (sz := 1) (z := [vS, vS, vS]) kR (eS rfl (eS rfl (eS rfl e0))) (bdS 0 1 rfl qR (bdS 1 1 rfl qR (bdS 2 1 rfl qR bd0))) rfl fun b13 => ?_)
 refine as_ (A0 (E5 2 3 5) (A6 (A1 ?_)))
 refine A2 (qf_ 5 5) rfl ?_
 refine A2 ql_ rfl ?_
 refine A0 (F4 2 3 5 15) ?_
 refine C3 rfl ?_ ?_ <;> intro hc
 ·
  obtain rfl : y5 = true := hc
  refine C6 (mv_ ?_)
  refine A2 (qf_ 6 6) rfl ?_
  refine A2 (qf_ 6 0) rfl ?_
  refine A2 (qf_ 6 0) rfl ?_
  refine A2 ql_ rfl ?_
  refine A2 (qf_ 6 6) rfl ?_
  refine A2 (qf_ 6 0) rfl ?_
  refine A2 (qf_ 7 1) rfl ?_
  refine A2 ql_ rfl ?_
  refine A2 (qf_ 6 6) rfl ?_
  refine A2 (qf_ 8 2) rfl ?_
  refine A2 ql_ rfl ?_
  refine A4 rfl (C4 (e := 22) (sz := 1) (z := [vS, vS, vS]) kR (eS rfl (eS rfl (eS rfl e0))) (bdS 0 1 rfl qR (bdS 1 1 rfl qR (bdS 2 1 rfl qR bd0))) rfl fun b28 => ?_)
  refine A4 rfl (F6 (e := 22) (sz := 1) (by_ := 24) rfl rfl kR rfl (Sl.fresh (n := 3) (sz := 1) (cs := [y4, y12, y15]) (e := 22) qR qD) (Rd.whole (n := 3) At.mem qR) (by intro c hc; simp only [List.mem_cons, List.not_mem_nil, or_false] at hc; rcases hc with rfl | rfl | rfl; exact o6; exact o7; exact o8) qP (by unfold maxLen; omega) qO rfl fun v29 B29 hs29 => ?_)
  replace hs29 : Sl 1 v29 6 [y4, y12, y15, y6, y7, y8] B29 := hs29
  refine as_ (A0 (D0 2 5) (A1 (mv_ ?_)))
  refine A2 (A05 a0 (aS rfl a0)) rfl ?_
  refine D7 (aS rfl (aS rfl a0)) kR (A1o _ [y4, y12, y15, y6, y7, y8] 91 [(vP b2)] (fun j => !([r4, r12, r15, r6, r7, r8] : List Bool).getD j false) _ (hs29.rd qS) (show 6 ≤ 1099511627776 by decide) kR (six (φ := fun u r_ => FnV Tryz.prog 91 [u, (vP b2)] _ (.bool r_) ∧ Cel u [u]) (ψ := fun u r_ => Hs A (.pointer q) u r_) (fun u r hcu hh => ⟨@A5a b2 q u hcu r _ _ At.mem (hh.mono qS), hcu⟩) c4 c12 c15 c6 c7 c8 h4 h12 h15 h6 h7 h8)) rfl ?_
  refine A2 (L6 rfl) rfl ?_
  refine as_ (A0 (C7 4) (A7 ?_))
  exact ⟨_, [], [], F7 rfl rfl, List.nil_sublist _, by simp, by congr 1; cases r4 <;> cases r12 <;> cases r15 <;> cases r6 <;> cases r7 <;> cases r8 <;> rfl, rfl, rfl⟩
 ·
  obtain rfl : y5 = false := hc
  refine A5 (nx (D0 2 5) (A1 (mv_ ?_)))
  refine A2 (A05 a0 (aS rfl a0)) rfl ?_
  refine D7 (aS rfl (aS rfl a0)) kR (A1o _ [y4, y12, y15] 91 [(vP b2)] (fun j => !([r4, r12, r15] : List Bool).getD j false) _ (Rd.whole (n := 3) At.mem qR) (show 3 ≤ 1099511627776 by decide) kR (thr (φ := fun u r_ => FnV Tryz.prog 91 [u, (vP b2)] _ (.bool r_) ∧ Cel u [u]) (ψ := fun u r_ => Hs A (.pointer q) u r_) (fun u r hcu hh => ⟨@A5a b2 q u hcu r _ _ At.mem (hh.mono qS), hcu⟩) c4 c12 c15 h4 h12 h15)) rfl ?_
  refine A2 (L6 rfl) rfl ?_
  refine as_ (A0 (C7 4) (A7 ?_))
  exact ⟨_, [], [], F7 rfl rfl, List.nil_sublist _, by simp, by congr 1; cases r4 <;> cases r12 <;> cases r15 <;> rfl, rfl, rfl⟩

def Sld (ts : List Tm) (bs : Nat → LN) : Prop := ∀ i t, ts[i]? = some t → t.kind = 6 → 0 < t.of.length ∧ (bs i).length ≤ 16777216 ∧ ∃ a, t.text = S7 [a, bs i]
def txF (ts : List Tm) (h : List Bool) (i : Nat) : Bool := kat h i && (match ts[i]? with
  | some t => t.kind == 6 && isK h (t.of.getD 0 0)
  | none => false)
def S5 (ts : List Tm) (h : List Bool) (bs : Nat → LN) (n : Nat) : List (LN) := ((List.range n).filter (txF ts h)).map bs
theorem B1x {ts : List Tm} {h : List Bool} {bs : Nat → LN} {n : Nat} (hk : txF ts h n = true) : S5 ts h bs (n + 1) = S5 ts h bs n ++ [bs n] := by
  unfold S5
  rw [List.range_succ, List.filter_append, List.map_append]
  simp [hk]
theorem A39 {ts : List Tm} {h : List Bool} {bs : Nat → LN} {n : Nat} (hk : txF ts h n = false) : S5 ts h bs (n + 1) = S5 ts h bs n := by
  unfold S5
  rw [List.range_succ, List.filter_append, List.map_append]
  simp [hk]
theorem A3o (ts : List Tm) (h : List Bool) (bs : Nat → LN) (n : Nat) : (S5 ts h bs n).length ≤ n := by
  unfold S5
  rw [List.length_map]
  exact Nat.le_trans (List.length_filter_le _ _) qM
theorem B1y {a b : LN} (h : B256 (S7 [a, b])) : B256 b := ⟨fun x hx => h.lt x (by simp [S7, mark, hx])⟩
theorem A7w (kb bt bm : Nat) (ts : List Tm) (h : List Bool) (bs : Nat → LN) (A : Mem) (hK : KnR kb bt h A) (hT0 : TbR bt bm ts A) (hsd : Sld ts bs) (hl : h.length ≤ ts.length) (hn : ts.length ≤ 1048576) {e4 : TypeId} {f4 : Nat × Nat} (h4 : (4, Obj.cells (I3 .u64 N8).toArray e4 f4) ∈ A) : FnX Tryz.prog 60 [(vP kb)] [] A fun q M J => M = [] ∧ LsV J q (S5 ts h bs h.length) := by
 obtain ⟨v, hkb, hrd⟩ := hK.ex
 haveI := hrd.cel
 obtain ⟨MT, hT, hsub⟩ := hT0.ex
 refine FnX.enterZ (N := 70) Tryz.func60 rfl rfl rfl fun w_ => ?_
 refine A8 (C7 0) (A1 (as_ (A0 (C7 0) (A1 (as_ (A0 (D0 0 3) (A6 ?_)))))))
 refine A1 (mv_ ?_)
 refine A2 (C9 (e := 112) rfl rfl kR) rfl ?_
 refine A0 (E5 0 3 11) ?_
 refine B0 rfl ?_
 refine A5 (nx (D0 0 3) (A6 (A1 (mv_ ?_))))
 refine A2 (D8 rfl) rfl ?_
 refine A2 (qf_ 1 1) rfl ?_
 refine A2 (G3 rfl kR (mA hkb) qR) rfl ?_
 refine A2 (E2 (sz := 1) rfl kR hrd) rfl ?_
 refine mv_ (A0 (G6 0 3 16 17 18) (C5 ?_))
 refine H0 (α := Nat × List Value × Value × Mem × Mem) (fun x => [(0, (vP kb)), (3, x.2.2.1), (16, v), (17, (vI h.length)), (18, (vI x.1))]) (fun x => x.2.2.2.1) (fun x => x.2.2.2.2) (fun x => x.1 ≤ h.length ∧ Sl 1 x.2.2.1 x.2.1.length x.2.1 x.2.2.2.1 ∧ Lst x.2.2.2.2 x.2.1 (S5 ts h bs x.1)) (fun x => h.length - x.1) ⟨0, [], vS, [], []⟩ ⟨Nat.zero_le _, Sl.nil, Lst.nil⟩ (G6 0 3 16 17 18) .rfl qI ?_
 rintro ⟨i, vs, v3, B3, J3⟩ ⟨hi, hs3, hlv⟩
 dsimp only at hi hs3 hlv ⊢
 haveI := hs3.cel
 have hvl := hlv.len
 have hvn := A3o ts h bs i
 refine A1 ?_
 refine A2 (F3 rfl rfl rfl) rfl ?_
 refine A0 (I7 0 3 16 17 18 19) (A6 ?_)
 refine C3 rfl ?_ ?_ <;> intro hc
 ·
  have hlt : i < h.length := by simp at hc; omega
  refine A5 (nx (G6 0 3 16 17 18) (A6 (C5 (A1 (mv_ ?_)))))
  refine A2 (F2 (sz := 1) rfl rfl kR rfl hrd hlt) rfl ?_
  refine A2 (L0 (j := i) (u := .bool (h.getD i false)) (hrd.mono qS) rfl kR (A2u hlt)) rfl ?_
  refine as_ (as_ (A0 (S9 0 3 4 5 16 17 18) (A1 (mv_ ?_))))
  refine A2 (D8 rfl) rfl ?_
  refine A2 (qf_ 0 0) rfl ?_
  refine A2 (G3 rfl kR (mA hkb) qR) rfl ?_
  refine mv_ ?_
  refine E0 (aS rfl (aS rfl a0)) kR (X0 bt bm ts ((i : Nat) : Int) MT _ hT (fun x hx => qS _ (hsub x hx))) rfl ?_
  rintro v29 M29 J29 ⟨rfl, rfl, c29, ok29, rfl, hg1, hg2⟩
  obtain ⟨rfl, t, ht, vo, rfl, hvo⟩ := hg1 ⟨by omega, by omega⟩
  rw [Int.toNat_natCast] at ht
  have hto := hT.tok.tmo t (List.mem_of_getElem? ht)
  haveI := hvo.cel
  have hkF : txF ts h i = (kat h i && (t.kind == 6 && isK h (t.of.getD 0 0))) := by unfold txF; rw [ht]
  refine mv_ ?_
  refine A2 (R6 rfl) rfl ?_
  refine A2 (R4 rfl) rfl ?_
  refine A4 rfl (D2 (cs := [.int .u8 0, vS, .string ByteArray.empty, .int .i64 0]) kR rfl fun b6 => ?_)
  refine A4 rfl (B8 rfl rfl rfl kR qR (by intro c hc; simp only [List.mem_cons, List.not_mem_nil, or_false] at hc; rcases hc with rfl | rfl | rfl | rfl <;> first | rfl | exact hvo.one) UpC.upd ?_)
  refine as_ (A0 (S9 0 3 5 6 16 17 18) (A6 (A1 (mv_ ?_))))
  refine A2 (L6 rfl) rfl ?_
  refine mv_ ?_
  refine H4 (t := 34) rfl (fun hb => ?_) (fun hb => ?_)
  ·
   have hA : kat h i = false := by unfold kat; simpa using hb
   refine D1 rfl rfl rfl rfl ?_
   refine D1 rfl rfl rfl rfl ?_
   refine D1 rfl rfl rfl rfl ?_
   refine A2 (E3 rfl rfl) rfl ?_
   refine mv_ ?_
   refine D1 rfl rfl rfl rfl ?_
   refine D1 rfl rfl rfl rfl ?_
   refine D1 rfl rfl rfl rfl ?_
   refine D1 rfl rfl rfl rfl ?_
   refine D1 rfl rfl rfl rfl ?_
   refine D1 rfl rfl rfl rfl ?_
   refine D1 rfl rfl rfl rfl ?_
   refine A2 (E3 rfl rfl) rfl ?_
   refine A0 (S9 0 3 6 16 17 18 47) ?_
   refine E9 rfl ?_
   refine G4 (te (be rfl (nx (G6 0 3 16 17 18) (C6 ?_))))
   refine A2 (G9 (b := 1) rfl rfl rfl rfl qO) rfl ?_
   refine mv_ (E1 ?_)
   exact rn ⟨i + 1, vs, v3, B3, J3⟩ ⟨by dsimp only; omega, by dsimp only; exact hs3, by dsimp only; rw [A39 (by rw [hkF, hA]; rfl)]; exact hlv⟩ (by dsimp only; omega) (G6 0 3 16 17 18) (Fit.last qP) (fun x hx => qS x hx)
  ·
   have hA : kat h i = true := by unfold kat; simpa using hb
   refine C0 rfl rfl (OpQ.opL (qf_ 0 0) rfl ?_)
   refine C0 rfl rfl (OpQ.opL ql_ rfl ?_)
   refine C0 rfl rfl (OpQ.opL (F3 rfl rfl rfl) rfl ?_)
   refine A2 (C8 rfl rfl) rfl ?_
   refine mv_ ?_
   refine H4 (t := 39) rfl (fun hb => ?_) (fun hb => ?_)
   ·
    have hk6 : ¬ t.kind = 6 := by simp at hb; omega
    refine D1 rfl rfl rfl rfl ?_
    refine D1 rfl rfl rfl rfl ?_
    refine D1 rfl rfl rfl rfl ?_
    refine D1 rfl rfl rfl rfl ?_
    refine D1 rfl rfl rfl rfl ?_
    refine D1 rfl rfl rfl rfl ?_
    refine D1 rfl rfl rfl rfl ?_
    refine A2 (E3 rfl rfl) rfl ?_
    refine A0 (S9 0 3 6 16 17 18 47) ?_
    refine E9 rfl ?_
    refine G4 (te (be rfl (nx (G6 0 3 16 17 18) (C6 ?_))))
    refine A2 (G9 (b := 1) rfl rfl rfl rfl qO) rfl ?_
    refine mv_ (E1 ?_)
    exact rn ⟨i + 1, vs, v3, B3, J3⟩ ⟨by dsimp only; omega, by dsimp only; exact hs3, by dsimp only; rw [A39 (by rw [hkF, hA]; simp [hk6])]; exact hlv⟩ (by dsimp only; omega) (G6 0 3 16 17 18) (Fit.last qP) (fun x hx => qS x hx)
   ·
    have hk6 : t.kind = 6 := by simp at hb; omega
    obtain ⟨ho1, hbl, a, htx⟩ := hsd i t ht hk6
    have htb : B256 (S7 [a, bs i]) := htx ▸ hto.text
    have hb2 := B1y htb
    refine C0 rfl rfl (OpQ.opL qm_ rfl ?_)
    refine C0 rfl rfl (OpQ.opL (qf_ 1 1) rfl ?_)
    refine C0 rfl rfl (OpQ.opL ql_ rfl ?_)
    refine C0 rfl rfl (OpQ.opL (F2 (sz := 1) (a := 0) rfl rfl kR rfl hvo ho1) rfl ?_)
    refine C0 rfl rfl (OpQ.opL (L0 (j := 0) (u := .int .i64 (t.of.getD 0 0)) (hvo.mono qS) rfl kR (A0d ho1)) rfl ?_)
    refine K4 rfl rfl (aS rfl (aS rfl a0)) kR (Y1 kb bt h _ _ (hK.mono qS)) rfl ?_
    refine C0 rfl rfl (OpQ.opL (L6 rfl) rfl ?_)
    refine A2 (C8 rfl rfl) rfl ?_
    refine A0 (S9 0 3 6 16 17 18 47) ?_
    refine C3 rfl ?_ ?_ <;> intro hc
    ·
     have hC : isK h (t.of.getD 0 0) = false := by simpa using hc
     refine G4 (te (be rfl (nx (G6 0 3 16 17 18) (C6 ?_))))
     refine A2 (G9 (b := 1) rfl rfl rfl rfl qO) rfl ?_
     refine mv_ (E1 ?_)
     exact rn ⟨i + 1, vs, v3, B3, J3⟩ ⟨by dsimp only; omega, by dsimp only; exact hs3, by dsimp only; rw [A39 (by rw [hkF, hA, hC]; simp)]; exact hlv⟩ (by dsimp only; omega) (G6 0 3 16 17 18) (Fit.last qP) (fun x hx => qS x hx)
    ·
     have hC : isK h (t.of.getD 0 0) = true := by simpa using hc
     refine A5 (nx (I7 0 3 6 16 17 18) (A1 ?_))
     refine A2 (qf_ 2 2) rfl ?_
     refine A2 ql_ rfl ?_
     rw [htx]
     refine E0 (aS rfl a0) kR (A25 [a, bs i] htb (by have := hto.tl; rw [htx] at this; exact this) _ (qS _ h4)) rfl ?_
     rintro v51 M51 J51 ⟨rfl, vp, rfl, hs51⟩
     haveI := hs51.cel
     refine mv_ ?_
     refine A2 (R6 rfl) rfl ?_
     refine A2 (R4 rfl) rfl ?_
     refine as_ (as_ (A0 (S9 0 3 8 9 16 17 18) (A1 (mv_ ?_))))
     refine A2 (F0 true rfl rfl (eqT rfl)) rfl ?_
     refine mv_ ?_
     refine C0 rfl rfl (OpQ.opL qm_ rfl ?_)
     refine C0 rfl rfl (OpQ.opL (E2 (n := 2) (sz := 1) rfl kR (hs51.rd (R := M51) fun _ h => h)) rfl ?_)
     refine C0 rfl rfl (OpQ.opL (F0 true rfl rfl (eqT rfl)) rfl ?_)
     refine A2 (E3 rfl rfl) rfl ?_
     refine A0 (S9 0 3 8 16 17 18 60) ?_
     refine E9 rfl ?_
     refine C6 (mv_ (mv_ ?_))
     refine A2 (F2 (sz := 1) (a := 1) (n := 2) rfl rfl kR rfl (hs51.rd (R := M51) fun _ h => h) qD) rfl ?_
     refine A2 (L0 (j := 1) (u := .string (txt (bs i))) (hs51.rd qS) rfl kR qR) rfl ?_
     refine A4 rfl (A2a (e := 5) rfl rfl B256.lt kR kR kR rfl fun v65 B65 hs65 => ?_)
     refine A28 (B := B65) qP ?_
     have hb65 : By B65 v65 (bs i) := ⟨hs65, hb2.lt, hbl⟩
     haveI := hb65.cel
     refine A4 rfl (C4 (e := 22) (sz := 1) (z := [vS]) kR (eS rfl e0) (bdS 0 1 rfl qR bd0) rfl fun b66 => ?_)
     refine A4 rfl (F6 (e := 22) (sz := 1) (by_ := 24) rfl rfl kR rfl hs3 (Rd.whole (n := 1) At.mem qR) (by intro c hc; rw [List.mem_singleton.1 hc]; exact hb65.one) qP (by unfold maxLen; omega) qO rfl fun v67 B67 hs67 => ?_)
     refine as_ (E1 (nb (nx (G6 0 3 16 17 18) (C6 ?_))))
     refine A2 (G9 (b := 1) rfl rfl rfl rfl qO) rfl ?_
     refine mv_ (E1 ?_)
     exact rn ⟨i + 1, vs ++ [v65], v67, B67, B65 ++ J3⟩ ⟨by dsimp only; omega, by dsimp only; exact A73 hs67 qM rfl, by dsimp only; rw [B1x (by rw [hkF, hA, hk6, hC]; rfl)]; exact (hlv.mono qS).snoc (hb65.mono qS)⟩ (by dsimp only; omega) (G6 0 3 16 17 18) (Fit.last qP) (fun x hx => qS x hx)
 ·
  have hge : i = h.length := by simp at hc; omega
  subst hge
  refine G4 (te (re (be rfl (nx (C7 3) (A1 (mv_ (as_ (A0 (C7 2) ?_))))))))
  refine A7 ?_
  exact ⟨_, [], B3, F7 rfl rfl, Fit.pick qP qZ, rfl, vs, by rw [← hvl]; exact hs3.rd qS, hlv.mono qS⟩
theorem _root_.Go.Px.Lst.of {R : Mem} {vs : List Value} {ls : List (LN)} (h : Lst R vs ls) {j : Nat} {u : Value} (hj : vs[j]? = some u) : By R u (ls.getD j []) := by
  have hlt := (List.getElem?_eq_some_iff.1 hj).1
  rw [h.len] at hlt
  obtain ⟨v, h1, h2⟩ := h.at hlt
  obtain rfl := Option.some.inj (hj.symm.trans h1)
  rw [List.getD_eq_getElem?_getD, List.getElem?_eq_getElem hlt]
  exact h2
theorem B1z {q : LN → Bool} (l : List (LN)) : (List.range l.length).any (fun j => q (l.getD j [])) = l.any q := by
  rw [← A40 q l, Bool.eq_iff_iff, List.any_eq_true, List.any_eq_true]
  constructor
  · rintro ⟨j, hj, h⟩
    refine ⟨j, hj, ?_⟩
    rw [List.getD_eq_getElem?_getD, List.getElem?_eq_getElem (List.mem_range.1 hj)] at h
    rw [List.getElem?_eq_getElem (List.mem_range.1 hj)]; exact h
  · rintro ⟨j, hj, h⟩
    refine ⟨j, hj, ?_⟩
    rw [List.getElem?_eq_getElem (List.mem_range.1 hj)] at h
    rw [List.getD_eq_getElem?_getD, List.getElem?_eq_getElem (List.mem_range.1 hj)]; exact h
def A5b (p text : LN) : Bool := decide (diE p = 0) && decide (diT p = text)
theorem A7x (p : Value) (wp : LN) (b2 : Nat) (x : Value) (text : LN) (e : TypeId) (A : Mem) (hp : By A p wp) (hb2 : (b2, blk [x] e) ∈ A) (hx : By A x text) : FnV Tryz.prog 61 [p, (vP b2)] A (.bool (A5b wp text)) := by
 haveI := hp.cel
 haveI := hx.cel
 refine FnX.enter (N := 21) Tryz.func61 rfl rfl rfl fun w => ?_
 refine A8 (D0 0 1) (A1 (as_ (A0 (D0 0 1) (A1 (mv_ ?_)))))
 refine E0 (aS rfl a0) kR (A2D p wp _ (hp.mono qS)) rfl ?_
 rintro v8 M8 J8 ⟨rfl, da, dn, vt, wt, rfl, hbt, hd⟩
 haveI := hbt.cel
 have hot := hbt.one
 refine mv_ ?_
 refine A2 (R6 rfl) rfl ?_
 refine A2 (R4 rfl) rfl ?_
 refine A4 rfl (D2 (cs := [.int .i64 0, .int .u32 0, vS]) kR rfl fun b4 => ?_)
 refine A4 rfl (B8 rfl rfl Cel.cel kR qR (A3 rfl (A3 rfl (A3 hot H9))) UpC.upd ?_)
 refine as_ (A0 (E5 1 4 5) ?_)
 rcases hd with ⟨he, -, -, rfl⟩ | ⟨he, -, -, rfl⟩
 ·
  refine A1 (mv_ ?_)
  refine A2 (F0 true rfl rfl (eqT (by rw [he]; rfl))) rfl ?_
  refine mv_ ?_
  refine C0 rfl rfl (OpQ.opL (qf_ 2 2) rfl ?_)
  refine C0 rfl rfl (OpQ.opL (G3 rfl kR At.mem qR) rfl ?_)
  refine C0 rfl rfl (OpQ.opL (Q3 rfl kR (hbt.rd.mono qS)) rfl ?_)
  refine C0 rfl rfl (OpQ.opL (G3 rfl kR (mA hb2) qR) rfl ?_)
  refine C0 rfl rfl (OpQ.opL (Q3 rfl kR (hx.rd.mono qS)) rfl ?_)
  refine C0 rfl rfl (OpQ.opL (B0x rfl rfl rfl rfl hbt.lt hx.lt) rfl ?_)
  refine A2 (E3 rfl rfl) rfl ?_
  refine as_ (A0 (C7 3) (A7 ?_))
  exact ⟨_, [], [], F7 rfl rfl, List.nil_sublist _, by simp, by unfold A5b; rw [decide_eq_true he, Bool.true_and], rfl, rfl⟩
 ·
  refine A1 (mv_ ?_)
  refine A2 (F0 false rfl rfl (eqF qO)) rfl ?_
  refine mv_ ?_
  refine D1 rfl rfl rfl rfl ?_
  refine D1 rfl rfl rfl rfl ?_
  refine D1 rfl rfl rfl rfl ?_
  refine D1 rfl rfl rfl rfl ?_
  refine D1 rfl rfl rfl rfl ?_
  refine D1 rfl rfl rfl rfl ?_
  refine A2 (C8 rfl rfl) rfl ?_
  refine as_ (A0 (C7 3) (A7 ?_))
  exact ⟨_, [], [], F7 rfl rfl, List.nil_sublist _, by simp, by unfold A5b; rw [decide_eq_false he]; rfl, rfl, rfl⟩
theorem A9E (kb bt bm : Nat) (ts : List Tm) (h : List Bool) (bs : Nat → LN) (x : Value) (text : LN) (A : Mem) (hK : KnR kb bt h A) (hT0 : TbR bt bm ts A) (hsd : Sld ts bs) (hl : h.length ≤ ts.length) (hn : ts.length ≤ 1048576) (hx : By A x text) {e4 : TypeId} {f4 : Nat × Nat} (h4 : (4, Obj.cells (I3 .u64 N8).toArray e4 f4) ∈ A) : FnV Tryz.prog 22 [(vP kb), x] A (.bool ((S5 ts h bs h.length).any fun w => A5b w text)) := by
 haveI := hx.cel
 refine FnX.enter (N := 9) Tryz.func22 rfl rfl rfl fun w => ?_
 refine A8 (D0 0 1) (A1 ?_)
 refine A4 rfl (bx_ fun b3 => ?_)
 refine as_ (A0 (D0 0 3) (A1 (mv_ ?_)))
 refine E0 (aS rfl a0) kR (A7w kb bt bm ts h bs _ (hK.mono qS) (hT0.mono qS) hsd hl hn (qS _ h4)) rfl ?_
 rintro v6 M6 J6 ⟨rfl, hl6⟩
 obtain ⟨vs6, hr6, hls6⟩ := hl6.ex
 haveI := hr6.cel
 have hlen6 := hls6.len
 have htn := A3o ts h bs h.length
 rw [← hlen6] at hr6
 refine A2 (A05 a0 (aS rfl a0)) rfl ?_
 refine D7 (aS rfl (aS rfl a0)) kR (A1o _ vs6 61 [(vP b3)] (fun j => A5b ((S5 ts h bs h.length).getD j []) text) _ (hr6.mono qS) qO kR (fun j u hj => ⟨A7x u _ b3 x text _ _ ((Lst.of hls6 hj).mono qS) At.mem (hx.mono qS), (Lst.of hls6 hj).cel⟩)) rfl ?_
 refine as_ (A0 (C7 4) (A7 ?_))
 exact ⟨_, [], [], F7 rfl rfl, List.nil_sublist _, by simp, by rw [hlen6]; exact congrArg Value.bool (B1z (q := fun w => A5b w text) (S5 ts h bs h.length)), rfl, rfl⟩

def lrI (ts : List Tm) (ls : List (LN)) : LN := ls.map fun w => (plc w ts.length).getD 0
def gdB (ts : List Tm) (ls : List (LN)) : Bool := ls.all fun w => (plc w ts.length).isSome
theorem B4L {w : LN} {n i : Nat} (h : plc w n = some i) : i < n := by
  unfold plc at h
  split at h
  · rename_i h1; cases h; exact h1.2.2.2
  · cases h
theorem Y2 : ∀ (ls : List (LN)) (ts : List Tm) (h : List Bool), h.length ≤ ts.length → gdB ts ls = true → (ls.foldl A49 (ts, h)).1 = ts ∧ (ls.foldl A49 (ts, h)).2.length ≤ ts.length ∧ ∀ i, kat (ls.foldl A49 (ts, h)).2 i = true ↔ kat h i = true ∨ i ∈ lrI ts ls
  | [], ts, h, hl, _ => ⟨rfl, hl, fun i => by simp [lrI]⟩
  | w :: ls, ts, h, hl, hg => by
    unfold gdB at hg
    rw [List.all_cons, Bool.and_eq_true] at hg
    obtain ⟨j, hj⟩ := Option.isSome_iff_exists.1 hg.1
    obtain ⟨e1, e2⟩ := Q4 hj
    have hjl := B4L hj
    have e : A49 (ts, h) w = (ts, (A3m h ts.length).set j true) := by unfold A49; dsimp only; rw [e1, e2]
    have hp : (A3m h ts.length).length = ts.length := A1a hl
    obtain ⟨a, b, c⟩ := Y2 ls ts ((A3m h ts.length).set j true) (by rw [List.length_set]; omega) hg.2
    rw [List.foldl_cons, e]
    refine ⟨a, b, fun i => ?_⟩
    rw [c i, A36 qO]
    have e3 : lrI ts (w :: ls) = j :: lrI ts ls := by unfold lrI; rw [List.map_cons, hj]; rfl
    rw [e3, List.mem_cons]
    by_cases hi : i = j
    · subst hi; simp
    · have hk : kat (A3m h ts.length) i = kat h i := A5R h _ _
      simp [hi, Ne.symm hi, hk]
def B6O (ts : List Tm) (H : List Bool) : Bool := (List.range ts.length).all fun i => !A0N ts H i || kat H i
theorem B6P {ts : List Tm} {H : List Bool} (h : B6O ts H = true) : Cld ts H := by
  intro i hi
  by_cases hlt : i < ts.length
  · have := List.all_eq_true.1 h i (List.mem_range.2 hlt)
    rw [hi] at this
    simpa using this
  · unfold A0N at hi
    rw [List.getElem?_eq_none qO] at hi
    cases hi
theorem A6J {ts : List Tm} {h h' H : List Bool} {ls : List (LN)} (hl : h.length ≤ ts.length) (hg : gdB ts ls = true) (hc : Clo (N4 ts h ls).1 (N4 ts h ls).2 h') (hH : Le h H) (hb : (B6O ts H && (lrI ts ls).all (kat H)) = true) : Le h' H := by
  obtain ⟨a, b, c⟩ := Y2 ls ts h hl hg
  rw [Bool.and_eq_true] at hb
  refine hc.lst H (fun i hi => ?_) (by show Cld (ls.foldl A49 (ts, h)).1 H; rw [a]; exact B6P hb.1)
  rcases (c i).1 hi with h1 | h1
  · exact hH i h1
  · exact List.all_eq_true.1 hb.2 i h1
def B6Q (ts : List Tm) : LN → List Bool → Bool
  | [], _ => true
  | i :: r, h => A0N ts h i && B6Q ts r (h.set i true)
theorem B2T {ts : List Tm} {h' : List Bool} (hc : Cld ts h') : ∀ (r : LN) (g : List Bool), Le g h' → B6Q ts r g = true → ∀ i ∈ r, kat h' i = true
  | [], _, _, _, i, hi => by cases hi
  | j :: r, g, hg, hd, i, hi => by
    rw [B6Q, Bool.and_eq_true] at hd
    have hj : kat h' j = true := hc j (A3l hg hd.1)
    have hg2 : Le (g.set j true) h' := fun k hk => by
      by_cases hlt : j < g.length
      · rw [A36 hlt] at hk
        by_cases e : k = j
        · subst e; exact hj
        · exact hg k (by simpa [e, Ne.symm e] using hk)
      · rw [List.set_eq_of_length_le qO] at hk; exact hg k hk
    rcases List.mem_cons.1 hi with rfl | hi
    · exact hj
    · exact B2T hc r _ hg2 hd.2 i hi
theorem A0p {ts : List Tm} {h h' : List Bool} {ls : List (LN)} (hl : h.length ≤ ts.length) (hg : gdB ts ls = true) (hc : Clo (N4 ts h ls).1 (N4 ts h ls).2 h') : Cld ts h' ∧ Le h h' ∧ (∀ i ∈ lrI ts ls, kat h' i = true) ∧ h'.length = ts.length := by
  obtain ⟨a, b, c⟩ := Y2 ls ts h hl hg
  have e : (N4 ts h ls).1 = ts := a
  have h1 := hc.cld
  have h2 := hc.len
  rw [e] at h1 h2
  exact ⟨h1, fun i hi => hc.sup i ((c i).2 (.inl hi)), fun i hi => hc.sup i ((c i).2 (.inr hi)), h2⟩
theorem B6R {ts : List Tm} {h H : List Bool} (hH : Le h H) {i : Nat} (hf : txF ts H i = false) : txF ts h i = false := by
  cases hk : txF ts h i with
  | false => rfl
  | true =>
    unfold txF at hk hf
    rw [Bool.and_eq_true] at hk
    rw [hH i hk.1, Bool.true_and] at hf
    cases ht : ts[i]? with
    | none => rw [ht] at hk; exact absurd hk.2 qM
    | some t =>
      rw [ht] at hk hf
      dsimp only at hk hf
      rw [Bool.and_eq_true] at hk
      rw [hk.2.1, A07 hH hk.2.2] at hf
      exact absurd hf qM
theorem B4M {ts : List Tm} {h H : List Bool} {bs : Nat → LN} {q : LN → Bool} (hH : Le h H) (hn : h.length = ts.length) (hf : ((List.range ts.length).all fun i => !txF ts H i) = true) : (S5 ts h bs h.length).any q = false := by
  have e : S5 ts h bs h.length = [] := by
    unfold S5
    rw [List.filter_eq_nil_iff.2, List.map_nil]
    intro i hi
    have := List.all_eq_true.1 hf i (List.mem_range.2 (by have := List.mem_range.1 hi; omega))
    rw [B6R hH (by simpa using this)]; decide
  rw [e]; rfl
theorem B6S {ts : List Tm} (a b : LN) (h : (ts.all fun t => t.kind != 6 || (decide (0 < t.of.length) && t.text == S7 [a, b])) = true) (hb : b.length ≤ 16777216) : Sld ts fun _ => b := by
  intro i t ht hk
  have := List.all_eq_true.1 h t (List.mem_of_getElem? ht)
  simp only [Bool.or_eq_true, bne_iff_ne, ne_eq, hk, not_true_eq_false, false_or, Bool.and_eq_true, decide_eq_true_eq, beq_iff_eq] at this
  exact ⟨this.1, hb, a, this.2⟩

end Go.Proofs.YtoameenjkiaefaaGreatDoor
