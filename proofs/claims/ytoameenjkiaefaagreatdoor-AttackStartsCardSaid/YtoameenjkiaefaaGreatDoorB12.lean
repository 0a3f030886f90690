/- Part 12 of the texts of this claim, one behind the other. -/
import Derived.Test.YtoameenjkiaefaaGreatDoorB11
set_option linter.unusedVariables false
set_option linter.unusedSimpArgs false
set_option maxRecDepth 100000
namespace Go.Proofs.YtoameenjkiaefaaGreatDoor
open Go.Px
theorem A9w {n k : Nat} {r : LN} (h : n < 256 ^ k) : rnN (beN n k ++ r, false) k = n ∧ rnS (beN n k ++ r, false) k = (r, false) := by
  have hl := G2 n k
  obtain ⟨h1, h2⟩ := B6z (st := (beN n k ++ r, false)) (k := k) rfl (by simp [hl])
  rw [h1, h2]
  refine ⟨?_, ?_⟩
  · show bev ((beN n k ++ r).take k) = n
    rw [List.take_left' hl]; exact B4a h
  · show ((beN n k ++ r).drop k, false) = _
    rw [List.drop_left' hl]
theorem B6C {w r : LN} {most : Nat} (h : w.length ≤ most) (h2 : w.length < 4294967296) : rbN (beN w.length 4 ++ w ++ r, false) most = w ∧ rbS (beN w.length 4 ++ w ++ r, false) most = (r, false) := by
  have e : beN w.length 4 ++ w ++ r = beN w.length 4 ++ (w ++ r) := List.append_assoc _ _ _
  obtain ⟨h3, h4⟩ := A9w (n := w.length) (k := 4) (r := w ++ r) h2
  rw [e]
  obtain ⟨h5, h6⟩ := B6B (st := (beN w.length 4 ++ (w ++ r), false)) (most := most) (by rw [h4]) (by rw [h3]; exact h) (by rw [h3, h4]; simp)
  rw [h5, h6, h3, h4]
  exact ⟨by simp, by simp⟩
theorem B4w {w : LN} {most : Nat} (h : w.length ≤ most) (h2 : w.length < 4294967296) : rbN (beN w.length 4 ++ w, false) most = w ∧ rbS (beN w.length 4 ++ w, false) most = ([], false) := by
  have := B6C (r := []) h h2
  rwa [List.append_nil] at this
def ctN (st : Rst) (most : Nat) : Nat := if rnN st 2 > most then 0 else rnN st 2
def ctS (st : Rst) (most : Nat) : Rst := if rnN st 2 > most then ((rnS st 2).1, true) else rnS st 2
def S6 (to : Int) (n : Nat) (w : LN) : LN := beN (u32N to) 4 ++ beN n 4 ++ (beN w.length 4 ++ w)
theorem A34 (to : Int) (n : Nat) (w : LN) : (S6 to n w).length = 12 + w.length := by simp [S6, G2]; omega
def di1 (p : LN) : Rst := rnS (p, false) 4
def di2 (p : LN) : Rst := rnS (di1 p) 4
def diT (p : LN) : LN := rbN (di2 p) 65536
def di3 (p : LN) : Rst := rbS (di2 p) 65536
def diA (p : LN) : Nat := rnN (p, false) 4
def diN (p : LN) : Nat := rnN (di1 p) 4
def diE (p : LN) : Nat := if !A6E (di3 p) then 4 else if (diT p).length > 256 then 5 else 0
theorem B4x {to n : Nat} {w : LN} (ht : to < 4294967296) (hn : n < 4294967296) (hw : w.length ≤ 256) : diA (S6 (to : Int) n w) = to ∧ diN (S6 (to : Int) n w) = n ∧ diT (S6 (to : Int) n w) = w ∧ diE (S6 (to : Int) n w) = 0 := by
  have e : S6 (to : Int) n w = beN to 4 ++ (beN n 4 ++ (beN w.length 4 ++ w)) := by
    unfold S6
    rw [List.append_assoc, show u32N (to : Int) = to by unfold u32N; omega]
  have h1 := A9w (n := to) (k := 4) (r := beN n 4 ++ (beN w.length 4 ++ w)) ht
  have h2 := A9w (n := n) (k := 4) (r := beN w.length 4 ++ w) hn
  have h3 := B4w (w := w) (most := 65536) qO qO
  rw [e]
  unfold diE diT di3 diN di2 diA di1
  rw [h1.1, h1.2, h2.1, h2.2, h3.1, h3.2]
  refine ⟨rfl, rfl, rfl, ?_⟩
  rw [if_neg qD, if_neg qO]
theorem A2C (to : Int) (n : Nat) (v : Value) (w : LN) (A : Mem) (hn : n < 4294967296) (hv : By A v w) (hw : w.length ≤ 1000000) : FnX Tryz.prog 31 [.agg #[.int .i64 to, (vU n), v]] [] A fun q M J => M = [] ∧ By J q (S6 to n w) := by
 haveI := hv.cel
 refine FnX.enterZ (N := 20) Tryz.func31 rfl rfl rfl fun w_ => ?_
 refine A8 (C7 0) (A1 ?_)
 refine A4 rfl (bx_ fun b1 => ?_)
 refine as_ (A0 (C7 1) (A1 ?_))
 refine A2 (D6 (place := fun x => #[(0, 1)][x]?) (z := [vS]) (fun _ => by kernel_rfl) e0 bd0) rfl ?_
 refine A4 rfl (bx_ fun b5 => ?_)
 refine as_ (A0 (D0 1 3) ?_)
 refine E6 ([(b5, blk [vS] 97)]) (_) true [0, 1, 2, 3, 4, 5, 6, 7, 8, 9, 10, 11, 14] [(0, 0), (1, 0), (2, 1), (3, 0), (4, 0), (6, 0), (7, 1), (8, 0), (10, 0), (11, 1), (5, 2), (9, 2), (12, 2), (13, 2), (14, 0)] kR kR qP fun hs K n0 hKm hKs hKn => ?_
 refine km_ hs ?_
 refine F1 hs rfl (qf_ 0 0) rfl ?_
 refine I1 hs rfl hKs ql_ ?_
 refine F1 hs rfl (X4 (k' := .u32) ((u32N to : Nat) : Int) rfl kR (A2z to)) rfl ?_
 refine F1 hs rfl (H7 (k' := .u64) (u32N to) rfl kR (W5 (by have := A33 to; omega))) rfl ?_
 refine F1 hs rfl (qf_ 1 1) rfl ?_
 refine I1 hs rfl hKs ql_ ?_
 refine F1 hs rfl (H7 (k' := .u64) n rfl kR (W5 qO)) rfl ?_
 refine F1 hs rfl (qf_ 2 2) rfl ?_
 refine I1 hs rfl hKs ql_ ?_
 refine F9 _ _ rfl rfl (List.Perm.refl _) hKm fun w0 => (A9 (Mc := [(b5, blk [vS] 97)]) (R := _) (aS rfl (aS rfl (aS rfl a0))) kR qP (K1 b5 (u32N to) 4 [] _ _ Wtr.new (by have := A33 to; omega) qD qD) rfl ?_)
 rintro v11 M11 J11 ⟨rfl, hW11⟩ hKx
 refine F9 (M11 ++ []) _ rfl rfl qP (hKx (hKn rfl)) fun w0 => (A9 (Mc := M11) (R := _) (aS rfl (aS rfl (aS rfl a0))) kR qP (K1 b5 n 4 _ _ _ hW11 qO qD (by simp [G2])) rfl ?_)
 rintro v15 M15 J15 ⟨rfl, hW15⟩ hKy
 refine K2 rfl rfl rfl (A9 (Mc := M15) (R := _) (aS rfl (aS rfl a0)) kR qP (I0 b5 v w _ _ _ hW15 (hv.mono qS) (by simp [G2])) rfl ?_)
 rintro v18 M18 J18 ⟨rfl, hW18⟩
 refine K2 rfl rfl rfl (A9 (Mc := M18) (R := _) (aS rfl a0) kR qP (P8 b5 _ _ _ hW18 (by simp [G2]; omega)) rfl ?_)
 rintro v19 M19 J19 ⟨hW19, hb19⟩
 refine F1 hs rfl (F5 rfl) rfl ?_
 refine G7 (C7 2) (A7 ?_)
 exact ⟨_, [], [], F7 rfl rfl, qZ, rfl, by have := hb19.mono (R' := J19) qI; simpa [S6, List.append_assoc] using hb19.mono qS⟩
abbrev inn (to : Int) (n : Nat) (v : Value) : Value := .agg #[.int .i64 to, (vU n), v]
theorem B6D {p : LN} (h : A6E (di3 p) = false) : diE p = 4 := by unfold diE; rw [h]; rfl
theorem B6E {p : LN} (h : A6E (di3 p) = true) (hl : (diT p).length > 256) : diE p = 5 := by unfold diE; rw [h, if_neg qD, if_pos hl]
theorem B6F {p : LN} (h : A6E (di3 p) = true) (hl : (diT p).length ≤ 256) : diE p = 0 := by unfold diE; rw [h, if_neg qD, if_neg qO]
def DiR (R : Mem) (q : Value) (p : LN) : Prop := ∃ (a n : Nat) (vt : Value) (wt : LN), q = .tuple #[inn a n vt, .int .i64 ((diE p : Nat) : Int)] ∧ By R vt wt ∧ ((diE p = 0 ∧ a = diA p ∧ n = diN p ∧ wt = diT p) ∨ (diE p ≠ 0 ∧ a = 0 ∧ n = 0 ∧ wt = []))
theorem DiR.mono {R R' : Mem} {q : Value} {p : LN} (h : DiR R q p) (hs : ∀ x, x ∈ R → x ∈ R') : DiR R' q p := by
  obtain ⟨a, n, vt, wt, h1, h2, h3⟩ := h
  exact ⟨a, n, vt, wt, h1, h2.mono hs, h3⟩
theorem A2D (v : Value) (p : LN) (A : Mem) (hv : By A v p) : FnX Tryz.prog 26 [v] [] A fun q M J => M = [] ∧ DiR J q p := by
 haveI := hv.cel
 refine FnX.enterZ (N := 29) Tryz.func26 rfl rfl rfl fun w_ => ?_
 refine A8 (C7 0) (A1 ?_)
 refine A4 rfl (D2 (cs := [.int .i64 0, .int .u32 0, vS]) kR rfl fun b2 => ?_)
 refine as_ (A0 (D0 0 2) (A1 (mv_ ?_)))
 refine E0 (aS rfl a0) kR (A3k v p A _ hv) rfl ?_
 rintro v7 M7 J7 ⟨rb, rfl, hR7⟩
 refine as_ (A0 (D0 2 4) (A1 (mv_ ?_)))
 refine A4 rfl (A9 (Mc := M7) (R := _) (aS rfl (aS rfl a0)) kR qP (L5 rb 4 (p, false) A _ _ hR7 (fun x hx => qS _ hx) qD) rfl ?_)
 rintro v9 M9 J9 ⟨rfl, hR9⟩
 have hA4 := A6D (p, false) 4 hv.lt
 rw [show 256 ^ 4 = 4294967296 from rfl] at hA4
 change Rdr rb (di1 p) A M9 at hR9
 obtain ⟨w9, -, hb9⟩ := hR9.ex
 refine A2 (H7 (k' := .i64) (diA p) rfl kR (A7X (by show rnN (p, false) 4 < _; omega))) rfl ?_
 refine mv_ ?_
 refine A4 rfl (A9 (Mc := M9) (R := _) (aS rfl (aS rfl a0)) kR qP (L5 rb 4 (di1 p) A _ _ hR9 (fun x hx => qS _ hx) qD) rfl ?_)
 rintro v12 M12 J12 ⟨rfl, hR12⟩
 have hN4 := A6D (di1 p) 4 hb9.lt
 rw [show 256 ^ 4 = 4294967296 from rfl] at hN4
 change Rdr rb (di2 p) A M12 at hR12
 refine A2 (H7 (k' := .u32) (diN p) rfl kR (A0M (by show rnN (di1 p) 4 < _; omega))) rfl ?_
 refine mv_ ?_
 refine A4 rfl (A9 (Mc := M12) (R := _) (aS rfl (aS rfl a0)) kR qP (L1 rb 65536 (di2 p) A _ _ hR12 (fun x hx => qS _ hx) qD) rfl ?_)
 rintro v15 M15 J15 ⟨hb15, hR15⟩
 change Rdr rb (di3 p) A M15 at hR15
 change By J15 v15 (diT p) at hb15
 haveI := hb15.cel
 have ho15 := hb15.one
 refine A2 (D6 (place := fun x => #[(0, 1), (1, 1), (2, 1)][x]?) (z := [.int .i64 0, .int .u32 0, vS]) (fun _ => by kernel_rfl) (eS rfl (eS rfl (eS rfl e0))) (bdS 0 1 rfl qR (bdS 1 1 rfl qR (bdS 2 1 rfl qR bd0)))) rfl ?_
 refine A4 rfl (D2 (cs := [.int .i64 0, .int .u32 0, vS]) kR rfl fun b5 => ?_)
 refine A4 rfl (B8 rfl rfl Cel.cel kR qR (A3 rfl (A3 rfl (A3 ho15 H9))) UpC.upd ?_)
 refine A0 (E5 2 4 5) (A6 (C5 (A1 (mv_ ?_))))
 refine D7 (aS rfl a0) kR (A2B rb (di3 p) A _ (hR15.rd qS)) rfl ?_
 refine A2 (L6 rfl) rfl ?_
 refine as_ (A0 (E5 2 5 17) ?_)
 refine C3 rfl ?_ ?_ <;> intro hc
 ·
  have he3 : A6E (di3 p) = false := by simpa using hc
  refine A1 ?_
  refine A2 (D6 (place := fun x => #[(0, 1), (1, 1), (2, 1)][x]?) (z := [.int .i64 0, .int .u32 0, vS]) (fun _ => by kernel_rfl) e0 bd0) rfl ?_
  refine A4 rfl (B8 rfl rfl Cel.cel kR ln3 al3 UpC.upd ?_)
  refine as_ (A0 (D0 2 3) (A7 (br (tr ?_))))
  exact ⟨_, [], [], W0 rfl rfl rfl kR At.mem qR, qZ, rfl, 0, 0, _, [], by rw [B6D he3]; rfl, By.nil, .inr ⟨by rw [B6D he3]; decide, rfl, rfl, rfl⟩⟩
 ·
  have he3 : A6E (di3 p) = true := by simpa using hc
  refine A1 ?_
  refine A2 (qf_ 2 2) rfl ?_
  refine A2 ql_ rfl ?_
  refine A2 (E2 (sz := 1) rfl kR hb15.rd) rfl ?_
  refine A2 (F3 rfl rfl rfl) rfl ?_
  refine as_ (A0 (E5 2 5 22) ?_)
  refine C3 rfl ?_ ?_ <;> intro hc
  ·
   have hln : (diT p).length > 256 := by simp at hc; omega
   refine A1 ?_
   refine A2 (D6 (place := fun x => #[(0, 1), (1, 1), (2, 1)][x]?) (z := [.int .i64 0, .int .u32 0, vS]) (fun _ => by kernel_rfl) e0 bd0) rfl ?_
   refine A4 rfl (B8 rfl rfl Cel.cel kR ln3 al3 UpC.upd ?_)
   refine as_ (A0 (D0 2 3) (A7 (br (tr ?_))))
   exact ⟨_, [], [], W0 rfl rfl rfl kR At.mem qR, qZ, rfl, 0, 0, _, [], by rw [B6E he3 hln]; rfl, By.nil, .inr ⟨by rw [B6E he3 hln]; decide, rfl, rfl, rfl⟩⟩
  ·
   have hln : (diT p).length ≤ 256 := by simp at hc; omega
   refine A5 (nb (nx (D0 2 5) (A1 ?_)))
   refine A2 (A0z (n := 3) (cs := [.int .i64 ((diA p : Nat) : Int), .int .u32 ((diN p : Nat) : Int), v15]) rfl kR At.mem qR) rfl ?_
   refine A4 rfl (B8 rfl rfl Cel.cel kR qR (A3 rfl (A3 rfl (A3 ho15 H9))) UpC.upd ?_)
   refine as_ (A0 (D0 2 3) (A7 ?_))
   exact ⟨_, [], [], W0 rfl rfl rfl kR At.mem qR, qZ, rfl, diA p, diN p, _, diT p, by rw [B6F he3 hln]; rfl, hb15.mono qS, .inl ⟨B6F he3 hln, rfl, rfl, rfl⟩⟩

end Go.Proofs.YtoameenjkiaefaaGreatDoor
namespace Go.Px
def A2E : List Nat → List (Nat × Nat)
  | [] => []
  | [q] => [(q, 10)]
  | q :: q' :: r => (q, 9) :: A2E (q' :: r)
def A7N (qs : List Nat) : List Nat → List (Nat × Nat)
  | [] => A2E qs
  | i :: r => (i, 8) :: A7N qs r
theorem B4y (plan : List (Nat × Nat)) : ∀ {qs : List Nat}, qs ≠ [] → grz (A2E qs ++ plan) = qs ∧ qsz (A2E qs ++ plan) = qs
  | [], h => absurd rfl h
  | [q], _ => ⟨rfl, rfl⟩
  | q :: q' :: r, _ => by
    obtain ⟨h1, h2⟩ := B4y plan (qs := q' :: r) (by simp)
    refine ⟨?_, ?_⟩
    · show q :: grz (A2E (q' :: r) ++ plan) = _; rw [h1]
    · show q :: qsz (A2E (q' :: r) ++ plan) = _; rw [h2]
theorem A5P {qs : List Nat} (plan : List (Nat × Nat)) (h : qs ≠ []) : ∀ r : List Nat, grz (A7N qs r ++ plan) = r ++ qs ∧ qsz (A7N qs r ++ plan) = qs
  | [] => B4y plan h
  | i :: r => by
    obtain ⟨h1, h2⟩ := A5P plan h r
    refine ⟨?_, ?_⟩
    · show i :: grz (A7N qs r ++ plan) = _; rw [h1]; rfl
    · show qsz (A7N qs r ++ plan) = _; rw [h2]
inductive GOz (ops : Array Oper) (qs : List Nat) : Array Bool → List Nat → Array Bool → Prop
  | nil {A : Array Bool} : GOz ops qs A [] A
  | cons {A B : Array Bool} {i : Nat} {r : List Nat} (hr : i ∈ Region.ready .any ops A) (ho : i ∉ qs → ∀ j, j < ops.size → A.getD j true = false → j ∉ i :: r → anc ops ops.size j i = true) (h : GOz ops qs (A.setIfInBounds i true) r B) : GOz ops qs A (i :: r) B
theorem A6F {ops : Array Oper} {nd : List Nat} {Q : List Nat} {plan : List (Nat × Nat)} : ∀ {qs : List Nat} {A : Array Bool}, qs ≠ [] → (∀ q ∈ qs, q ∈ Q) → I8 ops nd (A2E qs ++ plan) A = true → ∃ B, GOz ops Q A qs B ∧ (∀ q ∈ qs, A2M ops A q = true) ∧ I8 ops nd plan B = true
  | [], A, h, _, _ => absurd rfl h
  | [q], A, _, hQ, h => by
    simp only [A2E, List.cons_append, List.nil_append, I8, Bool.and_eq_true] at h
    exact ⟨_, .cons (by simpa using h.1.1) (fun hq => absurd (hQ q (by simp)) hq) .nil, (fun x hx => by rw [List.mem_singleton.1 hx]; exact h.1.2), h.2⟩
  | q :: q' :: r, A, _, hQ, h => by
    simp only [A2E, List.cons_append, I8, Bool.and_eq_true] at h
    obtain ⟨B, hB, -, hp⟩ := A6F (qs := q' :: r) (by simp) (fun x hx => hQ x (List.mem_cons_of_mem _ hx)) h.2
    refine ⟨B, .cons (by simpa using h.1.1) (fun hq => absurd (hQ q (by simp)) hq) hB, fun x hx => ?_, hp⟩
    have h2 := h.1.2
    rw [(B4y plan (qs := q' :: r) (by simp)).2] at h2
    exact List.all_eq_true.1 h2 x hx
theorem A9x {ops : Array Oper} {nd : List Nat} {qs : List Nat} {plan : List (Nat × Nat)} (hne : qs ≠ []) : ∀ {is : List Nat} {A : Array Bool}, I8 ops nd (A7N qs is ++ plan) A = true → ∃ B, GOz ops qs A (is ++ qs) B ∧ (∀ q ∈ qs, A2M ops A q = true) ∧ I8 ops nd plan B = true
  | [], A, h => A6F hne (fun _ h => h) h
  | i :: r, A, h => by
    simp only [A7N, List.cons_append, I8, A5m, Bool.and_eq_true, List.all_eq_true, List.mem_range, Bool.or_eq_true, (A5P plan hne r).1, (A5P plan hne r).2] at h
    obtain ⟨B, hB, -, hp⟩ := A9x hne (is := r) h.2
    refine ⟨B, .cons (by simpa using h.1.1.1) (fun _ j hj hu hn => ?_) hB, h.1.2, hp⟩
    rcases h.1.1.2 j hj with (h1 | h1) | h1
    · rw [hu] at h1; cases h1
    · exact absurd (by simpa using h1) hn
    · exact h1
theorem GOz.mark {ops : Array Oper} {q : List Nat} {A B : Array Bool} {is : List Nat} (h : GOz ops q A is B) : B = mark A is := by
  induction h with
  | nil => rfl
  | cons _ _ _ ih => rw [ih]; rfl
theorem GOz.un {ops : Array Oper} {q : List Nat} {A B : Array Bool} {is : List Nat} (h : GOz ops q A is B) : ∀ i ∈ is, A.getD i true = false := by
  induction h with
  | nil => intro i hi; cases hi
  | @cons A B i r hr ho h ih =>
    intro k hk
    rcases List.mem_cons.1 hk with rfl | hk
    · exact I9 hr
    · have h2 := ih k hk
      by_cases e : i = k
      · subst e; exact I9 hr
      · rwa [getD_set_ne true e] at h2
theorem GOz.outer {ops : Array Oper} {q : List Nat} {A B : Array Bool} {is : List Nat} (h : GOz ops q A is B) : ∀ i ∈ is, i ∉ q → ∀ j, j < ops.size → A.getD j true = false → j ∉ is → anc ops ops.size j i = true := by
  induction h with
  | nil => intro i hi; cases hi
  | @cons A B i r hr ho h ih =>
    intro k hk hq j hj hu hn
    rcases List.mem_cons.1 hk with rfl | hk
    · exact ho hq j hj hu hn
    · have hne : i ≠ j := fun e => hn (e ▸ List.mem_cons_self)
      exact ih k hk hq j hj (by rw [getD_set_ne true hne]; exact hu) (fun hm => hn (List.mem_cons_of_mem _ hm))
theorem GOz.first {ops : Array Oper} {q : List Nat} {A B : Array Bool} {is : List Nat} (h : GOz ops q A is B) {A' : Array Bool} (hsz : A'.size = A.size) (hm : ∀ j, A.getD j false = true → A'.getD j false = true) {k : Nat} (hk : k ∈ is) (hk' : A'.getD k true = false) : ∃ i, i ∈ is ∧ i ∈ Region.ready .any ops A' := by
  induction h generalizing k with
  | nil => cases hk
  | @cons A B i r hr ho h ih =>
    by_cases hi : A'.getD i true = false
    · exact ⟨i, List.mem_cons_self, A2Y hr hi hm⟩
    · rcases List.mem_cons.1 hk with rfl | hk
      · exact absurd hk' hi
      · obtain ⟨x, hx1, hx2⟩ := ih (by simpa using hsz) (fun j hj => by
          by_cases e : i = j
          · subst e
            have hlt := S4 (I9 hr)
            have hlt' : i < A'.size := by omega
            simp [hlt'] at hi ⊢; exact hi
          · rw [getD_set_ne false e] at hj
            exact hm j hj) hk hk'
        exact ⟨x, List.mem_cons_of_mem _ hx1, hx2⟩
section group
variable {C : Cx} {Q : XQ} {l : Env} {M M0 J : Mem} {os : List Oper} {K : Nat → Prop} {n0 : Nat} {nd : List Nat} {plan : List (Nat × Nat)}
def B4z (C : Cx) (os : List Oper) (l : Env) (J : Mem) (G : List Gc) (g : Gc) : Prop :=
  g.s = none ∧ g.m = [] ∧ ∃ op ty pos af, nth os g.i = some ⟨some g.d, op, ty, pos, af, none⟩ ∧ ∀ (vs : Nat → Value) (bs : Nat → Mem) (Rj : Mem), (∀ x ∈ J ++ C.A, x ∈ Rj) → (∀ g' ∈ G, anc os.toArray os.toArray.size g.i g'.i = true → g'.φ (vs g'.i) (bs g'.i) Rj) →
    ∃ v, OpQ C.P [] ⟨some g.d, op, ty, pos, af, none⟩ (N3 G vs ++ l) v ∧ g.φ v [] Rj
theorem A9y {G : List Gc} (hmono : ∀ g ∈ G, A2c g.φ) (hd : (G.map (·.d)).Nodup) (hi : (G.map (·.i)).Nodup) (hc : ChainOk os.toArray G) (hKn : ∀ b, n0 ≤ b → K b) (hK : ∀ m ∈ W4 G, ∀ x ∈ m, K x.1) (hs : Region.noSelect os.toArray = true) (hdN : ∀ g ∈ G, g.d < C.N) {qs : List Nat} (hob : ∀ g ∈ G, g.i ∉ qs → A8S C os l M0 J G g) (hoq : ∀ g ∈ G, g.i ∈ qs → B4z C os l J G g) {A B : Array Bool} (hok : GOz os.toArray qs A (G.map (·.i)) B) (hfr : ∀ q ∈ qs, A2M os.toArray A q = true)
    (hfin : ∀ (vs : Nat → Value) (bs : Nat → Mem) Jn a w, (∀ g ∈ G, g.φ (vs g.i) (bs g.i) ((Jn ++ J) ++ C.A)) → (∀ g ∈ G, ∀ x ∈ bs g.i, K x.1) → Ag C.N (N3 G vs ++ l) a → St C ((A7k G bs).flatten ++ M0) (Jn ++ J) w → n0 ≤ w.heap.size → V4 C.P os.toArray (N6 (A5h C Q)) (Sk K) nd.contains plan.length B a w) :
    ∀ (n : Nat) (X : List Nat) (vs : Nat → Value) (bs : Nat → Mem) (Jn : Mem) (a : Act) (w : World), X.Nodup → (∀ i ∈ X, i ∈ G.map (·.i)) → n + X.length = G.length → M3 os.toArray (mark A X) → (∀ g ∈ G, g.i ∈ X → ∀ s, g.s = some s → s ∈ X) →
      (∀ g ∈ G, g.i ∈ X → g.φ (vs g.i) (bs g.i) ((Jn ++ J) ++ C.A)) → (∀ g ∈ G, g.i ∈ X → ∀ x ∈ bs g.i, K x.1) → Ag C.N (N3 G vs ++ l) a → St C (A5C X bs G ++ M0) (Jn ++ J) w → n0 ≤ w.heap.size →
      V4 C.P os.toArray (N6 (A5h C Q)) (Sk K) nd.contains (n + plan.length) (mark A X) a w := by
  intro n
  induction n with
  | zero =>
    intro X vs bs Jn a w hnd hX hlen hcl hXs hφ hN ha hw hn
    have hall : ∀ i, i ∈ X ↔ i ∈ G.map (·.i) := fun i => ⟨hX i, A0W hnd hX (by simp; omega) i⟩
    have hin : ∀ g ∈ G, g.i ∈ X := fun g hg => (hall _).2 (List.mem_map_of_mem (f := Gc.i) hg)
    have hcur := A6r (bs := bs) hin
    rw [hcur] at hw
    rw [Nat.zero_add, A3F hall, ← hok.mark]
    exact hfin vs bs Jn a w (fun g hg => hφ g hg (hin g hg)) (fun g hg => hN g hg (hin g hg)) ha hw hn
  | succ n ih =>
    intro X vs bs Jn a w hnd hX hlen hcl hXs hφ hN ha hw hn
    have hun : ∀ i ∈ G.map (·.i), A.getD i true = false := hok.un
    by_cases hqe : ∃ g ∈ G, g.i ∈ qs ∧ g.i ∈ Region.ready .any os.toArray (mark A X)
    · obtain ⟨g, hg, hgq, hqr⟩ := hqe
      obtain ⟨hsn, hmn, op, ty, pos, af, hget, howe⟩ := hoq g hg hgq
      have hi' : os.toArray[g.i]? = some ⟨some g.d, op, ty, pos, af, none⟩ := by rw [R3] at hget; simpa using hget
      have hiG : g.i ∈ G.map (·.i) := List.mem_map_of_mem (f := Gc.i) hg
      have hiX : g.i ∉ X := fun h => (H3.1 (I9 hqr)).2 ⟨h, S4 (hun _ hiG)⟩
      obtain ⟨v, hq, hφv⟩ := howe vs bs ((Jn ++ J) ++ C.A) (fun x hx => by simp only [List.mem_append] at hx ⊢; rcases hx with h | h <;> simp [h]) (fun g' hg' hanc => hφ g' hg' (by
        have h3 := N0 hcl hanc hqr
        rcases U3 h3 with h4 | h4
        · exact (P0 (hun _ (List.mem_map_of_mem (f := Gc.i) hg')) h4).elim
        · exact h4))
      rw [show n + 1 + plan.length = (n + plan.length) + 1 by omega]
      refine S2 (S := Sk K) (T := fun _ => True) (N := 0) (v := v) hi' (Region.noSelect_spec hs) (fun _ _ _ h => h) (fun _ _ _ _ => rfl) _ (mark A X) a w hcl (fun j oj hj hne hun' hno => A6X hi' (hfr _ hgq) j oj hj hne (H3.1 hun').1 (by
        cases ha0 : anc os.toArray os.toArray.size g.i j with
        | false => rfl
        | true => exact (P0 hun' (N0 hcl ha0 hqr)).elim) hno) (fun _ _ _ _ => .inr fun _ _ _ _ => trivial) hqr (.inl ⟨rfl, fun w hw => hq C.N a w ha (fun _ _ hb => by cases hb)⟩) trivial ?_
      rw [← N7]
      have hsx : ∀ s, g.s = some s → s ∈ X := fun s hs' => by rw [hsn] at hs'; cases hs'
      obtain ⟨R0, hp0, hq0⟩ := A2p (bs := bs) hi hc hg hiX hXs hsx
      rw [Gc.inp_none hsn, hmn] at hp0
      let bs' : Nat → Mem := fun k => if k = g.i then [] else bs k
      have hperm : (A5C X bs G ++ M0).Perm (A5C (X ++ [g.i]) bs' G ++ M0) := List.Perm.append_right _ (hp0.trans (hq0 []))
      have ha' : Ag C.N ((g.d, v) :: (N3 G vs ++ l)) (a.put (some g.d) v) := ha.put (hdN g hg) v
      have henv := A0X (N := C.N) (G := B0Z G) (l := l) (vs := vs) (g := ⟨g.i, g.d, fun _ _ => True⟩) (a := a.put (some g.d) v) (v := v) (List.mem_map_of_mem (f := fun g : Gc => (⟨g.i, g.d, fun _ _ => True⟩ : Gm)) hg) (by rw [A8Q]; exact hd) (by rw [A8P]; exact hi) (by rw [A0l]; exact ha')
      rw [A0l] at henv
      refine ih (X ++ [g.i]) (fun k => if k = g.i then v else vs k) bs' Jn (a.put (some g.d) v) w ?_ ?_ (by simp; omega) ?_ ?_ ?_ ?_ henv (hw.perm hperm) hn
      · rw [List.nodup_append]; exact ⟨hnd, by simp, fun x hx y hy e => hiX (by simp at hy; subst hy; exact e ▸ hx)⟩
      · intro j hj
        rcases List.mem_append.1 hj with hj | hj
        · exact hX j hj
        · simp at hj; subst hj; exact hiG
      · rw [N7]; exact H5 hcl hqr
      · intro g' hg' hm s hs'
        rcases List.mem_append.1 hm with h | h
        · exact List.mem_append_left _ (hXs g' hg' h s hs')
        · have h2 : g' = g := V8 hi hg' hg (by simpa using h)
          subst h2
          exact List.mem_append_left _ (hsx s hs')
      · intro g' hg' hm
        by_cases e : g'.i = g.i
        · have : g' = g := V8 hi hg' hg e
          subst this
          simp only [if_true, bs']
          exact hφv
        · simp only [e, if_false, bs']
          exact hφ g' hg' (by simpa [e] using hm)
      · intro g' hg' hk x hx
        by_cases e : g'.i = g.i
        · simp only [e, if_true, bs'] at hx
          cases hx
        · simp only [e, if_false, bs'] at hx
          exact hN g' hg' (by simpa [e] using hk) x hx
    have hmiss : ∃ k ∈ G.map (·.i), k ∉ X ∧ k ∉ qs := by
      apply Classical.byContradiction
      intro hno
      have hs' : ∀ k ∈ G.map (·.i), k ∉ qs → k ∈ X := fun k hk hne => Classical.byContradiction fun h => hno ⟨k, hk, h, hne⟩
      by_cases hall : ∀ k ∈ G.map (·.i), k ∈ X
      · have := A0V hi hall
        simp at this; omega
      · obtain ⟨k, hk⟩ := Classical.not_forall.1 hall
        obtain ⟨hkG, hkX⟩ := Classical.not_imp.1 hk
        obtain ⟨i, hiG, hir⟩ := hok.first (Z0 A X) (fun j hj => Z1 hj) hkG (H3.2 ⟨hun _ hkG, fun h => hkX h.1⟩)
        have hiX : i ∉ X := fun h => (H3.1 (I9 hir)).2 ⟨h, S4 (hun _ hiG)⟩
        by_cases e : i ∈ qs
        · obtain ⟨g, hg, rfl⟩ := List.mem_map.1 hiG
          exact hqe ⟨g, hg, e, hir⟩
        · exact hiX (hs' i hiG e)
    obtain ⟨k, hkG, hkX, hkq⟩ := hmiss
    have hkun : (mark A X).getD k true = false := H3.2 ⟨hun k hkG, fun h => hkX h.1⟩
    rw [show n + 1 + plan.length = (n + plan.length) + 1 by omega]
    refine ⟨fun h0 => ?_, fun i hir => ?_⟩
    · obtain ⟨i, -, hir⟩ := hok.first (Z0 A X) (fun j hj => Z1 hj) hkG hkun
      rw [h0] at hir; cases hir
    · have hiG : i ∈ G.map (·.i) := by
        apply Classical.byContradiction
        intro hno
        have h1 := H3.1 (I9 hir)
        have h2 := hok.outer k hkG hkq i (A1F hir) h1.1 hno
        exact P0 hkun (N0 hcl h2 hir)
      obtain ⟨g, hg, rfl⟩ := List.mem_map.1 hiG
      have hiX : g.i ∉ X := fun h => (H3.1 (I9 hir)).2 ⟨h, S4 (hun _ hiG)⟩
      have hin : ∀ j ∈ G.map (·.i), anc os.toArray os.toArray.size g.i j = true → j ∈ X := fun j hj hanc => by
        have h3 := N0 hcl hanc hir
        rcases U3 h3 with h4 | h4
        · exact (P0 (hun _ hj) h4).elim
        · exact h4
      have hsx : ∀ s, g.s = some s → s ∈ X := fun s hs => hin s (hc.mem g hg s hs) (hc.anc g hg s hs)
      have hKi : ∀ x ∈ g.inp bs, K x.1 := by
        intro x hx
        cases hs : g.s with
        | none =>
          rw [Gc.inp_none hs] at hx
          exact hK g.m (List.mem_map.2 ⟨g, List.mem_filter.2 ⟨hg, by simp [hs]⟩, rfl⟩) x hx
        | some s =>
          rw [Gc.inp_some hs] at hx
          obtain ⟨gs, hgs, rfl⟩ := List.mem_map.1 (hc.mem g hg s hs)
          exact hN gs hgs (hsx _ hs) x hx
      obtain ⟨o, hget, howe⟩ := hob g hg (fun e => hqe ⟨g, hg, e, hir⟩)
      have hi' : os.toArray[g.i]? = some o := by rw [R3] at hget; simpa using hget
      obtain ⟨hask, hop⟩ := howe vs bs (M0 ++ ((Jn ++ J) ++ C.A)) ((Jn ++ J) ++ C.A) w (fun x hx => by simp only [List.mem_append] at hx ⊢; rcases hx with h | h | h <;> simp [h]) (fun x hx => by simp only [List.mem_append] at hx ⊢; rcases hx with h | h <;> simp [h]) (fun x hx => List.mem_append_right _ hx) (fun g' hg' hanc => hφ g' hg' (hin _ (List.mem_map_of_mem (f := Gc.i) hg') hanc))
      unfold wpOp
      simp only [hi']
      rw [if_pos (hask.wanted ha)]
      obtain ⟨R0, hp0, hq0⟩ := A2p (bs := bs) hi hc hg hiX hXs hsx
      have hpc : (A5C X bs G ++ M0).Perm (g.inp bs ++ (R0 ++ M0)) := by
        rw [← List.append_assoc]; exact List.Perm.append_right _ hp0
      have hcal := hw.callee hpc
      have hcal2 := St.less (A := M0 ++ ((Jn ++ J) ++ C.A)) hcal fun x hx => by
        simp only [List.mem_append] at hx ⊢
        rcases hx with h | h
        · exact .inl (.inr h)
        · exact .inr h
      refine .inl (Oper.wp_mono ?_ (hop _ a w ha hcal2.cx))
      rintro a' w' ⟨l', M', J', ha', hs', v, rfl, hφv⟩
      have hsz : w.heap.size ≤ w'.heap.size := hs'.size
      have hs2 := St.widen hcal.cx hs'
      have hb := hw.back hpc hs2.cx
      let bs' : Nat → Mem := fun k => if k = g.i then M' else bs k
      have hperm : (M' ++ (R0 ++ M0)).Perm (A5C (X ++ [g.i]) bs' G ++ M0) := by
        rw [← List.append_assoc]
        exact List.Perm.append_right _ (hq0 M')
      have hfr2 : St C (A5C (X ++ [g.i]) bs' G ++ M0) ((J' ++ Jn) ++ J) w' := (hb.perm hperm).drop (List.Sublist.refl _) fun x hx => by
        simp only [List.mem_append] at hx ⊢
        rcases hx with (h | h) | h <;> simp [h]
      refine ⟨fun _ b hb' hnk => hs'.frame b hb' fun hm => ?_, ?_⟩
      · obtain ⟨x, hx, e⟩ := List.mem_map.1 hm
        exact hnk (e ▸ hKi x hx)
      rw [← N7]
      have henv := A0X (N := C.N) (G := B0Z G) (l := l) (vs := vs) (g := ⟨g.i, g.d, fun _ _ => True⟩) (a := a') (v := v) (List.mem_map_of_mem (f := fun g : Gc => (⟨g.i, g.d, fun _ _ => True⟩ : Gm)) hg) (by rw [A8Q]; exact hd) (by rw [A8P]; exact hi) (by rw [A0l]; exact ha')
      rw [A0l] at henv
      refine ih (X ++ [g.i]) (fun k => if k = g.i then v else vs k) bs' (J' ++ Jn) a' w' ?_ ?_ (by simp; omega) ?_ ?_ ?_ ?_ henv hfr2 (Nat.le_trans hn hsz)
      · rw [List.nodup_append]; exact ⟨hnd, by simp, fun x hx y hy e => hiX (by simp at hy; subst hy; exact e ▸ hx)⟩
      · intro j hj
        rcases List.mem_append.1 hj with hj | hj
        · exact hX j hj
        · simp at hj; subst hj; exact hiG
      · rw [N7]; exact H5 hcl hir
      · intro g' hg' hm s hs
        rcases List.mem_append.1 hm with h | h
        · exact List.mem_append_left _ (hXs g' hg' h s hs)
        · have h2 : g' = g := V8 hi hg' hg (by simpa using h)
          subst h2
          exact List.mem_append_left _ (hsx s hs)
      · intro g' hg' hm
        by_cases e : g'.i = g.i
        · have : g' = g := V8 hi hg' hg e
          subst this
          simp only [if_true, bs']
          exact hmono g' hg' _ _ _ _ (fun x hx => by simp only [List.mem_append] at hx ⊢; rcases hx with h | (h | h) | h <;> simp [h]) hφv
        · simp only [e, if_false, bs']
          have hm' : g'.i ∈ X := by simpa [e] using hm
          exact hmono g' hg' _ _ _ _ (fun x hx => by simp only [List.mem_append] at hx ⊢; rcases hx with (h | h) | h <;> simp [h]) (hφ g' hg' hm')
      · intro g' hg' hk x hx
        by_cases e : g'.i = g.i
        · have : g' = g := V8 hi hg' hg e
          subst this
          simp only [if_true, bs'] at hx
          rcases hs'.own x.1 x.2 (by simp [hx]) with h6 | h6
          · obtain ⟨y, hy, e6⟩ := List.mem_map.1 h6
            exact e6 ▸ hKi y hy
          · exact hKn _ (Nat.le_trans hn h6)
        · simp only [e, if_false, bs'] at hx
          have hk' : g'.i ∈ X := by simpa [e] using hk
          exact hN g' hg' hk' x hx
theorem A0b (G0 Gq : List Gc) (M0 : Mem) (Lf : (Nat → Mem) → List Mem) (hKn : ∀ b, n0 ≤ b → K b) (hM : M.Perm (Q6 (W4 (G0 ++ Gq)) M0)) (hK : ∀ m ∈ W4 (G0 ++ Gq), ∀ x ∈ m, K x.1) (hck : A5D os.toArray ((G0 ++ Gq).map fun g => (g.i, g.s)) = true) (hLf : ∀ bs, A7k (G0 ++ Gq) bs = Lf bs)
    (hmono : ∀ g ∈ G0 ++ Gq, A2c g.φ) (hd : ((G0 ++ Gq).map (·.d)).Nodup) (hi : ((G0 ++ Gq).map (·.i)).Nodup) (hdN : ∀ g ∈ G0 ++ Gq, g.d < C.N) (hs : Region.noSelect os.toArray = true) (hne : Gq.map (·.i) ≠ []) (hob0 : ∀ g ∈ G0, A8S C os l M0 J (G0 ++ Gq) g) (hoq0 : ∀ g ∈ Gq, B4z C os l J (G0 ++ Gq) g)
    (h : ∀ (vs : Nat → Value) (bs : Nat → Mem) Jn, (∀ g ∈ G0 ++ Gq, g.φ (vs g.i) (bs g.i) ((Jn ++ J) ++ C.A)) → (∀ g ∈ G0 ++ Gq, ∀ x ∈ bs g.i, K x.1) → XK C os Q K n0 nd plan (N3 (G0 ++ Gq) vs ++ l) (Q6 (Lf bs) M0) (Jn ++ J)) : XK C os Q K n0 nd (A7N (Gq.map (·.i)) (G0.map (·.i)) ++ plan) l M J := by
  refine A0B hM ?_
  rw [A1O]
  intro listed hcl hp a w ha hw hn
  obtain ⟨B, hok, hfr, hp2⟩ := A9x hne hp
  have hBcl : M3 os.toArray B := by
    have : ∀ {A is B}, GOz os.toArray (Gq.map (·.i)) A is B → M3 os.toArray A → M3 os.toArray B := by
      intro A is B h
      induction h with
      | nil => exact id
      | cons hr _ _ ih => exact fun hc => ih (H5 hc hr)
    exact this hok hcl
  rw [← List.map_append] at hok
  have hlen : (A7N (Gq.map (·.i)) (G0.map (·.i)) ++ plan).length = (G0 ++ Gq).length + plan.length := by
    have h1 : ∀ qs : List Nat, (A2E qs).length = qs.length := by
      intro qs
      induction qs with
      | nil => rfl
      | cons q r ih => cases r with
        | nil => rfl
        | cons q' r => simp only [A2E, List.length_cons] at ih ⊢; rw [ih]
    have h2 : ∀ (qs is : List Nat), (A7N qs is).length = is.length + qs.length := by
      intro qs is
      induction is with
      | nil => simp [A7N, h1]
      | cons i r ih => simp only [A7N, List.length_cons, ih]; omega
    simp [h2]
  have hob : ∀ g ∈ G0 ++ Gq, g.i ∉ Gq.map (·.i) → A8S C os l M0 J (G0 ++ Gq) g := fun g hg hq => by
    rcases List.mem_append.1 hg with h1 | h1
    · exact hob0 g h1
    · exact absurd (List.mem_map_of_mem (f := Gc.i) h1) hq
  have hoq : ∀ g ∈ G0 ++ Gq, g.i ∈ Gq.map (·.i) → B4z C os l J (G0 ++ Gq) g := fun g hg hq => by
    obtain ⟨g', hg', e⟩ := List.mem_map.1 hq
    have := V8 hi (List.mem_append_right _ hg') hg e
    exact this ▸ hoq0 g' hg'
  rw [hlen]
  generalize Gq.map (·.i) = qs at *
  generalize G0 ++ Gq = G at *
  let vs : Nat → Value := fun k => match G.find? (fun g => g.i == k) with
    | some g => (a.tmps[g.d]?).getD undef
    | none => undef
  have hag : Ag C.N (N3 G vs ++ l) a := by
    refine ⟨ha.defers, ha.size, ?_⟩
    intro k u hk
    have key : ∀ G' : List Gc, (∀ g ∈ G', g ∈ G) → lk (N3 G' vs ++ l) k = some u → a.tmps[k]? = some u := by
      intro G'
      induction G' with
      | nil => intro _ h; exact ha.slot k u h
      | cons g G' ih =>
        intro hs h
        simp only [N3, List.map_cons, List.cons_append, lk] at h
        by_cases e : g.d = k
        · subst e
          simp at h
          have hf : G.find? (fun x => x.i == g.i) = some g := by
            have hgG := hs g List.mem_cons_self
            cases hq : G.find? (fun x => x.i == g.i) with
            | none => have := List.find?_eq_none.1 hq g hgG; simp at this
            | some x =>
              have h1 := List.find?_some hq
              have h2 := List.mem_of_find?_eq_some hq
              rw [V8 hi h2 hgG (by simpa using h1)]
          have hlt : g.d < a.tmps.size := by rw [ha.size]; exact hdN g (hs g List.mem_cons_self)
          rw [← h]
          show a.tmps[g.d]? = some (vs g.i)
          simp only [vs, hf, Array.getElem?_eq_getElem hlt, Option.getD_some]
        · simp only [T9 e, cond_false] at h
          exact ih (fun x hx => hs x (List.mem_cons_of_mem _ hx)) h
    exact key G (fun _ h => h) hk
  refine A9y (n0 := n0) (K := K) hmono hd hi (A6p hck) hKn hK hs hdN hob hoq hok hfr (fun vs bs Jn a w hφ hN ha hw hn => h vs bs Jn hφ hN B hBcl hp2 a w ha (by rw [A1O, ← hLf]; exact hw) hn) G.length [] vs (fun _ => []) [] a w .nil (fun _ h => by cases h) (by simp) hcl (fun _ _ h => by cases h) (fun _ _ h => by cases h) (fun _ _ h => by cases h) hag (by rw [A6q]; exact hw) hn
end group
end Go.Px

namespace Go.Proofs.YtoameenjkiaefaaGreatDoor
open Go.Px
def A35 (x : Ev) : LN := wB4 (wN4 (wN4 (wB4 (frW [] x) x.hk) x.hp) x.hn) x.g
def flN (st : Rst) : Bool := if rnN st 1 > 1 then false else decide (rnN st 1 = 1)
def flS (st : Rst) : Rst := if rnN st 1 > 1 then ((rnS st 1).1, true) else rnS st 1
def rh1 (st : Rst) : Rst := rbS st 65536
def rh2 (st : Rst) : Rst := rbS (rh1 st) 65536
def rh3 (st : Rst) : Rst := rbS (rh2 st) 65536
def rh4 (st : Rst) : Rst := rnS (rh3 st) 4
def rh5 (st : Rst) : Rst := flS (rh4 st)
def rhH (st : Rst) : He := ⟨rbN st 65536, rbN (rh1 st) 65536, rbN (rh2 st) 65536, rnN (rh3 st) 4, flN (rh4 st), if flN (rh4 st) then rnN (rh5 st) 4 else 0⟩
def rhS (st : Rst) : Rst := if flN (rh4 st) then rnS (rh5 st) 4 else rh5 st
def dc1 (p : LN) : Rst := rnS (p, false) 4
def dc2 (p : LN) : Rst := rnS (dc1 p) 4
def dc3 (p : LN) : Rst := rnS (dc2 p) 4
def dc4 (p : LN) : Rst := rnS (dc3 p) 4
def dc5 (p : LN) : Rst := rbS (dc4 p) 65536
def dc6 (p : LN) : Rst := flS (dc5 p)
def dc7 (p : LN) : Rst := if flN (dc5 p) then rhS (dc6 p) else dc6 p
def dc8 (p : LN) : Rst := rbS (dc7 p) 65536
def dc9 (p : LN) : Rst := rnS (dc8 p) 4
def dcA (p : LN) : Rst := rnS (dc9 p) 4
def dcB (p : LN) : Rst := rbS (dcA p) 65536
def dcE (p : LN) : Ev := ⟨((rnN (p, false) 4 : Nat) : Int), ((rnN (dc1 p) 4 : Nat) : Int), ((rnN (dc2 p) 4 : Nat) : Int), ((rnN (dc3 p) 4 : Nat) : Int), rbN (dc4 p) 65536, flN (dc5 p), if flN (dc5 p) then rhH (dc6 p) else ⟨[], [], [], 0, false, 0⟩, rbN (dc7 p) 65536, rnN (dc8 p) 4, rnN (dc9 p) 4, rbN (dcA p) 65536⟩
def dcO (p : LN) : Bool := A6E (dcB p)
def ev0 : Ev := ⟨0, 0, 0, 0, [], false, ⟨[], [], [], 0, false, 0⟩, [], 0, 0, []⟩
def EvV (R : Mem) (v : Value) (e : Ev) : Prop := ∃ vs p r u vk vg, v = .agg (evC vs p r u vk vg e).toArray ∧ EvR R e vs p r u vk vg
theorem EvV.mono {R R' : Mem} {v : Value} {x : Ev} (h : EvV R v x) (hR : ∀ z, z ∈ R → z ∈ R') : EvV R' v x := by
  obtain ⟨a, b, c, d, e, f, h1, h2⟩ := h
  exact ⟨a, b, c, d, e, f, h1, h2.mono hR⟩
theorem B8q (st : Rst) (m : Nat) : (rbN st m).length ≤ m := by
  unfold rbN
  split
  · exact Nat.zero_le _
  · rename_i h
    simp only [Bool.or_eq_true, decide_eq_true_eq, not_or] at h
    rw [List.length_take]; omega
theorem Rdr.n4 {rb : Nat} {st : Rst} {R M : Mem} (h : Rdr rb st R M) : rnN st 4 < 4294967296 := by
  obtain ⟨v, -, hb⟩ := h.ex
  have := A6D st 4 hb.lt
  rwa [show 256 ^ 4 = 4294967296 from rfl] at this
theorem B2O (x : Ev) (vs p r u vk vg : Value) (A : Mem) (hx : EvR A x vs p r u vk vg) (hel : x.ses.length + x.he.ia.length + x.he.ig.length + x.he.key.length + x.hk.length + x.g.length ≤ 10000000) : FnX Tryz.prog 10 [.agg (evC vs p r u vk vg x).toArray] [] A fun q M J => M = [] ∧ By J q (A35 x) := by
 haveI := hx.ses.cel
 haveI := hx.he.ia.cel
 haveI := hx.he.ig.cel
 haveI := hx.he.key.cel
 haveI := hx.hk.cel
 haveI := hx.g.cel
 have hsl := hx.ses.len
 unfold evC
 refine FnX.enterZ (N := 28) Tryz.func10 rfl rfl rfl fun w_ => ?_
 refine A8 (C7 0) (A1 ?_)
 refine A4 rfl (bx_ fun b1 => ?_)
 refine as_ (A0 (C7 1) (A1 ?_))
 refine A2 (D6 (place := fun x => #[(0, 1)][x]?) (z := [vS]) (fun _ => by kernel_rfl) e0 bd0) rfl ?_
 refine A4 rfl (bx_ fun b5 => ?_)
 refine as_ (A0 (D0 1 3) (A1 (mv_ ?_)))
 refine A2 (E7 (n := 16) (vs := [.int .i64 x.fu, .int .i64 x.fd, .int .i64 x.tu, .int .i64 x.td, vs, .bool x.has, p, r, u, (vU x.he.signed), .bool x.he.has, (vU x.he.once), vk, (vU x.hp), (vU x.hn), vg]) rfl kR At.mem rfl (D3 [] [.int .i64 x.fu, .int .i64 x.fd, .int .i64 x.tu, .int .i64 x.td, vs, .bool x.has, p, r, u, (vU x.he.signed), .bool x.he.has, (vU x.he.once), vk, (vU x.hp), (vU x.hn), vg] [])) rfl ?_
 refine A4 rfl (A9 (Mc := [(b5, blk [vS] 97)]) (R := _) (aS rfl (aS rfl (a0))) kR qP (A6B b5 x vs p r u vk vg [] _ _ Wtr.new (hx.mono qS) qD) rfl ?_)
 rintro v8 M8 J8 ⟨rfl, hW8⟩
 have hwl := A5O [] x
 simp only [List.length_nil, Nat.zero_add] at hwl
 have hkl := hx.hk.len
 have hgl := hx.g.len
 have hpp := hx.hp
 have hnn := hx.hn
 refine A0 (D0 1 3) ?_
 refine E6 (M8) (_) true [0, 1, 2, 3, 4, 5, 6, 7, 8, 9, 10, 11, 12, 13, 14, 15, 16, 19] [(0, 0), (1, 0), (2, 0), (3, 1), (5, 0), (6, 0), (7, 1), (8, 0), (10, 0), (11, 0), (12, 1), (13, 0), (15, 0), (16, 1), (4, 2), (9, 2), (14, 2), (17, 2), (18, 2), (19, 0)] kR kR qP fun hs K n0 hKm hKs hKn => ?_
 refine km_ hs ?_
 refine F1 hs rfl (qf_ 12 12) rfl ?_
 refine F1 hs rfl (qf_ 12 0) rfl ?_
 refine I1 hs rfl hKs ql_ ?_
 refine F1 hs rfl (qf_ 12 12) rfl ?_
 refine F1 hs rfl (qf_ 13 1) rfl ?_
 refine I1 hs rfl hKs ql_ ?_
 refine F1 hs rfl (H7 (k' := .u64) (x.hp) rfl kR (W5 qO)) rfl ?_
 refine F1 hs rfl (qf_ 12 12) rfl ?_
 refine F1 hs rfl (qf_ 14 2) rfl ?_
 refine I1 hs rfl hKs ql_ ?_
 refine F1 hs rfl (H7 (k' := .u64) (x.hn) rfl kR (W5 qO)) rfl ?_
 refine F1 hs rfl (qf_ 15 15) rfl ?_
 refine I1 hs rfl hKs ql_ ?_
 refine F9 _ _ rfl rfl (List.Perm.refl _) hKm fun w0 => (A9 (Mc := M8) (R := _) (aS rfl (aS rfl (a0))) kR qP (I0 b5 vk x.hk _ M8 _ hW8 (hx.hk.mono qS) (by first | omega | (simp [Q7, P6, P7, Q8, R8, G2]; omega))) rfl ?_)
 rintro v13 M13 J13 ⟨rfl, hW13⟩ hKx13
 refine F9 M13 _ rfl rfl qP (fun x hx => hKx13 (hKn rfl) x (by simpa using hx)) fun w0 => (A9 (Mc := M13) (R := _) (aS rfl (aS rfl (aS rfl (a0)))) kR qP (K1 b5 (x.hp) 4 _ M13 _ hW13 qO qD (by first | omega | (simp [Q7, P6, P7, Q8, R8, G2]; omega))) rfl ?_)
 rintro v18 M18 J18 ⟨rfl, hW18⟩ hKx18
 refine F9 M18 _ rfl rfl qP (fun x hx => hKx18 (hKn rfl) x (by simpa using hx)) fun w0 => (A9 (Mc := M18) (R := _) (aS rfl (aS rfl (aS rfl (a0)))) kR qP (K1 b5 (x.hn) 4 _ M18 _ hW18 qO qD (by first | omega | (simp [Q7, P6, P7, Q8, R8, G2]; omega))) rfl ?_)
 rintro v23 M23 J23 ⟨rfl, hW23⟩ hKx23
 refine K2 rfl rfl rfl (A9 (Mc := M23) (R := _) (aS rfl (aS rfl (a0))) kR qP (I0 b5 vg x.g _ M23 _ hW23 (hx.g.mono qS) (by simp [G2]; omega)) rfl ?_)
 rintro v26 M26 J26 ⟨rfl, hW26⟩
 refine K2 rfl rfl rfl (A9 (Mc := M26) (R := _) (aS rfl a0) kR qP (P8 b5 _ M26 _ hW26 (by simp [G2]; omega)) rfl ?_)
 rintro v27 M27 J27 ⟨hW27, h27⟩
 haveI := h27.cel
 refine F1 hs rfl (F5 rfl) rfl ?_
 refine G7 (C7 2) (A7 ?_)
 exact ⟨_, [], [], F7 rfl rfl, qZ, rfl, h27.mono qS⟩
theorem B2P (rb : Nat) (st : Rst) (R M A : Mem) (hR : Rdr rb st R M) (hs : ∀ x, x ∈ R → x ∈ A) : FnX Tryz.prog 38 [(vP rb)] M A fun q M J => q = .agg #[.int .i64 ((rnN st 4 : Nat) : Int), .int .i64 ((rnN (rnS st 4) 4 : Nat) : Int)] ∧ Rdr rb (rnS (rnS st 4) 4) R M := by
 refine FnX.enterZ (N := 10) Tryz.func38 rfl rfl rfl fun w_ => ?_
 refine A8 (C7 0) (A1 ?_)
 refine A4 rfl (D2 (cs := [.int .i64 0, .int .i64 0]) kR rfl fun b2 => ?_)
 refine A0 (D0 0 2) (A1 (mv_ ?_))
 refine A4 rfl (A9 (Mc := M) (R := _) (aS rfl (aS rfl (a0))) kR qP (L5 rb 4 (st) R _ _ hR (fun x hx => qS _ (hs x hx)) qD) rfl ?_)
 rintro v4 M4 J4 ⟨rfl, hR4⟩
 have n4 : rnN (st) 4 < 4294967296 := hR.n4
 refine A2 (H7 (k' := .i64) (rnN st 4) rfl kR (A7X qO)) rfl ?_
 refine mv_ ?_
 refine A4 rfl (A9 (Mc := M4) (R := _) (aS rfl (aS rfl (a0))) kR qP (L5 rb 4 (rnS st 4) R _ _ hR4 (fun x hx => qS _ (hs x hx)) qD) rfl ?_)
 rintro v7 M7 J7 ⟨rfl, hR7⟩
 have n7 : rnN (rnS st 4) 4 < 4294967296 := hR4.n4
 refine A2 (H7 (k' := .i64) (rnN (rnS st 4) 4) rfl kR (A7X qO)) rfl ?_
 refine A2 (D6 (place := fun x => #[(0, 1), (1, 1)][x]?) (z := [.int .i64 0, .int .i64 0]) (fun _ => by kernel_rfl) (eS rfl (eS rfl e0)) (bdS 0 1 rfl qR (bdS 1 1 rfl qR bd0))) rfl ?_
 refine A4 rfl (B8 (vs := [.int .i64 ((rnN st 4 : Nat) : Int), .int .i64 ((rnN (rnS st 4) 4 : Nat) : Int)]) rfl rfl rfl kR qR al2 UpC.upd ?_)
 refine A0 (C7 2) (A7 ?_)
 exact ⟨_, M7, [], B0k (n := 2) rfl rfl kR At.mem qR, Fit.none (Fit.last qP), rfl, hR7⟩
theorem B1r (rb : Nat) (st : Rst) (R M A : Mem) (hR : Rdr rb st R M) (hs : ∀ x, x ∈ R → x ∈ A) : FnX Tryz.prog 81 [(vP rb)] M A fun q M J => ∃ va vg, q = .agg #[va, vg] ∧ By J va (rbN st 65536) ∧ By J vg (rbN (rh1 st) 65536) ∧ Rdr rb (rh2 st) R M := by
 refine FnX.enterZ (N := 8) Tryz.func81 rfl rfl rfl fun w_ => ?_
 refine A8 (C7 0) (A1 ?_)
 refine A4 rfl (D2 (cs := [vS, vS]) kR rfl fun b2 => ?_)
 refine A0 (D0 0 2) (A1 (mv_ ?_))
 refine A4 rfl (A9 (Mc := M) (R := _) (aS rfl (aS rfl (a0))) kR qP (L1 rb 65536 (st) R _ _ hR (fun x hx => qS _ (hs x hx)) qD) rfl ?_)
 rintro v4 M4 J4 ⟨h4, hR4⟩
 haveI := h4.cel
 refine mv_ ?_
 refine A4 rfl (A9 (Mc := M4) (R := _) (aS rfl (aS rfl (a0))) kR qP (L1 rb 65536 (rbS st 65536) R _ _ hR4 (fun x hx => qS _ (hs x hx)) qD) rfl ?_)
 rintro v6 M6 J6 ⟨h6, hR6⟩
 haveI := h6.cel
 refine A2 (D6 (place := fun x => #[(0, 1), (1, 1)][x]?) (z := [vS, vS]) (fun _ => by kernel_rfl) (eS rfl (eS rfl e0)) (bdS 0 1 rfl qR (bdS 1 1 rfl qR bd0))) rfl ?_
 refine A4 rfl (B8 (vs := [v4, v6]) rfl rfl rfl kR qR (A3 h4.one (A3 h6.one H9)) UpC.upd ?_)
 refine A0 (C7 2) (A7 ?_)
 exact ⟨_, M6, [], B0k (n := 2) rfl rfl kR At.mem qR, Fit.none (Fit.last qP), v4, v6, rfl, h4.mono qS, h6.mono qS, hR6⟩
theorem A9z (rb : Nat) (st : Rst) (R M A : Mem) (hR : Rdr rb st R M) (hs : ∀ x, x ∈ R → x ∈ A) : FnX Tryz.prog 40 [(vP rb)] M A fun q M J => q = .bool (flN st) ∧ Rdr rb (flS st) R M := by
 refine FnX.enterZ (N := 12) Tryz.func40 rfl rfl rfl fun w_ => ?_
 refine A8 (C7 0) (A1 (as_ (A0 (C7 0) (A1 (mv_ ?_)))))
 refine A4 rfl (A9 (Mc := M) (R := _) (aS rfl (aS rfl (a0))) kR qP (L5 rb 1 (st) R _ _ hR (fun x hx => qS _ (hs x hx)) qD) rfl ?_)
 rintro v5 M5 J5 ⟨rfl, hR5⟩
 refine as_ (A0 (D0 0 3) (A6 (A1 (mv_ ?_))))
 refine A2 (F3 rfl rfl rfl) rfl ?_
 refine A0 (E5 0 3 7) ?_
 refine C3 rfl ?_ ?_ <;> intro hc
 ·
  have hg : rnN st 1 > 1 := by have := of_decide_eq_true hc; omega
  refine A1 (mv_ ?_)
  refine A4 rfl (A9 (Mc := M5) (R := _) (aS rfl (a0)) kR qP (T7 rb (rnS st 1) R M5 _ hR5) rfl ?_)
  rintro v9 M9 J9 hR9
  refine A0 kn (A1 (as_ (A0 (C7 2) (A7 (tr ?_)))))
  exact ⟨_, M9, [], F7 rfl rfl, Fit.none (Fit.last qP), by unfold flN; rw [if_pos hg], by unfold flS; rw [if_pos hg]; exact hR9⟩
 ·
  have hg : ¬ rnN st 1 > 1 := by have := of_decide_eq_false hc; omega
  refine A5 (nx (C7 3) (A1 (mv_ ?_)))
  refine A2 (F3 rfl rfl rfl) rfl ?_
  refine as_ (A0 (C7 2) (A7 ?_))
  exact ⟨_, M5, [], F7 rfl rfl, Fit.none (Fit.last qP), by unfold flN; rw [if_neg hg]; exact congrArg Value.bool (by rw [Bool.eq_iff_iff]; simp; omega), by unfold flS; rw [if_neg hg]; exact hR5⟩
theorem B1s (rb : Nat) (st : Rst) (R M A : Mem) (hR : Rdr rb st R M) (hs : ∀ x, x ∈ R → x ∈ A) : FnX Tryz.prog 41 [(vP rb)] M A fun q M J => ∃ p r u, q = .agg (heC p r u (rhH st)).toArray ∧ HeR J (rhH st) p r u ∧ Rdr rb (rhS st) R M := by
 refine FnX.enterZ (N := 21) Tryz.func41 rfl rfl rfl fun w_ => ?_
 refine A8 (C7 0) (A1 ?_)
 refine A4 rfl (D2 (cs := [vS, vS, vS, .int .u32 0, .bool false, .int .u32 0]) kR rfl fun b2 => ?_)
 refine A0 (D0 0 2) (A1 (mv_ ?_))
 refine A4 rfl (A9 (Mc := M) (R := _) (aS rfl (a0)) kR qP (B1r rb st R M _ hR (fun x hx => qS _ (hs x hx))) rfl ?_)
 rintro v5 M5 J5 ⟨va, vg, rfl, ha, hg, hR5⟩
 haveI := ha.cel
 haveI := hg.cel
 refine mv_ ?_
 refine A4 rfl (A9 (Mc := M5) (R := _) (aS rfl (aS rfl (a0))) kR qP (L1 rb 65536 (rh2 st) R _ _ hR5 (fun x hx => qS _ (hs x hx)) qD) rfl ?_)
 rintro v7 M7 J7 ⟨h7, hR7⟩
 haveI := h7.cel
 refine mv_ ?_
 refine A4 rfl (A9 (Mc := M7) (R := _) (aS rfl (aS rfl (a0))) kR qP (L5 rb 4 (rh3 st) R _ _ hR7 (fun x hx => qS _ (hs x hx)) qD) rfl ?_)
 rintro v9 M9 J9 ⟨rfl, hR9⟩
 have n9 : rnN (rh3 st) 4 < 4294967296 := hR7.n4
 refine A2 (H7 (k' := .u32) (rnN (rh3 st) 4) rfl kR (A0M qO)) rfl ?_
 refine mv_ ?_
 refine A4 rfl (A9 (Mc := M9) (R := _) (aS rfl (a0)) kR qP (A9z rb (rh4 st) R M9 _ hR9 (fun x hx => qS _ (hs x hx))) rfl ?_)
 rintro v12 M12 J12 ⟨rfl, hR12⟩
 refine A2 (D6 (place := fun x => #[(0, 2), (2, 1), (3, 1), (4, 1), (5, 1)][x]?) (z := [vS, vS, vS, .int .u32 0, .bool false, .int .u32 0]) (fun _ => by kernel_rfl) (eS rfl (eS rfl (eS rfl (eS rfl e0)))) (bdS 0 2 rfl qR (bdS 2 1 rfl qR (bdS 3 1 rfl qR (bdS 4 1 rfl qR bd0))))) rfl ?_
 refine A4 rfl (D2 (cs := [vS, vS, vS, .int .u32 0, .bool false, .int .u32 0]) kR rfl fun b3 => ?_)
 refine A4 rfl (B8 (vs := [va, vg, v7, .int .u32 ((rnN (rh3 st) 4 : Nat) : Int), .bool (flN (rh4 st)), .int .u32 0]) rfl rfl rfl kR qR (A3 ha.one (A3 hg.one (A3 h7.one al3))) UpC.upd ?_)
 refine A0 (E5 0 2 3) (A6 (A1 ?_))
 refine A2 (qf_ 4 4) rfl ?_
 refine A2 ql_ rfl ?_
 refine A0 (F4 0 2 3 15) ?_
 refine C3 rfl ?_ ?_ <;> intro hc
 ·
  have hf : flN (rh4 st) = true := hc
  refine C6 (mv_ ?_)
  refine A4 rfl (A9 (Mc := M12) (R := _) (aS rfl (aS rfl (a0))) kR qP (L5 rb 4 (rh5 st) R _ _ hR12 (fun x hx => qS _ (hs x hx)) qD) rfl ?_)
  rintro v17 M17 J17 ⟨rfl, hR17⟩
  have n17 : rnN (rh5 st) 4 < 4294967296 := hR12.n4
  refine A2 (H7 (k' := .u32) (rnN (rh5 st) 4) rfl kR (A0M qO)) rfl ?_
  refine A2 (qf_ 5 5) rfl ?_
  refine A4 rfl (F8 rfl rfl rfl kR SetC.set UpC.upd ?_)
  refine A0 (D0 2 3) (A1 ?_)
  refine A2 (A0z (n := 6) (cs := [va, vg, v7, .int .u32 ((rnN (rh3 st) 4 : Nat) : Int), .bool (flN (rh4 st)), .int .u32 ((rnN (rh5 st) 4 : Nat) : Int)]) rfl kR At.mem qR) rfl ?_
  refine A4 rfl (B8 (vs := [va, vg, v7, .int .u32 ((rnN (rh3 st) 4 : Nat) : Int), .bool (flN (rh4 st)), .int .u32 ((rnN (rh5 st) 4 : Nat) : Int)]) rfl rfl rfl kR qR (A3 ha.one (A3 hg.one (A3 h7.one al3))) UpC.upd ?_)
  refine A0 (C7 2) (A7 ?_)
  exact ⟨_, M17, [], B0k (n := 6) rfl rfl kR At.mem qR, Fit.none (Fit.last qP), va, vg, v7, by unfold heC rhH; rw [hf]; rfl, by unfold rhH; rw [hf]; exact ⟨ha.mono qS, (hg.mono qS).i, h7.mono qS, n9, n17⟩, by unfold rhS; rw [if_pos hf]; exact hR17⟩
 ·
  have hf : flN (rh4 st) = false := hc
  refine A5 (nx (D0 2 3) (A1 ?_))
  refine A2 (A0z (n := 6) (cs := [va, vg, v7, .int .u32 ((rnN (rh3 st) 4 : Nat) : Int), .bool (flN (rh4 st)), .int .u32 0]) rfl kR At.mem qR) rfl ?_
  refine A4 rfl (B8 (vs := [va, vg, v7, .int .u32 ((rnN (rh3 st) 4 : Nat) : Int), .bool (flN (rh4 st)), .int .u32 0]) rfl rfl rfl kR qR (A3 ha.one (A3 hg.one (A3 h7.one al3))) UpC.upd ?_)
  refine A0 (C7 2) (A7 ?_)
  exact ⟨_, M12, [], B0k (n := 6) rfl rfl kR At.mem qR, Fit.none (Fit.last qP), va, vg, v7, by unfold heC rhH; rw [hf]; rfl, by unfold rhH; rw [hf]; exact ⟨ha.mono qS, (hg.mono qS).i, h7.mono qS, n9, (show 0 < 4294967296 by decide)⟩, by unfold rhS; rw [if_neg (by rw [hf]; decide)]; exact hR12⟩
set_option maxHeartbeats 1000000 in
theorem B2Q (v : Value) (p : LN) (A : Mem) (hv : By A v p) : FnX Tryz.prog 11 [v] [] A fun q M J => M = [] ∧ ∃ ev, q = .tuple #[ev, .int .i64 (if dcO p then 0 else 4)] ∧ EvV J ev (if dcO p then dcE p else ev0) := by
 haveI := hv.cel
 refine FnX.enterZ (N := 40) Tryz.func11 rfl rfl rfl fun w_ => ?_
 refine A8 (C7 0) (A1 ?_)
 refine A4 rfl (D2 (cs := [G8, G8, G8, G8, vS, .bool false, vS, vS, vS, E4, .bool false, E4, vS, E4, E4, vS]) kR rfl fun b2 => ?_)
 refine as_ (A0 (D0 0 2) (A1 (mv_ ?_)))
 refine E0 (aS rfl a0) kR (A3k v p A _ hv) rfl ?_
 rintro v7 M7 J7 ⟨rb, rfl, hR7⟩
 refine as_ (A0 (D0 2 4) (A1 (mv_ ?_)))
 refine A4 rfl (A9 (Mc := M7) (R := _) (aS rfl (a0)) kR qP (B2P rb (p, false) A M7 _ hR7 (fun x hx => qS _ hx)) rfl ?_)
 rintro v9 M9 J9 ⟨rfl, hR9⟩
 change Rdr rb (dc2 p) A M9 at hR9
 refine mv_ ?_
 refine A4 rfl (A9 (Mc := M9) (R := _) (aS rfl (a0)) kR qP (B2P rb (dc2 p) A M9 _ hR9 (fun x hx => qS _ hx)) rfl ?_)
 rintro v11 M11 J11 ⟨rfl, hR11⟩
 change Rdr rb (dc4 p) A M11 at hR11
 refine mv_ ?_
 refine A4 rfl (A9 (Mc := M11) (R := _) (aS rfl (aS rfl (a0))) kR qP (L1 rb 65536 (dc4 p) A _ _ hR11 (fun x hx => qS _ hx) qD) rfl ?_)
 rintro v13 M13 J13 ⟨h13, hR13⟩
 haveI := h13.cel
 refine mv_ ?_
 refine A4 rfl (A9 (Mc := M13) (R := _) (aS rfl (a0)) kR qP (A9z rb (dc5 p) A M13 _ hR13 (fun x hx => qS _ hx)) rfl ?_)
 rintro v15 M15 J15 ⟨rfl, hR15⟩
 change Rdr rb (dc6 p) A M15 at hR15
 refine A2 (D6 (place := fun x => #[(0, 2), (2, 2), (4, 1), (5, 1), (6, 6), (12, 3), (15, 1)][x]?) (z := [G8, G8, G8, G8, vS, .bool false, vS, vS, vS, E4, .bool false, E4, vS, E4, E4, vS]) (fun _ => by kernel_rfl) (eS rfl (eS rfl (eS rfl (eS rfl e0)))) (bdS 0 2 rfl qR (bdS 2 2 rfl qR (bdS 4 1 rfl qR (bdS 5 1 rfl qR bd0))))) rfl ?_
 refine A4 rfl (D2 (cs := [G8, G8, G8, G8, vS, .bool false, vS, vS, vS, E4, .bool false, E4, vS, E4, E4, vS]) kR rfl fun b5 => ?_)
 refine A4 rfl (B8 (vs := [.int .i64 ((rnN ((p, false)) 4 : Nat) : Int), .int .i64 ((rnN (dc1 p) 4 : Nat) : Int), .int .i64 ((rnN (dc2 p) 4 : Nat) : Int), .int .i64 ((rnN (dc3 p) 4 : Nat) : Int), v13, .bool (flN (dc5 p)), vS, vS, vS, .int .u32 0, .bool false, .int .u32 0, vS, .int .u32 0, .int .u32 0, vS]) rfl rfl rfl kR qR (A3 rfl (A3 rfl (A3 rfl (A3 rfl (A3 h13.one (A3 rfl al10)))))) UpC.upd ?_)
 refine A0 (E5 2 4 5) (A6 (A1 ?_))
 refine A2 (qf_ 5 5) rfl ?_
 refine A2 ql_ rfl ?_
 refine A0 (F4 2 4 5 18) ?_
 refine C3 rfl ?_ ?_ <;> intro hc
 ·
  have hf : flN (dc5 p) = true := hc
  refine C6 (mv_ ?_)
  refine A4 rfl (A9 (Mc := M15) (R := _) (aS rfl (a0)) kR qP (B1s rb (dc6 p) A M15 _ hR15 (fun x hx => qS _ hx)) rfl ?_)
  rintro v20 M20 J20 ⟨va, vb_, vc, rfl, hh, hR20⟩
  have hR20 : Rdr rb (dc7 p) A M20 := by unfold dc7; rw [if_pos hf]; exact hR20
  haveI := hh.ia.cel
  haveI := hh.ig.cel
  haveI := hh.key.cel
  unfold heC
  refine A2 (qf_ 6 6) rfl ?_
  refine A4 rfl (K9 (vs := [va, vb_, vc, .int .u32 (((rhH (dc6 p)).signed : Nat) : Int), .bool (rhH (dc6 p)).has, .int .u32 (((rhH (dc6 p)).once : Nat) : Int)]) (cs' := [.int .i64 ((rnN ((p, false)) 4 : Nat) : Int), .int .i64 ((rnN (dc1 p) 4 : Nat) : Int), .int .i64 ((rnN (dc2 p) 4 : Nat) : Int), .int .i64 ((rnN (dc3 p) 4 : Nat) : Int), v13, .bool (flN (dc5 p)), va, vb_, vc, .int .u32 (((rhH (dc6 p)).signed : Nat) : Int), .bool (rhH (dc6 p)).has, .int .u32 (((rhH (dc6 p)).once : Nat) : Int), vS, .int .u32 0, .int .u32 0, vS]) rfl rfl rfl kR (by exact (show 6 + 6 ≤ 16 by decide)) (A3 hh.ia.one (A3 hh.ig.one (A3 hh.key.one al3))) rfl UpC.upd ?_)
  refine A0 (E5 2 4 5) (A1 (mv_ ?_))
  refine A4 rfl (A9 (Mc := M20) (R := _) (aS rfl (aS rfl (a0))) kR qP (L1 rb 65536 (dc7 p) A _ _ hR20 (fun x hx => qS _ hx) qD) rfl ?_)
  rintro v23 M23 J23 ⟨h23, hR23⟩
  haveI := h23.cel
  refine mv_ ?_
  refine A4 rfl (A9 (Mc := M23) (R := _) (aS rfl (aS rfl (a0))) kR qP (L5 rb 4 (dc8 p) A _ _ hR23 (fun x hx => qS _ hx) qD) rfl ?_)
  rintro v25 M25 J25 ⟨rfl, hR25⟩
  have n25 : rnN (dc8 p) 4 < 4294967296 := hR23.n4
  refine A2 (H7 (k' := .u32) (rnN (dc8 p) 4) rfl kR (A0M qO)) rfl ?_
  refine mv_ ?_
  refine A4 rfl (A9 (Mc := M25) (R := _) (aS rfl (aS rfl (a0))) kR qP (L5 rb 4 (dc9 p) A _ _ hR25 (fun x hx => qS _ hx) qD) rfl ?_)
  rintro v28 M28 J28 ⟨rfl, hR28⟩
  have n28 : rnN (dc9 p) 4 < 4294967296 := hR25.n4
  refine A2 (H7 (k' := .u32) (rnN (dc9 p) 4) rfl kR (A0M qO)) rfl ?_
  refine A2 (D6 (place := fun x => #[(0, 1), (1, 1), (2, 1)][x]?) (z := [vS, .int .u32 0, .int .u32 0]) (fun _ => by kernel_rfl) (eS rfl (eS rfl (eS rfl e0))) (bdS 0 1 rfl qR (bdS 1 1 rfl qR (bdS 2 1 rfl qR bd0)))) rfl ?_
  refine A2 (qf_ 12 12) rfl ?_
  refine A4 rfl (K9 (vs := [v23, .int .u32 ((rnN (dc8 p) 4 : Nat) : Int), .int .u32 ((rnN (dc9 p) 4 : Nat) : Int)]) (cs' := [.int .i64 ((rnN ((p, false)) 4 : Nat) : Int), .int .i64 ((rnN (dc1 p) 4 : Nat) : Int), .int .i64 ((rnN (dc2 p) 4 : Nat) : Int), .int .i64 ((rnN (dc3 p) 4 : Nat) : Int), v13, .bool (flN (dc5 p)), va, vb_, vc, .int .u32 (((rhH (dc6 p)).signed : Nat) : Int), .bool (rhH (dc6 p)).has, .int .u32 (((rhH (dc6 p)).once : Nat) : Int), v23, .int .u32 ((rnN (dc8 p) 4 : Nat) : Int), .int .u32 ((rnN (dc9 p) 4 : Nat) : Int), vS]) rfl rfl rfl kR (by exact (show 12 + 3 ≤ 16 by decide)) (A3 h23.one al2) rfl UpC.upd ?_)
  refine A0 (E5 2 4 5) (A1 (mv_ ?_))
  refine A4 rfl (A9 (Mc := M28) (R := _) (aS rfl (aS rfl (a0))) kR qP (L1 rb 65536 (dcA p) A _ _ hR28 (fun x hx => qS _ hx) qD) rfl ?_)
  rintro v33 M33 J33 ⟨h33, hR33⟩
  haveI := h33.cel
  refine A2 (qf_ 15 15) rfl ?_
  refine A4 rfl (F8 rfl rfl h33.one kR SetC.set UpC.upd ?_)
  refine A0 (E5 2 4 5) (A6 (A1 (mv_ ?_)))
  refine D7 (aS rfl a0) kR (A2B rb (dcB p) A _ (hR33.rd qS)) rfl ?_
  refine A2 (L6 rfl) rfl ?_
  refine A0 (E5 2 5 37) ?_
  refine C3 rfl ?_ ?_ <;> intro hc
  ·
   have ho : dcO p = false := (show A6E (dcB p) = false by simpa using hc)
   refine A1 ?_
   refine A2 (D6 (place := fun x => #[(0, 2), (2, 2), (4, 1), (5, 1), (6, 6), (12, 3), (15, 1)][x]?) (z := [G8, G8, G8, G8, vS, .bool false, vS, vS, vS, E4, .bool false, E4, vS, E4, E4, vS]) (fun _ => by kernel_rfl) e0 bd0) rfl ?_
   refine A4 rfl (B8 (vs := [.int .i64 0, .int .i64 0, .int .i64 0, .int .i64 0, vS, .bool false, vS, vS, vS, .int .u32 0, .bool false, .int .u32 0, vS, .int .u32 0, .int .u32 0, vS]) rfl rfl rfl kR qR B3o UpC.upd ?_)
   refine as_ (A0 (D0 2 3) (A7 (tr ?_)))
   exact ⟨_, [], [], W0 (n := 16) rfl rfl rfl kR At.mem qR, qZ, rfl, _, by rw [ho]; rfl, by rw [ho]; exact ⟨_, _, _, _, _, _, rfl, By.nil, ⟨By.nil, By.nil.i, By.nil, (show 0 < 4294967296 by decide), (show 0 < 4294967296 by decide)⟩, (show 0 ≤ 1000000 by decide), By.nil, By.nil, (show 0 < 4294967296 by decide), (show 0 < 4294967296 by decide)⟩⟩
  ·
   have ho : dcO p = true := (show A6E (dcB p) = true by simpa using hc)
   refine A5 (nx (D0 2 5) (A1 ?_))
   refine A2 (A0z (n := 16) (cs := [.int .i64 ((rnN ((p, false)) 4 : Nat) : Int), .int .i64 ((rnN (dc1 p) 4 : Nat) : Int), .int .i64 ((rnN (dc2 p) 4 : Nat) : Int), .int .i64 ((rnN (dc3 p) 4 : Nat) : Int), v13, .bool (flN (dc5 p)), va, vb_, vc, .int .u32 (((rhH (dc6 p)).signed : Nat) : Int), .bool (rhH (dc6 p)).has, .int .u32 (((rhH (dc6 p)).once : Nat) : Int), v23, .int .u32 ((rnN (dc8 p) 4 : Nat) : Int), .int .u32 ((rnN (dc9 p) 4 : Nat) : Int), v33]) rfl kR At.mem qR) rfl ?_
   refine A4 rfl (B8 (vs := [.int .i64 ((rnN ((p, false)) 4 : Nat) : Int), .int .i64 ((rnN (dc1 p) 4 : Nat) : Int), .int .i64 ((rnN (dc2 p) 4 : Nat) : Int), .int .i64 ((rnN (dc3 p) 4 : Nat) : Int), v13, .bool (flN (dc5 p)), va, vb_, vc, .int .u32 (((rhH (dc6 p)).signed : Nat) : Int), .bool (rhH (dc6 p)).has, .int .u32 (((rhH (dc6 p)).once : Nat) : Int), v23, .int .u32 ((rnN (dc8 p) 4 : Nat) : Int), .int .u32 ((rnN (dc9 p) 4 : Nat) : Int), v33]) rfl rfl rfl kR qR (A3 rfl (A3 rfl (A3 rfl (A3 rfl (A3 h13.one (A3 rfl (A3 hh.ia.one (A3 hh.ig.one (A3 hh.key.one (A3 rfl (A3 rfl (A3 rfl (A3 h23.one (A3 rfl (A3 rfl (A3 h33.one H9)))))))))))))))) UpC.upd ?_)
   refine as_ (A0 (D0 2 3) (A7 ?_))
   refine ⟨_, [], [], W0 (n := 16) rfl rfl rfl kR At.mem qR, qZ, rfl, _, by rw [ho]; rfl, ?_⟩
   rw [ho]
   refine ⟨v13, va, vb_, vc, v23, v33, by unfold evC dcE; rw [hf]; rfl, h13.mono qS, by unfold dcE; rw [hf]; exact hh.mono qS, ?_, h23.mono qS, h33.mono qS, n25, n28⟩
   unfold dcE; rw [hf]; exact Nat.le_trans (B8q _ _) qD
 ·
  have hf : flN (dc5 p) = false := hc
  have hR20 : Rdr rb (dc7 p) A M15 := by unfold dc7; rw [if_neg (by rw [hf]; decide)]; exact hR15
  refine A5 (nx (E5 2 4 5) (A1 (mv_ ?_)))
  refine A4 rfl (A9 (Mc := M15) (R := _) (aS rfl (aS rfl (a0))) kR qP (L1 rb 65536 (dc7 p) A _ _ hR20 (fun x hx => qS _ hx) qD) rfl ?_)
  rintro v23 M23 J23 ⟨h23, hR23⟩
  haveI := h23.cel
  refine mv_ ?_
  refine A4 rfl (A9 (Mc := M23) (R := _) (aS rfl (aS rfl (a0))) kR qP (L5 rb 4 (dc8 p) A _ _ hR23 (fun x hx => qS _ hx) qD) rfl ?_)
  rintro v25 M25 J25 ⟨rfl, hR25⟩
  have n25 : rnN (dc8 p) 4 < 4294967296 := hR23.n4
  refine A2 (H7 (k' := .u32) (rnN (dc8 p) 4) rfl kR (A0M qO)) rfl ?_
  refine mv_ ?_
  refine A4 rfl (A9 (Mc := M25) (R := _) (aS rfl (aS rfl (a0))) kR qP (L5 rb 4 (dc9 p) A _ _ hR25 (fun x hx => qS _ hx) qD) rfl ?_)
  rintro v28 M28 J28 ⟨rfl, hR28⟩
  have n28 : rnN (dc9 p) 4 < 4294967296 := hR25.n4
  refine A2 (H7 (k' := .u32) (rnN (dc9 p) 4) rfl kR (A0M qO)) rfl ?_
  refine A2 (D6 (place := fun x => #[(0, 1), (1, 1), (2, 1)][x]?) (z := [vS, .int .u32 0, .int .u32 0]) (fun _ => by kernel_rfl) (eS rfl (eS rfl (eS rfl e0))) (bdS 0 1 rfl qR (bdS 1 1 rfl qR (bdS 2 1 rfl qR bd0)))) rfl ?_
  refine A2 (qf_ 12 12) rfl ?_
  refine A4 rfl (K9 (vs := [v23, .int .u32 ((rnN (dc8 p) 4 : Nat) : Int), .int .u32 ((rnN (dc9 p) 4 : Nat) : Int)]) (cs' := [.int .i64 ((rnN ((p, false)) 4 : Nat) : Int), .int .i64 ((rnN (dc1 p) 4 : Nat) : Int), .int .i64 ((rnN (dc2 p) 4 : Nat) : Int), .int .i64 ((rnN (dc3 p) 4 : Nat) : Int), v13, .bool (flN (dc5 p)), vS, vS, vS, .int .u32 0, .bool false, .int .u32 0, v23, .int .u32 ((rnN (dc8 p) 4 : Nat) : Int), .int .u32 ((rnN (dc9 p) 4 : Nat) : Int), vS]) rfl rfl rfl kR (by exact (show 12 + 3 ≤ 16 by decide)) (A3 h23.one al2) rfl UpC.upd ?_)
  refine A0 (E5 2 4 5) (A1 (mv_ ?_))
  refine A4 rfl (A9 (Mc := M28) (R := _) (aS rfl (aS rfl (a0))) kR qP (L1 rb 65536 (dcA p) A _ _ hR28 (fun x hx => qS _ hx) qD) rfl ?_)
  rintro v33 M33 J33 ⟨h33, hR33⟩
  haveI := h33.cel
  refine A2 (qf_ 15 15) rfl ?_
  refine A4 rfl (F8 rfl rfl h33.one kR SetC.set UpC.upd ?_)
  refine A0 (E5 2 4 5) (A6 (A1 (mv_ ?_)))
  refine D7 (aS rfl a0) kR (A2B rb (dcB p) A _ (hR33.rd qS)) rfl ?_
  refine A2 (L6 rfl) rfl ?_
  refine A0 (E5 2 5 37) ?_
  refine C3 rfl ?_ ?_ <;> intro hc
  ·
   have ho : dcO p = false := (show A6E (dcB p) = false by simpa using hc)
   refine A1 ?_
   refine A2 (D6 (place := fun x => #[(0, 2), (2, 2), (4, 1), (5, 1), (6, 6), (12, 3), (15, 1)][x]?) (z := [G8, G8, G8, G8, vS, .bool false, vS, vS, vS, E4, .bool false, E4, vS, E4, E4, vS]) (fun _ => by kernel_rfl) e0 bd0) rfl ?_
   refine A4 rfl (B8 (vs := [.int .i64 0, .int .i64 0, .int .i64 0, .int .i64 0, vS, .bool false, vS, vS, vS, .int .u32 0, .bool false, .int .u32 0, vS, .int .u32 0, .int .u32 0, vS]) rfl rfl rfl kR qR B3o UpC.upd ?_)
   refine as_ (A0 (D0 2 3) (A7 (tr ?_)))
   exact ⟨_, [], [], W0 (n := 16) rfl rfl rfl kR At.mem qR, qZ, rfl, _, by rw [ho]; rfl, by rw [ho]; exact ⟨_, _, _, _, _, _, rfl, By.nil, ⟨By.nil, By.nil.i, By.nil, (show 0 < 4294967296 by decide), (show 0 < 4294967296 by decide)⟩, (show 0 ≤ 1000000 by decide), By.nil, By.nil, (show 0 < 4294967296 by decide), (show 0 < 4294967296 by decide)⟩⟩
  ·
   have ho : dcO p = true := (show A6E (dcB p) = true by simpa using hc)
   refine A5 (nx (D0 2 5) (A1 ?_))
   refine A2 (A0z (n := 16) (cs := [.int .i64 ((rnN ((p, false)) 4 : Nat) : Int), .int .i64 ((rnN (dc1 p) 4 : Nat) : Int), .int .i64 ((rnN (dc2 p) 4 : Nat) : Int), .int .i64 ((rnN (dc3 p) 4 : Nat) : Int), v13, .bool (flN (dc5 p)), vS, vS, vS, .int .u32 0, .bool false, .int .u32 0, v23, .int .u32 ((rnN (dc8 p) 4 : Nat) : Int), .int .u32 ((rnN (dc9 p) 4 : Nat) : Int), v33]) rfl kR At.mem qR) rfl ?_
   refine A4 rfl (B8 (vs := [.int .i64 ((rnN ((p, false)) 4 : Nat) : Int), .int .i64 ((rnN (dc1 p) 4 : Nat) : Int), .int .i64 ((rnN (dc2 p) 4 : Nat) : Int), .int .i64 ((rnN (dc3 p) 4 : Nat) : Int), v13, .bool (flN (dc5 p)), vS, vS, vS, .int .u32 0, .bool false, .int .u32 0, v23, .int .u32 ((rnN (dc8 p) 4 : Nat) : Int), .int .u32 ((rnN (dc9 p) 4 : Nat) : Int), v33]) rfl rfl rfl kR qR (A3 rfl (A3 rfl (A3 rfl (A3 rfl (A3 h13.one (A3 rfl (A3 rfl (A3 rfl (A3 rfl (A3 rfl (A3 rfl (A3 rfl (A3 h23.one (A3 rfl (A3 rfl (A3 h33.one H9)))))))))))))))) UpC.upd ?_)
   refine as_ (A0 (D0 2 3) (A7 ?_))
   refine ⟨_, [], [], W0 (n := 16) rfl rfl rfl kR At.mem qR, qZ, rfl, _, by rw [ho]; rfl, ?_⟩
   rw [ho]
   exact ⟨v13, _, _, _, v23, v33, by unfold evC dcE; rw [hf]; rfl, h13.mono qS, by unfold dcE; rw [hf]; exact ⟨By.nil, By.nil.i, By.nil, (show 0 < 4294967296 by decide), (show 0 < 4294967296 by decide)⟩, by unfold dcE; rw [hf]; exact Nat.zero_le _, h23.mono qS, h33.mono qS, n25, n28⟩

def kat (h : List Bool) (i : Nat) : Bool := h.getD i false
def isK (h : List Bool) (i : Int) : Bool := decide (0 ≤ i) && kat h i.toNat
def B1t (ts : List Tm) (h : List Bool) (i : Int) : Bool := (match pos ts (A4l i) with
  | some j => kat h j
  | none => false) || isK h i
def mkK (k : Nat) : Bool := k == 2 || k == 3 || k == 5 || k == 6 || k == 7
def A1y (ts : List Tm) (h : List Bool) (t : Tm) : Bool :=
  if mkK t.kind then t.of.all (isK h)
  else if t.kind = 4 then (if t.n = 0 ∧ t.of.length = 2 then (isK h (t.of.getD 0 0) && B1t ts h (t.of.getD 1 0)) || (isK h (t.of.getD 1 0) && B1t ts h (t.of.getD 0 0)) else t.of.all (isK h))
  else false
def A0N (ts : List Tm) (h : List Bool) (i : Nat) : Bool := match ts[i]? with
  | none => false
  | some t => A1y ts h t
def Le (h h' : List Bool) : Prop := ∀ i, kat h i = true → kat h' i = true
theorem Le.refl (h : List Bool) : Le h h := fun _ h => h
theorem Le.trans {a b c : List Bool} (h1 : Le a b) (h2 : Le b c) : Le a c := fun i h => h2 i (h1 i h)
theorem A07 {h h' : List Bool} (hl : Le h h') {i : Int} (hi : isK h i = true) : isK h' i = true := by
  unfold isK at *
  rw [Bool.and_eq_true] at *
  exact ⟨hi.1, hl _ hi.2⟩
theorem A47 {ts : List Tm} {h h' : List Bool} (hl : Le h h') {i : Int} (hi : B1t ts h i = true) : B1t ts h' i = true := by
  unfold B1t at *
  rw [Bool.or_eq_true] at *
  rcases hi with h1 | h1
  · left
    cases hp : pos ts (A4l i) with
    | none => rw [hp] at h1; cases h1
    | some j => rw [hp] at h1; exact hl _ h1
  · exact .inr (A07 hl h1)
theorem A6G {h h' : List Bool} (hl : Le h h') {l : List Int} (hi : l.all (isK h) = true) : l.all (isK h') = true := by
  rw [List.all_eq_true] at *
  exact fun x hx => A07 hl (hi x hx)
theorem A7t {ts : List Tm} {h h' : List Bool} (hl : Le h h') {t : Tm} (hi : A1y ts h t = true) : A1y ts h' t = true := by
  unfold A1y at *
  split at hi
  · rename_i hk; rw [if_pos hk]; exact A6G hl hi
  · rename_i hk
    rw [if_neg hk]
    split at hi
    · rename_i h4
      rw [if_pos h4]
      split at hi
      · rename_i h0
        rw [if_pos h0]
        simp only [Bool.or_eq_true, Bool.and_eq_true] at *
        rcases hi with ⟨a, b⟩ | ⟨a, b⟩
        · exact .inl ⟨A07 hl a, A47 hl b⟩
        · exact .inr ⟨A07 hl a, A47 hl b⟩
      · rename_i h0; rw [if_neg h0]; exact A6G hl hi
    · cases hi
theorem A3l {ts : List Tm} {h h' : List Bool} (hl : Le h h') {i : Nat} (hi : A0N ts h i = true) : A0N ts h' i = true := by
  unfold A0N at *
  cases ht : ts[i]? with
  | none => rw [ht] at hi; cases hi
  | some t => rw [ht] at hi; exact A7t hl hi
def Cld (ts : List Tm) (h : List Bool) : Prop := ∀ i, A0N ts h i = true → kat h i = true
structure Clo (ts : List Tm) (h0 h : List Bool) : Prop where
  len : h.length = ts.length
  sup : Le h0 h
  cld : Cld ts h
  lst : ∀ h', Le h0 h' → Cld ts h' → Le h h'
theorem B4A {h h' : List Bool} (hl : h.length = h'.length) (h1 : Le h h') (h2 : Le h' h) : h = h' := by
  apply List.ext_getElem hl
  intro i a b
  have e1 : kat h i = h[i] := by unfold kat; rw [List.getD_eq_getElem?_getD, List.getElem?_eq_getElem a]; rfl
  have e2 : kat h' i = h'[i] := by unfold kat; rw [List.getD_eq_getElem?_getD, List.getElem?_eq_getElem b]; rfl
  have p1 := h1 i
  have p2 := h2 i
  rw [e1, e2] at p1 p2
  rw [Bool.eq_iff_iff]
  exact ⟨p1, p2⟩
theorem A36 {h : List Bool} {i j : Nat} (hi : i < h.length) : kat (h.set i true) j = (kat h j || decide (i = j)) := by
  unfold kat
  rw [List.getD_eq_getElem?_getD, List.getD_eq_getElem?_getD, List.getElem?_set]
  by_cases e : i = j
  · subst e; simp [hi]
  · simp [e]
theorem B6G {h : List Bool} {i : Nat} : Le h (h.set i true) := fun j hj => by
  unfold kat at *
  rw [List.getD_eq_getElem?_getD] at *
  rw [List.getElem?_set]
  by_cases e : i = j
  · subst e
    have : i < h.length := by
      rcases Nat.lt_or_ge i h.length with h1 | h1
      · exact h1
      · rw [List.getElem?_eq_none h1] at hj; cases hj
    simp [this]
  · simp [e]; simpa using hj
def stF (ts : List Tm) (h : List Bool) (i : Nat) : List Bool := if !kat h i && A0N ts h i then h.set i true else h
theorem B4B (ts : List Tm) (h : List Bool) (i : Nat) : (stF ts h i).length = h.length := by unfold stF; split <;> simp
theorem B2R (ts : List Tm) (h : List Bool) (i : Nat) : Le h (stF ts h i) := by
  unfold stF; split
  · exact B6G
  · exact Le.refl h
theorem A9A {ts : List Tm} {h h' : List Bool} (hl : Le h h') (hc : Cld ts h') (i : Nat) : Le (stF ts h i) h' := by
  unfold stF
  split
  · rename_i hm
    rw [Bool.and_eq_true] at hm
    intro j hj
    by_cases e : i = j
    · subst e; exact hc i (A3l hl hm.2)
    · refine hl j ?_
      unfold kat at *
      rw [List.getD_eq_getElem?_getD] at *
      rwa [List.getElem?_set_ne e] at hj
  · exact hl
def psN (ts : List Tm) (h : List Bool) (n : Nat) : List Bool := (List.range n).foldl (stF ts) h
theorem Y0 (ts : List Tm) (h : List Bool) (n : Nat) : psN ts h (n + 1) = stF ts (psN ts h n) n := K7 n
theorem A0c (ts : List Tm) (h : List Bool) (n : Nat) : (psN ts h n).length = h.length := by
  induction n with
  | zero => rfl
  | succ n ih => rw [Y0, B4B, ih]
theorem A6H (ts : List Tm) (h : List Bool) (n : Nat) : Le h (psN ts h n) := by
  induction n with
  | zero => exact Le.refl h
  | succ n ih => rw [Y0]; exact ih.trans (B2R _ _ _)
theorem A9B {ts : List Tm} {h h' : List Bool} (hl : Le h h') (hc : Cld ts h') (n : Nat) : Le (psN ts h n) h' := by
  induction n with
  | zero => exact hl
  | succ n ih => rw [Y0]; exact A9A ih hc n
theorem B4C {ts : List Tm} {h : List Bool} (n : Nat) (he : psN ts h n = h) : ∀ i, i < n → i < h.length → A0N ts h i = true → kat h i = true := by
  induction n with
  | zero => intro i hi; omega
  | succ n ih =>
    have h1 := A6H ts h n
    have h2 : Le (psN ts h n) h := by
      have := B2R ts (psN ts h n) n
      rw [← Y0, he] at this
      exact this
    have e : psN ts h n = h := B4A (A0c ts h n) h2 h1
    intro i hi hl hm
    by_cases hin : i < n
    · exact ih e i hin hl hm
    · obtain rfl : i = n := by omega
      rw [Y0, e] at he
      cases hk : kat h i with
      | true => rfl
      | false =>
        have e2 : stF ts h i = h.set i true := by unfold stF; rw [hk, hm]; rfl
        rw [e2] at he
        have := A36 (h := h) (j := i) hl
        rw [he, hk] at this
        simp at this
theorem Cld.of {ts : List Tm} {h : List Bool} (hl : h.length = ts.length) (he : psN ts h ts.length = h) : Cld ts h := fun i hm => by
  have hi : i < ts.length := by
    rcases Nat.lt_or_ge i ts.length with h1 | h1
    · exact h1
    · unfold A0N at hm; rw [List.getElem?_eq_none h1] at hm; cases hm
  exact B4C _ he i hi qO hm
def rds_ (ts : List Tm) (h : List Bool) : Nat → List Bool
  | 0 => h
  | n + 1 => psN ts (rds_ ts h n) ts.length
def cnt (h : List Bool) : Nat := h.countP id
theorem B6H {h h' : List Bool} (hl : h.length = h'.length) (hle : Le h h') : cnt h ≤ cnt h' ∧ (cnt h = cnt h' → h = h') := by
  induction h generalizing h' with
  | nil =>
    cases h' with
    | nil => exact ⟨Nat.le_refl _, fun _ => rfl⟩
    | cons b h' => simp at hl
  | cons a h ih =>
    cases h' with
    | nil => simp at hl
    | cons b h' =>
      obtain ⟨h1, h2⟩ := ih (h' := h') (by simpa using hl) (fun i hi => hle (i + 1) hi)
      have h0 := hle 0
      unfold cnt at *
      cases a <;> cases b
      · simp only [List.countP_cons, id]
        refine ⟨by simpa using h1, fun e => ?_⟩
        rw [h2 (by simpa using e)]
      · simp only [List.countP_cons, id]
        refine ⟨by simp; omega, fun e => ?_⟩
        simp at e
        omega
      · have := h0 rfl
        cases this
      · simp only [List.countP_cons, id]
        refine ⟨by simp; omega, fun e => ?_⟩
        rw [h2 (by simp at e; exact e)]
end Go.Proofs.YtoameenjkiaefaaGreatDoor
