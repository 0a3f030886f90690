/- Part 9 of the texts of this claim, one behind the other. -/
import Derived.Test.YtpemeceacdhacaaGreatDoorB8
import Derived.Laws.StructEq
import Derived.Laws.Cover3
set_option linter.unusedVariables false
set_option linter.unusedSimpArgs false
set_option maxRecDepth 100000
namespace Go.Px
theorem A8p {rows : List (List Value)} {sz : Nat} {r : List Value} (hl : ∀ r ∈ rows, r.length = sz) (hr : r.length = sz) {j : Nat} (hj : j < rows.length) :
    rows.flatten.take (j * sz) ++ r ++ rows.flatten.drop (j * sz + sz) = (rows.set j r).flatten := by
  rw [show j * sz + sz = (j + 1) * sz from by rw [Nat.add_mul, Nat.one_mul], X2 hl, A0i hl, List.set_eq_take_append_cons_drop, if_pos hj]
  simp
section
variable {C : Cx} {l : Env} {M J : Mem} {K : Env → Mem → Mem → Prop} {ty t : TypeId} {pos : String} {af : Array Edge} {g : Option (Nat × Bool)} {x y : Operand} {v : Value} {xs : List Value} {n j sz : Nat} {B M0 : Mem}
theorem A8q {r : List Value} (hx : ev l x = some (vAt sz j v)) (hy : ev l y = some (.agg r.toArray)) (h : Sl sz v n xs B) (hr : r.length = sz) (h1 : ∀ u ∈ r, u.oneCell' = true)
    (ht : L8 C.P t = some sz) (hj : j < n) (hM : M.Perm (B ++ M0)) (h2 : ∀ B', Sl sz v n (xs.take (j * sz) ++ r ++ xs.drop (j * sz + sz)) B' → K l (B' ++ M0) J) :
    OpL C ⟨none, .store t x y, ty, pos, af, g⟩ l M J K := by
  suffices hh : OpL C ⟨none, .store t x y, ty, pos, af, g⟩ l (B ++ M0) J K from fun Qp a w ha hw => hh Qp a w ha (hw.fit (Fit.perm hM) fun _ h => h)
  clear hM
  subst hr
  have hjm : j * r.length + r.length ≤ n * r.length := by rw [← Nat.succ_mul]; exact Nat.mul_le_mul_right _ hj
  rcases h with ⟨p, rfl, rfl, hx2, rfl⟩ | ⟨b, o, cap, cs, e, rfl, rfl, h3, h4, h5, h6, h7⟩
  · omega
  · simp only [vAt, Addr.add_mid] at hx
    have hcm : n * r.length ≤ cap * r.length := Nat.mul_le_mul_right _ h3
    refine I1 hx hy rfl ht (by omega) h1 rfl .hd (h2 [_] (.inr ⟨b, o, cap, _, e, rfl, rfl, h3, h4, ?_, ?_, ?_⟩))
    · rw [P5 (by omega)]; exact h5
    · rw [P5 (by omega)]; exact h6
    · intro q u hq
      have hlt := (List.getElem?_eq_some_iff.1 hq).1
      rw [P5 (by omega)] at hlt
      by_cases hq1 : q < j * r.length
      · rw [N8 (by omega) hq1] at hq
        rw [N8 (by omega) (by omega)]
        exact h7 q u hq
      · by_cases hq2 : q < j * r.length + r.length
        · rw [P4 (by omega) (by omega) hq2] at hq
          rw [P4 (by omega) (by omega) (by omega), ← hq]
          congr 1; omega
        · rw [A0h (by omega) (by omega)] at hq
          rw [A0h (by omega) (by omega)]
          exact h7 q u hq
theorem A8r {e : TypeId} {by_ : Nat} {zs : List Value} (hx : ev l x = some (vLo j sz v)) (ht : A0Q C.P t = some (e, sz, by_)) (hz : zn C.P t (n - j) = some zs) (h : Sl sz v n xs B)
    (h1 : ∀ c ∈ zs, c.oneCell' = true) (hj : j < n) (hM : M.Perm (B ++ M0)) (h2 : ∀ B', Sl sz v n (xs.take (j * sz) ++ zs) B' → K l (B' ++ M0) J) :
    OpL C ⟨none, .call { callee := .builtin .clear, args := #[x], argTypes := #[t] }, ty, pos, af, g⟩ l M J K := by
  suffices hh : OpL C ⟨none, .call { callee := .builtin .clear, args := #[x], argTypes := #[t] }, ty, pos, af, g⟩ l (B ++ M0) J K from fun Qp a w ha hw => hh Qp a w ha (hw.fit (Fit.perm hM) fun _ h => h)
  clear hM
  have hzl := A81 hz ht
  have hjm : j * sz ≤ n * sz := Nat.mul_le_mul_right _ (by omega)
  rw [Nat.sub_mul] at hzl
  rcases h with ⟨p, rfl, rfl, hx2, rfl⟩ | ⟨b, o, cap, cs, e', rfl, rfl, h3, h4, h5, h6, h7⟩
  · omega
  · have hcm : n * sz ≤ cap * sz := Nat.mul_le_mul_right _ h3
    simp only [vLo, if_neg (show ¬ cap = j by omega), Option.map_some, Addr.add_mid] at hx
    have hnj : (n - j) * sz = zs.length := by rw [hzl, Nat.sub_mul]
    refine A3s hx ht hz h1 (by rw [hnj]; omega) rfl .hd (h2 [_] (.inr ⟨b, o, cap, _, e', rfl, rfl, h3, h4, ?_, ?_, ?_⟩))
    · rw [hnj, P5 (by omega)]; exact h5
    · simp; omega
    · intro q u hq
      have hlt := (List.getElem?_eq_some_iff.1 hq).1
      simp at hlt
      rw [hnj]
      by_cases hq1 : q < j * sz
      · rw [N8 (by omega) (by omega)]
        rw [List.getElem?_append_left (by simp; omega), List.getElem?_take_of_lt hq1] at hq
        exact h7 q u hq
      · rw [P4 (by omega) (by omega) (by omega)]
        rw [List.getElem?_append_right (by simp; omega)] at hq
        rw [← hq]
        congr 1
        simp; omega
end
def kpt {β : Type} (p : Nat → Bool) (rows : List β) : Nat → List β
  | 0 => []
  | j + 1 => kpt p rows j ++ (if p j then [] else rows[j]?.toList)
theorem A3P {β : Type} {p : Nat → Bool} {rows : List β} : ∀ j, (∀ i, i < j → p i = false) → kpt p rows j = rows.take j
  | 0, _ => by simp [kpt]
  | j + 1, h => by
    rw [kpt, A3P j fun i hi => h i (by omega), if_neg (by rw [h j (by omega)]; decide), List.take_add_one]
theorem A15 {α : Type} (q : α → Bool) (xs : List α) : ∀ j, kpt (fun i => (xs[i]?.map q).getD false) xs j = (xs.take j).filter fun x => !q x
  | 0 => by simp [kpt]
  | j + 1 => by
    rw [kpt, A15 q xs j, List.take_add_one, List.filter_append]
    congr 1
    cases h : xs[j]? with
    | none => simp
    | some x => cases hq : q x <;> simp [hq]
theorem RwL.kpt {α : Type} {φ : Mem → α → List Value → Prop} {R : Mem} {rows : List (List Value)} {xs : List α} (h : RwL φ R rows xs) (p : Nat → Bool) : ∀ j, RwL φ R (Px.kpt p rows j) (Px.kpt p xs j)
  | 0 => RwL.nil
  | j + 1 => by
    rw [Px.kpt, Px.kpt]
    refine (RwL.kpt h p j).app ?_
    split
    · exact RwL.nil
    · cases hx : xs[j]? with
      | none =>
        have : rows[j]? = none := by rw [List.getElem?_eq_none_iff] at hx ⊢; rw [h.len]; exact hx
        rw [this]; exact RwL.nil
      | some x =>
        obtain ⟨r, h1, h2⟩ := h.get j x hx
        rw [h1]
        exact RwL.cons h2 RwL.nil
theorem A8s {α : Type} {cur : List α} {i : Nat} {r : α} (h : i < cur.length) : (cur.set i r).take (i + 1) = cur.take i ++ [r] := by
  rw [List.take_add_one, List.getElem?_set_self h, List.take_set_of_le (Nat.le_refl _)]
  rfl
theorem Sl.hi_app {sz n i : Nat} {v : Value} {xs zs : List Value} {B : Mem} (h : Sl sz v n (xs.take (i * sz) ++ zs) B) (hx : xs.length = n * sz) (hi : i ≤ n) : Sl sz (vHi i v) i (xs.take (i * sz)) B := by
  have h2 := h.hiV i hi
  have h3 : i * sz ≤ n * sz := Nat.mul_le_mul_right _ hi
  rwa [List.take_left' (by rw [List.length_take]; omega)] at h2
structure Dfs (sz : Nat) (p : Nat → Bool) (rows cur : List (List Value)) (j i : Nat) : Prop where
  jn : j ≤ rows.length
  ki : i = (kpt p rows j).length
  ij : i < j
  cl : cur.length = rows.length
  ct : cur.take i = kpt p rows j
  cd : cur.drop j = rows.drop j
  cs : ∀ r ∈ cur, r.length = sz
  cr : ∀ r ∈ cur, r ∈ rows
section
variable {sz : Nat} {p : Nat → Bool} {rows cur : List (List Value)} {j i i0 : Nat} {r : List Value}
theorem Dfs.init (hl : ∀ r ∈ rows, r.length = sz) (hi : i0 < rows.length) (hp : p i0 = true) (hq : ∀ j, j < i0 → p j = false) : Dfs sz p rows rows (i0 + 1) i0 := by
  have hk0 : kpt p rows (i0 + 1) = rows.take i0 := by rw [kpt, hp, A3P i0 hq]; simp
  exact ⟨hi, by rw [hk0, List.length_take]; omega, by omega, rfl, hk0.symm, rfl, hl, fun _ h => h⟩
theorem Dfs.at_ (h : Dfs sz p rows cur j i) (hr : rows[j]? = some r) : cur[j]? = some r := by
  have h2 := congrArg (fun l => l[0]?) h.cd
  simpa [List.getElem?_drop, hr] using h2
theorem Dfs.keep (h : Dfs sz p rows cur j i) (hr : rows[j]? = some r) (hp : p j = false) : Dfs sz p rows (cur.set i r) (j + 1) (i + 1) := by
  obtain ⟨h1, h2, h3, h4, h5, h6, h7, h8⟩ := h
  have hjl := (List.getElem?_eq_some_iff.1 hr).1
  have hk : kpt p rows (j + 1) = kpt p rows j ++ [r] := by rw [kpt, hp, hr]; rfl
  have hcj : cur.drop (j + 1) = rows.drop (j + 1) := by rw [← List.drop_drop, ← List.drop_drop, h6]
  refine ⟨hjl, by rw [hk]; simp [← h2], by omega, by simp [h4], ?_, ?_, ?_, ?_⟩
  · rw [A8s (by omega), h5, hk]
  · rw [List.drop_set_of_lt (by omega), hcj]
  · intro x hx
    rcases List.mem_or_eq_of_mem_set hx with hx | hx
    · exact h7 x hx
    · subst hx; exact h7 x (List.mem_of_getElem? (Dfs.at_ ⟨h1, h2, h3, h4, h5, h6, h7, h8⟩ hr))
  · intro x hx
    rcases List.mem_or_eq_of_mem_set hx with hx | hx
    · exact h8 x hx
    · subst hx; exact List.mem_of_getElem? hr
theorem Dfs.skip (h : Dfs sz p rows cur j i) (hjl : j < rows.length) (hp : p j = true) : Dfs sz p rows cur (j + 1) i := by
  obtain ⟨h1, h2, h3, h4, h5, h6, h7, h8⟩ := h
  have hk : kpt p rows (j + 1) = kpt p rows j := by rw [kpt, hp]; simp
  exact ⟨hjl, by rw [hk]; exact h2, by omega, h4, by rw [hk]; exact h5, by rw [← List.drop_drop, ← List.drop_drop, h6], h7, h8⟩
end
end Go.Px

namespace Go.Proofs.YtpemeceacdhacaaGreatDoor
open Go.Px
theorem A8t {k : IntKind} (c : Int) : G4 .eql k c (-1) = some (.bool (decide (c = -1))) := by
  by_cases h : c = -1
  · rw [decide_eq_true h]; exact eqT h
  · rw [decide_eq_false h]; exact eqF h
theorem A5b (v : Value) (rows : List (List Value)) (f : FuncId) (cs : List Value) (p : Nat → Bool) (B A : Mem) (hs : Sl 2 v rows.length rows.flatten B) (hl : ∀ r ∈ rows, r.length = 2) (h1 : ∀ c ∈ rows.flatten, c.oneCell' = true) (hn : rows.length ≤ 1099511627776) (hc_ : H3 Tryz.prog f = true) (hf : ∀ (j : Nat) (r : List Value), rows[j]? = some r → FnV Tryz.prog f (.agg r.toArray :: cs) A (.bool (p j))) : FnX Tryz.prog 53 [v, .func (.func f) #[] cs.toArray] B A fun q M J => Sl 2 q (kpt p rows rows.length).length (kpt p rows rows.length).flatten M := by
 haveI := hs.cel
 refine FnX.enterZ (N := 42) Tryz.func53 rfl rfl rfl fun w_ => ?_
 refine A7 (C7 0 1) (A1 (as_ (A0 (C7 0 1) (A1 (mv_ (mv_ ?_))))))
 refine D6 (aS rfl (aS rfl a0)) kR (A48 v rows f cs p _ (hs.rd fun x hx => by simp [hx]) hl hn hc_ (fun j r hr => A6G (hf j r hr) qS)) rfl ?_
 refine as_ (A0 (E0 0 1 5) (A6 (A1 (mv_ ?_))))
 refine A3 (E7 (decide (A2F p rows.length = -1)) rfl rfl (A8t _)) rfl ?_
 refine A0 (F2 0 1 5 12) ?_
 refine C1 rfl ?_ ?_ <;> intro hc
 ·
  have hm1 : A2F p rows.length = -1 := of_decide_eq_true hc
  have hall : ∀ i, i < rows.length → p i = false := by rcases A0E p rows.length with ⟨_, h⟩ | ⟨i, _, h, _, _⟩; exact h; omega
  refine A1 (mv_ (as_ (A0 (C9 4) (A8 (tr ?_)))))
  refine ⟨_, B, [], G5 rfl rfl, Fit.none (Fit.last qP), ?_⟩
  rw [A3P _ hall, List.take_length]
  exact hs
 ·
  have hne : ¬ A2F p rows.length = -1 := of_decide_eq_false hc
  obtain ⟨i0, hi0, he0, hp0, hq0⟩ : ∃ i, i < rows.length ∧ A2F p rows.length = (i : Int) ∧ p i = true ∧ ∀ j, j < i → p j = false := (A0E p rows.length).resolve_left fun h => hne h.1
  rw [he0]
  refine A5 (nx (E0 0 1 5) (A6 (A1 (mv_ ?_))))
  refine A3 (K7 ((i0 + 1 : Nat) : Int) rfl rfl (T4 qO qO qO)) rfl ?_
  refine as_ (A0 (F2 0 1 5 6) (C3 ?_))
  refine H1 (α := Nat × Nat × List (List Value) × Mem) (fun y => [(0, v), (1, .func (.func f) #[] cs.toArray), (5, (vI y.2.1)), (6, (vI y.1))]) (fun y => y.2.2.2) (fun _ => []) (fun y => Dfs 2 p rows y.2.2.1 y.1 y.2.1 ∧ Sl 2 v rows.length y.2.2.1.flatten y.2.2.2) (fun y => rows.length - y.1) (i0 + 1, i0, rows, B) ⟨Dfs.init hl hi0 hp0 hq0, hs⟩ (F2 0 1 5 6) Fit.rfl qI ?_
  rintro ⟨j, i, cur, Bc⟩ ⟨hD, hsc⟩
  dsimp only at hD hsc ⊢
  have hjn := hD.jn
  have hij := hD.ij
  have hcs := hD.cs
  refine A6 (A1 (mv_ (mv_ ?_)))
  refine A3 (E5 (sz := 2) rfl kR (hsc.rd (R := Bc) fun _ h => h)) rfl ?_
  refine A3 (E9 rfl rfl rfl) rfl ?_
  refine A0 (H5 0 1 5 6 19) ?_
  refine C1 rfl ?_ ?_ <;> intro hc
  ·
   have hlt : j < rows.length := by simp at hc; omega
   obtain ⟨r, hr⟩ : ∃ r, rows[j]? = some r := ⟨_, List.getElem?_eq_getElem hlt⟩
   have hrc : cur[j]? = some r := hD.at_ hr
   have hrl : r.length = 2 := hcs r (List.mem_of_getElem? hrc)
   have hr1 : ∀ c ∈ r, c.oneCell' = true := fun c hc => h1 c (List.mem_flatten.2 ⟨r, List.mem_of_getElem? hr, hc⟩)
   obtain ⟨c0_, c1_, rfl⟩ : ∃ c0_ c1_, r = [c0_, c1_] := by match r, hrl with | [c0_, c1_], _ => exact ⟨c0_, c1_, rfl⟩
   refine A5 (nx (F2 0 1 5 6) (A6 (C3 (A1 (mv_ (mv_ ?_))))))
   refine A3 (F1 (sz := 2) (a := j) rfl rfl kR rfl (hsc.rd (R := Bc) fun _ h => h) hlt) rfl ?_
   refine A3 (U1 rfl kR (hsc.rd fun x hx => by simp [hx]) hcs qD hrc) rfl ?_
   refine A4 rfl (C5 (cs := [.int .u32 0, vS]) kR rfl fun b7 => ?_)
   refine A4 rfl (A9 rfl rfl rfl kR qR hr1 UpC.upd ?_)
   refine A0 (H5 0 1 5 6 7) (A1 (mv_ ?_))
   refine A3 (qw_ 2) rfl ?_
   refine A4 rfl (W8 rfl (aS rfl a0) hc_ (A6G (hf j _ hr) qS) rfl ?_)
   refine A3 (P2 rfl) rfl ?_
   refine A0 (I8 0 1 5 6 7 29) ?_
   refine C1 rfl ?_ ?_ <;> intro hc
   ·
    refine A1 (mv_ (mv_ ?_))
    refine A3 (qw_ 2) rfl ?_
    refine A3 (F1 (sz := 2) (a := i) rfl rfl kR rfl (hsc.rd (R := Bc) fun _ h => h) qO) rfl ?_
    refine A4 rfl (A8q (sz := 2) (j := i) rfl rfl hsc hrl hr1 kR qO qP fun B33 hs33 => ?_)
    refine A0 (F2 0 1 5 6) (C8 (mv_ ?_))
    refine A3 (K7 ((i + 1 : Nat) : Int) rfl rfl (T4 qO qO qO)) rfl ?_
    refine as_ (E3 (nb (nx (F2 0 1 5 6) (C8 (mv_ ?_)))))
    refine A3 (K7 ((j + 1 : Nat) : Int) rfl rfl (T4 qO qO qO)) rfl ?_
    refine as_ (E3 ?_)
    exact rn (j + 1, i + 1, cur.set i [c0_, c1_], B33) ⟨hD.keep hr (by simpa using hc), by rw [← A8p hcs rfl (by have := hD.cl; omega)]; exact hs33⟩ (by dsimp only; omega) (F2 0 1 5 6) (Fit.last qP) qI
   ·
    refine A5 (nb (nx (F2 0 1 5 6) (C8 (mv_ ?_))))
    refine A3 (K7 ((j + 1 : Nat) : Int) rfl rfl (T4 qO qO qO)) rfl ?_
    refine as_ (E3 ?_)
    exact rn (j + 1, i, cur, Bc) ⟨hD.skip hlt (by simpa using hc), hsc⟩ (by dsimp only; omega) (F2 0 1 5 6) (Fit.last qP) qI
  ·
   have hge : j = rows.length := by simp at hc; omega
   subst hge
   refine H0 (te (re (be rfl (nx (C7 0 5) (A1 (mv_ (mv_ ?_)))))))
   refine A3 (Y9 (sz := 2) rfl rfl kR rfl (by first | assumption | exact Sl.rd (by assumption) qI | exact By.rd (by assumption)) qO) rfl ?_
   refine A4 rfl (A8r (e := 133) (by_ := 32) (zs := (Builtin.zeroCells #[.int .u32 0, vS] (rows.length - i)).toList) rfl kR kR hsc (W1 (by simp [Value.oneCell']) qM _) qO qP fun B38 hs38 => ?_)
   refine A0 (C7 0 5) (A1 (mv_ (mv_ ?_)))
   refine A3 (A5P (sz := 2) (a := i) rfl rfl kR rfl (hs38.rd (R := B38) fun _ h => h) qO) rfl ?_
   refine as_ (A0 (C9 4) (A8 ?_))
   refine ⟨_, B38, [], G5 rfl rfl, Fit.none (Fit.last qP), ?_⟩
   have h2 := hs38.hi_app (by rw [A2a hcs, hD.cl]) qO
   rw [X2 hcs, hD.ct] at h2
   rw [← hD.ki]
   exact h2

theorem P0 (s : Ps) (w : LN) : (H7 s w).ts.length ≤ s.ts.length + 2 := by
  unfold H7
  split
  · omega
  · have h1 := L9 (ts := s.ts) (ws := w)
    have h2 := W7 (ts := rdT s.ts w) (t := A79 ((rdI s.ts w : Nat) : Int))
    show (add (rdT s.ts w) _).length ≤ _
    omega
theorem A2w (s : Ps) (w : LN) : (H7 s w).n = s.n := by unfold H7; split <;> rfl
theorem A8u (s : Ps) (w m : LN) : (B0l s w m).ts.length ≤ s.ts.length + 2 := by
  unfold B0l
  split
  · omega
  · have h1 := L9 (ts := s.ts) (ws := w)
    have h2 := W7 (ts := rdT s.ts w) (t := A7v ((rdI s.ts w : Nat) : Int) m)
    show (add (rdT s.ts w) (A7v ((rdI s.ts w : Nat) : Int) m)).length ≤ _
    omega
theorem B2l (s : Ps) (w m : LN) : (B0l s w m).n = s.n := by unfold B0l; split <;> rfl
theorem A6J (s : Ps) (w : LN) : (H8 s w).length = 32 := by
  unfold H8
  split
  · exact A6h _ _
  · exact A0B _ qD
noncomputable def A6K (k : Ks) (s : Ps) : Ps := B0l (H7 (D8 s) (E1 s)) k.sign (A6F k.next (H8 (D8 s) (E1 s)))
noncomputable def turnP (k : Ks) (s : Ps) : Pr := ⟨k.next, E1 s, B3t (H7 (D8 s) (E1 s)) k.sign (A6F k.next (H8 (D8 s) (E1 s)))⟩
def A5c (signed : List Pr) (x : Nm) : Bool := !decide (0 ≤ K1 (A1x x.n) signed)
noncomputable def A0R (k : Ks) (s : Ps) : Ks × Ps :=
  ({ k with signed := (turnP k s :: k.signed).take 2, next := k.next + 1, met := k.met.filter fun x => !A5c ((turnP k s :: k.signed).take 2) x }, A6K k s)
theorem A6L {l : List Pr} {rows : List (List Value)} {n b : Nat} {vi : Value} {A : Mem} (hR : RwL prR A rows l) (hvi : Cel vi [vi]) (hb : (b, blk [(vU n), vi] 133) ∈ A) :
    ∀ (j : Nat) (r : List Value), rows[j]? = some r → FnV Tryz.prog 56 (.agg r.toArray :: [(vP b)]) A (.bool ((fun j => (l[j]?.map (A1x n)).getD false) j)) := fun j r hr => by
  obtain ⟨x, hx, vs, vg, rfl, hs, hg, _⟩ := hR.of hr
  dsimp only
  rw [hx]
  exact A3K vs vg vi x n b _ hs hg hvi hb
theorem B0x (kb b n : Nat) (c0 c1 c2 c3 vq c5 c6 c7 vi : Value) (sg : List Pr) (rs : List (List Value)) (A : Mem) (hb : (b, blk [(vP kb)] 50) ∈ A) (hkb : (kb, blk [c0, c1, c2, c3, vq, c5, c6, c7] 98) ∈ A) (hvi : Cel vi [vi]) (hv : Rd A 3 vq sg.length rs.flatten) (hR : RwL prR A rs sg) (hl : sg.length ≤ 1000000) : FnV Tryz.prog 54 [.agg #[(vU n), vi], (vP b)] A (.bool (!decide (0 ≤ K1 (A1x n) sg))) := by
 haveI := hv.cel
 refine FnX.enter (N := 11) Tryz.func54 rfl rfl rfl fun w => ?_
 refine A7 (C7 0 1) (A1 ?_)
 refine A4 rfl (bx_ fun b2 => ?_)
 refine as_ (A0 (C7 1 2) (A1 ?_))
 refine A3 (G7 rfl kR (mA hb) qR) rfl ?_
 refine A3 (D2 rfl) rfl ?_
 refine A3 (qf_ 4 4) rfl ?_
 refine A3 (G7 rfl kR (mA hkb) qR) rfl ?_
 refine A3 (A0v (aS rfl a0)) rfl ?_
 refine D6 (aS rfl (aS rfl a0)) kR (A2t vq rs 56 [(vP b2)] (fun j => (sg[j]?.map (A1x n)).getD false) _ (by rw [hR.len]; exact hv.mono qS) (hR.lens prT) (by rw [hR.len]; omega) kR (A6L (hR.mono prT qS) hvi At.mem)) rfl ?_
 rw [hR.len]
 refine A3 (P2 rfl) rfl ?_
 refine as_ (A0 (C9 3) (A8 ?_))
 exact ⟨_, [], [], G5 rfl rfl, List.nil_sublist _, by simp, rfl, rfl, rfl⟩
theorem A6M {l : List Nm} {rows : List (List Value)} {kb b : Nat} {c0 c1 c2 c3 vq c5 c6 c7 : Value} {sg : List Pr} {rs : List (List Value)} {A : Mem} (hL : RwL nmR A rows l) (hb : (b, blk [(vP kb)] 50) ∈ A) (hkb : (kb, blk [c0, c1, c2, c3, vq, c5, c6, c7] 98) ∈ A) (hv : Rd A 3 vq sg.length rs.flatten) (hR : RwL prR A rs sg) (hl : sg.length ≤ 1000000) :
    ∀ (j : Nat) (r : List Value), rows[j]? = some r → FnV Tryz.prog 54 (.agg r.toArray :: [(vP b)]) A (.bool ((fun j => (l[j]?.map (A5c sg)).getD false) j)) := fun j r hr => by
  obtain ⟨x, hx, vi, rfl, hi, _⟩ := hL.of hr
  dsimp only
  rw [hx]
  exact B0x kb b x.n c0 c1 c2 c3 vq c5 c6 c7 vi sg rs A hb hkb hi.cel hv hR hl
theorem B2m (kb pb : Nat) (k : Ks) (s : Ps) (MK MP A : Mem) (hK : Kys A kb k MK) (hP : Prm pb s MP) (hn : s.ts.length + 100 ≤ 1048576) (hk : s.n < 1000000000) (hnx : k.next + 100 < 4000000000) (hG : Glb A) : FnX Tryz.prog 31 [(vP kb), (vP pb)] (MK ++ MP) A fun q M J => ∃ MK2 MP2, M = MK2 ++ MP2 ∧ Kys (J ++ A) kb (A0R k s).1 MK2 ∧ Prm pb (A0R k s).2 MP2 := by
 obtain ⟨va, vg, vq, vo, vm, rs, ro, rm, Bs, Bo, Bm, rfl, hva, hvg, hss, hrs, hso, hro, hsm, hrm, hn1, hn2, hn3, hn4⟩ := hK.ex
 haveI := hva.cel
 haveI := hvg.cel
 have fl := L6 s
 have pl := P0 (D8 s) (E1 s)
 have pkl := A6J (D8 s) (E1 s)
 haveI := hss.cel
 haveI := hso.cel
 haveI := hsm.cel
 refine FnX.enterZ (N := 68) Tryz.func31 rfl rfl rfl fun w_ => ?_
 refine A7 (C7 0 1) (A1 ?_)
 refine A4 rfl (bx_ fun b2 => ?_)
 refine A0 (C7 1 2) (A6 (A1 ?_))
 refine A3 ql_ rfl ?_
 refine A3 (D0 (e := 98) rfl rfl kR) rfl ?_
 refine A0 (E0 1 2 6) ?_
 refine B0 rfl ?_
 refine A5 (nx (C7 1 2) ?_)
 refine D9 (MP) (_) true (.range 8) (zp 0 [1, 0, 0, 1, 0, 3, 3, 4, 2]) kR kR qP fun hs K n0 hKm hKs hKn => ?_
 refine H4 hs rfl hKs ql_ ?_
 refine E2 hs rfl (D2 rfl) rfl ?_
 refine E2 hs rfl (qf_ 6 6) rfl ?_
 refine H4 hs rfl hKs ql_ ?_
 refine km_ hs ?_
 refine V8 [⟨5, 12, none, MP, fun v B R => Prm pb (D8 (s)) B ∧ By R v (E1 (s))⟩, ⟨6, 13, none, [], fun v B R => B = [] ∧ ∃ u, v = .agg [(vU k.next), u, vS].toArray ∧ By R u (E1 s)⟩, ⟨7, 4, none, [], fun v B _ => ∃ b, v = (vP b) ∧ B = [(b, blk [.int .u32 0, vS, vS] 102)]⟩] ((b2, blk [(vP kb)] 50) :: ((kb, blk [.int .i64 k.user, .int .i64 k.dev, va, vg, vq, vo, (vU k.next), vm] 98) :: (Bs ++ (Bo ++ Bm)))) (fun bs => [bs 5, bs 6, bs 7]) (hKn rfl) (by simp [N9, U7]) (show ∀ m ∈ ([MP, [], []] : List Mem), ∀ x ∈ m, K x.1 from A2 (hKm) (A2 (fun _ h => by cases h) (A2 (fun _ h => by cases h) (G9)))) kR (fun _ => by first | rfl | kernel_rfl)
  (A2 (fun _ _ _ _ h hp => ⟨hp.1, hp.2.mono h⟩) (A2 (fun _ _ _ _ h ⟨p1, u, p2, p3⟩ => ⟨p1, u, p2, p3.mono h⟩) (A2 (fun _ _ _ _ h hp => hp) (G9)))) (show List.Nodup [12, 13, 4] by decide) (show List.Nodup [5, 6, 7] by decide) (A2 (C4 rfl) (A2 (C4 rfl) (A2 (C4 rfl) (G9))))
  (A2 ⟨_, rfl, fun vs bs R Rj wG hb hj hjr ha => ⟨.inl rfl, ?_⟩⟩ (A2 ⟨_, rfl, fun vs bs R Rj wG hb hj hjr ha => ⟨.inl rfl, ?_⟩⟩ (A2 ⟨_, rfl, fun vs bs R Rj wG hb hj hjr ha => ⟨.inl rfl, ?_⟩⟩ (G9)))) ?_
 ·
  dsimp only [Gc.inp]
  refine B3 (Mc := MP) (R := []) (aS rfl a0) kR qM (P6 pb (s) MP _ hP qO qO (hG.sub fun x hx => by have := hb x (by simp [hx]); simp [this])) rfl ?_
  rintro v12 M12 J12 ⟨hP12, h12⟩
  exact ⟨_, rfl, by simpa using hP12, h12.mono fun x hx => by simp [hx]⟩
 ·
  dsimp only [Gc.inp]
  have g5 := ha _ (List.mem_of_getElem? (i := 0) rfl) kR
  replace g5 : (fun v B R => Prm pb (D8 (s)) B ∧ By R v (E1 (s))) (vs 5) (bs 5) Rj := g5
  dsimp only at g5
  obtain ⟨hP12, h12⟩ := g5
  haveI := h12.cel
  exact OpQ.opL (D7 (place := fun x => #[(0, 1), (1, 1), (2, 1)][x]?) (z := [.int .u32 0, vS, vS]) (fun _ => by kernel_rfl) (eS rfl (eS rfl e0)) (bdS 0 1 rfl qR (bdS 1 1 rfl qR bd0))) rfl ⟨_, rfl, rfl, _, rfl, h12⟩
 ·
  dsimp only [Gc.inp]
  exact C5 (cs := [.int .u32 0, vS, vS]) kR rfl fun b => ⟨_, rfl, b, rfl, rfl⟩
 intro vs bs Jn0 hφ hKK
 have kk5 := hKK _ (List.mem_of_getElem? (i := 0) rfl)
 dsimp only at kk5
 have kk6 := hKK _ (List.mem_of_getElem? (i := 1) rfl)
 dsimp only at kk6
 have kk7 := hKK _ (List.mem_of_getElem? (i := 2) rfl)
 dsimp only at kk7
 clear hKK
 have g5 := ofH hφ
 dsimp only at g5
 replace hφ := ofT hφ
 have g6 := ofH hφ
 dsimp only at g6
 replace hφ := ofT hφ
 have g7 := ofH hφ
 dsimp only at g7
 clear hφ
 dsimp only [L5, N9, List.foldr, List.map, List.cons_append, List.nil_append]
 generalize bs 5 = B12 at *
 generalize bs 6 = B13 at *
 generalize bs 7 = B4 at *
 generalize vs 5 = u12 at *
 generalize vs 6 = u13 at *
 generalize vs 7 = u4 at *
 obtain ⟨hP12, h12⟩ := g5
 obtain ⟨b4, rfl, rfl⟩ := g7
 obtain ⟨rfl, u, rfl, h12⟩ := g6
 haveI := h12.cel
 refine Z7 (M' := B12 ++ ((b4, blk [.int .u32 0, vS, vS] 102) :: (b2, blk [(vP kb)] 50) :: ((kb, blk [.int .i64 k.user, .int .i64 k.dev, va, vg, vq, vo, (vU k.next), vm] 98) :: (Bs ++ (Bo ++ Bm))))) qM ?_
 refine I4 rfl rfl rfl (A9 (vs := [(vU k.next), u, vS]) rfl rfl rfl kR qR (by intro c hc; simp only [List.mem_cons, List.not_mem_nil, or_false] at hc; rcases hc with rfl | rfl | rfl; rfl; exact h12.one; rfl) UpC.upd ?_)
 refine G2 (E0 1 2 4) ?_
 refine D9 (B12) (_) true (.range 14) (zp 0 [0, 1, 0, 0, 1, 0, 1, 0, 0, 1, 2, 2, 2, 0, 2]) kR kR qP fun hs K n0 hKm hKs hKn => ?_
 refine km_ hs ?_
 refine H4 hs rfl hKs ql_ ?_
 refine E2 hs rfl (D2 rfl) rfl ?_
 refine E2 hs rfl (qf_ 3 3) rfl ?_
 refine H4 hs rfl hKs ql_ ?_
 refine E2 hs rfl (qf_ 0 0) rfl ?_
 refine H4 hs rfl hKs ql_ ?_
 refine km_ hs ?_
 refine E2 hs rfl (qf_ 1 1) rfl ?_
 refine H4 hs rfl hKs ql_ ?_
 refine F5 _ _ rfl rfl (List.Perm.refl _) hKm fun w0 => (B3 (Mc := B12) (R := _) (aS rfl (aS rfl a0)) kR qP (Y3 pb (D8 s) u (E1 s) B12 _ hP12 qO (h12.mono qS) hG.up) rfl ?_)
 rintro v24 M24 J24 ⟨hP24, h24⟩ hKx
 haveI := h24.cel
 refine Z7 (M' := M24 ++ ((b4, blk [(vU k.next), u, vS] 102) :: (b2, blk [(vP kb)] 50) :: ((kb, blk [.int .i64 k.user, .int .i64 k.dev, va, vg, vq, vo, (vU k.next), vm] 98) :: (Bs ++ (Bo ++ Bm))))) qM ?_
 generalize hpk : H8 (D8 s) (E1 s) = pk at *
 generalize hps : H7 (D8 s) (E1 s) = s2 at *
 refine F5 [] _ rfl rfl (List.Perm.refl _) (fun _ h => by cases h) fun w0 => (I5 (aS rfl (aS rfl a0)) kR (A26 k.next v24 pk _ qO (h24.mono qS) qO) rfl ?_)
 rintro v25 M25 J25 ⟨rfl, h25⟩ _
 haveI := h25.cel
 generalize hms : A6F k.next pk = wm at *
 dsimp only [List.nil_append, List.append_eq]
 refine F5 M24 _ rfl rfl qP (fun x hx => hKx (hKn rfl) x (by simpa using hx)) fun w0 => (B3 (Mc := M24) (R := _) (aS rfl (aS rfl (aS rfl a0))) kR qP (B0m pb s2 vg v25 k.sign wm M24 _ hP24 qO (hvg.mono qS) (h25.mono qS) hG.up) rfl ?_)
 rintro v26 M26 J26 ⟨hP26, h26⟩ hKx
 haveI := h26.cel
 refine E2 hs rfl (qf_ 2 2) rfl ?_
 refine I4 rfl rfl rfl (F0 rfl rfl h26.one kR SetC.set UpC.upd ?_)
 refine G2 (C7 2 4) (A1 ?_)
 refine A3 ql_ rfl ?_
 refine A3 (D2 rfl) rfl ?_
 refine A3 (qf_ 6 6) rfl ?_
 refine A3 ql_ rfl ?_
 refine A3 (A88 4294967296 (a := k.next) (b := 1) rfl rfl rfl rfl rfl rfl qO) rfl ?_
 refine A3 (D2 rfl) rfl ?_
 refine A3 (qf_ 6 6) rfl ?_
 refine A4 rfl (F0 rfl rfl rfl kR SetC.set UpC.upd ?_)
 refine A0 (C7 2 4) ?_
 refine D9 ([]) (_) true (.range 10) [(0, 1), (1, 1), (3, 1), (4, 0), (5, 0), (6, 1), (2, 2), (7, 2), (8, 0), (9, 0), (10, 2)] kR kR qP fun hs K n0 hKm hKs hKn => ?_
 refine H4 hs rfl hKs ql_ ?_
 refine H4 hs rfl hKs (qw_ 3) ?_
 refine H4 hs rfl hKs ql_ ?_
 refine E2 hs rfl (D2 rfl) rfl ?_
 refine E2 hs rfl (qf_ 4 4) rfl ?_
 refine H4 hs rfl hKs ql_ ?_
 refine F5 [] _ rfl rfl (List.Perm.refl _) (fun _ h => by cases h) fun w0 => (C0 (e := 102) (sz := 3) (z := [.int .u32 0, vS, vS]) kR (eS rfl e0) (bdS 0 3 rfl qR bd0) rfl fun b37 => fun hk37 => ?_)
 dsimp only [List.cons_append, List.nil_append, List.append_eq]
 refine F5 [(b37, blk [(vU k.next), u, v26] 102)] _ rfl rfl qP (fun x hx => hk37 (hKn rfl) x (by simpa using hx)) fun w0 => (F9 (e := 102) (sz := 3) (by_ := 56) rfl rfl kR rfl (Sl.fresh (n := 1) (cs := [(vU k.next), u, v26]) (e := 102) rfl qD) (hss.rd fun x hx => by simp [hx]) (hrs.ones prT) qP (by unfold maxLen; omega) qO rfl fun v42 B42 hs42 => fun _ => ?_)
 haveI := hs42.cel
 refine E2 hs rfl (D2 rfl) rfl ?_
 refine E2 hs rfl (qf_ 4 4) rfl ?_
 refine I4 rfl rfl rfl (F0 rfl rfl hs42.one kR SetC.set UpC.upd ?_)
 refine G2 (C9 2) ?_
 refine F4 (.range 14) (zp 0 [1, 1, 0, 0, 1, 1, 0, 0, 1, 0, 0, 0, 0, 0, 2]) kR kR fun hs => ?_
 refine S0 hs rfl ql_ rfl ?_
 refine S0 hs rfl ql_ rfl ?_
 refine D4 hs rfl (D2 rfl) rfl ?_
 refine D4 hs rfl (qf_ 4 4) rfl ?_
 refine S0 hs rfl ql_ rfl ?_
 refine S0 hs rfl ql_ rfl ?_
 refine D4 hs rfl (D2 rfl) rfl ?_
 refine D4 hs rfl (qf_ 4 4) rfl ?_
 refine S0 hs rfl ql_ rfl ?_
 refine D4 hs rfl (E5 (sz := 3) rfl kR (hs42.rd (R := B42) fun _ h => h)) rfl ?_
 refine D4 hs rfl (B1j rfl rfl) rfl ?_
 refine D4 hs rfl (A5P (sz := 3) (a := min 2 (1 + k.signed.length)) rfl rfl kR qO (hs42.rd (R := B42) fun _ h => h) qO) rfl ?_
 have hs6 := hs42.hiV (min 2 (1 + k.signed.length)) qO
 generalize vHi (min 2 (1 + k.signed.length)) v42 = vq6 at *
 haveI := hs6.cel
 obtain ⟨tp, htp⟩ : ∃ tp, turnP k s = tp := ⟨_, rfl⟩
 have htq : tp = ⟨k.next, E1 s, B3t s2 k.sign wm⟩ := by rw [← htp]; unfold turnP; rw [hpk, hps, hms]
 have hrow : prR (J26 ++ (J25 ++ (J24 ++ (Jn0 ++ A)))) tp [(vU k.next), u, v26] := ⟨u, v26, by rw [htq], by rw [htq]; exact h12.mono qS, by rw [htq]; exact h26.mono qS, by rw [htq]; dsimp only; omega⟩
 have hRs : RwL prR (J26 ++ (J25 ++ (J24 ++ (Jn0 ++ A)))) (([(vU k.next), u, v26] :: rs).take 2) ((tp :: k.signed).take 2) := (RwL.cons hrow (hrs.mono prT qS)).take 2
 have hl6 : ((tp :: k.signed).take 2).length = min 2 (1 + k.signed.length) := by rw [List.length_take, List.length_cons]; omega
 have hSg : Sl 3 vq6 ((tp :: k.signed).take 2).length (([(vU k.next), u, v26] :: rs).take 2).flatten B42 := by
  have e1 : [(vU k.next), u, v26] ++ rs.flatten = ([(vU k.next), u, v26] :: rs).flatten := rfl
  have e2 : min 2 (1 + k.signed.length) = min 2 ([(vU k.next), u, v26] :: rs).length := by rw [List.length_cons, hrs.len]; omega
  rw [e1, X2 ((RwL.cons hrow (hrs.mono prT qS)).lens prT), e2, ← List.take_eq_take_min, ← e2, ← hl6] at hs6
  exact hs6
 refine D4 hs rfl (D2 rfl) rfl ?_
 refine D4 hs rfl (qf_ 4 4) rfl ?_
 refine I3 rfl rfl rfl (F0 rfl rfl hs6.one kR SetC.set UpC.upd ?_)
 refine G8 (C9 2) ?_
 refine V2 (Bm) (_) true (.range 9) (zp 0 [1, 1, 0, 0, 1, 0, 2, 0, 0, 2]) kR kR qP fun hs K n0 hKm hKs hKn => ?_
 refine H4 hs rfl hKs ql_ ?_
 refine H4 hs rfl hKs ql_ ?_
 refine E2 hs rfl (D2 rfl) rfl ?_
 refine E2 hs rfl (qf_ 7 7) rfl ?_
 refine H4 hs rfl hKs ql_ ?_
 refine E2 hs rfl (A0v (aS rfl a0)) rfl ?_
 refine F5 _ _ rfl rfl (List.Perm.refl _) hKm fun w0 => (B3 (Mc := Bm) (R := _) (aS rfl (aS rfl a0)) kR qP (by rw [← hrm.len] at hsm; exact A5b vm rm 54 [(vP b2)] (fun j => (k.met[j]?.map (A5c ((tp :: k.signed).take 2))).getD false) Bm _ hsm (hrm.lens nmT) (hrm.ones nmT) (by rw [hrm.len]; omega) kR (A6M (hrm.mono nmT qS) At.mem At.mem (hSg.rd fun x hx => by simp [hx]) (hRs.mono prT qS) (by rw [hl6]; omega))) rfl ?_)
 rintro v65 M65 J65 h65 _
 haveI := h65.cel
 refine E2 hs rfl (D2 rfl) rfl ?_
 refine E2 hs rfl (qf_ 7 7) rfl ?_
 refine I4 rfl rfl rfl (F0 rfl rfl h65.one kR SetC.set UpC.upd ?_)
 refine A1b ?_
 have hkm := hrm.kpt (fun j => (k.met[j]?.map (A5c ((tp :: k.signed).take 2))).getD false) rm.length
 rw [A15, hrm.len, List.take_length] at hkm
 rw [hrm.len] at h65
 have htK : A0R k s = ({ k with signed := (tp :: k.signed).take 2, next := k.next + 1, met := k.met.filter fun x => !A5c ((tp :: k.signed).take 2) x }, B0l s2 k.sign wm) := by unfold A0R A6K; rw [htp, hpk, hps, hms]
 rw [htK]
 have hkl : (k.met.filter fun x => !A5c ((tp :: k.signed).take 2) x).length ≤ 100000 := Nat.le_trans (List.length_filter_le _ _) hn4
 refine ⟨_, (kb, blk [.int .i64 k.user, .int .i64 k.dev, va, vg, vq6, vo, .int .u32 ((k.next + 1 : Nat) : Int), v65] 98) :: (B42 ++ (Bo ++ (M65 ++ M26))), [], A3p rfl, Fit.none (Fit.pick (B := [_]) qP (Fit.pick qP (Fit.pick qP (Fit.pick qP (Fit.last qP))))), (kb, blk [.int .i64 k.user, .int .i64 k.dev, va, vg, vq6, vo, .int .u32 ((k.next + 1 : Nat) : Int), v65] 98) :: (B42 ++ (Bo ++ M65)), M26, by simp, ⟨⟨va, vg, vq6, vo, v65, _, ro, _, B42, Bo, M65, rfl, hva.mono qS, hvg.mono qS, hSg, hRs.mono prT qS, hso, hro.mono prT qS, ?_, hkm.mono nmT qS, by dsimp only; omega, by dsimp only; rw [hl6]; omega, hn3, hkl⟩⟩, hP26⟩
 rw [hkm.len] at h65
 exact h65

noncomputable def idS (k : Ks) (s : Ps) : Ps := H7 (H7 s k.agree) k.sign
noncomputable def idA (k : Ks) (s : Ps) : LN := H8 s k.agree
noncomputable def idG (k : Ks) (s : Ps) : LN := B2Q (H7 s k.agree) k.sign
theorem A1y (k : Ks) (s : Ps) : (idS k s).ts.length ≤ s.ts.length + 4 := by
  have h1 := P0 s k.agree
  have h2 := P0 (H7 s k.agree) k.sign
  unfold idS; omega
theorem A4A (k : Ks) (s : Ps) : (A0R k s).2.ts.length ≤ s.ts.length + 5 ∧ (A0R k s).2.n = s.n + 1 := by
  have h1 := L6 s
  have h2 := P0 (D8 s) (E1 s)
  have h3 := A8u (H7 (D8 s) (E1 s)) k.sign (A6F k.next (H8 (D8 s) (E1 s)))
  have h4 := B2l (H7 (D8 s) (E1 s)) k.sign (A6F k.next (H8 (D8 s) (E1 s)))
  have h5 := A2w (D8 s) (E1 s)
  show (A6K k s).ts.length ≤ _ ∧ (A6K k s).n = _
  unfold A6K
  omega
theorem A5d (k : Ks) (s : Ps) : (A0R k s).1.next = k.next + 1 := rfl
theorem A8v (k : Ks) (s : Ps) : (A28 k s).2.ts.length ≤ s.ts.length + 4 ∧ (A28 k s).2.n ≤ s.n + 4 ∧ (A28 k s).1.next ≤ k.next + 4 := by
  have h1 := A2v k s (4 - k.once.length)
  have h2 := Y4 k s (4 - k.once.length)
  unfold A28
  omega
def k0N (u d : Int) (s : Ps) : Ks := ⟨u, d, E1 s, E1 (D8 s), [], [], 1, []⟩
noncomputable def A9t (u d : Int) (s : Ps) : Ks × Ps := A28 (A0R (k0N u d s) (D8 (D8 s))).1 (A0R (k0N u d s) (D8 (D8 s))).2
theorem B0y (u d : Int) (s : Ps) : (A9t u d s).2.ts.length ≤ s.ts.length + 11 ∧ (A9t u d s).2.n ≤ s.n + 7 ∧ (A9t u d s).1.next ≤ 6 := by
  have h1 := L6 s
  have h2 := L6 (D8 s)
  have h3 := A4A (k0N u d s) (D8 (D8 s))
  have h4 := A8v (A0R (k0N u d s) (D8 (D8 s))).1 (A0R (k0N u d s) (D8 (D8 s))).2
  have h5 : (A0R (k0N u d s) (D8 (D8 s))).1.next = 2 := rfl
  unfold A9t
  omega
structure Bn where
  user : Int
  dev : Int
  ia : LN
  ig : LN
  signed : Nat
  key : LN
  sig : LN
  has : Bool
  once : Nat
  oncek : LN
def bnR (R : Mem) (x : Bn) (r : List Value) : Prop := ∃ va vg vk vs vo, r = [.int .i64 x.user, .int .i64 x.dev, va, vg, (vU x.signed), vk, vs, .bool x.has, (vU x.once), vo] ∧ By R va x.ia ∧ By R vg x.ig ∧ By R vk x.key ∧ By R vs x.sig ∧ By R vo x.oncek ∧ x.signed < 4294967296 ∧ x.once < 4294967296
theorem bnT : RowT 10 bnR := ⟨fun R R' x r hR ⟨va, vg, vk, vs, vo, h1, h2, h3, h4, h5, h6, h7⟩ => ⟨va, vg, vk, vs, vo, h1, h2.mono hR, h3.mono hR, h4.mono hR, h5.mono hR, h6.mono hR, h7⟩, fun R x r ⟨va, vg, vk, vs, vo, h1, _⟩ => by rw [h1]; rfl, fun R x r ⟨va, vg, vk, vs, vo, h1, h2, h3, h4, h5, h6, _⟩ => by
  rw [h1]
  exact A2 rfl (A2 rfl (A2 h2.one (A2 h3.one (A2 rfl (A2 h4.one (A2 h5.one (A2 rfl (A2 rfl (A2 h6.one G9)))))))))⟩
noncomputable def bunB (k : Ks) (x : Pr) (s : Ps) : Bn := ⟨k.user, k.dev, idA k s, idG k s, x.n, H8 (idS k s) x.sec, x.sig, false, 0, []⟩
noncomputable def A3n (b : Bn) (l : List Pr) (s : Ps) : Nat → List Bn × Ps
  | 0 => ([b], s)
  | i + 1 => match l[i]? with
    | none => A3n b l s i
    | some o => ((A3n b l s i).1 ++ [{ b with has := true, once := o.n, oncek := H8 (A3n b l s i).2 o.sec }], H7 (A3n b l s i).2 o.sec)
theorem A29 {b : Bn} {l : List Pr} {s : Ps} {i : Nat} {o : Pr} (h : l[i]? = some o) : A3n b l s (i + 1) = ((A3n b l s i).1 ++ [{ b with has := true, once := o.n, oncek := H8 (A3n b l s i).2 o.sec }], H7 (A3n b l s i).2 o.sec) := by
  simp only [A3n, h]
theorem A4B {b : Bn} {l : List Pr} {s : Ps} : ∀ {i : Nat}, i ≤ l.length → (A3n b l s i).1.length = i + 1 ∧ (A3n b l s i).2.ts.length ≤ s.ts.length + 2 * i
  | 0, _ => ⟨rfl, Nat.le_refl _⟩
  | i + 1, h => by
    have ih := A4B (b := b) (s := s) (i := i) (l := l) qO
    rw [A29 (List.getElem?_eq_getElem qO)]
    have h2 := P0 (A3n b l s i).2 (l[i]'qO).sec
    refine ⟨by simp [ih.1], ?_⟩
    show (H7 _ _).ts.length ≤ _
    omega
noncomputable def B1g (k : Ks) (s : Ps) : List Bn × Ps := match k.signed with
  | [] => ([], s)
  | x :: _ => A3n (bunB k x s) k.once (H7 (idS k s) x.sec) k.once.length
theorem A2x (pb : Nat) (s : Ps) (kb : Nat) (k : Ks) (va vg vq vo vm : Value) (rs ro rm : List (List Value)) (MP A : Mem) (hK : KyR A kb k va vg vq vo vm rs ro rm) (hP : Prm pb s MP) (hn : s.ts.length + 100 ≤ 1048576) (hG : Glb A) : FnX Tryz.prog 33 [(vP kb), (vP pb)] MP A fun q M J => Prm pb (idS k s) M ∧ ∃ p r, q = .agg #[p, r] ∧ By J p (idA k s) ∧ By J r (idG k s) := by
 have hkb := hK.blk_
 haveI := hK.agree.cel
 haveI := hK.sign.cel
 haveI := hK.signed.cel
 haveI := hK.once.cel
 haveI := hK.met.cel
 have pl := P0 s k.agree
 refine FnX.enterZ (N := 21) Tryz.func33 rfl rfl rfl fun w_ => ?_
 refine A7 (C7 0 1) (A1 ?_)
 refine A4 rfl (C5 (cs := [vS, vS]) kR rfl fun b4 => ?_)
 refine A0 (E0 0 1 4) (A6 (A1 (mv_ ?_)))
 refine A3 (D0 (e := 98) rfl rfl kR) rfl ?_
 refine A0 (F2 0 1 4 6) ?_
 refine B0 rfl ?_
 refine A5 (nx (E0 0 1 4) ?_)
 refine D9 (MP) (_) true (.range 13) [(0, 0), (1, 0), (2, 0), (3, 0), (4, 1), (6, 0), (7, 0), (8, 0), (9, 0), (10, 1), (5, 2), (11, 2), (12, 0), (13, 2)] kR kR qP fun hs K n0 hKm hKs hKn => ?_
 refine km_ hs ?_
 refine km_ hs ?_
 refine E2 hs rfl (D2 rfl) rfl ?_
 refine E2 hs rfl (qf_ 2 2) rfl ?_
 refine H4 hs rfl hKs (G7 rfl kR (mA hkb) qR) ?_
 refine km_ hs ?_
 refine km_ hs ?_
 refine E2 hs rfl (D2 rfl) rfl ?_
 refine E2 hs rfl (qf_ 3 3) rfl ?_
 refine H4 hs rfl hKs (G7 rfl kR (mA hkb) qR) ?_
 refine F5 _ _ rfl rfl (List.Perm.refl _) hKm fun w0 => (B3 (Mc := MP) (R := _) (aS rfl (aS rfl (a0))) kR qP (Y3 pb s va k.agree MP _ hP qO (hK.agree.mono qS) hG.up) rfl ?_)
 rintro v13 M13 J13 ⟨hP13, h13⟩ hKx13
 haveI := h13.cel
 refine F5 M13 _ rfl rfl qP (fun x hx => hKx13 (hKn rfl) x (by simpa using hx)) fun w0 => (B3 (Mc := M13) (R := _) (aS rfl (aS rfl (a0))) kR qP (A6x pb (H7 s k.agree) vg k.sign M13 _ hP13 qO (hK.sign.mono qS) hG.up) rfl ?_)
 rintro v19 M19 J19 ⟨hP19, h19⟩ hKx19
 haveI := h19.cel
 refine E2 hs rfl (D7 (place := fun x => #[(0, 1), (1, 1)][x]?) (z := [vS, vS]) (fun _ => by kernel_rfl) (eS rfl (eS rfl e0)) (bdS 0 1 rfl qR (bdS 1 1 rfl qR bd0))) rfl ?_
 refine I4 rfl rfl rfl (A9 (vs := [v13, v19]) rfl rfl rfl kR qR (A2 h13.one (A2 h19.one G9)) UpC.upd ?_)
 refine G2 (C9 4) (A8 ?_)
 exact ⟨_, M19, [], B1l rfl rfl kR At.mem qR, Fit.none (Fit.last qP), hP19, _, _, rfl, h13.mono qS, h19.mono qS⟩
theorem B2n (u d : Int) (pb : Nat) (s : Ps) (MP A : Mem) (hP : Prm pb s MP) (hn : s.ts.length + 200 ≤ 1048576) (hk : s.n + 100 < 1000000000) (hG : Glb A) : FnX Tryz.prog 18 [(vP pb), .agg #[.int .i64 u, .int .i64 d]] MP A fun q M J => ∃ kb MK MP2, q = (vP kb) ∧ M = MK ++ MP2 ∧ Kys (J ++ A) kb (A9t u d s).1 MK ∧ Prm pb (A9t u d s).2 MP2 := by
 have f1 := L6 s
 have f2 := L6 (D8 s)
 have f3 := A4A (k0N u d s) (D8 (D8 s))
 refine FnX.enterZ (N := 20) Tryz.func18 rfl rfl rfl fun w_ => ?_
 refine A7 (C7 0 1) (A1 ?_)
 refine A4 rfl (bx_ fun b3 => ?_)
 refine as_ (A0 (C7 0 3) ?_)
 refine D9 (MP) (_) true (.range 8) [(0, 1), (1, 0), (3, 0), (2, 2), (4, 2), (5, 0), (6, 2), (7, 0)] kR kR qP fun hs K n0 hKm hKs hKn => ?_
 refine H4 hs rfl hKs (qw_ 2) ?_
 refine km_ hs ?_
 refine km_ hs ?_
 refine F5 _ _ rfl rfl (List.Perm.refl _) hKm fun w0 => (B3 (Mc := MP) (R := _) (aS rfl (a0)) kR qP (P6 pb s MP _ hP qO qO hG.up) rfl ?_)
 rintro v8 M8 J8 ⟨hP8, h8⟩ hKx8
 haveI := h8.cel
 refine F5 M8 _ rfl rfl qP (fun x hx => hKx8 (hKn rfl) x (by simpa using hx)) fun w0 => (B3 (Mc := M8) (R := _) (aS rfl (a0)) kR qP (P6 pb (D8 s) M8 _ hP8 qO qO hG.up) rfl ?_)
 rintro v10 M10 J10 ⟨hP10, h10⟩ hKx10
 haveI := h10.cel
 refine E2 hs rfl (D7 (place := fun x => #[(0, 2), (2, 1), (3, 1), (4, 1), (5, 1), (6, 1), (7, 1)][x]?) (z := [L7, L7, vS, vS, vS, vS, D3, vS]) (fun _ => by kernel_rfl) (eS rfl (eS rfl (eS rfl (eS rfl e0)))) (bdS 0 2 rfl qR (bdS 2 1 rfl qR (bdS 3 1 rfl qR (bdS 6 1 rfl qR bd0))))) rfl ?_
 refine F5 [] _ rfl rfl (List.Perm.refl _) (fun _ h => by cases h) fun w0 => (A9K rfl (by first | exact Cel.cel | rfl) rfl fun b12 => fun hk12 => ?_)
 dsimp only [List.cons_append, List.nil_append, List.append_eq]
 refine E2 hs rfl (E8 rfl) rfl ?_
 refine G2 (C7 0 5) (A1 (mv_ (mv_ ?_)))
 refine A4 rfl (B3 (Mc := (b12, blk [.int .i64 u, .int .i64 d, v8, v10, vS, vS, (vU 1), vS] 98) :: M10) (R := _) (aS rfl (aS rfl a0)) kR qP (B2m b12 pb (k0N u d s) (D8 (D8 s)) [(b12, blk [.int .i64 u, .int .i64 d, v8, v10, vS, vS, (vU 1), vS] 98)] M10 _ ⟨⟨v8, v10, _, _, _, [], [], [], [], [], [], rfl, h8.mono qS, h10.mono qS, Sl.nil, RwL.nil, Sl.nil, RwL.nil, Sl.nil, RwL.nil, show 1 < 4294967296 by decide, Nat.zero_le _, Nat.zero_le _, Nat.zero_le _⟩⟩ hP10 qO qO (show 1 + 100 < 4000000000 by decide) hG.up) rfl ?_)
 rintro v15 M15 J15 ⟨MK15, MP15, rfl, hK15, hP15⟩
 refine A0 (C7 0 5) (A1 (mv_ (mv_ ?_)))
 refine A4 rfl (B3 (Mc := MK15 ++ MP15) (R := _) (aS rfl (aS rfl a0)) kR qP (B2k b12 pb _ _ MK15 MP15 _ (hK15.mono qS) hP15 qO qO (by rw [A5d]; show 1 + 1 + 100 < 4000000000; decide) hG.up) rfl ?_)
 rintro v18 M18 J18 ⟨rfl, MK18, MP18, rfl, hK18, hP18⟩
 refine A0 (C9 5) (A1 (mv_ (as_ (A0 (C9 4) (A8 ?_)))))
 exact ⟨_, MK18 ++ MP18, [(b3, blk [.int .i64 u, .int .i64 d] 53)], G5 rfl rfl, Fit.pick (B := [_]) qP (Fit.last qP), _, MK18, MP18, rfl, rfl, hK18.mono qS, hP18⟩
theorem A6N (pb : Nat) (s : Ps) (kb : Nat) (k : Ks) (va vg vq vo vm : Value) (rs ro rm : List (List Value)) (x : Pr) (sl : List Pr) (MP A : Mem) (hK : KyR A kb k va vg vq vo vm rs ro rm) (hsg : k.signed = x :: sl) (hP : Prm pb s MP) (hn : s.ts.length + 100 ≤ 1048576) (hol : k.once.length ≤ 10) (hG : Glb A) : FnX Tryz.prog 19 [(vP kb), (vP pb)] MP A fun q M J => Prm pb (B1g k s).2 M ∧ ∃ rows, Rd J 10 q (B1g k s).1.length rows.flatten ∧ RwL bnR (J ++ A) rows (B1g k s).1 := by
 have hkb := hK.blk_
 haveI := hK.agree.cel
 haveI := hK.sign.cel
 haveI := hK.signed.cel
 haveI := hK.once.cel
 haveI := hK.met.cel
 have il := A1y k s
 obtain ⟨r0, hr0, vs_, vg_, rfl, hs_, hg_, hxn⟩ := hK.signedR.get 0 x (by rw [hsg]; rfl)
 haveI := hs_.cel
 haveI := hg_.cel
 refine FnX.enterZ (N := 62) Tryz.func19 rfl rfl rfl fun w_ => ?_
 refine A7 (C7 0 1) (A1 (as_ (A0 (C7 0 1) (A6 (A1 (mv_ ?_))))))
 refine A3 (D0 (e := 98) rfl rfl kR) rfl ?_
 refine A0 (E0 0 1 12) ?_
 refine B0 rfl ?_
 refine A5 (nx (C7 0 1) (A1 (mv_ ?_)))
 refine A3 (D2 rfl) rfl ?_
 refine A3 (qf_ 4 4) rfl ?_
 refine A3 (G7 rfl kR (mA hkb) qR) rfl ?_
 refine A3 (F1 (sz := 3) (a := 0) rfl rfl kR rfl hK.signed (by rw [hsg]; simp)) rfl ?_
 refine A3 (U1 rfl kR (hK.signed.mono qS) (hK.signedR.lens prT) qD hr0) rfl ?_
 refine A4 rfl (C5 (cs := [.int .u32 0, vS, vS]) kR rfl fun b5 => ?_)
 refine A4 rfl (A9 (vs := [(vU x.n), vs_, vg_]) rfl rfl rfl kR qR (A2 rfl (A2 hs_.one (A2 hg_.one G9))) UpC.upd ?_)
 refine A0 (E0 0 1 5) ?_
 refine D9 (MP) (_) true (.range 17) [(0, 0), (1, 0), (2, 0), (3, 1), (4, 0), (5, 0), (7, 0), (8, 1), (9, 0), (10, 0), (11, 1), (13, 0), (14, 1), (6, 3), (12, 3), (15, 3), (16, 4), (17, 2)] kR kR qP fun hs K n0 hKm hKs hKn => ?_
 refine km_ hs ?_
 refine E2 hs rfl (D2 rfl) rfl ?_
 refine E2 hs rfl (qf_ 0 0) rfl ?_
 refine H4 hs rfl hKs (A1i (n := 2) rfl kR (mA hkb) TakeC.take) ?_
 refine km_ hs ?_
 refine km_ hs ?_
 refine E2 hs rfl (qf_ 0 0) rfl ?_
 refine H4 hs rfl hKs ql_ ?_
 refine km_ hs ?_
 refine E2 hs rfl (qf_ 1 1) rfl ?_
 refine H4 hs rfl hKs ql_ ?_
 refine E2 hs rfl (qf_ 2 2) rfl ?_
 refine H4 hs rfl hKs ql_ ?_
 refine V8 [⟨6, 25, none, MP, fun v B R => Prm pb (idS k s) B ∧ ∃ p q, v = .agg #[p, q] ∧ By R p (idA k s) ∧ By R q (idG k s)⟩, ⟨12, 31, some 6, [], fun v B R => Prm pb (H7 (idS k s) x.sec) B ∧ By R v (H8 (idS k s) x.sec)⟩, ⟨15, 34, none, [], fun v B R => B = [] ∧ ∃ p q u, v = .agg #[.int .i64 k.user, .int .i64 k.dev, p, q, (vU x.n), u, vg_, .bool false, (vU 0), vS] ∧ By R p (idA k s) ∧ By R q (idG k s) ∧ By R u (H8 (idS k s) x.sec)⟩, ⟨16, 6, none, [], fun v B _ => ∃ b, v = (vP b) ∧ B = [(b, blk [.int .i64 0, .int .i64 0, vS, vS, .int .u32 0, vS, vS, .bool false, .int .u32 0, vS] 79)]⟩] (_) (fun bs => [bs 12, bs 15, bs 16]) (hKn rfl) (List.Perm.refl _) (show ∀ m ∈ ([MP, [], []] : List Mem), ∀ x ∈ m, K x.1 from A2 (hKm) (A2 (fun _ h => by cases h) (A2 (fun _ h => by cases h) (G9)))) kR (fun _ => by first | rfl | kernel_rfl)
  (A2 (fun _ _ _ _ h ⟨p1, p, q, e, p2, p3⟩ => ⟨p1, p, q, e, p2.mono h, p3.mono h⟩) (A2 (fun _ _ _ _ h ⟨p1, p2⟩ => ⟨p1, p2.mono h⟩) (A2 (fun _ _ _ _ h ⟨p1, p, q, u, e, p2, p3, p4⟩ => ⟨p1, p, q, u, e, p2.mono h, p3.mono h, p4.mono h⟩) (A2 (fun _ _ _ _ h hp => hp) (G9))))) (show List.Nodup [25, 31, 34, 6] by decide) (show List.Nodup [6, 12, 15, 16] by decide) (A2 (C4 rfl) (A2 (C4 rfl) (A2 (C4 rfl) (A2 (C4 rfl) (G9)))))
  (A2 ⟨_, rfl, fun vs bs R Rj wG hb hj hjr ha => ⟨.inl rfl, ?_⟩⟩ (A2 ⟨_, rfl, fun vs bs R Rj wG hb hj hjr ha => ⟨.inl rfl, ?_⟩⟩ (A2 ⟨_, rfl, fun vs bs R Rj wG hb hj hjr ha => ⟨.inl rfl, ?_⟩⟩ (A2 ⟨_, rfl, fun vs bs R Rj wG hb hj hjr ha => ⟨.inl rfl, ?_⟩⟩ (G9))))) ?_
 ·
  dsimp only [Gc.inp]
  refine B3 (Mc := MP) (R := []) (aS rfl (aS rfl (a0))) kR qM (A2x pb s kb k va vg vq vo vm rs ro rm MP _ (hK.mono (fun x hx => by have := hb x (by simp [hx]); simp [this])) hP qO (hG.sub (fun x hx => by have := hb x (by simp [hx]); simp [this]))) rfl ?_
  rintro v25 M25 J25 ⟨hP25, p, q, rfl, hp, hq⟩
  exact ⟨_, rfl, by simpa using hP25, p, q, rfl, hp.mono fun x hx => by simp [hx], hq.mono fun x hx => by simp [hx]⟩
 ·
  dsimp only [Gc.inp]
  have g6 := ha _ (List.mem_of_getElem? (i := 0) rfl) kR
  replace g6 : (fun v B R => Prm pb (idS k s) B ∧ ∃ p q, v = .agg #[p, q] ∧ By R p (idA k s) ∧ By R q (idG k s)) (vs 6) (bs 6) Rj := g6
  dsimp only at g6
  obtain ⟨hP25, -⟩ := g6
  refine B3 (Mc := bs 6) (R := []) (aS rfl (aS rfl (a0))) kR qM (Y3 pb (idS k s) vs_ x.sec (bs 6) _ hP25 qO (hs_.mono (fun x hx => by have := hb x (by simp [hx]); simp [this])) (hG.sub (fun x hx => by have := hb x (by simp [hx]); simp [this]))) rfl ?_
  rintro v31 M31 J31 ⟨hP31, h31⟩
  exact ⟨_, rfl, by simpa using hP31, h31.mono fun x hx => by simp [hx]⟩
 ·
  dsimp only [Gc.inp]
  have g6 := ha _ (List.mem_of_getElem? (i := 0) rfl) kR
  replace g6 : (fun v B R => Prm pb (idS k s) B ∧ ∃ p q, v = .agg #[p, q] ∧ By R p (idA k s) ∧ By R q (idG k s)) (vs 6) (bs 6) Rj := g6
  dsimp only at g6
  have g12 := ha _ (List.mem_of_getElem? (i := 1) rfl) kR
  replace g12 : (fun v B R => Prm pb (H7 (idS k s) x.sec) B ∧ By R v (H8 (idS k s) x.sec)) (vs 12) (bs 12) Rj := g12
  dsimp only at g12
  obtain ⟨-, h31⟩ := g12
  obtain ⟨-, p, q, e25, hp, hq⟩ := g6
  haveI := h31.cel
  haveI := hp.cel
  haveI := hq.cel
  dsimp only [L5, List.map, List.cons_append, List.nil_append]
  rw [e25]
  exact OpQ.opL (D7 (place := fun x => #[(0, 2), (2, 2), (4, 1), (5, 1), (6, 1), (7, 1), (8, 1), (9, 1)][x]?) (z := [L7, L7, vS, vS, D3, vS, vS, .bool false, D3, vS]) (fun _ => by kernel_rfl) (eS rfl (eS rfl (eS rfl (eS rfl (eS rfl e0))))) (bdS 0 2 rfl qR (bdS 2 2 rfl qR (bdS 4 1 rfl qR (bdS 5 1 rfl qR (bdS 6 1 rfl qR bd0)))))) rfl ⟨_, rfl, rfl, p, q, _, rfl, hp, hq, h31⟩
 ·
  dsimp only [Gc.inp]
  exact C5 (cs := [L7, L7, vS, vS, D3, vS, vS, .bool false, D3, vS]) kR rfl fun b => ⟨_, rfl, b, rfl, rfl⟩
 intro vs bs Jn0 hφ hKK
 have kk6 := hKK _ (List.mem_of_getElem? (i := 0) rfl)
 dsimp only at kk6
 have kk12 := hKK _ (List.mem_of_getElem? (i := 1) rfl)
 dsimp only at kk12
 have kk15 := hKK _ (List.mem_of_getElem? (i := 2) rfl)
 dsimp only at kk15
 have kk16 := hKK _ (List.mem_of_getElem? (i := 3) rfl)
 dsimp only at kk16
 clear hKK
 have g6 := ofH hφ
 dsimp only at g6
 replace hφ := ofT hφ
 have g12 := ofH hφ
 dsimp only at g12
 replace hφ := ofT hφ
 have g15 := ofH hφ
 dsimp only at g15
 replace hφ := ofT hφ
 have g16 := ofH hφ
 dsimp only at g16
 clear hφ
 dsimp only [L5, N9, List.foldr, List.map, List.cons_append, List.nil_append]
 generalize bs 6 = B25 at *
 generalize bs 12 = B31 at *
 generalize bs 15 = B34 at *
 generalize bs 16 = B6 at *
 generalize vs 6 = u25 at *
 generalize vs 12 = u31 at *
 generalize vs 15 = u34 at *
 generalize vs 16 = u6 at *
 obtain ⟨hP31, h31⟩ := g12
 clear g6
 obtain ⟨b6, rfl, rfl⟩ := g16
 obtain ⟨rfl, p, q, u, rfl, hp, hq, hu⟩ := g15
 haveI := hp.cel
 haveI := hq.cel
 haveI := hu.cel
 obtain ⟨bb, hbb⟩ : ∃ bb, bunB k x s = bb := ⟨_, rfl⟩
 obtain ⟨s2, hs2⟩ : ∃ s2, H7 (idS k s) x.sec = s2 := ⟨_, rfl⟩
 rw [hs2] at hP31
 have hs2l : s2.ts.length ≤ s.ts.length + 6 := by have := P0 (idS k s) x.sec; rw [hs2] at this; omega
 have hbun : B1g k s = A3n bb k.once s2 k.once.length := by unfold B1g; rw [hsg, ← hbb, ← hs2]
 rw [hbun]
 have hbr : ∀ R, (∀ y, y ∈ Jn0 ++ [] ++ A → y ∈ R) → bnR R bb [.int .i64 k.user, .int .i64 k.dev, p, q, (vU x.n), u, vg_, .bool false, (vU 0), vS] := fun R hR => ⟨p, q, u, vg_, _, by rw [← hbb]; rfl, by rw [← hbb]; exact hp.mono hR, by rw [← hbb]; exact hq.mono hR, by rw [← hbb]; exact hu.mono hR, by rw [← hbb]; exact hg_.mono fun y hy => hR y (List.mem_append_right _ hy), by rw [← hbb]; exact By.nil, by rw [← hbb]; exact hxn, by rw [← hbb]; show 0 < 4294967296; decide⟩
 refine I4 rfl rfl rfl (A9 (vs := [.int .i64 k.user, .int .i64 k.dev, p, q, (vU x.n), u, vg_, .bool false, (vU 0), vS]) rfl rfl rfl kR qR (A2 rfl (A2 rfl (A2 hp.one (A2 hq.one (A2 rfl (A2 hu.one (A2 hg_.one al3))))))) UpC.upd ?_)
 refine G2 (E0 0 1 6) ?_
 refine V7 (B := [(b6, blk [.int .i64 k.user, .int .i64 k.dev, p, q, (vU x.n), u, vg_, .bool false, (vU 0), vS] 79)]) qP ?_
 refine A1 ?_
 refine A3 (qw_ 10) rfl ?_
 refine A4 rfl (C0 (e := 79) (sz := 10) (z := [L7, L7, vS, vS, D3, vS, vS, .bool false, D3, vS]) kR (eS rfl e0) (bdS 0 10 rfl qR bd0) rfl fun b36 => ?_)
 refine as_ (A0 (F2 0 1 6 7) (A6 (A1 (mv_ ?_))))
 refine A3 (D2 rfl) rfl ?_
 refine A3 (qf_ 5 5) rfl ?_
 refine A3 (G7 rfl kR (mA hkb) qR) rfl ?_
 refine A3 (E5 (sz := 3) rfl kR hK.once) rfl ?_
 refine mv_ (A0 (I8 1 6 7 40 41 42) (C3 ?_))
 refine H1 (α := Nat × (Value × List (List Value) × Mem) × Mem × Mem) (fun y => [(1, (vP pb)), (6, (vP b6)), (7, y.2.1.1), (40, vo), (41, (vI k.once.length)), (42, (vI y.1))]) (fun y => y.2.1.2.2 ++ y.2.2.1) (fun y => y.2.2.2) (fun y => y.1 ≤ k.once.length ∧ Sl 10 y.2.1.1 (y.1 + 1) y.2.1.2.1.flatten y.2.1.2.2 ∧ RwL bnR (y.2.2.2 ++ A) y.2.1.2.1 (A3n bb k.once s2 y.1).1 ∧ Prm pb (A3n bb k.once s2 y.1).2 y.2.2.1 ∧ (b6, blk [.int .i64 k.user, .int .i64 k.dev, p, q, (vU x.n), u, vg_, .bool false, (vU 0), vS] 79) ∈ y.2.2.2 ∧ ∀ z, z ∈ Jn0 ++ [] ++ A → z ∈ y.2.2.2 ++ A) (fun y => k.once.length - y.1) (0, (.slice (some ⟨b36, 0, none⟩) 1 1, [[.int .i64 k.user, .int .i64 k.dev, p, q, (vU x.n), u, vg_, .bool false, (vU 0), vS]], [(b36, _)]), B31, _) ⟨Nat.zero_le _, Sl.fresh (n := 1) (cs := [.int .i64 k.user, .int .i64 k.dev, p, q, (vU x.n), u, vg_, .bool false, (vU 0), vS]) (e := 79) rfl qD, RwL.cons (hbr _ qS) RwL.nil, hP31, by simp, qS⟩ (I8 1 6 7 40 41 42) (Fit.pick (B := [_]) qP (Fit.last qP)) qI ?_
 rintro ⟨i, ⟨vi, ri, Bi⟩, MPi, Ji⟩ ⟨hi, hsi, hri, hPi, hJb, hJn⟩
 dsimp only at hi hsi hri hPi hJb hJn ⊢
 haveI := hsi.cel
 have hbl := A4B (b := bb) (s := s2) hi
 refine A1 ?_
 refine A3 (E9 rfl rfl rfl) rfl ?_
 refine A0 (R8 1 6 7 40 41 42 43) (A6 ?_)
 refine C1 rfl ?_ ?_ <;> intro hc
 ·
  have hlt : i < k.once.length := by simp at hc; omega
  obtain ⟨o, ho⟩ : ∃ o, k.once[i]? = some o := ⟨_, List.getElem?_eq_getElem hlt⟩
  obtain ⟨r1, hr1, vo1, vo2, rfl, ho1, ho2, hon⟩ := hK.onceR.get i o ho
  haveI := ho1.cel
  haveI := ho2.cel
  have hbs := A29 (b := bb) (s := s2) ho
  refine A5 (nx (I8 1 6 7 40 41 42) (A6 (C3 (A1 ?_))))
  refine A3 (F1 (sz := 3) rfl rfl kR rfl hK.once hlt) rfl ?_
  refine A3 (U1 rfl kR (hK.once.mono qS) (hK.onceR.lens prT) qD hr1) rfl ?_
  refine A4 rfl (C5 (cs := [.int .u32 0, vS, vS]) kR rfl fun b9 => ?_)
  refine A4 rfl (A9 (vs := [(vU o.n), vo1, vo2]) rfl rfl rfl kR qR (A2 rfl (A2 ho1.one (A2 ho2.one G9))) UpC.upd ?_)
  refine A0 (R8 1 6 7 9 40 41 42) (A1 ?_)
  refine A3 (A5t (n := 10) rfl kR (List.mem_append_right _ (List.mem_append_left _ hJb)) qR) rfl ?_
  refine A4 rfl (C5 (cs := [L7, L7, vS, vS, D3, vS, vS, .bool false, D3, vS]) kR rfl fun b10 => ?_)
  refine A4 rfl (A9 (vs := [.int .i64 k.user, .int .i64 k.dev, p, q, (vU x.n), u, vg_, .bool false, (vU 0), vS]) rfl rfl rfl kR qR (A2 rfl (A2 rfl (A2 hp.one (A2 hq.one (A2 rfl (A2 hu.one (A2 hg_.one al3))))))) UpC.upd ?_)
  refine A0 (A0e 1 6 7 9 10 40 41 42) ?_
  refine D9 (MPi ++ [(b10, blk [.int .i64 k.user, .int .i64 k.dev, p, q, (vU x.n), u, vg_, .bool false, (vU 0), vS] 79)]) (_) true [0, 1, 2, 3, 4, 5, 6, 7, 8, 10] [(0, 0), (1, 1), (2, 0), (3, 0), (4, 1), (6, 0), (5, 2), (7, 2), (8, 0), (9, 2), (10, 0), (11, 2)] kR kR qP fun hs K n0 hKm hKs hKn => ?_
  refine E2 hs rfl (qf_ 0 0) rfl ?_
  refine H4 hs rfl hKs ql_ ?_
  refine km_ hs ?_
  refine E2 hs rfl (qf_ 1 1) rfl ?_
  refine H4 hs rfl hKs ql_ ?_
  refine E2 hs rfl (qf_ 7 7) rfl ?_
  refine F5 MPi _ rfl rfl qP (fun y hy => hKm y (by simp [hy])) fun w0 => (B3 (Mc := MPi) (R := _) (aS rfl (aS rfl (a0))) kR qP (Y3 pb _ vo1 o.sec MPi _ hPi qO (ho1.mono qS) hG.up) rfl ?_)
  rintro v52 M52 J52 ⟨hP52, h52⟩ hKx52
  haveI := h52.cel
  refine F5 [(b10, blk [.int .i64 k.user, .int .i64 k.dev, p, q, (vU x.n), u, vg_, .bool false, (vU 0), vS] 79)] _ rfl rfl qP (fun y hy => hKm y (by simp at hy; simp [hy])) fun w0 => (F0 rfl rfl rfl kR SetC.set UpC.upd ?_)
  intro hkS
  dsimp only [List.cons_append, List.nil_append, List.append_eq]
  refine E2 hs rfl (qf_ 8 8) rfl ?_
  refine I4 rfl rfl rfl (F0 rfl rfl rfl kR SetC.set UpC.upd ?_)
  refine E2 hs rfl (qf_ 9 9) rfl ?_
  refine I4 rfl rfl rfl (F0 rfl rfl h52.one kR SetC.set UpC.upd ?_)
  refine G2 (R8 1 6 7 10 40 41 42) (C8 (mv_ ?_))
  refine A3 (qw_ 10) rfl ?_
  refine A4 rfl (C0 (e := 79) (sz := 10) (z := [L7, L7, vS, vS, D3, vS, vS, .bool false, D3, vS]) kR (eS rfl e0) (bdS 0 10 rfl qR bd0) rfl fun b58 => ?_)
  refine A4 rfl (F9 (e := 79) (sz := 10) (by_ := 152) rfl rfl kR rfl hsi (Rd.whole (n := 1) At.mem qR) (A2 rfl (A2 rfl (A2 hp.one (A2 hq.one (A2 rfl (A2 hu.one (A2 hg_.one (A2 rfl (A2 rfl (A2 h52.one G9)))))))))) qP (by unfold maxLen; omega) qO rfl fun v59 B59 hs59 => ?_)
  refine as_ (E3 (nb (nx (I8 1 6 7 40 41 42) (C8 ?_))))
  refine A3 (K7 ((i + 1 : Nat) : Int) rfl rfl (T4 qO qO qO)) rfl ?_
  refine mv_ (E3 ?_)
  exact rn (i + 1, (v59, ri ++ [[.int .i64 k.user, .int .i64 k.dev, p, q, (vU x.n), u, vg_, .bool true, (vU o.n), v52]], B59), M52, _) ⟨by dsimp only; omega, by simpa using hs59, by dsimp only; rw [hbs]; exact (hri.mono bnT qS).snoc ⟨p, q, u, vg_, v52, by rw [← hbb]; rfl, by rw [← hbb]; exact hp.mono fun z hz => qS z (hJn z hz), by rw [← hbb]; exact hq.mono fun z hz => qS z (hJn z hz), by rw [← hbb]; exact hu.mono fun z hz => qS z (hJn z hz), by rw [← hbb]; exact hg_.mono qS, h52.mono qS, by rw [← hbb]; exact hxn, hon⟩, by dsimp only; rw [hbs]; exact hP52, List.mem_append_right _ hJb, fun z hz => qS z (hJn z hz)⟩ (by dsimp only; omega) (I8 1 6 7 40 41 42) (Fit.pick qP (Fit.last qP)) qI
 ·
  have hge : i = k.once.length := by simp at hc; omega
  subst hge
  refine H0 (te (re (be rfl (nx (C9 7) (A1 (mv_ (as_ (A0 (C9 4) ?_))))))))
  refine A8 ?_
  exact ⟨_, MPi, Bi, G5 rfl rfl, Fit.pick qP (Fit.last qP), hPi, ri, by rw [hbl.1]; exact hsi.rd fun x hx => by simp [hx], hri.mono bnT qS⟩

end Go.Proofs.YtpemeceacdhacaaGreatDoor
namespace Go.Px
def B3v (P : Program) (t tn : TypeId) : Option (TypeId × List Value × Nat) :=
  match P.underlying tn with
  | some (.int _) => match P.underlying t with
    | some (.slice e) => match P.info? e with
      | some i => match i.zero with
        | some z => if i.size = z.cells.size ∧ 0 < i.size then some (e, z.cells.toList, i.bytes) else none
        | none => none
      | none => none
    | _ => none
  | _ => none
theorem Z3 (zs : Array Value) (n : Nat) : (Builtin.zeroCells zs n).size = n * zs.size := by simp [Builtin.zeroCells]
section z
variable {C : Cx} {l : Env} {M J : Mem} {K : Env → Mem → Mem → Prop} {d : Nat} {ty t tn e : TypeId} {pos : String} {af : Array Edge} {g : Option (Nat × Bool)} {x y : Operand}
end z
theorem B2o {P : Program} {R : Mem} {l : Env} {d : Option Nat} {ty : TypeId} {pos : String} {af : Array Edge} {g : Option (Nat × Bool)} {x : Operand} {t e : TypeId} {p : Option Addr} {n c : Nat} (hx : ev l x = some (.slice p n c)) (hu : P.underlying t = some (.slice e)) :
    OpQ P R ⟨d, .call { callee := .builtin .cap, args := #[x], argTypes := #[t] }, ty, pos, af, g⟩ l (.int .i64 c) := fun N a w ha hw => by
  simp [execOp, resolve, invoke, builtin, Builtin.cap_, ha.ev hx, run_underlying hu, goInt]
end Go.Px

namespace Go.Proofs.YtpemeceacdhacaaGreatDoor
open Go.Px
def useK (k : Ks) (n : Nat) : Ks := { k with once := k.once.filter fun x => !A1x n x }
def meetK (k : Ks) (n : Nat) (w : LN) : Ks := if (A12 k.signed n).isSome && !decide (0 ≤ K1 (tstN n w) k.met) then { k with met := k.met ++ [⟨n, w⟩] } else k
def secL (k : Ks) : List (LN) := k.agree :: k.sign :: (k.signed ++ k.once).map (·.sec)

def snN (k : Ks) : LN := k.signed.map (·.n)
def onN (k : Ks) : LN := k.once.map (·.n)
theorem B0z {l : List Pr} (h : (l.map (·.n)).Pairwise (· < ·)) : A9s l := by
  intro i j x y hij hx hy
  have h1 := List.pairwise_iff_getElem.1 h i j (by rw [List.length_map]; exact (List.getElem?_eq_some_iff.1 hx).1) (by rw [List.length_map]; exact (List.getElem?_eq_some_iff.1 hy).1) hij
  obtain ⟨hi, ei⟩ := List.getElem?_eq_some_iff.1 hx
  obtain ⟨hj, ej⟩ := List.getElem?_eq_some_iff.1 hy
  simp only [List.getElem_map, ei, ej] at h1
  exact h1
def Fr (s : Ps) (w : LN) (i : Nat) : Prop := if s.real then w = B1e s.seed i else ∃ j, s.ts[j]? = some (A9g i) ∧ w = bts ((j : Nat) : Int)
theorem Fr.ext {s s' : Ps} {w : LN} {i : Nat} (h : Fr s w i) (he : Ext s s') : Fr s' w i := by
  unfold Fr at h ⊢
  rw [he.p.real]
  obtain ⟨l, e⟩ := he.p.ts
  split
  · rename_i hr; rw [if_pos hr] at h; rw [he.seed]; exact h
  · rename_i hr
    rw [if_neg hr] at h
    obtain ⟨j, h1, h2⟩ := h
    exact ⟨j, by rw [e]; exact A10 h1, h2⟩
theorem B3w {s : Ps} {w w' : LN} {i i' : Nat} (h : Fr s w i) (h' : Fr s w' i') (hi : i ≠ i') (hl : s.ts.length ≤ 1048576) (hk : s.real = true → B1e s.seed i ≠ B1e s.seed i') : w ≠ w' := by
  unfold Fr at h h'
  split at h
  · rename_i hr
    rw [if_pos hr] at h'
    rw [h, h']
    exact hk hr
  · rename_i hr
    rw [if_neg hr] at h'
    obtain ⟨j, h1, rfl⟩ := h
    obtain ⟨j', h2, rfl⟩ := h'
    intro e
    have b1 := (List.getElem?_eq_some_iff.1 h1).1
    have b2 := (List.getElem?_eq_some_iff.1 h2).1
    have e2 := A6o qO qO e
    subst e2
    rw [h1] at h2
    have e3 := Option.some.inj h2
    unfold A9g at e3
    injection e3 with a1 a2 a3 a4
    exact hi qO
structure Sok (L : List (LN)) (s : Ps) : Prop where
  nd : L.Nodup
  fr : ∀ w ∈ L, ∃ i, i ≤ s.n ∧ Fr s w i
theorem Sok.nil {s : Ps} : Sok [] s := ⟨List.nodup_nil, fun w h => by cases h⟩
theorem Sok.ext {L : List (LN)} {s s' : Ps} (h : Sok L s) (he : Ext s s') : Sok L s' := ⟨h.nd, fun w hw => by
  obtain ⟨i, h1, h2⟩ := h.fr w hw
  exact ⟨i, Nat.le_trans h1 he.n, h2.ext he⟩⟩
theorem Sok.sub {L L' : List (LN)} {s : Ps} (h : Sok L s) (hs : L'.Sublist L) : Sok L' s := ⟨h.nd.sublist hs, fun w hw => h.fr w (hs.subset hw)⟩
theorem Sok.perm {L L' : List (LN)} {s : Ps} (h : Sok L s) (hp : L.Perm L') : Sok L' s := ⟨hp.nodup_iff.1 h.nd, fun w hw => h.fr w (hp.mem_iff.2 hw)⟩
def B3x (seed : LN) (m : Nat) : Prop := ∀ i j, i ≤ m → j ≤ m → i ≠ j → B1e seed i ≠ B1e seed j
theorem Sok.add {L : List (LN)} {s s' : Ps} {w : LN} {m : Nat} (h : Sok L s) (he : Ext s s') (hw : Fr s' w (s.n + 1)) (hn : s.n + 1 ≤ s'.n) (hl : s'.ts.length ≤ 1048576) (hm : s.n + 1 ≤ m) (ha : s'.real = true → B3x s'.seed m) : Sok (w :: L) s' := by
  have h' := h.ext he
  refine ⟨List.nodup_cons.2 ⟨fun hm' => ?_, h.nd⟩, fun x hx => ?_⟩
  · obtain ⟨i, h1, h2⟩ := h.fr w hm'
    exact B3w hw (h2.ext he) (show s.n + 1 ≠ i by omega) hl (fun hr => ha hr _ _ hm qO qO) rfl
  · rcases List.mem_cons.1 hx with rfl | hx
    · exact ⟨_, hn, hw⟩
    · exact h'.fr x hx
structure BuI (k : Ks) (s : Ps) : Prop where
  tok : Tok s.ts
  ar : Ar s.ts
  ag : Kok s k.agree
  sg : Kok s k.sign
  signed : ∀ x ∈ k.signed, Kok s x.sec ∧ ∃ p, A2s s x.sec p ∧ A22 s k.sign (A6F x.n p) x.sig
  once : ∀ x ∈ k.once, Kok s x.sec
theorem BuI.ext {k : Ks} {s s' : Ps} (h : BuI k s) (he : Pext s s') (ht : Tok s'.ts) (ha : Ar s'.ts) : BuI k s' :=
  ⟨ht, ha, h.ag.ext he, h.sg.ext he, fun x hx => by
    obtain ⟨h1, p, h2, h3⟩ := h.signed x hx
    exact ⟨h1.ext he, p, h2.ext he, h3.ext he⟩, fun x hx => (h.once x hx).ext he⟩
theorem BuI.id {k : Ks} {s : Ps} (h : BuI k s) (hl : s.ts.length + 100 ≤ 1048576) : BuI k (idS k s) ∧ Pext s (idS k s) ∧ A2s (idS k s) k.agree (idA k s) ∧ B1f (idS k s) k.sign (idG k s) := by
  have f1 := P0 s k.agree
  obtain ⟨p1, -, t1⟩ := A9n h.ag h.tok qO
  have e1 := (A9m s k.agree).p
  obtain ⟨-, p2, t2⟩ := A9n (h.sg.ext e1) t1 qO
  have e2 := (A9m (H7 s k.agree) k.sign).p
  have e : Pext s (idS k s) := e1.trans e2
  exact ⟨h.ext e t2 ((h.ar.pub _).pub _), e, p1.ext e2, p2⟩
end Go.Proofs.YtpemeceacdhacaaGreatDoor
namespace Go.Px
open Go
def arrT (P : Program) (t : TypeId) : Option (Nat × IntKind) := match P.underlying t with
  | some (.array n e) => match P.underlying e with
    | some (.int k) => if L8 P e = some 1 then some (n, k) else none
    | _ => none
  | _ => none
section
variable {P : Program} {R : Mem} {l : Env} {d : Option Nat} {ty t : TypeId} {pos : String} {af : Array Edge} {g : Option (Nat × Bool)} {x y : Operand} {k : IntKind}
end
end Go.Px

namespace Go.Px
def intT (P : Program) (t : TypeId) : Bool := match P.underlying t with
  | some (.int _) => true
  | _ => false
def twoT (P : Program) (t : TypeId) : Bool :=
  match P.underlying t with
  | some (.struct fs) => match fs.toList with
    | [f, g] => f.offset == 0 && g.offset == 1 && (f.name != "_") && (g.name != "_") && intT P f.type && intT P g.type && !P.stoodInHeld t && !P.eqGuardType P.depth t
    | _ => false
  | _ => false
section
variable {P : Program} {R : Mem} {l : Env} {d : Option Nat} {ty t t' : TypeId} {pos : String} {af : Array Edge} {g : Option (Nat × Bool)} {x y : Operand} {k : IntKind} {a b a' b' : Int}
variable {v u : Value} {xs : List Value} {n j sz off m : Nat} {R' : Mem}
def fldT (P : Program) (s : TypeId) (f off : Nat) : Bool := match P.underlying s with
  | some (.struct fs) => match fs[f]? with
    | some fd => fd.offset == off && U5 P fd.type
    | none => false
  | _ => false
end
end Go.Px

namespace Go.Proofs.YtpemeceacdhacaaGreatDoor
open Go.Px
def z32 : LN := List.replicate 32 0
def A0w : LN := [104, 101, 108, 108, 111]
theorem A8w : B256 A0w := ⟨by decide⟩
noncomputable def agS (s : Ps) : List (LN × LN) → Ps
  | [] => s
  | x :: r => agS (K0 s x.1 x.2) r
noncomputable def agK (s : Ps) : List (LN × LN) → List (LN)
  | [] => []
  | x :: r => A0G s x.1 x.2 :: agK (K0 s x.1 x.2) r
def seS (s : Ps) (l : List (LN)) : Ps := A3D s z32 l A0w 1
def seK (s : Ps) (l : List (LN)) : LN := (A4q s z32 l A0w 1).getD 0 []
theorem A3Q : ∀ (l : List (LN × LN)) (s : Ps), (agS s l).ts.length ≤ s.ts.length + 3 * l.length ∧ (agS s l).n = s.n
  | [], s => ⟨Nat.le_refl _, rfl⟩
  | x :: r, s => by
    have h1 := A3Q r (K0 s x.1 x.2)
    have h2 := N3 s x.1 x.2
    have h3 := A6D s x.1 x.2
    rw [List.length_cons]
    show (agS (K0 s x.1 x.2) r).ts.length ≤ _ ∧ (agS (K0 s x.1 x.2) r).n = _
    omega
theorem A3R : ∀ (l : List (LN × LN)) (s : Ps), (agK s l).length = l.length
  | [], s => rfl
  | x :: r, s => by show (_ :: agK _ r).length = _; rw [List.length_cons, A3R r, List.length_cons]
theorem Ar.ag : ∀ (l : List (LN × LN)) {s : Ps}, Ar s.ts → Ar (agS s l).ts
  | [], s, h => h
  | x :: r, s, h => Ar.ag r (h.agr x.1 x.2)
theorem B0A (s : Ps) (l : List (LN)) : (seS s l).ts.length ≤ s.ts.length + l.length + 2 ∧ (seS s l).n = s.n := by
  have h1 := A02 s z32 l A0w 1
  have h2 := (A0u s z32 l A0w 1).2.1
  unfold seS
  omega
inductive AgL (s : Ps) : List (LN × LN) → List (LN) → Prop
  | nil : AgL s [] []
  | cons {a b k : LN} {r : List (LN × LN)} {ks : List (LN)} (h : A25 s a b k) (t : AgL s r ks) : AgL s ((a, b) :: r) (k :: ks)
theorem AgL.ext {s s' : Ps} {l : List (LN × LN)} {ks : List (LN)} (h : AgL s l ks) (he : Pext s s') : AgL s' l ks := by
  induction h with
  | nil => exact .nil
  | cons h t ih => exact .cons (h.ext he) ih
theorem B0s.rok {s : Ps} {a b k : LN} (h : B0s s a b k) : B0g s.ts k := by
  obtain ⟨i, j, m, h1, h2, h3, h4, h5, h6⟩ := h
  exact ⟨m, (List.getElem?_eq_some_iff.1 h5).1, h6⟩
theorem AgL.rok {s : Ps} {l : List (LN × LN)} {ks : List (LN)} (h : AgL s l ks) (hr : s.real = false) : ∀ w ∈ ks, Rok s.ts w := by
  induction h with
  | nil => intro w hw; cases hw
  | cons h t ih =>
    intro w hw
    rcases List.mem_cons.1 hw with rfl | hw
    · exact ((A25.f hr).1 h).rok.rok
    · exact ih w hw
abbrev Tri := LN × LN × LN
def tB (l : List Tri) : List (LN × LN) := l.map fun q => (q.1, q.2.2)
def tb (l : List Tri) : List (LN × LN) := l.map fun q => (q.1, q.2.1)
structure He where
  ia : LN
  ig : LN
  key : LN
  signed : Nat
  has : Bool
  once : Nat
noncomputable def stP (ka e : LN) (b : Bn) : List (LN × LN) := (ka, b.key) :: (e, b.ia) :: (e, b.key) :: if b.has then [(e, b.oncek)] else []
noncomputable def stA (ka : LN) (b : Bn) (s : Ps) : Ps := agS (D8 s) (stP ka (E1 s) b)
noncomputable def stL (ka : LN) (b : Bn) (s : Ps) : List (LN) := agK (D8 s) (stP ka (E1 s) b)
noncomputable def stI (k : Ks) (b : Bn) (s : Ps) : Ps := H7 (idS k (stA k.agree b s)) (E1 s)
noncomputable def stS (k : Ks) (b : Bn) (s : Ps) : Ps := seS (stI k b s) (stL k.agree b s)
noncomputable def stK (k : Ks) (b : Bn) (s : Ps) : LN := seK (stI k b s) (stL k.agree b s)
noncomputable def stH (k : Ks) (b : Bn) (s : Ps) : He := ⟨idA k (stA k.agree b s), idG k (stA k.agree b s), H8 (idS k (stA k.agree b s)) (E1 s), b.signed, b.has, if b.has then b.once else 0⟩
theorem B0B (ka e : LN) (b : Bn) : (stP ka e b).length ≤ 4 := by unfold stP; split <;> simp
theorem B0C (k : Ks) (b : Bn) (s : Ps) : (stA k.agree b s).ts.length ≤ s.ts.length + 13 ∧ (stI k b s).ts.length ≤ s.ts.length + 19 ∧ (stS k b s).ts.length ≤ s.ts.length + 25 ∧ (stS k b s).n = s.n + 1 ∧ (stL k.agree b s).length ≤ 4 := by
  have h1 := L6 s
  have h2 := A3Q (stP k.agree (E1 s) b) (D8 s)
  have h3 := B0B k.agree (E1 s) b
  have h4 := A1y k (stA k.agree b s)
  have h5 := P0 (idS k (stA k.agree b s)) (E1 s)
  have h6 := B0A (stI k b s) (stL k.agree b s)
  have h7 := A3R (stP k.agree (E1 s) b) (D8 s)
  have h8 := A2w (idS k (stA k.agree b s)) (E1 s)
  have h9 : (idS k (stA k.agree b s)).n = (stA k.agree b s).n := by unfold idS; rw [A2w, A2w]
  have e1 : (stA k.agree b s).ts.length = (agS (D8 s) (stP k.agree (E1 s) b)).ts.length := rfl
  have e2 : (stA k.agree b s).n = (agS (D8 s) (stP k.agree (E1 s) b)).n := rfl
  have e3 : (stI k b s).ts.length = (H7 (idS k (stA k.agree b s)) (E1 s)).ts.length := rfl
  have e4 : (stI k b s).n = (H7 (idS k (stA k.agree b s)) (E1 s)).n := rfl
  have e5 : (stL k.agree b s).length = (agK (D8 s) (stP k.agree (E1 s) b)).length := rfl
  have e6 : (stS k b s).ts.length = (seS (stI k b s) (stL k.agree b s)).ts.length := rfl
  have e7 : (stS k b s).n = (seS (stI k b s) (stL k.agree b s)).n := rfl
  omega
def anP (ka sx : LN) (ox : Option (LN)) (h : He) : List (LN × LN) := (sx, h.ia) :: (ka, h.key) :: (sx, h.key) :: match ox with | none => [] | some o => [(o, h.key)]
noncomputable def anE (ka sx : LN) (ox : Option (LN)) (h : He) (s : Ps) : Option (LN × LN) × Ps := (some (seK (agS s (anP ka sx ox h)) (agK s (anP ka sx ox h)), sx), seS (agS s (anP ka sx ox h)) (agK s (anP ka sx ox h)))
noncomputable def anR (k : Ks) (h : He) (s : Ps) : Option (LN × LN) × Ps :=
  match A12 k.signed h.signed with
  | none => (none, s)
  | some sx => if h.has then match A12 k.once h.once with
      | none => (none, agS s (anP k.agree sx none h))
      | some o => anE k.agree sx (some o) h s
    else anE k.agree sx none h s
theorem B2p {k : Ks} {h : He} {s : Ps} (h1 : A12 k.signed h.signed = none) : anR k h s = (none, s) := by unfold anR; rw [h1]
theorem B0D {k : Ks} {h : He} {s : Ps} {sx : LN} (h1 : A12 k.signed h.signed = some sx) (h2 : h.has = true) (h3 : A12 k.once h.once = none) : anR k h s = (none, agS s (anP k.agree sx none h)) := by unfold anR; rw [h1]; dsimp only; rw [if_pos h2, h3]
theorem B0E {k : Ks} {h : He} {s : Ps} {sx o : LN} (h1 : A12 k.signed h.signed = some sx) (h2 : h.has = true) (h3 : A12 k.once h.once = some o) : anR k h s = anE k.agree sx (some o) h s := by unfold anR; rw [h1]; dsimp only; rw [if_pos h2, h3]
theorem A8x {k : Ks} {h : He} {s : Ps} {sx : LN} (h1 : A12 k.signed h.signed = some sx) (h2 : h.has = false) : anR k h s = anE k.agree sx none h s := by unfold anR; rw [h1]; dsimp only; rw [if_neg (by rw [h2]; decide)]
def prs (ka e kb xs : LN) (xo : Option (LN)) : List (LN × LN) := (ka, xs) :: (e, kb) :: (e, xs) :: match xo with | none => [] | some o => [(e, o)]
structure Agd (s : Ps) (ka e kb xs : LN) (xo : Option (LN)) (h : He) (sec : LN) : Prop where
  pia : A2s s ka h.ia
  pkey : A2s s e h.key
  ex : ∃ l, AgL s (prs ka e kb xs xo) l ∧ ∀ s', Pext s s' → Tok s'.ts → s'.ts.length ≤ 1048576 → seS s' l = s' ∧ seK s' l = sec
theorem Agd.ext {s s' : Ps} {ka e kb xs : LN} {xo : Option (LN)} {h : He} {sec : LN} (g : Agd s ka e kb xs xo h sec) (he : Pext s s') : Agd s' ka e kb xs xo h sec := by
  obtain ⟨l, h1, h2⟩ := g.ex
  exact ⟨g.pia.ext he, g.pkey.ext he, l, h1.ext he, fun s2 h3 => h2 s2 (he.trans h3)⟩
theorem A0H {n : Nat} (h : n < 18446744073709551616) : IntKind.u64.wrap (n : Int) = (n : Int) := A19 qO qO
def u32N (x : Int) : Nat := (x % 4294967296).toNat
theorem A6O (x : Int) : u32N x < 4294967296 := by unfold u32N; omega
theorem A3a (x : Int) : IntKind.u32.wrap x = ((u32N x : Nat) : Int) := by
  unfold u32N IntKind.wrap
  simp [IntKind.signed, IntKind.bits]
  omega
def u64N (x : Int) : Nat := (x % 18446744073709551616).toNat

end Go.Proofs.YtpemeceacdhacaaGreatDoor
