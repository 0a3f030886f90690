/- Part 17 of the texts of this claim, one behind the other. -/
import Derived.Test.YthbhpfefdnffaaaGreatDoorB16
set_option linter.unusedVariables false
set_option linter.unusedSimpArgs false
set_option maxRecDepth 100000
namespace Go.Px
theorem B39 {rows : List (List Value)} {sz : Nat} {r : List Value} (hl : ∀ r ∈ rows, r.length = sz) (hr : r.length = sz) {j : Nat} (hj : j < rows.length) :
    rows.flatten.take (j * sz) ++ r ++ rows.flatten.drop (j * sz + sz) = (rows.set j r).flatten := by
  rw [show j * sz + sz = (j + 1) * sz from by rw [Nat.add_mul, Nat.one_mul], A2U hl, A5y hl, List.set_eq_take_append_cons_drop, if_pos hj]
  simp
section
variable {C : Cx} {l : Env} {M J : Mem} {K : Env → Mem → Mem → Prop} {ty t : TypeId} {pos : String} {af : Array Edge} {g : Option (Nat × Bool)} {x y : Operand} {v : Value} {xs : List Value} {n j sz : Nat} {B M0 : Mem}
theorem B4a {r : List Value} (hx : ev l x = some (vAt sz j v)) (hy : ev l y = some (.agg r.toArray)) (h : Sl sz v n xs B) (hr : r.length = sz) (h1 : ∀ u ∈ r, u.oneCell' = true)
    (ht : N9 C.P t = some sz) (hj : j < n) (hM : M.Perm (B ++ M0)) (h2 : ∀ B', Sl sz v n (xs.take (j * sz) ++ r ++ xs.drop (j * sz + sz)) B' → K l (B' ++ M0) J) :
    OpL C ⟨none, .store t x y, ty, pos, af, g⟩ l M J K := by
  suffices hh : OpL C ⟨none, .store t x y, ty, pos, af, g⟩ l (B ++ M0) J K from fun Qp a w ha hw => hh Qp a w ha (hw.fit (Fit.perm hM) fun _ h => h)
  clear hM
  subst hr
  have hjm : j * r.length + r.length ≤ n * r.length := by rw [← Nat.succ_mul]; exact Nat.mul_le_mul_right _ hj
  rcases h with ⟨p, rfl, rfl, hx2, rfl⟩ | ⟨b, o, cap, cs, e, rfl, rfl, h3, h4, h5, h6, h7⟩
  · omega
  · simp only [vAt, Addr.add_mid] at hx
    have hcm : n * r.length ≤ cap * r.length := Nat.mul_le_mul_right _ h3
    refine A4t hx hy rfl ht (by omega) h1 rfl .hd (h2 [_] (.inr ⟨b, o, cap, _, e, rfl, rfl, h3, h4, ?_, ?_, ?_⟩))
    · rw [A0S (by omega)]; exact h5
    · rw [A0S (by omega)]; exact h6
    · intro q u hq
      have hlt := (List.getElem?_eq_some_iff.1 hq).1
      rw [A0S (by omega)] at hlt
      by_cases hq1 : q < j * r.length
      · rw [A2T (by omega) hq1] at hq
        rw [A2T (by omega) (by omega)]
        exact h7 q u hq
      · by_cases hq2 : q < j * r.length + r.length
        · rw [A11 (by omega) (by omega) hq2] at hq
          rw [A11 (by omega) (by omega) (by omega), ← hq]
          congr 1; omega
        · rw [A5w (by omega) (by omega)] at hq
          rw [A5w (by omega) (by omega)]
          exact h7 q u hq
theorem B4b {e : TypeId} {by_ : Nat} {zs : List Value} (hx : ev l x = some (vLo j sz v)) (ht : A2R C.P t = some (e, sz, by_)) (hz : zn C.P t (n - j) = some zs) (h : Sl sz v n xs B)
    (h1 : ∀ c ∈ zs, c.oneCell' = true) (hj : j < n) (hM : M.Perm (B ++ M0)) (h2 : ∀ B', Sl sz v n (xs.take (j * sz) ++ zs) B' → K l (B' ++ M0) J) :
    OpL C ⟨none, .call { callee := .builtin .clear, args := #[x], argTypes := #[t] }, ty, pos, af, g⟩ l M J K := by
  suffices hh : OpL C ⟨none, .call { callee := .builtin .clear, args := #[x], argTypes := #[t] }, ty, pos, af, g⟩ l (B ++ M0) J K from fun Qp a w ha hw => hh Qp a w ha (hw.fit (Fit.perm hM) fun _ h => h)
  clear hM
  have hzl := B4q hz ht
  have hjm : j * sz ≤ n * sz := Nat.mul_le_mul_right _ (by omega)
  rw [Nat.sub_mul] at hzl
  rcases h with ⟨p, rfl, rfl, hx2, rfl⟩ | ⟨b, o, cap, cs, e', rfl, rfl, h3, h4, h5, h6, h7⟩
  · omega
  · have hcm : n * sz ≤ cap * sz := Nat.mul_le_mul_right _ h3
    simp only [vLo, if_neg (show ¬ cap = j by omega), Option.map_some, Addr.add_mid] at hx
    have hnj : (n - j) * sz = zs.length := by rw [hzl, Nat.sub_mul]
    refine B5y hx ht hz h1 (by rw [hnj]; omega) rfl .hd (h2 [_] (.inr ⟨b, o, cap, _, e', rfl, rfl, h3, h4, ?_, ?_, ?_⟩))
    · rw [hnj, A0S (by omega)]; exact h5
    · simp; omega
    · intro q u hq
      have hlt := (List.getElem?_eq_some_iff.1 hq).1
      simp at hlt
      rw [hnj]
      by_cases hq1 : q < j * sz
      · rw [A2T (by omega) (by omega)]
        rw [List.getElem?_append_left (by simp; omega), List.getElem?_take_of_lt hq1] at hq
        exact h7 q u hq
      · rw [A11 (by omega) (by omega) (by omega)]
        rw [List.getElem?_append_right (by simp; omega)] at hq
        rw [← hq]
        congr 1
        simp; omega
end
def kpt {β : Type} (p : Nat → Bool) (rows : List β) : Nat → List β
  | 0 => []
  | j + 1 => kpt p rows j ++ (if p j then [] else rows[j]?.toList)
theorem A7o {β : Type} {p : Nat → Bool} {rows : List β} : ∀ j, (∀ i, i < j → p i = false) → kpt p rows j = rows.take j
  | 0, _ => by simp [kpt]
  | j + 1, h => by
    rw [kpt, A7o j fun i hi => h i (by omega), if_neg (by rw [h j (by omega)]; decide), List.take_add_one]
theorem A4o {α : Type} (q : α → Bool) (xs : List α) : ∀ j, kpt (fun i => (xs[i]?.map q).getD false) xs j = (xs.take j).filter fun x => !q x
  | 0 => by simp [kpt]
  | j + 1 => by
    rw [kpt, A4o q xs j, List.take_add_one, List.filter_append]
    congr 1
    cases h : xs[j]? with
    | none => simp
    | some x => cases hq : q x <;> simp [hq]
theorem RwL.kpt {α : Type} {φ : Mem → α → List Value → Prop} {R : Mem} {rows : List (List Value)} {xs : List α} (h : RwL φ R rows xs) (p : Nat → Bool) : ∀ j, RwL φ R (Px.kpt p rows j) (Px.kpt p xs j)
  | 0 => RwL.nil
  | j + 1 => by
    rw [Px.kpt, Px.kpt]
    refine (RwL.kpt h p j).app ?_
    split
    · exact RwL.nil
    · cases hx : xs[j]? with
      | none =>
        have : rows[j]? = none := by rw [List.getElem?_eq_none_iff] at hx ⊢; rw [h.len]; exact hx
        rw [this]; exact RwL.nil
      | some x =>
        obtain ⟨r, h1, h2⟩ := h.get j x hx
        rw [h1]
        exact RwL.cons h2 RwL.nil
theorem B4c {α : Type} {cur : List α} {i : Nat} {r : α} (h : i < cur.length) : (cur.set i r).take (i + 1) = cur.take i ++ [r] := by
  rw [List.take_add_one, List.getElem?_set_self h, List.take_set_of_le (Nat.le_refl _)]
  rfl
theorem Sl.hi_app {sz n i : Nat} {v : Value} {xs zs : List Value} {B : Mem} (h : Sl sz v n (xs.take (i * sz) ++ zs) B) (hx : xs.length = n * sz) (hi : i ≤ n) : Sl sz (vHi i v) i (xs.take (i * sz)) B := by
  have h2 := h.hiV i hi
  have h3 : i * sz ≤ n * sz := Nat.mul_le_mul_right _ hi
  rwa [List.take_left' (by rw [List.length_take]; omega)] at h2
structure Dfs (sz : Nat) (p : Nat → Bool) (rows cur : List (List Value)) (j i : Nat) : Prop where
  jn : j ≤ rows.length
  ki : i = (kpt p rows j).length
  ij : i < j
  cl : cur.length = rows.length
  ct : cur.take i = kpt p rows j
  cd : cur.drop j = rows.drop j
  cs : ∀ r ∈ cur, r.length = sz
  cr : ∀ r ∈ cur, r ∈ rows
section
variable {sz : Nat} {p : Nat → Bool} {rows cur : List (List Value)} {j i i0 : Nat} {r : List Value}
theorem Dfs.init (hl : ∀ r ∈ rows, r.length = sz) (hi : i0 < rows.length) (hp : p i0 = true) (hq : ∀ j, j < i0 → p j = false) : Dfs sz p rows rows (i0 + 1) i0 := by
  have hk0 : kpt p rows (i0 + 1) = rows.take i0 := by rw [kpt, hp, A7o i0 hq]; simp
  exact ⟨hi, by rw [hk0, List.length_take]; omega, by omega, rfl, hk0.symm, rfl, hl, fun _ h => h⟩
theorem Dfs.at_ (h : Dfs sz p rows cur j i) (hr : rows[j]? = some r) : cur[j]? = some r := by
  have h2 := congrArg (fun l => l[0]?) h.cd
  simpa [List.getElem?_drop, hr] using h2
theorem Dfs.keep (h : Dfs sz p rows cur j i) (hr : rows[j]? = some r) (hp : p j = false) : Dfs sz p rows (cur.set i r) (j + 1) (i + 1) := by
  obtain ⟨h1, h2, h3, h4, h5, h6, h7, h8⟩ := h
  have hjl := (List.getElem?_eq_some_iff.1 hr).1
  have hk : kpt p rows (j + 1) = kpt p rows j ++ [r] := by rw [kpt, hp, hr]; rfl
  have hcj : cur.drop (j + 1) = rows.drop (j + 1) := by rw [← List.drop_drop, ← List.drop_drop, h6]
  refine ⟨hjl, by rw [hk]; simp [← h2], by omega, by simp [h4], ?_, ?_, ?_, ?_⟩
  · rw [B4c (by omega), h5, hk]
  · rw [List.drop_set_of_lt (by omega), hcj]
  · intro x hx
    rcases List.mem_or_eq_of_mem_set hx with hx | hx
    · exact h7 x hx
    · subst hx; exact h7 x (List.mem_of_getElem? (Dfs.at_ ⟨h1, h2, h3, h4, h5, h6, h7, h8⟩ hr))
  · intro x hx
    rcases List.mem_or_eq_of_mem_set hx with hx | hx
    · exact h8 x hx
    · subst hx; exact List.mem_of_getElem? hr
theorem Dfs.skip (h : Dfs sz p rows cur j i) (hjl : j < rows.length) (hp : p j = true) : Dfs sz p rows cur (j + 1) i := by
  obtain ⟨h1, h2, h3, h4, h5, h6, h7, h8⟩ := h
  have hk : kpt p rows (j + 1) = kpt p rows j := by rw [kpt, hp]; simp
  exact ⟨hjl, by rw [hk]; exact h2, by omega, h4, by rw [hk]; exact h5, by rw [← List.drop_drop, ← List.drop_drop, h6], h7, h8⟩
end
end Go.Px

namespace Go.Proofs.YthbhpfefdnffaaaGreatDoor
open Go.Px
theorem B4d {k : IntKind} (c : Int) : I1 .eql k c (-1) = some (.bool (decide (c = -1))) := by
  by_cases h : c = -1
  · rw [decide_eq_true h]; exact eqT h
  · rw [decide_eq_false h]; exact eqF h
theorem A9i (v : Value) (rows : List (List Value)) (f : FuncId) (cs : List Value) (p : Nat → Bool) (B A : Mem) (hs : Sl 2 v rows.length rows.flatten B) (hl : ∀ r ∈ rows, r.length = 2) (h1 : ∀ c ∈ rows.flatten, c.oneCell' = true) (hn : rows.length ≤ 1099511627776) (hc_ : I9 Tryz.prog f = true) (hf : ∀ (j : Nat) (r : List Value), rows[j]? = some r → FnV Tryz.prog f (.agg r.toArray :: cs) A (.bool (p j))) : FnX Tryz.prog 69 [v, .func (.func f) #[] cs.toArray] B A fun q M J => Sl 2 q (kpt p rows rows.length).length (kpt p rows rows.length).flatten M := by
 haveI := hs.cel
 refine FnX.enterZ (N := 42) Tryz.func69 rfl rfl rfl fun w_ => ?_
 refine C4 (D4 0 1) (A3 (as_ (A0 (D4 0 1) (A3 (mv_ (mv_ ?_))))))
 refine G1 (aS rfl (aS rfl a0)) kR (A9f v rows f cs p _ (hs.rd fun x hx => by simp [hx]) hl hn hc_ (fun j r hr => B1v (hf j r hr) SubC.sub)) rfl ?_
 refine as_ (A0 (E1 0 1 5) (A5 (A3 (mv_ ?_))))
 refine A4 (E7 (decide (A6C p rows.length = -1)) rfl rfl (B4d _)) rfl ?_
 refine A0 (E9 0 1 5 12) ?_
 refine C7 rfl (fun hc => ?_) (fun hc => ?_)
 ·
  have hm1 : A6C p rows.length = -1 := of_decide_eq_true hc
  have hall : ∀ i, i < rows.length → p i = false := by rcases A2d p rows.length with ⟨_, h⟩ | ⟨i, _, h, _, _⟩; exact h; omega
  refine A3 (mv_ (as_ (A0 (D8 4) (C1 (tr ?_)))))
  refine ⟨_, B, [], I2 rfl rfl, Fit.none (Fit.last PickC.perm), ?_⟩
  rw [A7o _ hall, List.take_length]
  exact hs
 ·
  have hne : ¬ A6C p rows.length = -1 := of_decide_eq_false hc
  obtain ⟨i0, hi0, he0, hp0, hq0⟩ : ∃ i, i < rows.length ∧ A6C p rows.length = (i : Int) ∧ p i = true ∧ ∀ j, j < i → p j = false := (A2d p rows.length).resolve_left fun h => hne h.1
  rw [he0]
  refine A9 (nx (E1 0 1 5) (A5 (A3 (mv_ ?_))))
  refine A4 (E5 ((i0 + 1 : Nat) : Int) rfl rfl (G3 (by omega) (by omega) (by omega))) rfl ?_
  refine as_ (A0 (E9 0 1 5 6) (C0 ?_))
  refine F7 (α := Nat × Nat × List (List Value) × Mem) (fun y => [(0, v), (1, .func (.func f) #[] cs.toArray), (5, .int .i64 ((y.2.1 : Nat) : Int)), (6, .int .i64 ((y.1 : Nat) : Int))]) (fun y => y.2.2.2) (fun _ => []) (fun y => Dfs 2 p rows y.2.2.1 y.1 y.2.1 ∧ Sl 2 v rows.length y.2.2.1.flatten y.2.2.2) (fun y => rows.length - y.1) (i0 + 1, i0, rows, B) ⟨Dfs.init hl hi0 hp0 hq0, hs⟩ (E9 0 1 5 6) Fit.rfl (fun _ h => h) ?_
  rintro ⟨j, i, cur, Bc⟩ ⟨hD, hsc⟩
  dsimp only at hD hsc ⊢
  have hjn := hD.jn
  have hij := hD.ij
  have hcs := hD.cs
  refine A5 (A3 (mv_ (mv_ ?_)))
  refine A4 (H6 (sz := 2) rfl kR (hsc.rd (R := Bc) fun _ h => h)) rfl ?_
  refine A4 (F5 rfl rfl rfl) rfl ?_
  refine A0 (F9 0 1 5 6 19) ?_
  refine C7 rfl (fun hc => ?_) (fun hc => ?_)
  ·
   have hlt : j < rows.length := by simp at hc; omega
   obtain ⟨r, hr⟩ : ∃ r, rows[j]? = some r := ⟨_, List.getElem?_eq_getElem hlt⟩
   have hrc : cur[j]? = some r := hD.at_ hr
   have hrl : r.length = 2 := hcs r (List.mem_of_getElem? hrc)
   have hr1 : ∀ c ∈ r, c.oneCell' = true := fun c hc => h1 c (List.mem_flatten.2 ⟨r, List.mem_of_getElem? hr, hc⟩)
   obtain ⟨c0_, c1_, rfl⟩ : ∃ c0_ c1_, r = [c0_, c1_] := by match r, hrl with | [c0_, c1_], _ => exact ⟨c0_, c1_, rfl⟩
   refine A9 (nx (E9 0 1 5 6) (A5 (C0 (A3 (mv_ (mv_ ?_))))))
   refine A4 (K6 (sz := 2) (a := j) rfl rfl kR rfl (hsc.rd (R := Bc) fun _ h => h) hlt) rfl ?_
   refine A4 (A1G rfl kR (hsc.rd fun x hx => by simp [hx]) hcs (by decide) hrc) rfl ?_
   refine A6 rfl (C5 (cs := [.int .u32 0, .slice none 0 0]) kR rfl fun b7 => ?_)
   refine A6 rfl (A8 rfl rfl rfl kR (by rfl) hr1 UpC.upd ?_)
   refine A0 (F9 0 1 5 6 7) (A3 (mv_ ?_))
   refine A4 (qw_ 2) rfl ?_
   refine A6 rfl (A1O rfl (aS rfl a0) hc_ (B1v (hf j _ hr) SubC.sub) rfl ?_)
   refine A4 (V3 rfl) rfl ?_
   refine A0 (I4 0 1 5 6 7 29) ?_
   refine C7 rfl (fun hc => ?_) (fun hc => ?_)
   ·
    refine A3 (mv_ (mv_ ?_))
    refine A4 (qw_ 2) rfl ?_
    refine A4 (K6 (sz := 2) (a := i) rfl rfl kR rfl (hsc.rd (R := Bc) fun _ h => h) (by omega)) rfl ?_
    refine A6 rfl (B4a (sz := 2) (j := i) rfl rfl hsc hrl hr1 kR (by omega) PickC.perm fun B33 hs33 => ?_)
    refine A0 (E9 0 1 5 6) (C2 (mv_ ?_))
    refine A4 (E5 ((i + 1 : Nat) : Int) rfl rfl (G3 (by omega) (by omega) (by omega))) rfl ?_
    refine as_ (D1 (nb (nx (E9 0 1 5 6) (C2 (mv_ ?_)))))
    refine A4 (E5 ((j + 1 : Nat) : Int) rfl rfl (G3 (by omega) (by omega) (by omega))) rfl ?_
    refine as_ (D1 ?_)
    exact rn (j + 1, i + 1, cur.set i [c0_, c1_], B33) ⟨hD.keep hr (by simpa using hc), by rw [← B39 hcs rfl (by have := hD.cl; omega)]; exact hs33⟩ (by dsimp only; omega) (E9 0 1 5 6) (Fit.last PickC.perm) (fun _ h => h)
   ·
    refine A9 (nb (nx (E9 0 1 5 6) (C2 (mv_ ?_))))
    refine A4 (E5 ((j + 1 : Nat) : Int) rfl rfl (G3 (by omega) (by omega) (by omega))) rfl ?_
    refine as_ (D1 ?_)
    exact rn (j + 1, i, cur, Bc) ⟨hD.skip hlt (by simpa using hc), hsc⟩ (by dsimp only; omega) (E9 0 1 5 6) (Fit.last PickC.perm) (fun _ h => h)
  ·
   have hge : j = rows.length := by simp at hc; omega
   subst hge
   refine F1 (te (re (be rfl (nx (D4 0 5) (A3 (mv_ (mv_ ?_)))))))
   refine A4 (A7L (sz := 2) rfl rfl kR rfl (by first | assumption | exact Sl.rd (by assumption) (fun _ h => h) | exact By.rd (by assumption)) (by omega)) rfl ?_
   refine A6 rfl (B4b (e := 134) (by_ := 32) (zs := (Builtin.zeroCells #[.int .u32 0, .slice none 0 0] (rows.length - i)).toList) rfl kR kR hsc (A4w (by simp [Value.oneCell']) (by simp) _) (by omega) PickC.perm fun B38 hs38 => ?_)
   refine A0 (D4 0 5) (A3 (mv_ (mv_ ?_)))
   refine A4 (A7K (sz := 2) (a := i) rfl rfl kR rfl (hs38.rd (R := B38) fun _ h => h) (by omega)) rfl ?_
   refine as_ (A0 (D8 4) (C1 ?_))
   refine ⟨_, B38, [], I2 rfl rfl, Fit.none (Fit.last PickC.perm), ?_⟩
   have h2 := hs38.hi_app (by rw [A4z hcs, hD.cl]) (by omega)
   rw [A2U hcs, hD.ct] at h2
   rw [← hD.ki]
   exact h2

end Go.Proofs.YthbhpfefdnffaaaGreatDoor
namespace Go.Px
structure Gv where
  i : Nat
  d : Nat
  m : Mem
  φ : Value → Mem → Mem → Prop
def A2y (G : List Gv) (vs : Nat → Value) : Env := G.map fun g => (g.d, vs g.i)
def B7p (G : List Gv) : List Gm := G.map fun g => ⟨g.i, g.d, fun _ _ => True⟩
theorem B9k (G : List Gv) : (B7p G).map (·.i) = G.map (·.i) := by simp [B7p]
theorem B9l (G : List Gv) : (B7p G).map (·.d) = G.map (·.d) := by simp [B7p]
theorem A8s (G : List Gv) (vs : Nat → Value) : A2u (B7p G) vs = A2y G vs := by simp [A2u, A2y, B7p]
theorem B1y {G : List Gv} (h : (G.map (·.i)).Nodup) {g g' : Gv} (hg : g ∈ G) (hg' : g' ∈ G) (e : g.i = g'.i) : g = g' := by
  induction G with
  | nil => cases hg
  | cons x G ih =>
    simp only [List.map_cons, List.nodup_cons] at h
    rcases List.mem_cons.1 hg with h1 | h1 <;> rcases List.mem_cons.1 hg' with h2 | h2
    · rw [h1, h2]
    · exact absurd (by rw [← h1, e]; exact List.mem_map_of_mem (f := Gv.i) h2) h.1
    · exact absurd (by rw [← h2, ← e]; exact List.mem_map_of_mem (f := Gv.i) h1) h.1
    · exact ih h.2 h1 h2
def A8t (X : List Nat) (bs : Nat → Mem) (G : List Gv) : Mem := (G.map fun g => if g.i ∈ X then bs g.i else g.m).flatten
def A3S (X : List Nat) (bs : Nat → Mem) (G : List Gv) : Mem := (G.map fun g => if g.i ∈ X then bs g.i else []).flatten
def B9m (bs : Nat → Mem) (G : List Gv) : Mem := (G.map fun g => bs g.i).flatten
theorem A6v {X : List Nat} {bs : Nat → Mem} {G : List Gv} : ∀ x ∈ A3S X bs G, x ∈ A8t X bs G := by
  intro x hx
  unfold A3S at hx
  unfold A8t
  obtain ⟨l, hl, hx⟩ := List.mem_flatten.1 hx
  obtain ⟨g, hg, rfl⟩ := List.mem_map.1 hl
  refine List.mem_flatten.2 ⟨_, List.mem_map_of_mem hg, ?_⟩
  split at hx
  · rename_i h; rw [if_pos h]; exact hx
  · cases hx
theorem A6w {X : List Nat} {bs : Nat → Mem} {G : List Gv} {g : Gv} (hi : (G.map (·.i)).Nodup) (hg : g ∈ G) (hX : g.i ∉ X) (M' : Mem) :
    ∃ R, (A8t X bs G).Perm (g.m ++ R) ∧ (∀ x ∈ A3S X bs G, x ∈ R) ∧ (M' ++ R).Perm (A8t (X ++ [g.i]) (fun k => if k = g.i then M' else bs k) G) ∧ (∀ x ∈ M' ++ A3S X bs G, x ∈ A3S (X ++ [g.i]) (fun k => if k = g.i then M' else bs k) G) := by
  obtain ⟨s, t, rfl⟩ := List.append_of_mem hg
  have hne : ∀ x ∈ s ++ t, x.i ≠ g.i := by
    intro x hx e
    simp only [List.map_append, List.map_cons, List.nodup_append, List.nodup_cons] at hi
    rcases List.mem_append.1 hx with h | h
    · exact hi.2.2 _ (List.mem_map_of_mem (f := Gv.i) h) _ List.mem_cons_self e
    · exact hi.2.1.1 (e ▸ List.mem_map_of_mem (f := Gv.i) h)
  have e1 : ∀ (f f' : Gv → Mem) (l : List Gv), (∀ x ∈ l, f x = f' x) → l.map f = l.map f' := fun f f' l h => List.map_congr_left h
  have es : (s.map fun x => if x.i ∈ X ++ [g.i] then (if x.i = g.i then M' else bs x.i) else x.m) = s.map fun x => if x.i ∈ X then bs x.i else x.m := e1 _ _ _ fun x hx => by
    have h := hne x (List.mem_append_left _ hx)
    simp [h]
  have et : (t.map fun x => if x.i ∈ X ++ [g.i] then (if x.i = g.i then M' else bs x.i) else x.m) = t.map fun x => if x.i ∈ X then bs x.i else x.m := e1 _ _ _ fun x hx => by
    have h := hne x (List.mem_append_right _ hx)
    simp [h]
  have fs : (s.map fun x => if x.i ∈ X ++ [g.i] then (if x.i = g.i then M' else bs x.i) else ([] : Mem)) = s.map fun x => if x.i ∈ X then bs x.i else [] := e1 _ _ _ fun x hx => by
    have h := hne x (List.mem_append_left _ hx)
    simp [h]
  have ft : (t.map fun x => if x.i ∈ X ++ [g.i] then (if x.i = g.i then M' else bs x.i) else ([] : Mem)) = t.map fun x => if x.i ∈ X then bs x.i else [] := e1 _ _ _ fun x hx => by
    have h := hne x (List.mem_append_right _ hx)
    simp [h]
  refine ⟨(s.map fun x => if x.i ∈ X then bs x.i else x.m).flatten ++ (t.map fun x => if x.i ∈ X then bs x.i else x.m).flatten, ?_, ?_, ?_, ?_⟩
  · simp only [A8t, List.map_append, List.map_cons, if_neg hX, List.flatten_append, List.flatten_cons]
    exact List.perm_append_comm_assoc _ _ _
  · intro x hx
    simp only [A3S, List.map_append, List.map_cons, if_neg hX, List.flatten_append, List.flatten_cons, List.nil_append, List.mem_append] at hx
    refine List.mem_append.2 (hx.imp (fun h => ?_) fun h => ?_)
    · exact A6v (G := s) x h
    · exact A6v (G := t) x h
  · simp only [A8t, List.map_append, List.map_cons, List.flatten_append, List.flatten_cons, es, et]
    simp only [List.mem_append, List.mem_singleton, or_true, if_true]
    exact (List.perm_append_comm_assoc _ _ _).symm
  · intro x hx
    simp only [A3S, List.map_append, List.map_cons, List.flatten_append, List.flatten_cons, fs, ft]
    simp only [List.mem_append, List.mem_singleton, or_true, if_true]
    simp only [A3S, List.map_append, List.map_cons, if_neg hX, List.flatten_append, List.flatten_cons, List.nil_append, List.mem_append] at hx
    rcases hx with h | h | h
    · exact .inr (.inl h)
    · exact .inl h
    · exact .inr (.inr h)
theorem B4e {bs : Nat → Mem} {G : List Gv} : A8t [] bs G = (G.map (·.m)).flatten := by simp [A8t]
theorem B4f {X : List Nat} {bs : Nat → Mem} {G : List Gv} (h : ∀ g ∈ G, g.i ∈ X) : A8t X bs G = B9m bs G := by
  unfold A8t B9m
  rw [List.map_congr_left (g := fun g => bs g.i) fun g hg => if_pos (h g hg)]
theorem St.widen {P : Program} {w w' : World} {F : List Nat} {A A' Mc M' J' : Mem} {n : Nat} (h : St ⟨P, w, F, A', n⟩ Mc [] w) (hs : St ⟨P, w, F, A, n⟩ M' J' w') : St ⟨P, w, F, A', n⟩ M' J' w' := by
  refine ⟨hs.os, hs.tape, hs.output, hs.size, hs.frame, fun b o hb => ?_, hs.nodup, hs.own, hs.sepJ, h.sepA, hs.old⟩
  simp only [List.mem_append] at hb
  rcases hb with hb | hb | hb
  · exact hs.mem b o (by simp [hb])
  · exact hs.mem b o (by simp [hb])
  · have h1 := h.sepA b o hb
    have h2 := hs.frame b h1.2 h1.1
    rw [h2]
    exact h.mem b o (by simp; exact .inr hb)
theorem St.less {P : Program} {w : World} {F : List Nat} {A A' Mc : Mem} {n : Nat} (h : St ⟨P, w, F, A', n⟩ Mc [] w) (hA : ∀ x ∈ A, x ∈ A') : St ⟨P, w, F, A, n⟩ Mc [] w :=
  ⟨h.os, h.tape, h.output, h.size, h.frame, fun b o hb => h.mem b o (by simp at hb ⊢; exact hb.imp id (hA _)), h.nodup, h.own, h.sepJ, fun b o hb => h.sepA b o (hA _ hb), h.old⟩
section group
variable {C : Cx} {Q : XQ} {l : Env} {M M0 J : Mem} {os : List Oper} {K : Nat → Prop} {n0 : Nat} {nd : List Nat} {plan : List (Nat × Nat)}
def B9n (C : Cx) (os : List Oper) (l : Env) (M0 J : Mem) (G : List Gv) (g : Gv) : Prop :=
  ∃ o, nth os g.i = some o ∧ ∀ (vs : Nat → Value) (bs : Nat → Mem) (R Rj : Mem) (w : World), (∀ x ∈ M0 ++ (J ++ C.A), x ∈ R) → (∀ x ∈ J ++ C.A, x ∈ Rj) → (∀ x ∈ Rj, x ∈ R) → (∀ g' ∈ G, anc os.toArray os.toArray.size g.i g'.i = true → g'.φ (vs g'.i) (bs g'.i) Rj) →
    A8O os (A2y G vs ++ l) o ∧ OpL ⟨C.P, w, g.m.map Prod.fst, R, C.N⟩ o (A2y G vs ++ l) g.m [] (fun l' M' J' => ∃ v, l' = (g.d, v) :: (A2y G vs ++ l) ∧ g.φ v M' (J' ++ Rj))
theorem B1z {G : List Gv} (hmono : ∀ g ∈ G, Z9 g.φ) (hd : (G.map (·.d)).Nodup) (hi : (G.map (·.i)).Nodup) (hK : ∀ g ∈ G, ∀ x ∈ g.m, K x.1) (hob : ∀ g ∈ G, B9n C os l M0 J G g) {A B : Array Bool} (hok : GOk os.toArray A (G.map (·.i)) B)
    (hfin : ∀ (vs : Nat → Value) (bs : Nat → Mem) Jn a w, (∀ g ∈ G, g.φ (vs g.i) (bs g.i) ((Jn ++ J) ++ C.A)) → (∀ g ∈ G, ∀ x ∈ bs g.i, x.1 ∈ g.m.map Prod.fst ∨ n0 ≤ x.1) → Ag C.N (A2y G vs ++ l) a → St C (B9m bs G ++ M0) (Jn ++ J) w → n0 ≤ w.heap.size → U2 C.P os.toArray (L9 (A3T C Q)) (Sk K) nd.contains plan.length B a w) :
    ∀ (n : Nat) (X : List Nat) (vs : Nat → Value) (bs : Nat → Mem) (Jn : Mem) (a : Act) (w : World), X.Nodup → (∀ i ∈ X, i ∈ G.map (·.i)) → n + X.length = G.length → L3 os.toArray (mark A X) →
      (∀ g ∈ G, g.i ∈ X → g.φ (vs g.i) (bs g.i) ((Jn ++ J) ++ C.A)) → (∀ g ∈ G, g.i ∈ X → ∀ x ∈ bs g.i, x.1 ∈ g.m.map Prod.fst ∨ n0 ≤ x.1) → Ag C.N (A2y G vs ++ l) a → St C (A8t X bs G ++ M0) (Jn ++ J) w → n0 ≤ w.heap.size →
      U2 C.P os.toArray (L9 (A3T C Q)) (Sk K) nd.contains (n + plan.length) (mark A X) a w := by
  intro n
  induction n with
  | zero =>
    intro X vs bs Jn a w hnd hX hlen hcl hφ hN ha hw hn
    have hall : ∀ i, i ∈ X ↔ i ∈ G.map (·.i) := fun i => ⟨hX i, Z8 hnd hX (by simp; omega) i⟩
    have hin : ∀ g ∈ G, g.i ∈ X := fun g hg => (hall _).2 (List.mem_map_of_mem (f := Gv.i) hg)
    have hcur := B4f (bs := bs) hin
    rw [hcur] at hw
    rw [Nat.zero_add, A14 hall, ← hok.mark]
    exact hfin vs bs Jn a w (fun g hg => hφ g hg (hin g hg)) (fun g hg => hN g hg (hin g hg)) ha hw hn
  | succ n ih =>
    intro X vs bs Jn a w hnd hX hlen hcl hφ hN ha hw hn
    have hmiss : ∃ k ∈ G.map (·.i), k ∉ X := by
      apply Classical.byContradiction
      intro hno
      have hs : ∀ k ∈ G.map (·.i), k ∈ X := fun k hk => Classical.byContradiction fun h => hno ⟨k, hk, h⟩
      have := A0h hi hs
      simp at this; omega
    obtain ⟨k, hkG, hkX⟩ := hmiss
    have hun : ∀ i ∈ G.map (·.i), A.getD i true = false := by
      have : ∀ {is A B}, GOk os.toArray A is B → ∀ i ∈ is, A.getD i true = false := by
        intro is A B h
        induction h with
        | nil => intro i hi; cases hi
        | @cons A B i r hr ho h ih =>
          intro k hk
          rcases List.mem_cons.1 hk with rfl | hk
          · exact G7 hr
          · have h2 := ih k hk
            by_cases e : i = k
            · subst e; exact G7 hr
            · rwa [getD_set_ne true e] at h2
      exact this hok
    have hkun : (mark A X).getD k true = false := F3.2 ⟨hun k hkG, fun h => hkX h.1⟩
    rw [show n + 1 + plan.length = (n + plan.length) + 1 by omega]
    refine ⟨fun h0 => ?_, fun i hir => ?_⟩
    · obtain ⟨i, hir⟩ := hok.first (U9 A X) (fun j hj => V0 hj) hkG hkun
      rw [h0] at hir; cases hir
    · have hiG : i ∈ G.map (·.i) := by
        apply Classical.byContradiction
        intro hno
        have h1 := F3.1 (G7 hir)
        have h2 := hok.outer k hkG i (A0V hir) h1.1 hno
        exact L4 hkun (K2 hcl h2 hir)
      obtain ⟨g, hg, rfl⟩ := List.mem_map.1 hiG
      have hiX : g.i ∉ X := fun h => (F3.1 (G7 hir)).2 ⟨h, N7 (hun _ hiG)⟩
      obtain ⟨o, hget, howe⟩ := hob g hg
      have hi' : os.toArray[g.i]? = some o := by rw [R5] at hget; simpa using hget
      obtain ⟨hask, hop⟩ := howe vs bs ((A3S X bs G ++ M0) ++ ((Jn ++ J) ++ C.A)) ((Jn ++ J) ++ C.A) w (fun x hx => by simp only [List.mem_append] at hx ⊢; rcases hx with h | h | h <;> simp [h]) (fun x hx => by simp only [List.mem_append] at hx ⊢; rcases hx with h | h <;> simp [h]) (fun x hx => List.mem_append_right _ hx) (fun g' hg' hanc => hφ g' hg' (by
        have h3 := K2 hcl hanc hir
        rcases Q4 h3 with h4 | h4
        · exact (L4 (hun _ (List.mem_map_of_mem (f := Gv.i) hg')) h4).elim
        · exact h4))
      unfold wpOp
      simp only [hi']
      rw [if_pos (hask.wanted ha)]
      obtain ⟨R0, hp0, hd0, _, _⟩ := A6w (bs := bs) hi hg hiX []
      have hpc : (A8t X bs G ++ M0).Perm (g.m ++ (R0 ++ M0)) := by
        rw [← List.append_assoc]; exact List.Perm.append_right _ hp0
      have hcal := hw.callee hpc
      have hcal2 := St.less (A := (A3S X bs G ++ M0) ++ ((Jn ++ J) ++ C.A)) hcal fun x hx => by
        simp only [List.mem_append] at hx ⊢
        rcases hx with (h | h) | h
        · exact .inl (.inl (hd0 x h))
        · exact .inl (.inr h)
        · exact .inr h
      refine .inl (Oper.wp_mono ?_ (hop _ a w ha hcal2.cx))
      rintro a' w' ⟨l', M', J', ha', hs', v, rfl, hφv⟩
      have hsz : w.heap.size ≤ w'.heap.size := hs'.size
      have hs2 := St.widen hcal.cx hs'
      have hb := hw.back hpc hs2.cx
      obtain ⟨R1, hp1, hd1, hq1, hq2⟩ := A6w (bs := bs) hi hg hiX M'
      let bs' : Nat → Mem := fun k => if k = g.i then M' else bs k
      have hRR : R0.Perm R1 := (List.perm_append_left_iff _).1 (hp0.symm.trans hp1)
      have hperm : (M' ++ (R0 ++ M0)).Perm (A8t (X ++ [g.i]) bs' G ++ M0) := by
        rw [← List.append_assoc]
        exact List.Perm.append_right _ ((List.Perm.append_left _ hRR).trans hq1)
      have hfr2 : St C (A8t (X ++ [g.i]) bs' G ++ M0) ((J' ++ Jn) ++ J) w' := (hb.perm hperm).drop (List.Sublist.refl _) fun x hx => by
        simp only [List.mem_append] at hx ⊢
        rcases hx with (h | h) | h <;> simp [h]
      refine ⟨fun _ b hb' hnk => hs'.frame b hb' fun hm => ?_, ?_⟩
      · obtain ⟨x, hx, e⟩ := List.mem_map.1 hm
        exact hnk (e ▸ hK g hg x hx)
      rw [← K7]
      have henv := Y3 (N := C.N) (G := B7p G) (l := l) (vs := vs) (g := ⟨g.i, g.d, fun _ _ => True⟩) (a := a') (v := v) (List.mem_map_of_mem (f := fun g : Gv => (⟨g.i, g.d, fun _ _ => True⟩ : Gm)) hg) (by rw [B9l]; exact hd) (by rw [B9k]; exact hi) (by rw [A8s]; exact ha')
      rw [A8s] at henv
      refine ih (X ++ [g.i]) (fun k => if k = g.i then v else vs k) bs' (J' ++ Jn) a' w' ?_ ?_ (by simp; omega) ?_ ?_ ?_ henv hfr2 (Nat.le_trans hn hsz)
      · rw [List.nodup_append]; exact ⟨hnd, by simp, fun x hx y hy e => hiX (by simp at hy; subst hy; exact e ▸ hx)⟩
      · intro j hj
        rcases List.mem_append.1 hj with hj | hj
        · exact hX j hj
        · simp at hj; subst hj; exact hiG
      · rw [K7]; exact G2 hcl hir
      · intro g' hg' hm
        by_cases e : g'.i = g.i
        · have : g' = g := B1y hi hg' hg e
          subst this
          simp only [if_true, bs']
          exact hmono g' hg' _ _ _ _ (fun x hx => by simp only [List.mem_append] at hx ⊢; rcases hx with h | (h | h) | h <;> simp [h]) hφv
        · simp only [e, if_false, bs']
          have hm' : g'.i ∈ X := by simpa [e] using hm
          exact hmono g' hg' _ _ _ _ (fun x hx => by simp only [List.mem_append] at hx ⊢; rcases hx with (h | h) | h <;> simp [h]) (hφ g' hg' hm')
      · intro g' hg' hk x hx
        by_cases e : g'.i = g.i
        · have : g' = g := B1y hi hg' hg e
          subst this
          simp only [if_true, bs'] at hx
          rcases hs'.own x.1 x.2 (by simp [hx]) with h6 | h6
          · exact .inl h6
          · exact .inr (Nat.le_trans hn h6)
        · simp only [e, if_false, bs'] at hx
          have hk' : g'.i ∈ X := by simpa [e] using hk
          exact hN g' hg' hk' x hx
theorem B1A (G : List Gv) (M0 : Mem) (hM : M.Perm ((G.map (·.m)).flatten ++ M0)) (hK : ∀ g ∈ G, ∀ x ∈ g.m, K x.1) (hmono : ∀ g ∈ G, Z9 g.φ) (hd : (G.map (·.d)).Nodup) (hi : (G.map (·.i)).Nodup) (hdN : ∀ g ∈ G, g.d < C.N) (hob : ∀ g ∈ G, B9n C os l M0 J G g)
    (h : ∀ (vs : Nat → Value) (bs : Nat → Mem) Jn, (∀ g ∈ G, g.φ (vs g.i) (bs g.i) ((Jn ++ J) ++ C.A)) → (∀ g ∈ G, (∀ b, n0 ≤ b → K b) → ∀ x ∈ bs g.i, K x.1) → XK C os Q K n0 nd plan (A2y G vs ++ l) (B9m bs G ++ M0) (Jn ++ J)) : XK C os Q K n0 nd (enc (G.map (·.i)) ++ plan) l M J := by
  refine A0G hM ?_
  intro listed hcl hp a w ha hw hn
  obtain ⟨B, hok, hp2⟩ := A5G hp
  have hBcl : L3 os.toArray B := by
    have : ∀ {A is B}, GOk os.toArray A is B → L3 os.toArray A → L3 os.toArray B := by
      intro A is B h
      induction h with
      | nil => exact id
      | cons hr _ _ ih => exact fun hc => ih (G2 hc hr)
    exact this hok hcl
  have hlen : (enc (G.map (·.i)) ++ plan).length = G.length + plan.length := by
    have : ∀ is : List Nat, (enc is).length = is.length := by
      intro is
      induction is with
      | nil => rfl
      | cons i r ih => cases r with
        | nil => rfl
        | cons j r => simp only [enc, List.length_cons] at ih ⊢; rw [ih]
    simp [this]
  rw [hlen]
  let vs : Nat → Value := fun k => match G.find? (fun g => g.i == k) with
    | some g => (a.tmps[g.d]?).getD undef
    | none => undef
  have hag : Ag C.N (A2y G vs ++ l) a := by
    refine ⟨ha.defers, ha.size, ?_⟩
    intro k u hk
    have key : ∀ G' : List Gv, (∀ g ∈ G', g ∈ G) → lk (A2y G' vs ++ l) k = some u → a.tmps[k]? = some u := by
      intro G'
      induction G' with
      | nil => intro _ h; exact ha.slot k u h
      | cons g G' ih =>
        intro hs h
        simp only [A2y, List.map_cons, List.cons_append, lk] at h
        by_cases e : g.d = k
        · subst e
          simp at h
          have hf : G.find? (fun x => x.i == g.i) = some g := by
            have hgG := hs g List.mem_cons_self
            cases hq : G.find? (fun x => x.i == g.i) with
            | none => have := List.find?_eq_none.1 hq g hgG; simp at this
            | some x =>
              have h1 := List.find?_some hq
              have h2 := List.mem_of_find?_eq_some hq
              rw [B1y hi h2 hgG (by simpa using h1)]
          have hlt : g.d < a.tmps.size := by rw [ha.size]; exact hdN g (hs g List.mem_cons_self)
          rw [← h]
          show a.tmps[g.d]? = some (vs g.i)
          simp only [vs, hf, Array.getElem?_eq_getElem hlt, Option.getD_some]
        · simp only [U7 e, cond_false] at h
          exact ih (fun x hx => hs x (List.mem_cons_of_mem _ hx)) h
    exact key G (fun _ h => h) hk
  refine B1z (n0 := n0) (K := K) hmono hd hi hK hob hok (fun vs bs Jn a w hφ hN ha hw hn => h vs bs Jn hφ (fun g hg hu x hx => ?_) B hBcl hp2 a w ha hw hn) G.length [] vs (fun _ => []) [] a w .nil (fun _ h => by cases h) (by simp) hcl (fun _ _ h => by cases h) (fun _ _ h => by cases h) hag (by rw [B4e]; exact hw) hn
  rcases hN g hg x hx with h1 | h1
  · obtain ⟨y, hy, e⟩ := List.mem_map.1 h1
    exact e ▸ hK g hg y hy
  · exact hu _ h1
end group
end Go.Px

namespace Go.Proofs.YthbhpfefdnffaaaGreatDoor
open Go.Px
theorem P5 (s : Ps) (w : List Nat) : (K5 s w).ts.length ≤ s.ts.length + 2 := by
  unfold K5
  split
  · omega
  · have h1 := T5 (ts := s.ts) (ws := w)
    have h2 := A1m (ts := rdT s.ts w) (t := A9w ((rdI s.ts w : Nat) : Int))
    show (add (rdT s.ts w) _).length ≤ _
    omega
theorem A0N (s : Ps) (w : List Nat) : (K5 s w).n = s.n := by unfold K5; split <;> rfl
theorem B4g (s : Ps) (w m : List Nat) : (A5h s w m).ts.length ≤ s.ts.length + 2 := by
  unfold A5h
  split
  · omega
  · have h1 := T5 (ts := s.ts) (ws := w)
    have h2 := A1m (ts := rdT s.ts w) (t := A3L ((rdI s.ts w : Nat) : Int) m)
    show (add (rdT s.ts w) (A3L ((rdI s.ts w : Nat) : Int) m)).length ≤ _
    omega
theorem B9o (s : Ps) (w m : List Nat) : (A5h s w m).n = s.n := by unfold A5h; split <;> rfl
theorem A3G (s : Ps) (w : List Nat) : (P0 s w).length = 32 := by
  unfold P0
  split
  · exact A5f _ _
  · exact A0l _ (by decide)
noncomputable def B1B (k : Ks) (s : Ps) : Ps := A5h (K5 (D9 s) (F0 s)) k.sign (A5r k.next (P0 (D9 s) (F0 s)))
noncomputable def turnP (k : Ks) (s : Ps) : Pr := ⟨k.next, F0 s, B2g (K5 (D9 s) (F0 s)) k.sign (A5r k.next (P0 (D9 s) (F0 s)))⟩
def A9j (signed : List Pr) (x : Nm) : Bool := !decide (0 ≤ A1p (A1e x.n) signed)
noncomputable def A0y (k : Ks) (s : Ps) : Ks × Ps :=
  ({ k with signed := (turnP k s :: k.signed).take 2, next := k.next + 1, met := k.met.filter fun x => !A9j ((turnP k s :: k.signed).take 2) x }, B1B k s)
theorem B1C {l : List Pr} {rows : List (List Value)} {n b : Nat} {vi : Value} {A : Mem} (hR : RwL prR A rows l) (hvi : Cel vi [vi]) (hb : (b, blk [.int .u32 ((n : Nat) : Int), vi] 134) ∈ A) :
    ∀ (j : Nat) (r : List Value), rows[j]? = some r → FnV Tryz.prog 72 (.agg r.toArray :: [.pointer (some ⟨b, 0, none⟩)]) A (.bool ((fun j => (l[j]?.map (A1e n)).getD false) j)) := fun j r hr => by
  obtain ⟨x, hx, vs, vg, rfl, hs, hg, _⟩ := hR.of hr
  dsimp only
  rw [hx]
  exact A7j vs vg vi x n b _ hs hg hvi hb
theorem B7q (kb b n : Nat) (c0 c1 c2 c3 vq c5 c6 c7 vi : Value) (sg : List Pr) (rs : List (List Value)) (A : Mem) (hb : (b, blk [.pointer (some ⟨kb, 0, none⟩)] 35) ∈ A) (hkb : (kb, blk [c0, c1, c2, c3, vq, c5, c6, c7] 114) ∈ A) (hvi : Cel vi [vi]) (hv : Rd A 3 vq sg.length rs.flatten) (hR : RwL prR A rs sg) (hl : sg.length ≤ 1000000) : FnV Tryz.prog 70 [.agg #[.int .u32 ((n : Nat) : Int), vi], .pointer (some ⟨b, 0, none⟩)] A (.bool (!decide (0 ≤ A1p (A1e n) sg))) := by
 haveI := hv.cel
 refine FnX.enter (N := 11) Tryz.func70 rfl rfl rfl fun w => ?_
 refine C4 (D4 0 1) (A3 ?_)
 refine A6 rfl (bx_ fun b2 => ?_)
 refine as_ (A0 (D4 1 2) (A3 ?_))
 refine A4 (I7 rfl kR (mA hb) (by rfl)) rfl ?_
 refine A4 (G6 rfl) rfl ?_
 refine A4 (qf_ 4 4) rfl ?_
 refine A4 (I7 rfl kR (mA hkb) (by rfl)) rfl ?_
 refine A4 (A46 (aS rfl a0)) rfl ?_
 refine G1 (aS rfl (aS rfl a0)) kR (A5j vq rs 72 [.pointer (some ⟨b2, 0, none⟩)] (fun j => (sg[j]?.map (A1e n)).getD false) _ (by rw [hR.len]; exact hv.mono SubC.sub) (hR.lens prT) (by rw [hR.len]; omega) kR (B1C (hR.mono prT SubC.sub) hvi At.mem)) rfl ?_
 rw [hR.len]
 refine A4 (V3 rfl) rfl ?_
 refine as_ (A0 (D8 3) (C1 ?_))
 exact ⟨_, [], [], I2 rfl rfl, List.nil_sublist _, by simp, rfl, rfl, rfl⟩
theorem B1D {l : List Nm} {rows : List (List Value)} {kb b : Nat} {c0 c1 c2 c3 vq c5 c6 c7 : Value} {sg : List Pr} {rs : List (List Value)} {A : Mem} (hL : RwL nmR A rows l) (hb : (b, blk [.pointer (some ⟨kb, 0, none⟩)] 35) ∈ A) (hkb : (kb, blk [c0, c1, c2, c3, vq, c5, c6, c7] 114) ∈ A) (hv : Rd A 3 vq sg.length rs.flatten) (hR : RwL prR A rs sg) (hl : sg.length ≤ 1000000) :
    ∀ (j : Nat) (r : List Value), rows[j]? = some r → FnV Tryz.prog 70 (.agg r.toArray :: [.pointer (some ⟨b, 0, none⟩)]) A (.bool ((fun j => (l[j]?.map (A9j sg)).getD false) j)) := fun j r hr => by
  obtain ⟨x, hx, vi, rfl, hi, _⟩ := hL.of hr
  dsimp only
  rw [hx]
  exact B7q kb b x.n c0 c1 c2 c3 vq c5 c6 c7 vi sg rs A hb hkb hi.cel hv hR hl
theorem B9p (kb pb : Nat) (k : Ks) (s : Ps) (MK MP A : Mem) (hK : Kys A kb k MK) (hP : Prm pb s MP) (hn : s.ts.length + 100 ≤ 1048576) (hk : s.n < 1000000000) (hnx : k.next + 100 < 4000000000) (hG : Glb A) : FnX Tryz.prog 24 [.pointer (some ⟨kb, 0, none⟩), .pointer (some ⟨pb, 0, none⟩)] (MK ++ MP) A fun q M J => ∃ MK2 MP2, M = MK2 ++ MP2 ∧ Kys (J ++ A) kb (A0y k s).1 MK2 ∧ Prm pb (A0y k s).2 MP2 := by
 obtain ⟨va, vg, vq, vo, vm, rs, ro, rm, Bs, Bo, Bm, rfl, hva, hvg, hss, hrs, hso, hro, hsm, hrm, hn1, hn2, hn3, hn4⟩ := hK.ex
 haveI := hva.cel
 haveI := hvg.cel
 have fl := L2 s
 have pl := P5 (D9 s) (F0 s)
 have pkl := A3G (D9 s) (F0 s)
 haveI := hss.cel
 haveI := hso.cel
 haveI := hsm.cel
 refine FnX.enterZ (N := 68) Tryz.func24 rfl rfl rfl fun w_ => ?_
 refine C4 (D4 0 1) (A3 ?_)
 refine A6 rfl (bx_ fun b2 => ?_)
 refine A0 (D4 1 2) (A5 (A3 ?_))
 refine A4 ql_ rfl ?_
 refine A4 (E6 (e := 114) rfl rfl kR) rfl ?_
 refine A0 (E1 1 2 6) ?_
 refine D6 rfl ?_
 refine A9 (nx (D4 1 2) ?_)
 refine K0 (MP) (_) true (.range 8) (zp 0 [1, 0, 0, 1, 0, 3, 3, 4, 2]) kR kR PickC.perm fun hs K n0 hKm hKs hKn => ?_
 refine R9 hs rfl hKs ql_ ?_
 refine L6 hs rfl (G6 rfl) rfl ?_
 refine L6 hs rfl (qf_ 6 6) rfl ?_
 refine R9 hs rfl hKs ql_ ?_
 refine km_ hs ?_
 refine B1A [⟨5, 12, MP, fun v B R => Prm pb (D9 (s)) B ∧ By R v (F0 (s))⟩, ⟨6, 13, [], fun v B R => B = [] ∧ ∃ u, v = .agg [.int .u32 ((k.next : Nat) : Int), u, .slice none 0 0].toArray ∧ By R u (F0 s)⟩, ⟨7, 4, [], fun v B _ => ∃ b, v = .pointer (some ⟨b, 0, none⟩) ∧ B = [(b, blk [.int .u32 0, .slice none 0 0, .slice none 0 0] 110)]⟩] ((b2, blk [.pointer (some ⟨kb, 0, none⟩)] 35) :: ((kb, blk [.int .i64 k.user, .int .i64 k.dev, va, vg, vq, vo, .int .u32 ((k.next : Nat) : Int), vm] 114) :: (Bs ++ (Bo ++ Bm)))) (by simp) (C3 (hKm) (C3 (fun _ h => by cases h) (C3 (fun _ h => by cases h) (L1))))
  (C3 (fun _ _ _ _ h hp => ⟨hp.1, hp.2.mono h⟩) (C3 (fun _ _ _ _ h ⟨p1, u, p2, p3⟩ => ⟨p1, u, p2, p3.mono h⟩) (C3 (fun _ _ _ _ h hp => hp) (L1)))) (show List.Nodup [12, 13, 4] by decide) (show List.Nodup [5, 6, 7] by decide) (C3 (C9 rfl) (C3 (C9 rfl) (C3 (C9 rfl) (L1))))
  (C3 ⟨_, rfl, fun vs bs R Rj wG hb hj hjr ha => ⟨.inl rfl, ?_⟩⟩ (C3 ⟨_, rfl, fun vs bs R Rj wG hb hj hjr ha => ⟨.inl rfl, ?_⟩⟩ (C3 ⟨_, rfl, fun vs bs R Rj wG hb hj hjr ha => ⟨.inl rfl, ?_⟩⟩ (L1)))) ?_
 ·
  refine F2 (Mc := MP) (R := []) (aS rfl a0) kR (by simp) (A0a pb (s) MP _ hP (by omega) (by omega) (hG.sub fun x hx => by have := hb x (by simp [hx]); simp [this])) rfl ?_
  rintro v12 M12 J12 ⟨hP12, h12⟩
  exact ⟨_, rfl, by simpa using hP12, h12.mono fun x hx => by simp [hx]⟩
 ·
  have g5 := ha _ (List.mem_of_getElem? (i := 0) rfl) kR
  replace g5 : (fun v B R => Prm pb (D9 (s)) B ∧ By R v (F0 (s))) (vs 5) (bs 5) Rj := g5
  dsimp only at g5
  obtain ⟨hP12, h12⟩ := g5
  haveI := h12.cel
  exact OpQ.opL (F6 (place := fun x => #[(0, 1), (1, 1), (2, 1)][x]?) (z := [.int .u32 0, .slice none 0 0, .slice none 0 0]) (fun _ => by kernel_rfl) (eS rfl (eS rfl e0)) (bdS 0 1 rfl (by rfl) (bdS 1 1 rfl (by rfl) bd0))) rfl ⟨_, rfl, rfl, _, rfl, h12⟩
 ·
  exact C5 (cs := [.int .u32 0, .slice none 0 0, .slice none 0 0]) kR rfl fun b => ⟨_, rfl, b, rfl, rfl⟩
 intro vs bs Jn0 hφ hKK
 have kk5 := hKK _ (List.mem_of_getElem? (i := 0) rfl) (hKn rfl)
 dsimp only at kk5
 have kk6 := hKK _ (List.mem_of_getElem? (i := 1) rfl) (hKn rfl)
 dsimp only at kk6
 have kk7 := hKK _ (List.mem_of_getElem? (i := 2) rfl) (hKn rfl)
 dsimp only at kk7
 clear hKK
 have g5 := ofH hφ
 dsimp only at g5
 replace hφ := ofT hφ
 have g6 := ofH hφ
 dsimp only at g6
 replace hφ := ofT hφ
 have g7 := ofH hφ
 dsimp only at g7
 clear hφ
 dsimp only [A2y, B9m, List.map, List.flatten, List.cons_append, List.nil_append]
 generalize bs 5 = B12 at *
 generalize bs 6 = B13 at *
 generalize bs 7 = B4 at *
 generalize vs 5 = u12 at *
 generalize vs 6 = u13 at *
 generalize vs 7 = u4 at *
 obtain ⟨hP12, h12⟩ := g5
 obtain ⟨b4, rfl, rfl⟩ := g7
 obtain ⟨rfl, u, rfl, h12⟩ := g6
 haveI := h12.cel
 refine A0G (M' := B12 ++ ((b4, blk [.int .u32 0, .slice none 0 0, .slice none 0 0] 110) :: (b2, blk [.pointer (some ⟨kb, 0, none⟩)] 35) :: ((kb, blk [.int .i64 k.user, .int .i64 k.dev, va, vg, vq, vo, .int .u32 ((k.next : Nat) : Int), vm] 114) :: (Bs ++ (Bo ++ Bm))))) (by simp) ?_
 refine XK.tl rfl rfl rfl (A8 (vs := [.int .u32 ((k.next : Nat) : Int), u, .slice none 0 0]) rfl rfl rfl kR (by rfl) (by intro c hc; simp only [List.mem_cons, List.not_mem_nil, or_false] at hc; rcases hc with rfl | rfl | rfl; rfl; exact h12.one; rfl) UpC.upd ?_)
 refine Q3 (E1 1 2 4) ?_
 refine K0 (B12) (_) true (.range 14) (zp 0 [0, 1, 0, 0, 1, 0, 1, 0, 0, 1, 2, 2, 2, 0, 2]) kR kR PickC.perm fun hs K n0 hKm hKs hKn => ?_
 refine km_ hs ?_
 refine R9 hs rfl hKs ql_ ?_
 refine L6 hs rfl (G6 rfl) rfl ?_
 refine L6 hs rfl (qf_ 3 3) rfl ?_
 refine R9 hs rfl hKs ql_ ?_
 refine L6 hs rfl (qf_ 0 0) rfl ?_
 refine R9 hs rfl hKs ql_ ?_
 refine km_ hs ?_
 refine L6 hs rfl (qf_ 1 1) rfl ?_
 refine R9 hs rfl hKs ql_ ?_
 refine K9 _ _ rfl rfl (List.Perm.refl _) hKm fun w0 => (F2 (Mc := B12) (R := _) (aS rfl (aS rfl a0)) kR PickC.perm (A1V pb (D9 s) u (F0 s) B12 _ hP12 (by omega) (h12.mono SubC.sub) hG.up) rfl ?_)
 rintro v24 M24 J24 ⟨hP24, h24⟩ hKx
 haveI := h24.cel
 refine A0G (M' := M24 ++ ((b4, blk [.int .u32 ((k.next : Nat) : Int), u, .slice none 0 0] 110) :: (b2, blk [.pointer (some ⟨kb, 0, none⟩)] 35) :: ((kb, blk [.int .i64 k.user, .int .i64 k.dev, va, vg, vq, vo, .int .u32 ((k.next : Nat) : Int), vm] 114) :: (Bs ++ (Bo ++ Bm))))) (by simp) ?_
 generalize hpk : P0 (D9 s) (F0 s) = pk at *
 generalize hps : K5 (D9 s) (F0 s) = s2 at *
 refine K9 [] _ rfl rfl (List.Perm.refl _) (fun _ h => by cases h) fun w0 => (D5 (aS rfl (aS rfl a0)) kR (A6t k.next v24 pk _ (by omega) (h24.mono SubC.sub) (by omega)) rfl ?_)
 rintro v25 M25 J25 ⟨rfl, h25⟩ _
 haveI := h25.cel
 generalize hms : A5r k.next pk = wm at *
 dsimp only [List.nil_append, List.append_eq]
 refine K9 M24 _ rfl rfl PickC.perm (fun x hx => hKx (hKn rfl) x (by simpa using hx)) fun w0 => (F2 (Mc := M24) (R := _) (aS rfl (aS rfl (aS rfl a0))) kR PickC.perm (B67 pb s2 vg v25 k.sign wm M24 _ hP24 (by omega) (hvg.mono SubC.sub) (h25.mono SubC.sub) hG.up) rfl ?_)
 rintro v26 M26 J26 ⟨hP26, h26⟩ hKx
 haveI := h26.cel
 refine L6 hs rfl (qf_ 2 2) rfl ?_
 refine XK.tl rfl rfl rfl (E3 rfl rfl h26.one kR SetC.set UpC.upd ?_)
 refine Q3 (D4 2 4) (A3 ?_)
 refine A4 ql_ rfl ?_
 refine A4 (G6 rfl) rfl ?_
 refine A4 (qf_ 6 6) rfl ?_
 refine A4 ql_ rfl ?_
 refine A4 (A7J 4294967296 (a := k.next) (b := 1) rfl rfl rfl rfl rfl rfl (by omega)) rfl ?_
 refine A4 (G6 rfl) rfl ?_
 refine A4 (qf_ 6 6) rfl ?_
 refine A6 rfl (E3 rfl rfl rfl kR SetC.set UpC.upd ?_)
 refine A0 (D4 2 4) ?_
 refine K0 ([]) (_) true (.range 10) [(0, 1), (1, 1), (3, 1), (4, 0), (5, 0), (6, 1), (2, 2), (7, 2), (8, 0), (9, 0), (10, 2)] kR kR PickC.perm fun hs K n0 hKm hKs hKn => ?_
 refine R9 hs rfl hKs ql_ ?_
 refine R9 hs rfl hKs (qw_ 3) ?_
 refine R9 hs rfl hKs ql_ ?_
 refine L6 hs rfl (G6 rfl) rfl ?_
 refine L6 hs rfl (qf_ 4 4) rfl ?_
 refine R9 hs rfl hKs ql_ ?_
 refine K9 [] _ rfl rfl (List.Perm.refl _) (fun _ h => by cases h) fun w0 => (C8 (e := 110) (sz := 3) (z := [.int .u32 0, .slice none 0 0, .slice none 0 0]) kR (eS rfl e0) (bdS 0 3 rfl (by rfl) bd0) rfl fun b37 => fun hk37 => ?_)
 dsimp only [List.cons_append, List.nil_append, List.append_eq]
 refine K9 [(b37, blk [.int .u32 ((k.next : Nat) : Int), u, v26] 110)] _ rfl rfl PickC.perm (fun x hx => hk37 (hKn rfl) x (by simpa using hx)) fun w0 => (K3 (e := 110) (sz := 3) (by_ := 56) rfl rfl kR rfl (Sl.fresh (n := 1) (cs := [.int .u32 ((k.next : Nat) : Int), u, v26]) (e := 110) rfl (by decide)) (hss.rd fun x hx => by simp [hx]) (hrs.ones prT) PickC.perm (by unfold maxLen; omega) (by omega) rfl fun v42 B42 hs42 => fun _ => ?_)
 haveI := hs42.cel
 refine L6 hs rfl (G6 rfl) rfl ?_
 refine L6 hs rfl (qf_ 4 4) rfl ?_
 refine XK.tl rfl rfl rfl (E3 rfl rfl hs42.one kR SetC.set UpC.upd ?_)
 refine Q3 (D8 2) ?_
 refine D3 (.range 14) (zp 0 [1, 1, 0, 0, 1, 1, 0, 0, 1, 0, 0, 0, 0, 0, 2]) kR kR fun hs => ?_
 refine F8 hs rfl ql_ rfl ?_
 refine F8 hs rfl ql_ rfl ?_
 refine D2 hs rfl (G6 rfl) rfl ?_
 refine D2 hs rfl (qf_ 4 4) rfl ?_
 refine F8 hs rfl ql_ rfl ?_
 refine F8 hs rfl ql_ rfl ?_
 refine D2 hs rfl (G6 rfl) rfl ?_
 refine D2 hs rfl (qf_ 4 4) rfl ?_
 refine F8 hs rfl ql_ rfl ?_
 refine D2 hs rfl (H6 (sz := 3) rfl kR (hs42.rd (R := B42) fun _ h => h)) rfl ?_
 refine D2 hs rfl (B7N rfl rfl) rfl ?_
 refine D2 hs rfl (A7K (sz := 3) (a := min 2 (1 + k.signed.length)) rfl rfl kR (by omega) (hs42.rd (R := B42) fun _ h => h) (by omega)) rfl ?_
 have hs6 := hs42.hiV (min 2 (1 + k.signed.length)) (by omega)
 generalize vHi (min 2 (1 + k.signed.length)) v42 = vq6 at *
 haveI := hs6.cel
 obtain ⟨tp, htp⟩ : ∃ tp, turnP k s = tp := ⟨_, rfl⟩
 have htq : tp = ⟨k.next, F0 s, B2g s2 k.sign wm⟩ := by rw [← htp]; unfold turnP; rw [hpk, hps, hms]
 have hrow : prR (J26 ++ (J25 ++ (J24 ++ (Jn0 ++ A)))) tp [.int .u32 ((k.next : Nat) : Int), u, v26] := ⟨u, v26, by rw [htq], by rw [htq]; exact h12.mono SubC.sub, by rw [htq]; exact h26.mono SubC.sub, by rw [htq]; dsimp only; omega⟩
 have hRs : RwL prR (J26 ++ (J25 ++ (J24 ++ (Jn0 ++ A)))) (([.int .u32 ((k.next : Nat) : Int), u, v26] :: rs).take 2) ((tp :: k.signed).take 2) := (RwL.cons hrow (hrs.mono prT SubC.sub)).take 2
 have hl6 : ((tp :: k.signed).take 2).length = min 2 (1 + k.signed.length) := by rw [List.length_take, List.length_cons]; omega
 have hSg : Sl 3 vq6 ((tp :: k.signed).take 2).length (([.int .u32 ((k.next : Nat) : Int), u, v26] :: rs).take 2).flatten B42 := by
  have e1 : [.int .u32 ((k.next : Nat) : Int), u, v26] ++ rs.flatten = ([.int .u32 ((k.next : Nat) : Int), u, v26] :: rs).flatten := rfl
  have e2 : min 2 (1 + k.signed.length) = min 2 ([.int .u32 ((k.next : Nat) : Int), u, v26] :: rs).length := by rw [List.length_cons, hrs.len]; omega
  rw [e1, A2U ((RwL.cons hrow (hrs.mono prT SubC.sub)).lens prT), e2, ← List.take_eq_take_min, ← e2, ← hl6] at hs6
  exact hs6
 refine D2 hs rfl (G6 rfl) rfl ?_
 refine D2 hs rfl (qf_ 4 4) rfl ?_
 refine G5 rfl rfl rfl (E3 rfl rfl hs6.one kR SetC.set UpC.upd ?_)
 refine E4 (D8 2) ?_
 refine A0F (Bm) (_) true (.range 9) (zp 0 [1, 1, 0, 0, 1, 0, 2, 0, 0, 2]) kR kR PickC.perm fun hs K n0 hKm hKs hKn => ?_
 refine R9 hs rfl hKs ql_ ?_
 refine R9 hs rfl hKs ql_ ?_
 refine L6 hs rfl (G6 rfl) rfl ?_
 refine L6 hs rfl (qf_ 7 7) rfl ?_
 refine R9 hs rfl hKs ql_ ?_
 refine L6 hs rfl (A46 (aS rfl a0)) rfl ?_
 refine K9 _ _ rfl rfl (List.Perm.refl _) hKm fun w0 => (F2 (Mc := Bm) (R := _) (aS rfl (aS rfl a0)) kR PickC.perm (by rw [← hrm.len] at hsm; exact A9i vm rm 70 [.pointer (some ⟨b2, 0, none⟩)] (fun j => (k.met[j]?.map (A9j ((tp :: k.signed).take 2))).getD false) Bm _ hsm (hrm.lens nmT) (hrm.ones nmT) (by rw [hrm.len]; omega) kR (B1D (hrm.mono nmT SubC.sub) At.mem At.mem (hSg.rd fun x hx => by simp [hx]) (hRs.mono prT SubC.sub) (by rw [hl6]; omega))) rfl ?_)
 rintro v65 M65 J65 h65 _
 haveI := h65.cel
 refine L6 hs rfl (G6 rfl) rfl ?_
 refine L6 hs rfl (qf_ 7 7) rfl ?_
 refine XK.tl rfl rfl rfl (E3 rfl rfl h65.one kR SetC.set UpC.upd ?_)
 refine A5F ?_
 have hkm := hrm.kpt (fun j => (k.met[j]?.map (A9j ((tp :: k.signed).take 2))).getD false) rm.length
 rw [A4o, hrm.len, List.take_length] at hkm
 rw [hrm.len] at h65
 have htK : A0y k s = ({ k with signed := (tp :: k.signed).take 2, next := k.next + 1, met := k.met.filter fun x => !A9j ((tp :: k.signed).take 2) x }, A5h s2 k.sign wm) := by unfold A0y B1B; rw [htp, hpk, hps, hms]
 rw [htK]
 have hkl : (k.met.filter fun x => !A9j ((tp :: k.signed).take 2) x).length ≤ 100000 := Nat.le_trans (List.length_filter_le _ _) hn4
 refine ⟨_, (kb, blk [.int .i64 k.user, .int .i64 k.dev, va, vg, vq6, vo, .int .u32 ((k.next + 1 : Nat) : Int), v65] 114) :: (B42 ++ (Bo ++ (M65 ++ M26))), [], B7E rfl, Fit.none (Fit.pick (B := [_]) PickC.perm (Fit.pick PickC.perm (Fit.pick PickC.perm (Fit.pick PickC.perm (Fit.last PickC.perm))))), (kb, blk [.int .i64 k.user, .int .i64 k.dev, va, vg, vq6, vo, .int .u32 ((k.next + 1 : Nat) : Int), v65] 114) :: (B42 ++ (Bo ++ M65)), M26, by simp, ⟨⟨va, vg, vq6, vo, v65, _, ro, _, B42, Bo, M65, rfl, hva.mono SubC.sub, hvg.mono SubC.sub, hSg, hRs.mono prT SubC.sub, hso, hro.mono prT SubC.sub, ?_, hkm.mono nmT SubC.sub, by dsimp only; omega, by dsimp only; rw [hl6]; omega, hn3, hkl⟩⟩, hP26⟩
 rw [hkm.len] at h65
 exact h65

end Go.Proofs.YthbhpfefdnffaaaGreatDoor
namespace Go.Px
structure Gc where
  i : Nat
  d : Nat
  s : Option Nat
  m : Mem
  φ : Value → Mem → Mem → Prop
def Gc.inp (g : Gc) (bs : Nat → Mem) : Mem := match g.s with
  | none => g.m
  | some s => bs s
theorem Gc.inp_none {g : Gc} {bs : Nat → Mem} (h : g.s = none) : g.inp bs = g.m := by unfold Gc.inp; rw [h]
theorem Gc.inp_some {g : Gc} {bs : Nat → Mem} {s : Nat} (h : g.s = some s) : g.inp bs = bs s := by unfold Gc.inp; rw [h]
def V2 (G : List Gc) (vs : Nat → Value) : Env := G.map fun g => (g.d, vs g.i)
def B4h (G : List Gc) : List Gm := G.map fun g => ⟨g.i, g.d, fun _ _ => True⟩
theorem B1E (G : List Gc) : (B4h G).map (·.i) = G.map (·.i) := by simp [B4h]
theorem B1F (G : List Gc) : (B4h G).map (·.d) = G.map (·.d) := by simp [B4h]
theorem A01 (G : List Gc) (vs : Nat → Value) : A2u (B4h G) vs = V2 G vs := by simp [A2u, V2, B4h]
theorem Y9 {G : List Gc} (h : (G.map (·.i)).Nodup) {g g' : Gc} (hg : g ∈ G) (hg' : g' ∈ G) (e : g.i = g'.i) : g = g' := by
  induction G with
  | nil => cases hg
  | cons x G ih =>
    simp only [List.map_cons, List.nodup_cons] at h
    rcases List.mem_cons.1 hg with h1 | h1 <;> rcases List.mem_cons.1 hg' with h2 | h2
    · rw [h1, h2]
    · exact absurd (by rw [← h1, e]; exact List.mem_map_of_mem (f := Gc.i) h2) h.1
    · exact absurd (by rw [← h2, ← e]; exact List.mem_map_of_mem (f := Gc.i) h1) h.1
    · exact ih h.2 h1 h2
def A2r (G : List Gc) (X : List Nat) (bs : Nat → Mem) (g : Gc) : Mem :=
  if g.i ∈ X then (if ∃ g' ∈ G, g'.s = some g.i ∧ g'.i ∈ X then [] else bs g.i) else (if g.s = none then g.m else [])
def A7p (X : List Nat) (bs : Nat → Mem) (G : List Gc) : Mem := (G.map (A2r G X bs)).flatten
def B1G (l : List (Nat × Option Nat)) (i : Nat) : Bool := l.any fun p => p.2 == some i
def A9k (G : List Gc) (bs : Nat → Mem) : List Mem := (G.filter fun g => !B1G (G.map fun g => (g.i, g.s)) g.i).map fun g => bs g.i
def A1t (l : List Mem) (M : Mem) : Mem := l.foldr (· ++ ·) M
def A1X (G : List Gc) : List Mem := (G.filter fun g => g.s.isNone).map (·.m)
def A7q (ops : Array Oper) (l : List (Nat × Option Nat)) : Bool :=
  l.all fun p => match p.2 with
    | none => true
    | some s => (l.map Prod.fst).contains s && anc ops ops.size p.1 s && l.all fun q => q.2 != some s || q.1 == p.1
structure ChainOk (ops : Array Oper) (G : List Gc) : Prop where
  anc : ∀ g ∈ G, ∀ s, g.s = some s → anc ops ops.size g.i s = true
  mem : ∀ g ∈ G, ∀ s, g.s = some s → s ∈ G.map (·.i)
  one : ∀ g ∈ G, ∀ g' ∈ G, ∀ s, g.s = some s → g'.s = some s → g'.i = g.i
theorem A8u {ops : Array Oper} {G : List Gc} (h : A7q ops (G.map fun g => (g.i, g.s)) = true) : ChainOk ops G := by
  have key : ∀ g ∈ G, ∀ s, g.s = some s → s ∈ G.map (·.i) ∧ Px.anc ops ops.size g.i s = true ∧ ∀ g' ∈ G, g'.s = some s → g'.i = g.i := by
    intro g hg s hs
    have h1 := List.all_eq_true.1 h (g.i, g.s) (List.mem_map_of_mem (f := fun g : Gc => (g.i, g.s)) hg)
    simp only [hs, Bool.and_eq_true, List.contains_iff_mem, List.map_map] at h1
    obtain ⟨⟨h2, h3⟩, h4⟩ := h1
    refine ⟨by simpa [Function.comp_def] using h2, h3, fun g' hg' hs' => ?_⟩
    have h5 := List.all_eq_true.1 h4 (g'.i, g'.s) (List.mem_map_of_mem (f := fun g : Gc => (g.i, g.s)) hg')
    simp [hs'] at h5
    exact h5
  exact ⟨fun g hg s hs => (key g hg s hs).2.1, fun g hg s hs => (key g hg s hs).1, fun g hg g' hg' s hs hs' => (key g hg s hs).2.2 g' hg' hs'⟩
theorem A7r {G : List Gc} (hi : (G.map (·.i)).Nodup) {g : Gc} (hg : g ∈ G) (f : Gc → Mem) :
    ∃ R, ∀ f' : Gc → Mem, (∀ x ∈ G, x.i ≠ g.i → f' x = f x) → (G.map f').flatten.Perm (f' g ++ R) := by
  obtain ⟨s, t, rfl⟩ := List.append_of_mem hg
  have hne : ∀ x ∈ s ++ t, x.i ≠ g.i := by
    intro x hx e
    simp only [List.map_append, List.map_cons, List.nodup_append, List.nodup_cons] at hi
    rcases List.mem_append.1 hx with h | h
    · exact hi.2.2 _ (List.mem_map_of_mem (f := Gc.i) h) _ List.mem_cons_self e
    · exact hi.2.1.1 (e ▸ List.mem_map_of_mem (f := Gc.i) h)
  refine ⟨(s.map f).flatten ++ (t.map f).flatten, fun f' h => ?_⟩
  have es : s.map f' = s.map f := List.map_congr_left fun x hx => h x (by simp [hx]) (hne x (List.mem_append_left _ hx))
  have et : t.map f' = t.map f := List.map_congr_left fun x hx => h x (by simp [hx]) (hne x (List.mem_append_right _ hx))
  simp only [List.map_append, List.map_cons, List.flatten_append, List.flatten_cons, es, et]
  exact List.perm_append_comm_assoc _ _ _
theorem A3H {ops : Array Oper} {X : List Nat} {bs : Nat → Mem} {G : List Gc} {g : Gc} (hi : (G.map (·.i)).Nodup) (hc : ChainOk ops G) (hg : g ∈ G) (hX : g.i ∉ X) (hcl : ∀ g' ∈ G, g'.i ∈ X → ∀ s, g'.s = some s → s ∈ X) (hsx : ∀ s, g.s = some s → s ∈ X) :
    ∃ R, (A7p X bs G).Perm (g.inp bs ++ R) ∧ ∀ M', (M' ++ R).Perm (A7p (X ++ [g.i]) (fun k => if k = g.i then M' else bs k) G) := by
  have hmem : ∀ x : Gc, x.i ≠ g.i → (x.i ∈ X ++ [g.i] ↔ x.i ∈ X) := fun x h => by simp [h]
  have hself : ∀ M' : Mem, A2r G (X ++ [g.i]) (fun k => if k = g.i then M' else bs k) g = M' := by
    intro M'
    have hno : ¬ ∃ g' ∈ G, g'.s = some g.i ∧ g'.i ∈ X ++ [g.i] := by
      rintro ⟨g', hg', hs', hx'⟩
      rcases List.mem_append.1 hx' with h | h
      · exact hX (hcl g' hg' h _ hs')
      · have h2 : g' = g := Y9 hi hg' hg (by simpa using h)
        subst h2
        exact hX (hsx _ hs')
    unfold A2r
    rw [if_pos (by simp), if_neg hno]
    exact if_pos rfl
  cases hs : g.s with
  | none =>
    obtain ⟨R, hR⟩ := A7r hi hg (A2r G X bs)
    refine ⟨R, ?_, fun M' => ?_⟩
    · have h1 := hR (A2r G X bs) fun _ _ _ => rfl
      have h2 : A2r G X bs g = g.inp bs := by unfold A2r; rw [if_neg hX, if_pos hs, Gc.inp_none hs]
      rw [h2] at h1
      exact h1
    · have h1 := hR (A2r G (X ++ [g.i]) fun k => if k = g.i then M' else bs k) fun x hx hne => by
        unfold A2r
        by_cases hxX : x.i ∈ X
        · rw [if_pos ((hmem x hne).2 hxX), if_pos hxX]
          have hiff : (∃ g' ∈ G, g'.s = some x.i ∧ g'.i ∈ X ++ [g.i]) ↔ (∃ g' ∈ G, g'.s = some x.i ∧ g'.i ∈ X) := by
            constructor
            · rintro ⟨g', h1, h2, h3⟩
              rcases List.mem_append.1 h3 with h4 | h4
              · exact ⟨g', h1, h2, h4⟩
              · have h5 : g' = g := Y9 hi h1 hg (by simpa using h4)
                subst h5; rw [hs] at h2; cases h2
            · rintro ⟨g', h1, h2, h3⟩; exact ⟨g', h1, h2, List.mem_append_left _ h3⟩
          simp only [hiff, if_neg hne]
        · rw [if_neg (fun h => hxX ((hmem x hne).1 h)), if_neg hxX]
      rw [hself M'] at h1
      exact h1.symm
  | some s =>
    have hsX := hsx s hs
    obtain ⟨gs, hgs, rfl⟩ := List.mem_map.1 (hc.mem g hg s hs)
    have hne0 : gs.i ≠ g.i := fun h => hX (h ▸ hsX)
    obtain ⟨R1, hR1⟩ := A7r hi hgs (A2r G X bs)
    have h1 := hR1 (A2r G X bs) fun _ _ _ => rfl
    have e1 : A2r G X bs gs = bs gs.i := by
      unfold A2r
      rw [if_pos hsX, if_neg]
      rintro ⟨g', hg', hs', hx'⟩
      exact hX (hc.one g hg g' hg' _ hs hs' ▸ hx')
    rw [e1] at h1
    have h2 := hR1 (fun x => if x.i = gs.i then [] else A2r G X bs x) fun x _ hne => if_neg hne
    simp only [if_true, List.nil_append] at h2
    obtain ⟨R2, hR2⟩ := A7r hi hg (fun x => if x.i = gs.i then [] else A2r G X bs x)
    have h3 := hR2 (fun x => if x.i = gs.i then [] else A2r G X bs x) fun _ _ _ => rfl
    have e3 : (if g.i = gs.i then [] else A2r G X bs g) = ([] : Mem) := by
      rw [if_neg (Ne.symm hne0)]
      unfold A2r
      rw [if_neg hX, if_neg (by rw [hs]; exact fun h => by cases h)]
    simp only [e3, List.nil_append] at h3
    refine ⟨R2, ?_, fun M' => ?_⟩
    · rw [Gc.inp_some hs]
      exact h1.trans (List.Perm.append_left _ (h2.symm.trans h3))
    · have h4 := hR2 (A2r G (X ++ [g.i]) fun k => if k = g.i then M' else bs k) fun x hx hne => by
        by_cases hxs : x.i = gs.i
        · rw [if_pos hxs]
          unfold A2r
          rw [if_pos ((hmem x hne).2 (hxs ▸ hsX)), if_pos ⟨g, hg, by rw [hs, hxs], by simp⟩]
        · rw [if_neg hxs]
          unfold A2r
          by_cases hxX : x.i ∈ X
          · rw [if_pos ((hmem x hne).2 hxX), if_pos hxX]
            have hiff : (∃ g' ∈ G, g'.s = some x.i ∧ g'.i ∈ X ++ [g.i]) ↔ (∃ g' ∈ G, g'.s = some x.i ∧ g'.i ∈ X) := by
              constructor
              · rintro ⟨g', h1, h2, h3⟩
                rcases List.mem_append.1 h3 with h4 | h4
                · exact ⟨g', h1, h2, h4⟩
                · have h5 : g' = g := Y9 hi h1 hg (by simpa using h4)
                  subst h5; rw [hs] at h2; exact absurd (Option.some.inj h2).symm hxs
              · rintro ⟨g', h1, h2, h3⟩; exact ⟨g', h1, h2, List.mem_append_left _ h3⟩
            simp only [hiff, if_neg hne]
          · rw [if_neg (fun h => hxX ((hmem x hne).1 h)), if_neg hxX]
      rw [hself M'] at h4
      exact h4.symm
theorem A8v {bs : Nat → Mem} {G : List Gc} : A7p [] bs G = (A1X G).flatten := by
  have : ∀ G' : List Gc, (G'.map (A2r G [] bs)).flatten = (A1X G').flatten := by
    intro G'
    induction G' with
    | nil => rfl
    | cons g G' ih =>
      rw [List.map_cons, List.flatten_cons, ih]
      have e : A2r G [] bs g = if g.s = none then g.m else [] := by unfold A2r; rw [if_neg (by simp)]
      rw [e]
      cases hs : g.s with
      | none => simp [A1X, hs]
      | some s => simp [A1X, hs]
  exact this G
theorem A8w {X : List Nat} {bs : Nat → Mem} {G : List Gc} (h : ∀ g ∈ G, g.i ∈ X) : A7p X bs G = (A9k G bs).flatten := by
  have he : ∀ g ∈ G, A2r G X bs g = if B1G (G.map fun g => (g.i, g.s)) g.i = true then [] else bs g.i := by
    intro g hg
    unfold A2r
    rw [if_pos (h g hg)]
    have : (∃ g' ∈ G, g'.s = some g.i ∧ g'.i ∈ X) ↔ B1G (G.map fun g => (g.i, g.s)) g.i = true := by
      unfold B1G
      simp only [List.any_eq_true, List.mem_map]
      constructor
      · rintro ⟨g', h1, h2, _⟩; exact ⟨_, ⟨g', h1, rfl⟩, by simp [h2]⟩
      · rintro ⟨_, ⟨g', h1, rfl⟩, h2⟩; exact ⟨g', h1, by simpa using h2, h g' h1⟩
    simp only [this]
  unfold A7p A9k
  rw [List.map_congr_left he]
  have : ∀ (G' : List Gc) (p : Gc → Bool), (G'.map fun g => if p g = true then ([] : Mem) else bs g.i).flatten = ((G'.filter fun g => !p g).map fun g => bs g.i).flatten := by
    intro G' p
    induction G' with
    | nil => rfl
    | cons g G' ih =>
      rw [List.map_cons, List.flatten_cons, ih]
      cases hp : p g <;> simp [hp]
  exact this G fun g => B1G (G.map fun g => (g.i, g.s)) g.i
theorem A2P (l : List Mem) (M : Mem) : A1t l M = l.flatten ++ M := by
  induction l with
  | nil => rfl
  | cons a l ih => show a ++ A1t l M = _; rw [ih, List.flatten_cons, List.append_assoc]
section group
variable {C : Cx} {Q : XQ} {l : Env} {M M0 J : Mem} {os : List Oper} {K : Nat → Prop} {n0 : Nat} {nd : List Nat} {plan : List (Nat × Nat)}
def B1H (C : Cx) (os : List Oper) (l : Env) (M0 J : Mem) (G : List Gc) (g : Gc) : Prop :=
  ∃ o, nth os g.i = some o ∧ ∀ (vs : Nat → Value) (bs : Nat → Mem) (R Rj : Mem) (w : World), (∀ x ∈ M0 ++ (J ++ C.A), x ∈ R) → (∀ x ∈ J ++ C.A, x ∈ Rj) → (∀ x ∈ Rj, x ∈ R) → (∀ g' ∈ G, anc os.toArray os.toArray.size g.i g'.i = true → g'.φ (vs g'.i) (bs g'.i) Rj) →
    A8O os (V2 G vs ++ l) o ∧ OpL ⟨C.P, w, (g.inp bs).map Prod.fst, R, C.N⟩ o (V2 G vs ++ l) (g.inp bs) [] (fun l' M' J' => ∃ v, l' = (g.d, v) :: (V2 G vs ++ l) ∧ g.φ v M' (J' ++ Rj))
theorem B1I {G : List Gc} (hmono : ∀ g ∈ G, Z9 g.φ) (hd : (G.map (·.d)).Nodup) (hi : (G.map (·.i)).Nodup) (hc : ChainOk os.toArray G) (hKn : ∀ b, n0 ≤ b → K b) (hK : ∀ m ∈ A1X G, ∀ x ∈ m, K x.1) (hob : ∀ g ∈ G, B1H C os l M0 J G g) {A B : Array Bool} (hok : GOk os.toArray A (G.map (·.i)) B)
    (hfin : ∀ (vs : Nat → Value) (bs : Nat → Mem) Jn a w, (∀ g ∈ G, g.φ (vs g.i) (bs g.i) ((Jn ++ J) ++ C.A)) → (∀ g ∈ G, ∀ x ∈ bs g.i, K x.1) → Ag C.N (V2 G vs ++ l) a → St C ((A9k G bs).flatten ++ M0) (Jn ++ J) w → n0 ≤ w.heap.size → U2 C.P os.toArray (L9 (A3T C Q)) (Sk K) nd.contains plan.length B a w) :
    ∀ (n : Nat) (X : List Nat) (vs : Nat → Value) (bs : Nat → Mem) (Jn : Mem) (a : Act) (w : World), X.Nodup → (∀ i ∈ X, i ∈ G.map (·.i)) → n + X.length = G.length → L3 os.toArray (mark A X) → (∀ g ∈ G, g.i ∈ X → ∀ s, g.s = some s → s ∈ X) →
      (∀ g ∈ G, g.i ∈ X → g.φ (vs g.i) (bs g.i) ((Jn ++ J) ++ C.A)) → (∀ g ∈ G, g.i ∈ X → ∀ x ∈ bs g.i, K x.1) → Ag C.N (V2 G vs ++ l) a → St C (A7p X bs G ++ M0) (Jn ++ J) w → n0 ≤ w.heap.size →
      U2 C.P os.toArray (L9 (A3T C Q)) (Sk K) nd.contains (n + plan.length) (mark A X) a w := by
  intro n
  induction n with
  | zero =>
    intro X vs bs Jn a w hnd hX hlen hcl hXs hφ hN ha hw hn
    have hall : ∀ i, i ∈ X ↔ i ∈ G.map (·.i) := fun i => ⟨hX i, Z8 hnd hX (by simp; omega) i⟩
    have hin : ∀ g ∈ G, g.i ∈ X := fun g hg => (hall _).2 (List.mem_map_of_mem (f := Gc.i) hg)
    have hcur := A8w (bs := bs) hin
    rw [hcur] at hw
    rw [Nat.zero_add, A14 hall, ← hok.mark]
    exact hfin vs bs Jn a w (fun g hg => hφ g hg (hin g hg)) (fun g hg => hN g hg (hin g hg)) ha hw hn
  | succ n ih =>
    intro X vs bs Jn a w hnd hX hlen hcl hXs hφ hN ha hw hn
    have hmiss : ∃ k ∈ G.map (·.i), k ∉ X := by
      apply Classical.byContradiction
      intro hno
      have hs : ∀ k ∈ G.map (·.i), k ∈ X := fun k hk => Classical.byContradiction fun h => hno ⟨k, hk, h⟩
      have := A0h hi hs
      simp at this; omega
    obtain ⟨k, hkG, hkX⟩ := hmiss
    have hun : ∀ i ∈ G.map (·.i), A.getD i true = false := by
      have : ∀ {is A B}, GOk os.toArray A is B → ∀ i ∈ is, A.getD i true = false := by
        intro is A B h
        induction h with
        | nil => intro i hi; cases hi
        | @cons A B i r hr ho h ih =>
          intro k hk
          rcases List.mem_cons.1 hk with rfl | hk
          · exact G7 hr
          · have h2 := ih k hk
            by_cases e : i = k
            · subst e; exact G7 hr
            · rwa [getD_set_ne true e] at h2
      exact this hok
    have hkun : (mark A X).getD k true = false := F3.2 ⟨hun k hkG, fun h => hkX h.1⟩
    rw [show n + 1 + plan.length = (n + plan.length) + 1 by omega]
    refine ⟨fun h0 => ?_, fun i hir => ?_⟩
    · obtain ⟨i, hir⟩ := hok.first (U9 A X) (fun j hj => V0 hj) hkG hkun
      rw [h0] at hir; cases hir
    · have hiG : i ∈ G.map (·.i) := by
        apply Classical.byContradiction
        intro hno
        have h1 := F3.1 (G7 hir)
        have h2 := hok.outer k hkG i (A0V hir) h1.1 hno
        exact L4 hkun (K2 hcl h2 hir)
      obtain ⟨g, hg, rfl⟩ := List.mem_map.1 hiG
      have hiX : g.i ∉ X := fun h => (F3.1 (G7 hir)).2 ⟨h, N7 (hun _ hiG)⟩
      have hin : ∀ j ∈ G.map (·.i), anc os.toArray os.toArray.size g.i j = true → j ∈ X := fun j hj hanc => by
        have h3 := K2 hcl hanc hir
        rcases Q4 h3 with h4 | h4
        · exact (L4 (hun _ hj) h4).elim
        · exact h4
      have hsx : ∀ s, g.s = some s → s ∈ X := fun s hs => hin s (hc.mem g hg s hs) (hc.anc g hg s hs)
      have hKi : ∀ x ∈ g.inp bs, K x.1 := by
        intro x hx
        cases hs : g.s with
        | none =>
          rw [Gc.inp_none hs] at hx
          exact hK g.m (List.mem_map.2 ⟨g, List.mem_filter.2 ⟨hg, by simp [hs]⟩, rfl⟩) x hx
        | some s =>
          rw [Gc.inp_some hs] at hx
          obtain ⟨gs, hgs, rfl⟩ := List.mem_map.1 (hc.mem g hg s hs)
          exact hN gs hgs (hsx _ hs) x hx
      obtain ⟨o, hget, howe⟩ := hob g hg
      have hi' : os.toArray[g.i]? = some o := by rw [R5] at hget; simpa using hget
      obtain ⟨hask, hop⟩ := howe vs bs (M0 ++ ((Jn ++ J) ++ C.A)) ((Jn ++ J) ++ C.A) w (fun x hx => by simp only [List.mem_append] at hx ⊢; rcases hx with h | h | h <;> simp [h]) (fun x hx => by simp only [List.mem_append] at hx ⊢; rcases hx with h | h <;> simp [h]) (fun x hx => List.mem_append_right _ hx) (fun g' hg' hanc => hφ g' hg' (hin _ (List.mem_map_of_mem (f := Gc.i) hg') hanc))
      unfold wpOp
      simp only [hi']
      rw [if_pos (hask.wanted ha)]
      obtain ⟨R0, hp0, hq0⟩ := A3H (bs := bs) hi hc hg hiX hXs hsx
      have hpc : (A7p X bs G ++ M0).Perm (g.inp bs ++ (R0 ++ M0)) := by
        rw [← List.append_assoc]; exact List.Perm.append_right _ hp0
      have hcal := hw.callee hpc
      have hcal2 := St.less (A := M0 ++ ((Jn ++ J) ++ C.A)) hcal fun x hx => by
        simp only [List.mem_append] at hx ⊢
        rcases hx with h | h
        · exact .inl (.inr h)
        · exact .inr h
      refine .inl (Oper.wp_mono ?_ (hop _ a w ha hcal2.cx))
      rintro a' w' ⟨l', M', J', ha', hs', v, rfl, hφv⟩
      have hsz : w.heap.size ≤ w'.heap.size := hs'.size
      have hs2 := St.widen hcal.cx hs'
      have hb := hw.back hpc hs2.cx
      let bs' : Nat → Mem := fun k => if k = g.i then M' else bs k
      have hperm : (M' ++ (R0 ++ M0)).Perm (A7p (X ++ [g.i]) bs' G ++ M0) := by
        rw [← List.append_assoc]
        exact List.Perm.append_right _ (hq0 M')
      have hfr2 : St C (A7p (X ++ [g.i]) bs' G ++ M0) ((J' ++ Jn) ++ J) w' := (hb.perm hperm).drop (List.Sublist.refl _) fun x hx => by
        simp only [List.mem_append] at hx ⊢
        rcases hx with (h | h) | h <;> simp [h]
      refine ⟨fun _ b hb' hnk => hs'.frame b hb' fun hm => ?_, ?_⟩
      · obtain ⟨x, hx, e⟩ := List.mem_map.1 hm
        exact hnk (e ▸ hKi x hx)
      rw [← K7]
      have henv := Y3 (N := C.N) (G := B4h G) (l := l) (vs := vs) (g := ⟨g.i, g.d, fun _ _ => True⟩) (a := a') (v := v) (List.mem_map_of_mem (f := fun g : Gc => (⟨g.i, g.d, fun _ _ => True⟩ : Gm)) hg) (by rw [B1F]; exact hd) (by rw [B1E]; exact hi) (by rw [A01]; exact ha')
      rw [A01] at henv
      refine ih (X ++ [g.i]) (fun k => if k = g.i then v else vs k) bs' (J' ++ Jn) a' w' ?_ ?_ (by simp; omega) ?_ ?_ ?_ ?_ henv hfr2 (Nat.le_trans hn hsz)
      · rw [List.nodup_append]; exact ⟨hnd, by simp, fun x hx y hy e => hiX (by simp at hy; subst hy; exact e ▸ hx)⟩
      · intro j hj
        rcases List.mem_append.1 hj with hj | hj
        · exact hX j hj
        · simp at hj; subst hj; exact hiG
      · rw [K7]; exact G2 hcl hir
      · intro g' hg' hm s hs
        rcases List.mem_append.1 hm with h | h
        · exact List.mem_append_left _ (hXs g' hg' h s hs)
        · have h2 : g' = g := Y9 hi hg' hg (by simpa using h)
          subst h2
          exact List.mem_append_left _ (hsx s hs)
      · intro g' hg' hm
        by_cases e : g'.i = g.i
        · have : g' = g := Y9 hi hg' hg e
          subst this
          simp only [if_true, bs']
          exact hmono g' hg' _ _ _ _ (fun x hx => by simp only [List.mem_append] at hx ⊢; rcases hx with h | (h | h) | h <;> simp [h]) hφv
        · simp only [e, if_false, bs']
          have hm' : g'.i ∈ X := by simpa [e] using hm
          exact hmono g' hg' _ _ _ _ (fun x hx => by simp only [List.mem_append] at hx ⊢; rcases hx with (h | h) | h <;> simp [h]) (hφ g' hg' hm')
      · intro g' hg' hk x hx
        by_cases e : g'.i = g.i
        · have : g' = g := Y9 hi hg' hg e
          subst this
          simp only [if_true, bs'] at hx
          rcases hs'.own x.1 x.2 (by simp [hx]) with h6 | h6
          · obtain ⟨y, hy, e6⟩ := List.mem_map.1 h6
            exact e6 ▸ hKi y hy
          · exact hKn _ (Nat.le_trans hn h6)
        · simp only [e, if_false, bs'] at hx
          have hk' : g'.i ∈ X := by simpa [e] using hk
          exact hN g' hg' hk' x hx
theorem A6x (G : List Gc) (M0 : Mem) (Lf : (Nat → Mem) → List Mem) (hKn : ∀ b, n0 ≤ b → K b) (hM : M.Perm (A1t (A1X G) M0)) (hK : ∀ m ∈ A1X G, ∀ x ∈ m, K x.1) (hck : A7q os.toArray (G.map fun g => (g.i, g.s)) = true) (hLf : ∀ bs, A9k G bs = Lf bs)
    (hmono : ∀ g ∈ G, Z9 g.φ) (hd : (G.map (·.d)).Nodup) (hi : (G.map (·.i)).Nodup) (hdN : ∀ g ∈ G, g.d < C.N) (hob : ∀ g ∈ G, B1H C os l M0 J G g)
    (h : ∀ (vs : Nat → Value) (bs : Nat → Mem) Jn, (∀ g ∈ G, g.φ (vs g.i) (bs g.i) ((Jn ++ J) ++ C.A)) → (∀ g ∈ G, ∀ x ∈ bs g.i, K x.1) → XK C os Q K n0 nd plan (V2 G vs ++ l) (A1t (Lf bs) M0) (Jn ++ J)) : XK C os Q K n0 nd (enc (G.map (·.i)) ++ plan) l M J := by
  refine A0G hM ?_
  rw [A2P]
  intro listed hcl hp a w ha hw hn
  obtain ⟨B, hok, hp2⟩ := A5G hp
  have hBcl : L3 os.toArray B := by
    have : ∀ {A is B}, GOk os.toArray A is B → L3 os.toArray A → L3 os.toArray B := by
      intro A is B h
      induction h with
      | nil => exact id
      | cons hr _ _ ih => exact fun hc => ih (G2 hc hr)
    exact this hok hcl
  have hlen : (enc (G.map (·.i)) ++ plan).length = G.length + plan.length := by
    have : ∀ is : List Nat, (enc is).length = is.length := by
      intro is
      induction is with
      | nil => rfl
      | cons i r ih => cases r with
        | nil => rfl
        | cons j r => simp only [enc, List.length_cons] at ih ⊢; rw [ih]
    simp [this]
  rw [hlen]
  let vs : Nat → Value := fun k => match G.find? (fun g => g.i == k) with
    | some g => (a.tmps[g.d]?).getD undef
    | none => undef
  have hag : Ag C.N (V2 G vs ++ l) a := by
    refine ⟨ha.defers, ha.size, ?_⟩
    intro k u hk
    have key : ∀ G' : List Gc, (∀ g ∈ G', g ∈ G) → lk (V2 G' vs ++ l) k = some u → a.tmps[k]? = some u := by
      intro G'
      induction G' with
      | nil => intro _ h; exact ha.slot k u h
      | cons g G' ih =>
        intro hs h
        simp only [V2, List.map_cons, List.cons_append, lk] at h
        by_cases e : g.d = k
        · subst e
          simp at h
          have hf : G.find? (fun x => x.i == g.i) = some g := by
            have hgG := hs g List.mem_cons_self
            cases hq : G.find? (fun x => x.i == g.i) with
            | none => have := List.find?_eq_none.1 hq g hgG; simp at this
            | some x =>
              have h1 := List.find?_some hq
              have h2 := List.mem_of_find?_eq_some hq
              rw [Y9 hi h2 hgG (by simpa using h1)]
          have hlt : g.d < a.tmps.size := by rw [ha.size]; exact hdN g (hs g List.mem_cons_self)
          rw [← h]
          show a.tmps[g.d]? = some (vs g.i)
          simp only [vs, hf, Array.getElem?_eq_getElem hlt, Option.getD_some]
        · simp only [U7 e, cond_false] at h
          exact ih (fun x hx => hs x (List.mem_cons_of_mem _ hx)) h
    exact key G (fun _ h => h) hk
  refine B1I (n0 := n0) (K := K) hmono hd hi (A8u hck) hKn hK hob hok (fun vs bs Jn a w hφ hN ha hw hn => h vs bs Jn hφ hN B hBcl hp2 a w ha (by rw [A2P, ← hLf]; exact hw) hn) G.length [] vs (fun _ => []) [] a w .nil (fun _ h => by cases h) (by simp) hcl (fun _ _ h => by cases h) (fun _ _ h => by cases h) (fun _ _ h => by cases h) hag (by rw [A8v]; exact hw) hn
end group
end Go.Px

