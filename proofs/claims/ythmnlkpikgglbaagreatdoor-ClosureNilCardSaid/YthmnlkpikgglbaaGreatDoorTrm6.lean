/- The walk of TermPuts. -/
import Derived.Test.YthmnlkpikgglbaaGreatDoorTrm5
set_option linter.unusedVariables false
set_option linter.unusedSimpArgs false
namespace Go.Px
section
variable {P : Program} {R R' : Mem} {l : Env} {d : Option Nat} {ty t : TypeId} {pos : String} {af : Array Edge} {g : Option (Nat × Bool)} {x y : Operand} {v u : Value} {sz n a off j : Nat} {xs : List Value}
/-- A field of an element; what is there. -/
theorem q_fldV {f : Nat} {s : TypeId} (hx : ev l x = some (vAt sz a v)) (h : Rd R' sz v n xs) (ha : a < n) (hf : fieldOff P s f = some off) : OpQ P R ⟨d, .fieldAddr s x f, ty, pos, af, g⟩ l (vAt 1 (a * sz + off) v) := by
  obtain ⟨p, c, rfl, h2, h3, h4⟩ := h
  rcases h4 with h4 | ⟨b, o, cs, e', fr, rfl, hb, hx'⟩
  · omega
  · simp only [vAt, Addr.add_mid, Nat.mul_one] at hx ⊢
    exact q_fieldAddrN _ hx hf (by omega)
theorem q_ldVF (hx : ev l x = some (vAt 1 j v)) (h : Rd R sz v n xs) (hn : 0 < n) (ht : scalarT P t = true) (hj : xs[j]? = some u) : OpQ P R ⟨d, .load t x, ty, pos, af, g⟩ l u := by
  obtain ⟨p, c, rfl, h2, h3, h4⟩ := h
  rcases h4 with h4 | ⟨b, o, cs, e', fr, rfl, hb, hx'⟩
  · omega
  · simp only [vAt, Addr.add_mid] at hx
    refine q_load (b := b) (o := o + j * 1) hx ht hb ?_
    rw [Nat.mul_one]; exact hx' j u hj
end
end Go.Px
namespace Go.Proofs.YthmnlkpikgglbaaGreatDoor
open Go.Px
/-- Terms that came in. -/
structure TmI (t : Tm) : Prop where
  kind : t.kind < 256
  n : i64 t.n
  of : ∀ i ∈ t.of, i64 i
  ofl : t.of.length ≤ maxLen
  text : B256 t.text
  tl : t.text.length ≤ maxLen
theorem TmI.to {t : Tm} (h : TmI t) (h1 : t.of.length ≤ 20) (h2 : t.text.length ≤ 200) : Tmo t := ⟨h.kind, h.n, h.of, by omega, h.text, by omega⟩
/-- Rows of terms that read. -/
def Rws (R : Mem) (rows : List (List Value)) (ts : List Tm) : Prop := rows.length = ts.length ∧ (∀ r ∈ rows, r.length = 4) ∧ ∀ (j : Nat) (t : Tm), ts[j]? = some t → ∃ r, rows[j]? = some r ∧ TmC R r t
theorem Rws.at (R : Mem) {rows : List (List Value)} {ts : List Tm} (h : Rws R rows ts) {j : Nat} (hj : j < ts.length) : ∃ vo, rows[j]? = some (tmc ts[j].kind vo ts[j].text ts[j].n) ∧ Rd R 1 vo ts[j].of.length (ints ts[j].of) := by
  obtain ⟨r, h1, vo, rfl, h2⟩ := h.2.2 j ts[j] (List.getElem?_eq_getElem hj)
  exact ⟨vo, h1, h2⟩
theorem Rws.snoc {R : Mem} {rows : List (List Value)} {ts : List Tm} (h : Rws R rows ts) {t : Tm} {vo : Value} (hv : Rd R 1 vo t.of.length (ints t.of)) : Rws R (rows ++ [tmc t.kind vo t.text t.n]) (ts ++ [t]) := by
  refine ⟨by simp [h.1], fun r hr => ?_, fun j u hj => ?_⟩
  · rcases List.mem_append.1 hr with hr | hr
    · exact h.2.1 r hr
    · rw [List.mem_singleton.1 hr]; rfl
  · by_cases hlt : j < ts.length
    · rw [List.getElem?_append_left hlt] at hj
      obtain ⟨r, hr, hcr⟩ := h.2.2 j u hj
      exact ⟨r, by rw [List.getElem?_append_left (by have := h.1; omega)]; exact hr, hcr⟩
    · rw [List.getElem?_append_right (by omega)] at hj
      have hj0 : j = ts.length := by
        have := (List.getElem?_eq_some_iff.1 hj).1
        simp at this; omega
      subst hj0
      simp at hj
      subst hj
      exact ⟨_, by rw [List.getElem?_append_right (by have := h.1; omega), show ts.length - rows.length = 0 by have := h.1; omega]; rfl, vo, rfl, hv⟩
theorem Rws.get {R : Mem} {rows : List (List Value)} {ts : List Tm} (h : Rws R rows ts) {j : Nat} {r : List Value} (hr : rows[j]? = some r) {k : Nat} (hk : k < 4) : rows.flatten[j * 4 + k]? = r[k]? := flat_get h.2.1 hr k hk
/-- Which of the first k of a table's terms is that one? -/
def fnd (ts : List Tm) (t : Tm) (k : Nat) : Int := match pos ts t with
  | some j => if j < k then (j : Int) else -1
  | none => -1
theorem fnd_0 (ts : List Tm) (t : Tm) : fnd ts t 0 = -1 := by unfold fnd; split <;> simp
theorem fnd_T {ts : List Tm} {t : Tm} {k : Nat} (hts : ∀ t ∈ ts, Tmo t) (hnd : ts.Nodup) (hk : k < ts.length) (h : tmEq ts[k] t = true) : fnd ts t (k + 1) = (k : Int) := by
  have e := tmEq_iff.1 h
  have : pos ts t = some k := pos_of hts hnd (by rw [List.getElem?_eq_getElem hk, e])
  unfold fnd; rw [this]; simp
theorem fnd_F {ts : List Tm} {t : Tm} {k : Nat} (ht : Tmo t) (hts : ∀ t ∈ ts, Tmo t) (hk : k < ts.length) (h : tmEq ts[k] t = false) : fnd ts t (k + 1) = fnd ts t k := by
  unfold fnd
  cases hp : pos ts t with
  | none => rfl
  | some j =>
    have hj := pos_some ht hts hp
    have hne : j ≠ k := by
      rintro rfl
      rw [List.getElem?_eq_getElem hk] at hj
      have := Option.some.inj hj
      rw [tmEq_iff.2 this] at h; cases h
    simp only
    by_cases hlt : j < k
    · rw [if_pos hlt, if_pos (by omega)]
    · rw [if_neg hlt, if_neg (by omega)]
theorem pos_lt {ts : List Tm} {t : Tm} {j : Nat} (h : pos ts t = some j) : j < ts.length := by
  have := (lookK_some h).2
  have := (List.getElem?_eq_some_iff.1 this).1
  simpa using this
theorem fnd_end {ts : List Tm} {t : Tm} : fnd ts t ts.length = match pos ts t with | some j => (j : Int) | none => -1 := by
  unfold fnd
  cases hp : pos ts t with
  | none => rfl
  | some j => simp [pos_lt hp]
theorem fnd_neg {ts : List Tm} {t : Tm} (h : fnd ts t ts.length < 0) : pos ts t = none := by
  rw [fnd_end] at h
  cases hp : pos ts t with
  | none => rfl
  | some j => rw [hp] at h; simp only at h; omega
theorem fnd_pos {ts : List Tm} {t : Tm} (h : ¬ fnd ts t ts.length < 0) : ∃ j, pos ts t = some j ∧ fnd ts t ts.length = (j : Int) := by
  rw [fnd_end] at h ⊢
  cases hp : pos ts t with
  | none => rw [hp] at h; simp at h
  | some j => exact ⟨j, rfl, rfl⟩
theorem fnd_i64 {ts : List Tm} {t : Tm} {k : Nat} (h : ts.length ≤ 1048576) : -1 ≤ fnd ts t k ∧ fnd ts t k < 1048576 := by
  unfold fnd
  cases hp : pos ts t with
  | none => simp
  | some j =>
    have := pos_lt hp
    simp only
    split <;> omega
theorem add_len {ts : List Tm} {t : Tm} : (add ts t).length ≤ ts.length + 1 := by unfold add; split <;> simp
structure Pst where
  i : Nat
  ts : List Tm
  v : Value
  rows : List (List Value)
  B : Mem
  MT : Mem
structure Pok (A : Mem) (bt bm n : Nat) (s : Pst) : Prop where
  hi : s.i ≤ n
  hl : s.ts.length ≤ s.i
  tab : Tab bt bm s.ts s.MT
  sl : Sl 4 s.v s.ts.length s.rows.flatten s.B
  rw_ : Rws A s.rows s.ts
