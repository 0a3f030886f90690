/- The walk of prim's Derive in both modes. -/
import Derived.Test.YthmnlkpikgglbaaDoorPrm1
set_option linter.unusedVariables false
set_option linter.unusedSimpArgs false
namespace Go.Proofs.YthmnlkpikgglbaaDoor
open Go.Px
def fits (ws : List (List Nat)) : List Nat := ws.flatMap fun w => fitN w 32
def bigR (key : List Nat) (ws : List (List Nat)) (lb : List Nat) (n : Nat) : List Nat := expand (hmac (fitN key 32) (fits ws)) lb ((32 * n : Nat) : Int)
def cutR (b : List Nat) (n : Nat) : List (List Nat) := (List.range n).map fun i => (b.take (32 * i + 32)).drop (32 * i)
def drv (ofs : List Int) (lb : List Nat) (i : Nat) : Tm := ⟨5, ofs, lb, (i : Int)⟩
def rdSt (st : List Tm × List Int) (w : List Nat) : List Tm × List Int := (rdT st.1 w, st.2 ++ [((rdI st.1 w : Nat) : Int)])
def rdAll (ts : List Tm) (key : List Nat) (ws : List (List Nat)) : List Tm × List Int := ws.foldl rdSt (rdSt (ts, []) key)
def ptSt (ofs : List Int) (lb : List Nat) (st : List Tm × List (List Nat)) (i : Nat) : List Tm × List (List Nat) := (add st.1 (drv ofs lb i), st.2 ++ [bts ((at_ st.1 (drv ofs lb i) : Nat) : Int)])
def ptAll (ts : List Tm) (ofs : List Int) (lb : List Nat) (n : Nat) : List Tm × List (List Nat) := (List.range n).foldl (ptSt ofs lb) (ts, [])
def derT (ts : List Tm) (key : List Nat) (ws : List (List Nat)) (lb : List Nat) (n : Nat) : List Tm × List (List Nat) := ptAll (rdAll ts key ws).1 (rdAll ts key ws).2 lb n
def derS (s : Ps) (key : List Nat) (ws : List (List Nat)) (lb : List Nat) (n : Nat) : Ps := if s.real then s else { s with ts := (derT s.ts key ws lb n).1 }
def derK (s : Ps) (key : List Nat) (ws : List (List Nat)) (lb : List Nat) (n : Nat) : List (List Nat) := if s.real then cutR (bigR key ws lb n) n else (derT s.ts key ws lb n).2
theorem derS_t {s : Ps} {key lb : List Nat} {ws : List (List Nat)} {n : Nat} (h : s.real = true) : derS s key ws lb n = s := if_pos h
theorem derS_f {s : Ps} {key lb : List Nat} {ws : List (List Nat)} {n : Nat} (h : s.real = false) : derS s key ws lb n = { s with ts := (derT s.ts key ws lb n).1 } := if_neg (by rw [h]; decide)
theorem derK_t {s : Ps} {key lb : List Nat} {ws : List (List Nat)} {n : Nat} (h : s.real = true) : derK s key ws lb n = cutR (bigR key ws lb n) n := if_pos h
theorem derK_f {s : Ps} {key lb : List Nat} {ws : List (List Nat)} {n : Nat} (h : s.real = false) : derK s key ws lb n = (derT s.ts key ws lb n).2 := if_neg (by rw [h]; decide)
theorem fits_lt {ws : List (List Nat)} (h : ∀ w ∈ ws, ∀ x ∈ w, x < 256) : ∀ x ∈ fits ws, x < 256 := by
  intro x hx
  obtain ⟨w, hw, hx⟩ := List.mem_flatMap.1 hx
  exact fitN_lt (h w hw) 32 x hx
theorem fits_len (ws : List (List Nat)) : (fits ws).length = 32 * ws.length := by
  induction ws with
  | nil => rfl
  | cons w ws ih =>
    have : fits (w :: ws) = fitN w 32 ++ fits ws := rfl
    rw [this, List.length_append, ih, fitN_len, List.length_cons]; omega
theorem fits_take {ws : List (List Nat)} {i : Nat} (h : i < ws.length) : fits (ws.take (i + 1)) = fits (ws.take i) ++ fitN ws[i] 32 := by
  unfold fits
  rw [List.take_add_one, List.getElem?_eq_getElem h, List.flatMap_append]; simp
theorem fold_take {α β : Type} {f : β → α → β} {b : β} {l : List α} {i : Nat} (h : i < l.length) : (l.take (i + 1)).foldl f b = f ((l.take i).foldl f b) l[i] := by
  rw [List.take_add_one, List.getElem?_eq_getElem h, List.foldl_append]; rfl
theorem fold_range {β : Type} {f : β → Nat → β} {b : β} (i : Nat) : (List.range (i + 1)).foldl f b = f ((List.range i).foldl f b) i := by
  rw [List.range_succ, List.foldl_append]; rfl
theorem rdI_lt {ts : List Tm} {w : List Nat} (hw : ∀ x ∈ w, x < 256) (hl : w.length ≤ 1099511627776) (hts : ∀ t ∈ ts, Tmo t) : rdI ts w < (rdT ts w).length := by
  cases hp : plc w ts.length with
  | some j =>
    obtain ⟨h1, h2⟩ := rdT_some hp
    rw [h1, h2]; exact (plc_lt hp).1
  | none =>
    obtain ⟨h1, h2⟩ := rdT_none hp
    rw [h1, h2]
    cases hq : pos ts (rawT w) with
    | some j =>
      obtain ⟨h3, h4⟩ := add_some hq
      rw [h3, h4]
      exact (List.getElem?_eq_some_iff.1 (pos_some (rawT_ok hw hl) hts hq)).1
    | none =>
      obtain ⟨h3, h4⟩ := add_none hq
      rw [h3, h4]; simp
theorem rdT_tmo {ts : List Tm} {w : List Nat} (hw : ∀ x ∈ w, x < 256) (hl : w.length ≤ 1099511627776) (hts : ∀ t ∈ ts, Tmo t) : ∀ t ∈ rdT ts w, Tmo t := by
  cases hp : plc w ts.length with
  | some j => rw [(rdT_some hp).1]; exact hts
  | none =>
    rw [(rdT_none hp).1]
    unfold add
    split
    · exact hts
    · intro t ht
      rcases List.mem_append.1 ht with h | h
      · exact hts t h
      · rw [List.mem_singleton.1 h]; exact rawT_ok hw hl
theorem drv_ok {ofs : List Int} {lb : List Nat} {i : Nat} (ho : ∀ x ∈ ofs, i64 x) (hl : ofs.length ≤ 1048576) (hb : B256 lb) (hbl : lb.length ≤ 1099511627776) (hi : i ≤ 100) : Tmo (drv ofs lb i) := ⟨show 5 < 256 by decide, show i64 (i : Int) by unfold i64; omega, ho, hl, hb, hbl⟩
/-- What is known of the terms that were read. -/
structure RdOk (n0 k : Nat) (st : List Tm × List Int) : Prop where
  len : st.1.length ≤ n0 + k
  ofl : st.2.length = k
  of : ∀ x ∈ st.2, 0 ≤ x ∧ x < (st.1.length : Int)
  tmo : ∀ t ∈ st.1, Tmo t
theorem rdT_ge {ts : List Tm} {w : List Nat} : ts.length ≤ (rdT ts w).length := by
  cases hp : plc w ts.length with
  | some j => rw [(rdT_some hp).1]; exact Nat.le_refl _
  | none =>
    rw [(rdT_none hp).1]
    unfold add
    split <;> simp
theorem RdOk.step {n0 k : Nat} {st : List Tm × List Int} (h : RdOk n0 k st) {w : List Nat} (hw : ∀ x ∈ w, x < 256) (hl : w.length ≤ 1099511627776) : RdOk n0 (k + 1) (rdSt st w) := by
  refine ⟨?_, by simp [rdSt, h.ofl], ?_, rdT_tmo hw hl h.tmo⟩
  · have := rdT_len (ts := st.1) (ws := w)
    have := h.len
    show (rdT st.1 w).length ≤ _
    omega
  · intro x hx
    have hge := rdT_ge (ts := st.1) (w := w)
    have hlt := rdI_lt (ts := st.1) hw hl h.tmo
    show 0 ≤ x ∧ x < (((rdT st.1 w).length : Nat) : Int)
    rcases List.mem_append.1 hx with h1 | h1
    · have := h.of x h1; omega
    · rw [List.mem_singleton.1 h1]; omega
theorem cutR_len (b : List Nat) (n : Nat) : (cutR b n).length = n := by simp [cutR]
theorem ptAll_len (ts : List Tm) (ofs : List Int) (lb : List Nat) (n : Nat) : (ptAll ts ofs lb n).2.length = n ∧ (ptAll ts ofs lb n).1.length ≤ ts.length + n := by
  induction n with
  | zero => exact ⟨rfl, Nat.le_refl _⟩
  | succ n ih =>
    have e : ptAll ts ofs lb (n + 1) = ptSt ofs lb (ptAll ts ofs lb n) n := fold_range n
    rw [e]
    refine ⟨by simp [ptSt, ih.1], ?_⟩
    have := add_len (ts := (ptAll ts ofs lb n).1) (t := drv ofs lb n)
    show (add _ _).length ≤ _
    omega
theorem bigR_len (key : List Nat) (ws : List (List Nat)) (lb : List Nat) {n : Nat} (hn : n ≤ 8) : (bigR key ws lb n).length = 32 * n := by
  unfold bigR
  rw [expand_len]
  omega
theorem ints_snoc (l : List Int) (x : Int) : ints (l ++ [x]) = ints l ++ [.int .i64 x] := by simp [ints]
