/- Plain laws of prim's keys of terms: what was derived is derived again; unlike keys. -/
import Derived.Test.YthmnlkpikgglbaaGreatDoorPrm2
set_option linter.unusedVariables false
set_option linter.unusedSimpArgs false
namespace Go.Proofs.YthmnlkpikgglbaaGreatDoor
open Go.Px
/-- A table's terms are whole, each once. -/
structure Tok (ts : List Tm) : Prop where
  tmo : ∀ t ∈ ts, Tmo t
  nd : ts.Nodup
theorem Tab.tok {bt bm : Nat} {ts : List Tm} {M : Mem} (h : Tab bt bm ts M) : Tok ts := by
  obtain ⟨_, _, _, _, _, _, _, _, _, _, _, h1, h2⟩ := h
  exact ⟨h1, h2⟩
theorem Prm.tok {pb : Nat} {s : Ps} {M : Mem} (h : Prm pb s M) : Tok s.ts := by
  obtain ⟨_, _, _, _, _, _, _, hT⟩ := h.ex
  exact Tab.tok hT
theorem Tok.nil : Tok [] := ⟨(fun t h => by cases h), List.nodup_nil⟩
theorem pfact {ts : List Tm} {t : Tm} (ht : Tmo t) (h : Tok ts) : ∃ l, add ts t = ts ++ l ∧ (add ts t).length ≤ ts.length + 1 ∧ (add ts t)[at_ ts t]? = some t ∧ Tok (add ts t) := by
  cases hp : pos ts t with
  | some j =>
    obtain ⟨h1, h2⟩ := add_some hp
    exact ⟨[], by rw [h1, List.append_nil], add_len, by rw [h1, h2]; exact pos_some ht h.tmo hp, by rw [h1]; exact h⟩
  | none =>
    obtain ⟨h1, h2⟩ := add_none hp
    refine ⟨[t], h1, add_len, by rw [h1, h2]; simp, ?_⟩
    rw [h1]
    refine ⟨fun u hu => ?_, ?_⟩
    · rcases List.mem_append.1 hu with hu | hu
      · exact h.tmo u hu
      · rw [List.mem_singleton.1 hu]; exact ht
    · rw [List.nodup_append]
      refine ⟨h.nd, by simp, fun x hx y hy e => (pos_none ht h.tmo).1 hp ?_⟩
      rw [List.mem_singleton.1 hy] at e
      exact e ▸ hx
theorem ext_at {ts l : List Tm} {i : Nat} {t : Tm} (h : ts[i]? = some t) : (ts ++ l)[i]? = some t := by
  rw [List.getElem?_append_left (List.getElem?_eq_some_iff.1 h).1]; exact h
/-- A term that is there is put again: nothing changes. -/
theorem again {ts : List Tm} {t : Tm} {i : Nat} (h : Tok ts) (ht : ts[i]? = some t) : add ts t = ts ∧ at_ ts t = i := add_some (pos_of h.tmo h.nd ht)
theorem bts_inj {i j : Nat} (hi : i < 18446744073709551616) (hj : j < 18446744073709551616) (h : bts ((i : Nat) : Int) = bts ((j : Nat) : Int)) : i = j := by
  have h1 := plc_bts ((i : Nat) : Int) 18446744073709551616
  have h2 := plc_bts ((j : Nat) : Int) 18446744073709551616
  have ui : u64 ((i : Nat) : Int) = i := by unfold u64; omega
  have uj : u64 ((j : Nat) : Int) = j := by unfold u64; omega
  rw [ui, if_pos hi] at h1
  rw [uj, if_pos hj] at h2
  rw [h, h2] at h1
  exact (Option.some.inj h1).symm
/-- Bytes that stand for a place of a table. -/
def Good (ts : List Tm) (w : List Nat) : Prop := ∃ i, i < ts.length ∧ w = bts ((i : Nat) : Int)
theorem Good.ext {ts l : List Tm} {w : List Nat} (h : Good ts w) : Good (ts ++ l) w := by
  obtain ⟨i, hi, e⟩ := h
  exact ⟨i, by rw [List.length_append]; omega, e⟩
theorem good_rd {ts : List Tm} {i : Nat} (hi : i < ts.length) (hl : ts.length ≤ 1048576) : rdT ts (bts ((i : Nat) : Int)) = ts ∧ rdI ts (bts ((i : Nat) : Int)) = i := by
  refine rdT_some ?_
  rw [plc_bts, show u64 ((i : Nat) : Int) = i by unfold u64; omega, if_pos hi]
/-- What was put, put again behind more. -/
theorem ptAll_ext (ts : List Tm) (ofs : List Int) (lb : List Nat) (n : Nat) : ∃ l, (ptAll ts ofs lb (n + 1)).1 = (ptAll ts ofs lb n).1 ++ l := by
  have e : ptAll ts ofs lb (n + 1) = ptSt ofs lb (ptAll ts ofs lb n) n := fold_range n
  rw [e]
  show ∃ l, add _ _ = _ ++ l
  unfold add
  split
  · exact ⟨[], by simp⟩
  · exact ⟨_, rfl⟩
theorem ptAll_tok {ts : List Tm} {ofs : List Int} {lb : List Nat} (h : Tok ts) (hd : ∀ i, i < 100 → Tmo (drv ofs lb i)) {n : Nat} (hn : n ≤ 100) : Tok (ptAll ts ofs lb n).1 := by
  induction n with
  | zero => exact h
  | succ n ih =>
    have e : ptAll ts ofs lb (n + 1) = ptSt ofs lb (ptAll ts ofs lb n) n := fold_range n
    rw [e]
    obtain ⟨_, _, _, _, h2⟩ := pfact (hd n (by omega)) (ih (by omega))
    exact h2
theorem ptAll_again {ts : List Tm} {ofs : List Int} {lb : List Nat} (h : Tok ts) (hd : ∀ i, i < 100 → Tmo (drv ofs lb i)) {n : Nat} (hn : n ≤ 100) {ts' l : List Tm} (e : ts' = (ptAll ts ofs lb n).1 ++ l) (h' : Tok ts') : ptAll ts' ofs lb n = (ts', (ptAll ts ofs lb n).2) := by
  induction n generalizing l with
  | zero => rfl
  | succ n ih =>
    obtain ⟨l2, e2⟩ := ptAll_ext ts ofs lb n
    have ih := ih (by omega) (l := l2 ++ l) (by rw [e, e2, List.append_assoc])
    have e3 : ptAll ts ofs lb (n + 1) = ptSt ofs lb (ptAll ts ofs lb n) n := fold_range n
    have e4 : ptAll ts' ofs lb (n + 1) = ptSt ofs lb (ptAll ts' ofs lb n) n := fold_range n
    obtain ⟨l3, g1, g2, g3, g4⟩ := pfact (hd n (by omega)) (ptAll_tok h hd (show n ≤ 100 by omega))
    have g5 : ts'[at_ (ptAll ts ofs lb n).1 (drv ofs lb n)]? = some (drv ofs lb n) := by
      rw [e, e3]
      exact ext_at g3
    obtain ⟨a1, a2⟩ := again h' g5
    rw [e4, ih, e3]
    show (add ts' (drv ofs lb n), _ ++ [bts ((at_ ts' (drv ofs lb n) : Nat) : Int)]) = _
    rw [a1, a2]
    rfl
/-- Each of what was derived stands at a place of its own. -/
theorem ptAll_get {ts : List Tm} {ofs : List Int} {lb : List Nat} (h : Tok ts) (hd : ∀ i, i < 100 → Tmo (drv ofs lb i)) {n : Nat} (hn : n ≤ 100) {i : Nat} (hi : i < n) : ∃ j, (ptAll ts ofs lb n).1[j]? = some (drv ofs lb i) ∧ (ptAll ts ofs lb n).2[i]? = some (bts ((j : Nat) : Int)) := by
  induction n with
  | zero => omega
  | succ n ih =>
    have e3 : ptAll ts ofs lb (n + 1) = ptSt ofs lb (ptAll ts ofs lb n) n := fold_range n
    obtain ⟨l3, g1, g2, g3, g4⟩ := pfact (hd n (by omega)) (ptAll_tok h hd (show n ≤ 100 by omega))
    obtain ⟨p1, p2⟩ := ptAll_len ts ofs lb n
    rw [e3]
    show ∃ j, (add _ _)[j]? = _ ∧ (_ ++ [_])[i]? = _
    by_cases hin : i < n
    · obtain ⟨j, h1, h2⟩ := ih (by omega) hin
      exact ⟨j, by rw [g1]; exact ext_at h1, by rw [List.getElem?_append_left (by omega)]; exact h2⟩
    · obtain rfl : i = n := by omega
      exact ⟨_, g3, by rw [List.getElem?_append_right (by omega), p1, Nat.sub_self]; rfl⟩
theorem drv_inj {ofs ofs' : List Int} {lb lb' : List Nat} {i j : Nat} (h : drv ofs lb i = drv ofs' lb' j) : ofs = ofs' ∧ lb = lb' ∧ i = j := by
  unfold drv at h
  injection h with h1 h2 h3 h4
  exact ⟨h2, h3, by omega⟩
/-- One step from a key that stands for a place. -/
theorem derT_good {ts : List Tm} {i : Nat} (hi : i < ts.length) (hl : ts.length ≤ 1048576) (lb : List Nat) (n : Nat) : derT ts (bts ((i : Nat) : Int)) [] lb n = ptAll ts [((i : Nat) : Int)] lb n := by
  obtain ⟨h1, h2⟩ := good_rd hi hl
  have e : rdAll ts (bts ((i : Nat) : Int)) [] = (ts, [((i : Nat) : Int)]) := by
    show (rdT ts _, [] ++ [((rdI ts _ : Nat) : Int)]) = _
    rw [h1, h2]; rfl
  unfold derT
  rw [e]
theorem drv_one {i : Nat} (hi : i ≤ 1048576) {lb : List Nat} (hb : B256 lb) (hbl : lb.length ≤ 1099511627776) : ∀ k, k < 100 → Tmo (drv [((i : Nat) : Int)] lb k) := fun k hk =>
  drv_ok (fun x hx => by rw [List.mem_singleton.1 hx]; unfold i64; omega) (show 1 ≤ 1048576 by decide) hb hbl (by omega)
/-- The keys of terms by which a state goes on: good ones, or any of numbers. -/
def Kok (s : Ps) (w : List Nat) : Prop := s.real = false → Good s.ts w
/-- A state behind another one: the same seed, more terms. -/
structure Pext (s s' : Ps) : Prop where
  real : s'.real = s.real
  ts : ∃ l, s'.ts = s.ts ++ l
theorem Pext.refl (s : Ps) : Pext s s := ⟨rfl, [], by simp⟩
theorem Pext.trans {a b c : Ps} (h1 : Pext a b) (h2 : Pext b c) : Pext a c := by
  obtain ⟨l1, e1⟩ := h1.ts
  obtain ⟨l2, e2⟩ := h2.ts
  exact ⟨h2.real.trans h1.real, l1 ++ l2, by rw [e2, e1, List.append_assoc]⟩
theorem Kok.ext {s s' : Ps} {w : List Nat} (h : Kok s w) (he : Pext s s') : Kok s' w := fun hr => by
  obtain ⟨l, e⟩ := he.ts
  rw [e]
  exact (h (by rw [← he.real]; exact hr)).ext
theorem fresh_ext (s : Ps) : Pext s (freshS s) := by
  unfold freshS
  split
  · exact ⟨rfl, [], by simp⟩
  · refine ⟨rfl, ?_⟩
    show ∃ l, add _ _ = _ ++ l
    unfold add
    split
    · exact ⟨[], by simp⟩
    · exact ⟨_, rfl⟩
theorem fresh_kok {s : Ps} (h : Tok s.ts) (hn : s.n < 1099511627776) : Kok (freshS s) (freshK s) ∧ (s.real = false → Tok (freshS s).ts) := by
  cases hr : s.real with
  | true => exact ⟨(fun h1 => by rw [(fresh_ext s).real, hr] at h1; cases h1), (fun h => by cases h)⟩
  | false =>
    obtain ⟨l, g1, g2, g3, g4⟩ := pfact (atom_ok' (n := s.n + 1) (by omega)) h
    refine ⟨fun _ => ?_, fun _ => by rw [freshS_f hr]; exact g4⟩
    rw [freshS_f hr, freshK_f hr]
    exact ⟨_, (List.getElem?_eq_some_iff.1 g3).1, rfl⟩
