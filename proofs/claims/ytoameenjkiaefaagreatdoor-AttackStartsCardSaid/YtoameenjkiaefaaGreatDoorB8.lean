/- Part 8 of the texts of this claim, one behind the other. -/
import Derived.Test.YtoameenjkiaefaaGreatDoorB7
import Derived.Test.YtoameenjkiaefaaGreatDoorRows
set_option linter.unusedVariables false
set_option linter.unusedSimpArgs false
set_option maxRecDepth 100000
namespace Go.Proofs.YtoameenjkiaefaaGreatDoor
open Go.Px
structure Rok (ts : List Tm) (w : LN) : Prop where
  lt : ∀ x ∈ w, x < 256
  len : w.length ≤ 1000000000
  st : (∀ n, plc w n = none) ∨ B0W ts w
theorem Rok.ext {ts l : List Tm} {w : LN} (h : Rok ts w) : Rok (ts ++ l) w := ⟨h.lt, h.len, h.st.imp id B0W.ext⟩
theorem B0W.rok {ts : List Tm} {w : LN} (h : B0W ts w) : Rok ts w := by
  obtain ⟨i, hi, rfl⟩ := h
  exact ⟨A7a _, by rw [show (bts ((i : Nat) : Int)).length = 32 from W3 _ qD]; decide, .inr ⟨i, hi, rfl⟩⟩
theorem B2E {ts : List Tm} {w : LN} (ht : Tok ts) (hw : ∀ x ∈ w, x < 256) (hl : w.length ≤ 1000000000) : Tok (rdT ts w) := by
  cases hp : plc w ts.length with
  | some j => rw [(Q4 hp).1]; exact ht
  | none =>
    rw [(T3 hp).1]
    obtain ⟨l, h1, h2, h3, h4⟩ := A1x (A1k hw qO) ht
    exact h4
theorem B00 {ts l : List Tm} {w : LN} (h : Rok ts w) (ht : Tok ts) (ht' : Tok (rdT ts w ++ l)) (hl : (rdT ts w ++ l).length ≤ 1048576) : rdT (rdT ts w ++ l) w = rdT ts w ++ l ∧ rdI (rdT ts w ++ l) w = rdI ts w := by
  have hge := A4P (ts := ts) (w := w)
  rw [List.length_append] at hl
  cases hp : plc w ts.length with
  | some j =>
    obtain ⟨e1, e2⟩ := Q4 hp
    obtain ⟨a1, a2⟩ := A4I hp
    rw [e1, e2]
    exact Q4 (a2 _ (by rw [List.length_append]; omega))
  | none =>
    have hn : ∀ n, plc w n = none := by
      rcases h.st with h | ⟨i, hi, rfl⟩
      · exact h
      · rw [Z7, show u64 ((i : Nat) : Int) = i by unfold u64; omega, if_pos hi] at hp; cases hp
    obtain ⟨e1, e2⟩ := T3 hp
    obtain ⟨l0, g1, g2, g3, g4⟩ := A1x (A1k h.lt (by have := h.len; omega)) ht
    rw [e1] at ht' ⊢
    rw [e2]
    obtain ⟨b1, b2⟩ := T3 (hn (add ts (B0H w) ++ l).length)
    rw [b1, b2]
    exact B0V ht' (A1s g3)
theorem A5F : ∀ (ws : List (LN)) (st : List Tm × List Int), ∃ l, (ws.foldl U6 st).1 = st.1 ++ l
  | [], st => ⟨[], by simp⟩
  | w :: ws, st => by
    obtain ⟨l1, e1⟩ := A5F ws (U6 st w)
    obtain ⟨l2, e2⟩ := A0J st.1 w
    exact ⟨l2 ++ l1, by rw [List.foldl_cons, e1, show (U6 st w).1 = rdT st.1 w from rfl, e2, List.append_assoc]⟩
theorem A8W : ∀ (ws : List (LN)) (st : List Tm × List Int), (∀ w ∈ ws, Rok st.1 w) → Tok st.1 → Tok (ws.foldl U6 st).1
  | [], st, _, ht => ht
  | w :: ws, st, h, ht => by
    obtain ⟨l2, e2⟩ := A0J st.1 w
    have hw := h w qM
    exact A8W ws (U6 st w) (fun v hv => by show Rok (rdT st.1 w) v; rw [e2]; exact (h v (by simp [hv])).ext) (B2E ht hw.lt hw.len)
theorem A4U : ∀ (ws : List (LN)) (st : List Tm × List Int) (l : List Tm), (∀ w ∈ ws, Rok st.1 w) → Tok st.1 → Tok ((ws.foldl U6 st).1 ++ l) → ((ws.foldl U6 st).1 ++ l).length ≤ 1048576 → ws.foldl U6 ((ws.foldl U6 st).1 ++ l, st.2) = ((ws.foldl U6 st).1 ++ l, (ws.foldl U6 st).2)
  | [], st, l, _, _, _, _ => rfl
  | w :: ws, st, l, h, ht, ht', hl => by
    have hw := h w qM
    obtain ⟨l1, e1⟩ := A5F ws (U6 st w)
    have e2 : (U6 st w).1 = rdT st.1 w := rfl
    rw [List.foldl_cons] at ht' hl ⊢
    have hrest : ∀ v ∈ ws, Rok (U6 st w).1 v := fun v hv => by
      obtain ⟨l2, e3⟩ := A0J st.1 w
      rw [e2, e3]; exact (h v (by simp [hv])).ext
    have ih := A4U ws (U6 st w) l hrest (B2E ht hw.lt hw.len) ht' hl
    have e4 : (ws.foldl U6 (U6 st w)).1 ++ l = rdT st.1 w ++ (l1 ++ l) := by rw [e1, e2, List.append_assoc]
    obtain ⟨a1, a2⟩ := B00 hw ht (l := l1 ++ l) (by rw [← e4]; exact ht') (by rw [← e4]; exact hl)
    rw [List.foldl_cons]
    have e5 : U6 ((ws.foldl U6 (U6 st w)).1 ++ l, st.2) w = ((ws.foldl U6 (U6 st w)).1 ++ l, (U6 st w).2) := by
      show (rdT _ w, st.2 ++ [((rdI _ w : Nat) : Int)]) = (_, st.2 ++ [((rdI st.1 w : Nat) : Int)])
      rw [e4, a1, a2]
    rw [e5]; exact ih
theorem B2F : ∀ (ws : List (LN)) {n0 k : Nat} {st : List Tm × List Int}, RdOk n0 k st → (∀ w ∈ ws, Rok st.1 w) → RdOk n0 (k + ws.length) (ws.foldl U6 st)
  | [], _, _, _, h, _ => h
  | w :: ws, n0, k, st, h, hw => by
    have h1 := hw w qM
    have h2 := h.step h1.lt (by have := h1.len; omega)
    have h3 := B2F ws h2 (fun v hv => by
      obtain ⟨l2, e3⟩ := A0J st.1 w
      show Rok (rdT st.1 w) v
      rw [e3]; exact (hw v (by simp [hv])).ext)
    rw [List.length_cons, show k + (ws.length + 1) = k + 1 + ws.length by omega]
    exact h3
theorem A2r (ts : List Tm) (ofs : List Int) (lb : LN) : ∀ n, ∃ l, (K5 ts ofs lb n).1 = ts ++ l
  | 0 => ⟨[], by show ts = _; simp⟩
  | n + 1 => by
    obtain ⟨l1, e1⟩ := A2r ts ofs lb n
    obtain ⟨l2, e2⟩ := A4Q ts ofs lb n
    exact ⟨l1 ++ l2, by rw [e2, e1, List.append_assoc]⟩
theorem A2s {ts : List Tm} {key lb : LN} {ws : List (LN)} (ht : Tok ts) (h : ∀ w ∈ key :: ws, Rok ts w) (hb : B256 lb) (hbl : lb.length ≤ 1000) (hl : ts.length + ws.length + 1 ≤ 1048576) :
    Tok (Q9 ts key ws).1 ∧ (∀ k, k < 100 → Tmo (drv (Q9 ts key ws).2 lb k)) := by
  have h0 : RdOk ts.length 0 (ts, []) := ⟨Nat.le_refl _, rfl, (fun x hx => by cases hx), ht.tmo⟩
  have h1 := B2F (key :: ws) h0 h
  have e : Q9 ts key ws = (key :: ws).foldl U6 (ts, []) := rfl
  rw [← e, List.length_cons] at h1
  refine ⟨A8W (key :: ws) (ts, []) h ht, fun k hk => B2x (fun x hx => ?_) (by rw [h1.ofl]; omega) hb qO qO⟩
  have h2 := h1.of x hx
  have h3 := h1.len
  unfold i64; omega
theorem A4V (s : Ps) (key : LN) (ws : List (LN)) (lb : LN) (n : Nat) : Ext s (A2l s key ws lb n) := by
  cases hr : s.real with
  | true => rw [A4N hr]; exact Ext.refl s
  | false =>
    rw [A1r hr]
    obtain ⟨l1, e1⟩ := A5F (key :: ws) (s.ts, [])
    obtain ⟨l2, e2⟩ := A2r (Q9 s.ts key ws).1 (Q9 s.ts key ws).2 lb n
    refine ⟨⟨rfl, l1 ++ l2, ?_⟩, rfl, Nat.le_refl _⟩
    show (K5 _ _ _ _).1 = _
    rw [e2, show (Q9 s.ts key ws).1 = _ from e1, List.append_assoc]
theorem A8X {s : Ps} {key lb : LN} {ws : List (LN)} {n : Nat} (ht : Tok s.ts) (h : s.real = false → ∀ w ∈ key :: ws, Rok s.ts w) (hb : B256 lb) (hbl : lb.length ≤ 1000) (hn : n ≤ 100) (hl : s.ts.length + ws.length + 1 ≤ 1048576) : Tok (A2l s key ws lb n).ts := by
  cases hr : s.real with
  | true => rw [A4N hr]; exact ht
  | false =>
    obtain ⟨t1, hd⟩ := A2s ht (h hr) hb hbl hl
    rw [A1r hr]
    exact A2n t1 hd hn
theorem A2t {s s' : Ps} {key lb : LN} {ws : List (LN)} {n : Nat} (ht : Tok s.ts) (h : s.real = false → ∀ w ∈ key :: ws, Rok s.ts w) (hb : B256 lb) (hbl : lb.length ≤ 1000) (hn : n ≤ 100) (hl0 : s.ts.length + ws.length + 1 ≤ 1048576) (he : Pext (A2l s key ws lb n) s') (ht' : Tok s'.ts) (hl : s'.ts.length ≤ 1048576) :
    A2l s' key ws lb n = s' ∧ A2P s' key ws lb n = A2P s key ws lb n := by
  have hrr : s'.real = s.real := by rw [he.real, (X1 s key ws lb n).1]
  cases hr : s.real with
  | true => exact ⟨A4N (hrr.trans hr), by rw [A6l hr, A6l (hrr.trans hr)]⟩
  | false =>
    have hr' : s'.real = false := hrr.trans hr
    have h := h hr
    obtain ⟨l, e⟩ := he.ts
    rw [A1r hr] at e
    change s'.ts = (K5 (Q9 s.ts key ws).1 (Q9 s.ts key ws).2 lb n).1 ++ l at e
    obtain ⟨l2, e2⟩ := A2r (Q9 s.ts key ws).1 (Q9 s.ts key ws).2 lb n
    have e3 : s'.ts = (Q9 s.ts key ws).1 ++ (l2 ++ l) := by rw [e, e2, List.append_assoc]
    obtain ⟨t1, hd⟩ := A2s ht h hb hbl hl0
    have a := A4U (key :: ws) (s.ts, []) (l2 ++ l) h ht (by show Tok ((Q9 s.ts key ws).1 ++ (l2 ++ l)); rw [← e3]; exact ht') (by show ((Q9 s.ts key ws).1 ++ (l2 ++ l)).length ≤ _; rw [← e3]; exact hl)
    change Q9 ((Q9 s.ts key ws).1 ++ (l2 ++ l)) key ws = ((Q9 s.ts key ws).1 ++ (l2 ++ l), (Q9 s.ts key ws).2) at a
    rw [← e3] at a
    have b := A5y t1 hd hn (l := l) e ht'
    have c : A7h s'.ts key ws lb n = (s'.ts, (A7h s.ts key ws lb n).2) := by unfold A7h; rw [a]; exact b
    rw [A1r hr', A3c hr', A3c hr, c]
    exact ⟨rfl, rfl⟩
theorem A8Y (s : Ps) (key : LN) (ws : List (LN)) (lb : LN) (n : Nat) : (A2P s key ws lb n).length = n := by
  cases hr : s.real with
  | true => rw [A6l hr]; exact A6m _ _
  | false => rw [A3c hr]; exact (Z8 _ _ _ _).1
theorem B3S {s : Ps} {key lb : LN} {ws : List (LN)} {n i : Nat} (ht : Tok s.ts) (h : s.real = false → ∀ w ∈ key :: ws, Rok s.ts w) (hb : B256 lb) (hbl : lb.length ≤ 1000) (hn : n ≤ 100) (hl : s.ts.length + ws.length + 1 ≤ 1048576) (hi : i < n) : Kok (A2l s key ws lb n) ((A2P s key ws lb n).getD i []) := by
  intro hr'
  have hr : s.real = false := by rw [← (X1 s key ws lb n).1]; exact hr'
  obtain ⟨t1, hd⟩ := A2s ht (h hr) hb hbl hl
  obtain ⟨j, h1, h2⟩ := A8K t1 hd hn hi
  rw [A1r hr, A3c hr]
  refine ⟨j, (List.getElem?_eq_some_iff.1 h1).1, ?_⟩
  rw [List.getD_eq_getElem?_getD]
  show ((K5 _ _ _ _).2[i]?).getD [] = _
  rw [h2]; rfl
theorem Kok.rok {s : Ps} {w : LN} (h : Kok s w) : s.real = false → Rok s.ts w := fun hr => (h hr).rok
theorem A4W {ts : List Tm} {ofs : List Int} {lb : LN} : ∀ {n : Nat}, ∀ w ∈ (K5 ts ofs lb n).2, ∃ j : Nat, w = bts ((j : Nat) : Int)
  | 0, w, h => by cases h
  | n + 1, w, h => by
    rw [show K5 ts ofs lb (n + 1) = A7g ofs lb (K5 ts ofs lb n) n from K7 n] at h
    rcases List.mem_append.1 (show w ∈ _ ++ [_] from h) with h | h
    · exact A4W w h
    · exact ⟨_, List.mem_singleton.1 h⟩
theorem B3T {s : Ps} {key lb : LN} {ws : List (LN)} {n : Nat} (hn : n ≤ 8) : ∀ w ∈ A2P s key ws lb n, (∀ x ∈ w, x < 256) ∧ w.length = 32 := by
  intro w hw
  cases hr : s.real with
  | true =>
    rw [A6l hr] at hw
    obtain ⟨i, hi, rfl⟩ := List.mem_map.1 hw
    have h1 := List.mem_range.1 hi
    have h2 := B0U key ws lb hn
    refine ⟨fun x hx => A4L _ _ _ x (List.mem_of_mem_take (List.mem_of_mem_drop hx)), ?_⟩
    rw [List.length_drop, List.length_take, h2]; omega
  | false =>
    rw [A3c hr] at hw
    obtain ⟨j, rfl⟩ := A4W w hw
    exact ⟨A7a _, W3 _ qD⟩
theorem B3U {s : Ps} {key lb : LN} {ws : List (LN)} {n i : Nat} (hn : n ≤ 8) (hi : i < n) : (∀ x ∈ (A2P s key ws lb n).getD i [], x < 256) ∧ ((A2P s key ws lb n).getD i []).length = 32 := by
  have hl := A8Y s key ws lb n
  rw [List.getD_eq_getElem?_getD, List.getElem?_eq_getElem qO]
  exact B3T hn _ (List.getElem_mem _)
theorem Ar.der {s : Ps} (h : Ar s.ts) (key : LN) (ws : List (LN)) (lb : LN) (n : Nat) : Ar (A2l s key ws lb n).ts := by
  cases hr : s.real with
  | true => rw [A4N hr]; exact h
  | false =>
    rw [A1r hr]
    have h1 : ∀ (ws : List (LN)) (st : List Tm × List Int), Ar st.1 → Ar (ws.foldl U6 st).1 := by
      intro ws
      induction ws with
      | nil => intro st h; exact h
      | cons w ws ih => intro st h; exact ih _ (h.rd w)
    have h2 : ∀ (ts : List Tm) (ofs : List Int) (n : Nat), Ar ts → Ar (K5 ts ofs lb n).1 := by
      intro ts ofs n
      induction n with
      | zero => exact id
      | succ n ih =>
        intro h
        rw [show K5 ts ofs lb (n + 1) = A7g ofs lb (K5 ts ofs lb n) n from K7 n]
        exact (ih h).add fun hk => by simp [drv] at hk
    exact h2 _ _ n (h1 (key :: ws) (s.ts, []) h)

theorem B7G {k : IntKind} (a b : Nat) : H8 .eql k ((a : Nat) : Int) ((b : Nat) : Int) = some (.bool (decide (a = b))) := by
  by_cases h : a = b
  · rw [decide_eq_true h]; exact eqT qO
  · rw [decide_eq_false h]; exact eqF qO
theorem A6s {l : List Int} (h : 0 < l.length) : (Y3 l)[0]? = some (.int .i64 (l.getD 0 0)) := by
  rw [List.getD_eq_getElem?_getD, Y3, List.getElem?_map, List.getElem?_eq_getElem h]; rfl
theorem B01 {ts : List Tm} {p m g : LN} (h : ¬ g.length = 64) : B0f ts p m g = false := by
  unfold B0f; rw [decide_eq_false h, Bool.false_and]
theorem B3V {ts : List Tm} {p m g : LN} (h : plc g ts.length = none) : B0f ts p m g = false := by
  unfold B0f; rw [h]; simp
theorem B3W {ts : List Tm} {p m g : LN} (h : plc p ts.length = none) : B0f ts p m g = false := by
  unfold B0f; rw [h]; split <;> simp_all
theorem B02 {ts : List Tm} {p m g : LN} {t u : Tm} {i k : Nat} (h64 : g.length = 64) (hi : plc g ts.length = some i) (hk : plc p ts.length = some k) (ht : ts[i]? = some t) (hu : ts[k]? = some u) :
    B0f ts p m g = (decide (p.length = 32) && (decide (t.kind = 7) && (decide (t.text = m) && (decide (u.kind = 3) && (u.of.getD 0 0 == t.of.getD 0 0))))) := by
  unfold B0f
  rw [hi, hk, decide_eq_true h64]
  simp only [ht, hu, Bool.true_and, Bool.and_assoc]
  congr 4
theorem B6n {s : Ps} (h : s.real = true) (p m g : LN) : B2D s p m g = B8k p m g := by unfold B2D; rw [if_pos h]
theorem A1u {s : Ps} (h : s.real = false) (p m g : LN) : B2D s p m g = B0f s.ts p m g := by unfold B2D; rw [if_neg (by rw [h]; decide)]
theorem B03 {s : Ps} {p m g : LN} (h : ¬ g.length = 64) : B2D s p m g = false := by
  cases hr : s.real with
  | true => rw [B6n hr]; exact B3J h
  | false => rw [A1u hr]; exact B01 h
theorem neN8 {k : IntKind} (a b : Nat) : H8 .neq k ((a : Nat) : Int) ((b : Nat) : Int) = some (.bool (!decide (a = b))) := by
  by_cases h : a = b
  · rw [decide_eq_true h]; exact neF qO
  · rw [decide_eq_false h]; exact neT qO
theorem B04 (pb : Nat × Nat) (s : Ps) (v1 v2 v3 : Value) (wp wm wg : LN) (MP A : Mem) (hP : Prm pb s MP) (hsub : ∀ x, x ∈ MP → x ∈ A) (har : Ar s.ts) (hn : s.ts.length ≤ 1048576) (hp : By A v1 wp) (hm : By A v2 wm) (hg : By A v3 wg) (hG : Glb A) : FnV Tryz.prog 158 [.pointer (some ⟨pb.1, 0, none⟩), v1, v2, v3] A (.bool (B2D s wp wm wg)) := by
 have hr : s.real = false := rfl
 obtain ⟨sv, bt, bm, B, MT, rfl, hby, hT⟩ := hP.ex
 have hpb := hsub _ qK
 have hMT : ∀ x, x ∈ MT → x ∈ A := fun x hx => hsub x (by simp [hx])
 haveI := hp.cel
 haveI := hm.cel
 haveI := hg.cel
 haveI := hby.cel
 have hpl := hp.len
 have hml := hm.len
 have hgl := hg.len
 refine FnX.enter (N := 106) Tryz.func158 rfl rfl rfl fun w_ => ?_
 refine A8 (F4 0 1 2 3) (A1 (as_ (A0 (F4 0 1 2 3) (A6 (A1 (mv_ ?_))))))
 refine A2 (C9 (e := 118) rfl rfl kR) rfl ?_
 refine mv_ ?_
 refine C0 rfl rfl (OpQ.opL qm_ rfl ?_)
 refine C0 rfl rfl (OpQ.opL (E2 (sz := 1) rfl kR (by first | assumption | exact Sl.rd (by assumption) qI | exact By.rd (by assumption))) rfl ?_)
 refine C0 rfl rfl (OpQ.opL (F0 (!decide (wg.length = 64)) rfl rfl (neN8 _ 64)) rfl ?_)
 refine A2 (C8 rfl rfl) rfl ?_
 refine A0 (G6 0 1 2 3 23) ?_
 refine C3 rfl ?_ ?_ <;> intro hc
 ·
  have h64 : ¬ wg.length = 64 := by simpa using hc
  refine A1 (as_ (A0 (C7 8) (A7 (tr ?_))))
  exact ⟨_, [], [], F7 rfl rfl, List.nil_sublist _, by simp, by rw [B03 h64], rfl, rfl⟩
 ·
  have h64 : wg.length = 64 := by simpa using hc
  refine A5 (nx (F4 0 1 2 3) (A6 (A1 (mv_ ?_))))
  refine A2 (D8 rfl) rfl ?_
  refine A2 (qf_ 0 0) rfl ?_
  refine A2 (G3 rfl kR (mA hpb) qR) rfl ?_
  refine A2 (F3 rfl rfl rfl) rfl ?_
  refine A0 (G6 0 1 2 3 28) ?_
  refine B0 rfl ?_
  refine A5 (nx (F4 0 1 2 3) (A1 (mv_ ?_)))
  refine A2 (D8 rfl) rfl ?_
  refine A2 (qf_ 3 3) rfl ?_
  refine A2 (G3 rfl kR (mA hpb) qR) rfl ?_
  refine mv_ ?_
  refine D7 (aS rfl (aS rfl a0)) kR (T6 bt bm s.ts v3 wg MT _ hT (fun x hx => qS _ (hMT x hx)) hn (hg.rd.mono qS) hg.lt hg.max) rfl ?_
  refine mv_ ?_
  refine A2 (R6 rfl) rfl ?_
  refine A2 (R4 rfl) rfl ?_
  refine as_ (as_ (A0 (G6 0 1 2 9 10) (A1 (mv_ ?_))))
  refine A2 (D8 rfl) rfl ?_
  refine A2 (qf_ 3 3) rfl ?_
  refine A2 (G3 rfl kR (mA hpb) qR) rfl ?_
  refine mv_ ?_
  refine E0 (aS rfl (aS rfl a0)) kR (X0 bt bm s.ts _ MT _ hT (fun x hx => qS _ (hMT x hx))) rfl ?_
  rintro v48 M48 J48 ⟨rfl, rfl, c48, ok48, rfl, hg1a, hg2a⟩
  obtain ⟨voa, ta, rfl, hvoa, hza, htka, hoka, hnoa⟩ := A0Z hT.tok.tmo hg1a hg2a
  haveI := hvoa.cel
  refine mv_ ?_
  refine A2 (R6 rfl) rfl ?_
  refine A2 (R4 rfl) rfl ?_
  refine A4 rfl (D2 (cs := [.int .u8 0, vS, .string ByteArray.empty, .int .i64 0]) kR rfl fun b11 => ?_)
  refine A4 rfl (B8 (vs := tmc ta.kind voa ta.text ta.n) rfl rfl rfl kR qR (by intro c hc; simp only [tmc, List.mem_cons, List.not_mem_nil, or_false] at hc; rcases hc with rfl | rfl | rfl | rfl <;> first | rfl | exact hvoa.one) UpC.upd ?_)
  dsimp only [tmc]
  refine as_ (A0 (G6 0 1 2 10 11) (A1 (mv_ ?_)))
  refine A2 (D8 rfl) rfl ?_
  refine A2 (qf_ 3 3) rfl ?_
  refine A2 (G3 rfl kR (mA hpb) qR) rfl ?_
  refine mv_ ?_
  refine D7 (aS rfl (aS rfl a0)) kR (T6 bt bm s.ts v1 wp MT _ hT (fun x hx => qS _ (hMT x hx)) hn (hp.rd.mono qS) hp.lt hp.max) rfl ?_
  refine mv_ ?_
  refine A2 (R6 rfl) rfl ?_
  refine A2 (R4 rfl) rfl ?_
  refine as_ (as_ (A0 (S9 0 1 2 10 11 13 14) (A1 (mv_ ?_))))
  refine A2 (D8 rfl) rfl ?_
  refine A2 (qf_ 3 3) rfl ?_
  refine A2 (G3 rfl kR (mA hpb) qR) rfl ?_
  refine mv_ ?_
  refine E0 (aS rfl (aS rfl a0)) kR (X0 bt bm s.ts _ MT _ hT (fun x hx => qS _ (hMT x hx))) rfl ?_
  rintro v66 M66 J66 ⟨rfl, rfl, c66, ok66, rfl, hg1b, hg2b⟩
  obtain ⟨vob, tb, rfl, hvob, hzb, htkb, hokb, hnob⟩ := A0Z hT.tok.tmo hg1b hg2b
  haveI := hvob.cel
  refine mv_ ?_
  refine A2 (R6 rfl) rfl ?_
  refine A2 (R4 rfl) rfl ?_
  refine A4 rfl (D2 (cs := [.int .u8 0, vS, .string ByteArray.empty, .int .i64 0]) kR rfl fun b15 => ?_)
  refine A4 rfl (B8 (vs := tmc tb.kind vob tb.text tb.n) rfl rfl rfl kR qR (by intro c hc; simp only [tmc, List.mem_cons, List.not_mem_nil, or_false] at hc; rcases hc with rfl | rfl | rfl | rfl <;> first | rfl | exact hvob.one) UpC.upd ?_)
  dsimp only [tmc]
  refine as_ (A0 (I7 1 2 10 11 14 15) ?_)
  refine G5 (.range 38) (zp 0 [0, 0, 0, 0, 0, 0, 0, 0, 0, 0, 0, 1, 0, 0, 0, 0, 1, 0, 1, 0, 0, 0, 0, 1, 0, 0, 0, 0, 1, 0, 1, 0, 1, 0, 1, 0, 0, 0]) kR kR fun hs => ?_
  refine fm_ hs ?_
  refine fm_ hs ?_
  refine V5 (t := 70) rfl (fun hb => ?_) (fun hb => ?_)
  ·
   obtain ⟨i, hi⟩ := Option.isSome_iff_exists.1 hb
   refine I4 hs rfl rfl rfl rfl qm_ rfl ?_
   refine E8 hs rfl (E3 rfl rfl) rfl ?_
   refine fm_ hs ?_
   refine V5 (t := 73) rfl (fun hb => ?_) (fun hb => ?_)
   ·
    obtain ⟨k, hk⟩ := Option.isSome_iff_exists.1 hb
    have hta : s.ts[i]? = some ta := by
     have hl := (A4I hi).1
     rw [hi] at hoka hnoa
     cases ok48 with
     | true => have := (hoka rfl).2; rwa [Option.getD_some, Int.toNat_natCast] at this
     | false => exact absurd ⟨by rw [Option.getD_some]; omega, by rw [Option.getD_some]; omega⟩ (hnoa rfl)
    have htb : s.ts[k]? = some tb := by
     have hl := (A4I hk).1
     rw [hk] at hokb hnob
     cases ok66 with
     | true => have := (hokb rfl).2; rwa [Option.getD_some, Int.toNat_natCast] at this
     | false => exact absurd ⟨by rw [Option.getD_some]; omega, by rw [Option.getD_some]; omega⟩ (hnob rfl)
    have hcv := B02 (m := wm) h64 hi hk hta htb
    refine I4 hs rfl rfl rfl rfl qm_ rfl ?_
    refine I4 hs rfl rfl rfl rfl (E2 (sz := 1) rfl kR (by first | assumption | exact Sl.rd (by assumption) qI | exact By.rd (by assumption))) rfl ?_
    refine I4 hs rfl rfl rfl rfl (F0 (decide (wp.length = 32)) rfl rfl (B7G _ 32)) rfl ?_
    refine E8 hs rfl (E3 rfl rfl) rfl ?_
    refine fm_ hs ?_
    refine V5 (t := 78) rfl (fun hb => ?_) (fun hb => ?_)
    ·
     rw [hb, Bool.true_and] at hcv
     refine I4 hs rfl rfl rfl rfl (qf_ 0 0) rfl ?_
     refine A0r hs rfl rfl rfl rfl ql_ rfl ?_
     refine I4 hs rfl rfl rfl rfl (F0 (decide (ta.kind = 7)) rfl rfl (B7G _ 7)) rfl ?_
     refine E8 hs rfl (E3 rfl rfl) rfl ?_
     refine fm_ hs ?_
     refine V5 (t := 83) rfl (fun hb => ?_) (fun hb => ?_)
     ·
      rw [hb, Bool.true_and] at hcv
      have ha0 : 0 < ta.of.length := har ta (List.mem_of_getElem? hta) (.inr (.inr (of_decide_eq_true hb)))
      refine I4 hs rfl rfl rfl rfl (qf_ 2 2) rfl ?_
      refine A0r hs rfl rfl rfl rfl ql_ rfl ?_
      refine I4 hs rfl rfl rfl rfl qm_ rfl ?_
      refine A0r hs rfl rfl rfl rfl (Q3 rfl kR (hm.rd.mono qS)) rfl ?_
      refine I4 hs rfl rfl rfl rfl (B0x rfl rfl rfl rfl (hT.tok.tmo ta (List.mem_of_getElem? hta)).text.lt hm.lt) rfl ?_
      refine E8 hs rfl (E3 rfl rfl) rfl ?_
      refine fm_ hs ?_
      refine V5 (t := 90) rfl (fun hb => ?_) (fun hb => ?_)
      ·
       rw [hb, Bool.true_and] at hcv
       refine I4 hs rfl rfl rfl rfl (qf_ 0 0) rfl ?_
       refine A0r hs rfl rfl rfl rfl ql_ rfl ?_
       refine I4 hs rfl rfl rfl rfl (F0 (decide (tb.kind = 3)) rfl rfl (B7G _ 3)) rfl ?_
       refine E8 hs rfl (E3 rfl rfl) rfl ?_
       refine fm_ hs ?_
       refine V5 (t := 95) rfl (fun hb => ?_) (fun hb => ?_)
       ·
        rw [hb, Bool.true_and] at hcv
        have hb0 : 0 < tb.of.length := har tb (List.mem_of_getElem? htb) (.inl (of_decide_eq_true hb))
        refine I4 hs rfl rfl rfl rfl (qf_ 1 1) rfl ?_
        refine A0r hs rfl rfl rfl rfl ql_ rfl ?_
        refine I4 hs rfl rfl rfl rfl (F2 (sz := 1) (a := 0) rfl rfl kR rfl hvob hb0) rfl ?_
        refine A0r hs rfl rfl rfl rfl (L0 (j := 0) (u := .int .i64 (tb.of.getD 0 0)) (hvob.mono qS) rfl kR (A6s hb0)) rfl ?_
        refine I4 hs rfl rfl rfl rfl (qf_ 1 1) rfl ?_
        refine A0r hs rfl rfl rfl rfl ql_ rfl ?_
        refine I4 hs rfl rfl rfl rfl (F2 (sz := 1) (a := 0) rfl rfl kR rfl hvoa ha0) rfl ?_
        refine A0r hs rfl rfl rfl rfl (L0 (j := 0) (u := .int .i64 (ta.of.getD 0 0)) (hvoa.mono qS) rfl kR (A6s ha0)) rfl ?_
        refine I4 hs rfl rfl rfl rfl (F3 rfl rfl rfl) rfl ?_
        refine E8 hs rfl (E3 rfl rfl) rfl ?_
        refine fa_ hs ?_
        refine I2 (C7 8) (A7 ?_)
        exact ⟨_, [], [], F7 rfl rfl, List.nil_sublist _, by simp, by rw [A1u hr, hcv], rfl, rfl⟩
       ·
        rw [hb, Bool.false_and] at hcv
        refine L2 hs ?_
        refine V3 hs ?_
        refine L2 hs ?_
        refine V3 hs ?_
        refine L2 hs ?_
        refine V3 hs ?_
        refine L2 hs ?_
        refine V3 hs ?_
        refine L2 hs ?_
        refine E8 hs rfl (C8 rfl rfl) rfl ?_
        refine fa_ hs ?_
        refine I2 (C7 8) (A7 ?_)
        exact ⟨_, [], [], F7 rfl rfl, List.nil_sublist _, by simp, by rw [A1u hr, hcv], rfl, rfl⟩
      ·
       rw [hb, Bool.false_and] at hcv
       refine L2 hs ?_
       refine V3 hs ?_
       refine L2 hs ?_
       refine E8 hs rfl (C8 rfl rfl) rfl ?_
       refine fm_ hs ?_
       refine L2 hs ?_
       refine V3 hs ?_
       refine L2 hs ?_
       refine V3 hs ?_
       refine L2 hs ?_
       refine V3 hs ?_
       refine L2 hs ?_
       refine V3 hs ?_
       refine L2 hs ?_
       refine E8 hs rfl (C8 rfl rfl) rfl ?_
       refine fa_ hs ?_
       refine I2 (C7 8) (A7 ?_)
       exact ⟨_, [], [], F7 rfl rfl, List.nil_sublist _, by simp, by rw [A1u hr, hcv], rfl, rfl⟩
     ·
      rw [hb, Bool.false_and] at hcv
      refine L2 hs ?_
      refine V3 hs ?_
      refine L2 hs ?_
      refine V3 hs ?_
      refine L2 hs ?_
      refine E8 hs rfl (C8 rfl rfl) rfl ?_
      refine fm_ hs ?_
      refine L2 hs ?_
      refine V3 hs ?_
      refine L2 hs ?_
      refine E8 hs rfl (C8 rfl rfl) rfl ?_
      refine fm_ hs ?_
      refine L2 hs ?_
      refine V3 hs ?_
      refine L2 hs ?_
      refine V3 hs ?_
      refine L2 hs ?_
      refine V3 hs ?_
      refine L2 hs ?_
      refine V3 hs ?_
      refine L2 hs ?_
      refine E8 hs rfl (C8 rfl rfl) rfl ?_
      refine fa_ hs ?_
      refine I2 (C7 8) (A7 ?_)
      exact ⟨_, [], [], F7 rfl rfl, List.nil_sublist _, by simp, by rw [A1u hr, hcv], rfl, rfl⟩
    ·
     rw [hb, Bool.false_and] at hcv
     refine L2 hs ?_
     refine V3 hs ?_
     refine L2 hs ?_
     refine E8 hs rfl (C8 rfl rfl) rfl ?_
     refine fm_ hs ?_
     refine L2 hs ?_
     refine V3 hs ?_
     refine L2 hs ?_
     refine V3 hs ?_
     refine L2 hs ?_
     refine E8 hs rfl (C8 rfl rfl) rfl ?_
     refine fm_ hs ?_
     refine L2 hs ?_
     refine V3 hs ?_
     refine L2 hs ?_
     refine E8 hs rfl (C8 rfl rfl) rfl ?_
     refine fm_ hs ?_
     refine L2 hs ?_
     refine V3 hs ?_
     refine L2 hs ?_
     refine V3 hs ?_
     refine L2 hs ?_
     refine V3 hs ?_
     refine L2 hs ?_
     refine V3 hs ?_
     refine L2 hs ?_
     refine E8 hs rfl (C8 rfl rfl) rfl ?_
     refine fa_ hs ?_
     refine I2 (C7 8) (A7 ?_)
     exact ⟨_, [], [], F7 rfl rfl, List.nil_sublist _, by simp, by rw [A1u hr, hcv], rfl, rfl⟩
   ·
    have hcv := B3W (g := wg) (m := wm) (Option.not_isSome_iff_eq_none.1 (by rw [hb]; decide))
    refine L2 hs ?_
    refine L2 hs ?_
    refine L2 hs ?_
    refine E8 hs rfl (C8 rfl rfl) rfl ?_
    refine fm_ hs ?_
    refine L2 hs ?_
    refine V3 hs ?_
    refine L2 hs ?_
    refine E8 hs rfl (C8 rfl rfl) rfl ?_
    refine fm_ hs ?_
    refine L2 hs ?_
    refine V3 hs ?_
    refine L2 hs ?_
    refine V3 hs ?_
    refine L2 hs ?_
    refine E8 hs rfl (C8 rfl rfl) rfl ?_
    refine fm_ hs ?_
    refine L2 hs ?_
    refine V3 hs ?_
    refine L2 hs ?_
    refine E8 hs rfl (C8 rfl rfl) rfl ?_
    refine fm_ hs ?_
    refine L2 hs ?_
    refine V3 hs ?_
    refine L2 hs ?_
    refine V3 hs ?_
    refine L2 hs ?_
    refine V3 hs ?_
    refine L2 hs ?_
    refine V3 hs ?_
    refine L2 hs ?_
    refine E8 hs rfl (C8 rfl rfl) rfl ?_
    refine fa_ hs ?_
    refine I2 (C7 8) (A7 ?_)
    exact ⟨_, [], [], F7 rfl rfl, List.nil_sublist _, by simp, by rw [A1u hr, hcv], rfl, rfl⟩
  ·
   have hcv := B3V (p := wp) (m := wm) (Option.not_isSome_iff_eq_none.1 (by rw [hb]; decide))
   refine L2 hs ?_
   refine E8 hs rfl (C8 rfl rfl) rfl ?_
   refine fm_ hs ?_
   refine L2 hs ?_
   refine L2 hs ?_
   refine L2 hs ?_
   refine E8 hs rfl (C8 rfl rfl) rfl ?_
   refine fm_ hs ?_
   refine L2 hs ?_
   refine V3 hs ?_
   refine L2 hs ?_
   refine E8 hs rfl (C8 rfl rfl) rfl ?_
   refine fm_ hs ?_
   refine L2 hs ?_
   refine V3 hs ?_
   refine L2 hs ?_
   refine V3 hs ?_
   refine L2 hs ?_
   refine E8 hs rfl (C8 rfl rfl) rfl ?_
   refine fm_ hs ?_
   refine L2 hs ?_
   refine V3 hs ?_
   refine L2 hs ?_
   refine E8 hs rfl (C8 rfl rfl) rfl ?_
   refine fm_ hs ?_
   refine L2 hs ?_
   refine V3 hs ?_
   refine L2 hs ?_
   refine V3 hs ?_
   refine L2 hs ?_
   refine V3 hs ?_
   refine L2 hs ?_
   refine V3 hs ?_
   refine L2 hs ?_
   refine E8 hs rfl (C8 rfl rfl) rfl ?_
   refine fa_ hs ?_
   refine I2 (C7 8) (A7 ?_)
   exact ⟨_, [], [], F7 rfl rfl, List.nil_sublist _, by simp, by rw [A1u hr, hcv], rfl, rfl⟩

theorem A8Z {w : LN} {n : Nat} (h : w.length = n) : Y7 w n = w := by
  unfold Y7; rw [List.take_of_length_le qO, h, Nat.sub_self]; simp
theorem A80 (w : LN) : (A2j w).length = 32 := A2k _ _
theorem B05 (x y : Int) : srt x y = srt y x := by
  unfold srt
  rcases Int.lt_trichotomy x y with h | h | h
  · rw [if_neg qO, if_pos h]
  · subst h; rfl
  · rw [if_pos h, if_neg qO]
def B2G (i j : Nat) : Tm := ⟨4, srt ((i : Nat) : Int) ((j : Nat) : Int), [], 0⟩
theorem B3X {i j : Nat} (hi : i ≤ 1048576) (hj : j ≤ 1048576) : Tmo (B2G i j) := A8D (s := 0) (o := 0) (A0H _ _) (fun z hz => (A8C hz).elim (fun e => e ▸ A1l hi) (fun e => e ▸ A1l hj)) (.inl rfl)
def B3Y (s : Ps) (a b k : LN) : Prop := ∃ i j m : Nat, i < s.ts.length ∧ j < s.ts.length ∧ a = bts ((i : Nat) : Int) ∧ b = bts ((j : Nat) : Int) ∧ s.ts[m]? = some (B2G i j) ∧ k = bts ((m : Nat) : Int)
def A04 (s : Ps) (a b k : LN) : Prop := if s.real then k = x25 (Y7 a 32) (A2j (Y7 b 32)) ∧ (∀ x ∈ a, x < 256) ∧ ∀ x ∈ b, x < 256 else B3Y s a b k
theorem A04.t {s : Ps} (h : s.real = true) {a b k : LN} : A04 s a b k ↔ k = x25 (Y7 a 32) (A2j (Y7 b 32)) ∧ (∀ x ∈ a, x < 256) ∧ ∀ x ∈ b, x < 256 := by unfold A04; rw [if_pos h]
theorem A04.f {s : Ps} (h : s.real = false) {a b k : LN} : A04 s a b k ↔ B3Y s a b k := by unfold A04; rw [if_neg (by rw [h]; decide)]
theorem B3Y.ext {s s' : Ps} {a b k : LN} (h : B3Y s a b k) (he : Pext s s') : B3Y s' a b k := by
  obtain ⟨l, e⟩ := he.ts
  obtain ⟨i, j, m, h1, h2, h3, h4, h5, h6⟩ := h
  exact ⟨i, j, m, by rw [e, List.length_append]; omega, by rw [e, List.length_append]; omega, h3, h4, by rw [e]; exact A1s h5, h6⟩
theorem A04.ext {s s' : Ps} {a b k : LN} (h : A04 s a b k) (he : Pext s s') : A04 s' a b k := by
  cases hr : s.real with
  | true => rw [A04.t hr] at h; rw [A04.t (he.real.trans hr)]; exact h
  | false => rw [A04.f hr] at h; rw [A04.f (he.real.trans hr)]; exact h.ext he
theorem A04.comm {s : Ps} {a b k : LN} (h : A04 s a b k) : A04 s b a k := by
  cases hr : s.real with
  | true =>
    rw [A04.t hr] at h ⊢
    refine ⟨?_, h.2.2, h.2.1⟩
    rw [h.1]
    exact B0Q (A5x h.2.1 32) (A5x h.2.2 32)
  | false =>
    rw [A04.f hr] at h ⊢
    obtain ⟨i, j, m, h1, h2, h3, h4, h5, h6⟩ := h
    exact ⟨j, i, m, h2, h1, h4, h3, by rw [h5]; unfold B2G; rw [B05], h6⟩
theorem B3Z {ts : List Tm} {i j p : Nat} (hp : ts[p]? = some (A4l ((j : Nat) : Int))) : agT ts ((i : Nat) : Int) ((p : Nat) : Int) = B2G i j := by
  rw [A8B (t := A4l ((j : Nat) : Int)) qO (by rw [Int.toNat_natCast]; exact hp) ⟨rfl, rfl⟩]
  rfl
theorem A81 {s : Ps} {i j p : Nat} (hi : i < s.ts.length) (hp : s.ts[p]? = some (A4l ((j : Nat) : Int))) (hl : s.ts.length ≤ 1048576) :
    B5w s (bts ((i : Nat) : Int)) (bts ((p : Nat) : Int)) = { s with ts := add s.ts (B2G i j) } ∧ B5x s (bts ((i : Nat) : Int)) (bts ((p : Nat) : Int)) = bts ((at_ s.ts (B2G i j) : Nat) : Int) := by
  have hpl := (List.getElem?_eq_some_iff.1 hp).1
  obtain ⟨a1, a2⟩ := A2m hi hl
  obtain ⟨b1, b2⟩ := A2m hpl hl
  unfold B5w B5x
  rw [a1, a2, b1, b2, B3Z hp]
  exact ⟨rfl, rfl⟩
theorem A1m {s : Ps} (h : s.real = true) (a B : LN) : I6 s a B = s ∧ Y6 s a B = x25 (Y7 a 32) (Y7 B 32) := by unfold I6 Y6; rw [if_pos h, if_pos h]; exact ⟨rfl, rfl⟩
theorem A1n {s : Ps} (h : s.real = false) (a B : LN) : I6 s a B = B5w s a B ∧ Y6 s a B = B5x s a B := by unfold I6 Y6; rw [if_neg (by rw [h]; decide), if_neg (by rw [h]; decide)]; exact ⟨rfl, rfl⟩
theorem A6t (s : Ps) (a B : LN) : Ext s (I6 s a B) := by
  cases hr : s.real with
  | true => rw [(A1m hr a B).1]; exact Ext.refl s
  | false =>
    rw [(A1n hr a B).1]
    obtain ⟨l1, e1⟩ := A0J s.ts a
    obtain ⟨l2, e2⟩ := A0J (rdT s.ts a) B
    obtain ⟨l3, e3⟩ := A2q (rdT (rdT s.ts a) B) (agT (rdT (rdT s.ts a) B) ((rdI s.ts a : Nat) : Int) ((rdI (rdT s.ts a) B : Nat) : Int))
    refine ⟨⟨rfl, l1 ++ (l2 ++ l3), ?_⟩, rfl, Nat.le_refl _⟩
    show add _ _ = _
    rw [e3, e2, e1]; simp
theorem L4 (s : Ps) (a B : LN) : (I6 s a B).ts.length ≤ s.ts.length + 3 := by
  cases hr : s.real with
  | true => rw [(A1m hr a B).1]; omega
  | false =>
    rw [(A1n hr a B).1]
    have h1 := L8 (ts := s.ts) (ws := a)
    have h2 := L8 (ts := rdT s.ts a) (ws := B)
    have h3 := W2 (ts := rdT (rdT s.ts a) B) (t := agT (rdT (rdT s.ts a) B) ((rdI s.ts a : Nat) : Int) ((rdI (rdT s.ts a) B : Nat) : Int))
    show (add _ _).length ≤ _
    omega
theorem A82 (s : Ps) (a B : LN) : (I6 s a B).n = s.n := by unfold I6; split <;> rfl
theorem Ar.agr {s : Ps} (h : Ar s.ts) (a B : LN) : Ar (I6 s a B).ts := by
  unfold I6
  split
  · exact h
  · refine ((h.rd a).rd B).add fun hk => ?_
    unfold agT at hk ⊢
    split <;> (try split) <;> (try split) <;> simp_all
theorem B2H {s : Ps} {a b B : LN} (ha : Kok s a) (hB : K8 s b B) (ht : Tok s.ts) (hl : s.ts.length ≤ 1048576) (h1 : ∀ x ∈ a, x < 256) (h2 : ∀ x ∈ b, x < 256) : A04 (I6 s a B) a b (Y6 s a B) ∧ Tok (I6 s a B).ts := by
  cases hr : s.real with
  | true =>
    rw [(A1m hr a B).1, (A1m hr a B).2, A04.t hr]
    unfold K8 at hB
    rw [if_pos hr] at hB
    rw [hB, A8Z (A80 _)]
    exact ⟨⟨rfl, h1, h2⟩, ht⟩
  | false =>
    unfold K8 at hB
    rw [if_neg (by rw [hr]; decide)] at hB
    obtain ⟨i, hi, rfl⟩ := ha hr
    obtain ⟨j, p, hj, rfl, hp, rfl⟩ := hB
    obtain ⟨e1, e2⟩ := A81 hi hp hl
    rw [(A1n hr _ _).1, (A1n hr _ _).2, e1, e2]
    obtain ⟨l, g1, g2, g3, g4⟩ := A1x (B3X (show i ≤ 1048576 by omega) (show j ≤ 1048576 by omega)) ht
    exact ⟨(A04.f (s := { s with ts := add s.ts (B2G i j) }) hr).2 ⟨i, j, _, by show i < (add s.ts _).length; rw [g1, List.length_append]; omega, by show j < (add s.ts _).length; rw [g1, List.length_append]; omega, rfl, rfl, g3, rfl⟩, g4⟩
theorem A04.eq {s : Ps} {a b B k : LN} (h : A04 s a b k) (hB : K8 s b B) (ht : Tok s.ts) (hl : s.ts.length ≤ 1048576) : I6 s a B = s ∧ Y6 s a B = k := by
  cases hr : s.real with
  | true =>
    rw [A04.t hr] at h
    unfold K8 at hB
    rw [if_pos hr] at hB
    rw [(A1m hr a B).1, (A1m hr a B).2, hB, A8Z (A80 _), h.1]
    exact ⟨rfl, rfl⟩
  | false =>
    rw [A04.f hr] at h
    unfold K8 at hB
    rw [if_neg (by rw [hr]; decide)] at hB
    obtain ⟨i, j, m, g1, g2, rfl, rfl, g3, rfl⟩ := h
    obtain ⟨j', p, hj, e, hp, rfl⟩ := hB
    have := A3R qO qO e
    subst this
    obtain ⟨e1, e2⟩ := A81 g1 hp hl
    obtain ⟨e3, e4⟩ := B0V ht g3
    rw [(A1n hr _ _).1, (A1n hr _ _).2, e1, e2, e3, e4]
    exact ⟨rfl, rfl⟩
theorem B3Y.inj {s : Ps} {a b a' b' k : LN} (h : B3Y s a b k) (h' : B3Y s a' b' k) (hl : s.ts.length ≤ 1048576) : (a = a' ∧ b = b') ∨ (a = b' ∧ b = a') := by
  obtain ⟨i, j, m, g1, g2, rfl, rfl, g3, rfl⟩ := h
  obtain ⟨i', j', m', f1, f2, rfl, rfl, f3, e⟩ := h'
  have b1 := (List.getElem?_eq_some_iff.1 g3).1
  have b2 := (List.getElem?_eq_some_iff.1 f3).1
  have := A3R qO qO e
  subst this
  rw [g3] at f3
  have e2 := Option.some.inj f3
  unfold B2G at e2
  injection e2 with _ e3 _ _
  unfold srt at e3
  have e4 : (i = i' ∧ j = j') ∨ (i = j' ∧ j = i') := by split at e3 <;> split at e3 <;> simp at e3 <;> omega
  rcases e4 with ⟨rfl, rfl⟩ | ⟨rfl, rfl⟩
  · exact .inl ⟨rfl, rfl⟩
  · exact .inr ⟨rfl, rfl⟩
theorem B35 (seed : LN) (i : Nat) : B0S seed i = B0O (B0O [] seed) (([107, 101, 121] ++ le8n i) ++ [1]) := by
  unfold B0S
  rw [← A6h]
  exact B0P _ _

def bes (n k x : Nat) : LN := (List.range x).map fun j => n / 2 ^ (8 * (k - 1 - j)) % 256
def beN (n k : Nat) : LN := bes n k k
theorem A83 (n k x : Nat) : (bes n k x).length = x := by simp [bes]
theorem G2 (n k : Nat) : (beN n k).length = k := A83 n k k
theorem A6u (n k x : Nat) : bes n k (x + 1) = bes n k x ++ [n / 2 ^ (8 * (k - 1 - x)) % 256] := by simp [bes, List.range_succ]
theorem B6o (n k x : Nat) : ∀ y ∈ bes n k x, y < 256 := by
  intro y hy
  simp only [bes, List.mem_map] at hy
  obtain ⟨j, _, rfl⟩ := hy
  exact Nat.mod_lt _ qD
theorem Y5 (n k : Nat) : ∀ y ∈ beN n k, y < 256 := B6o n k k
theorem B2I {a b : LN} (ha : ∀ x ∈ a, x < 256) (hb : ∀ x ∈ b, x < 256) : ∀ x ∈ a ++ b, x < 256 := fun x hx => (List.mem_append.1 hx).elim (ha x) (hb x)
def bev (ws : LN) : Nat := ws.foldl (fun n b => n * 256 + b) 0
theorem A6v (ws : LN) (b : Nat) : bev (ws ++ [b]) = bev ws * 256 + b := by simp [bev]
theorem B36 (ws : LN) (h : ∀ x ∈ ws, x < 256) : ∀ a, ws.foldl (fun n b => n * 256 + b) a < (a + 1) * 256 ^ ws.length := by
  induction ws with
  | nil => intro a; simp
  | cons b ws ih =>
    intro a
    have h1 := ih (fun x hx => h x (by simp [hx])) (a * 256 + b)
    have h2 := h b qM
    rw [List.foldl_cons, List.length_cons, show 256 ^ (ws.length + 1) = 256 * 256 ^ ws.length from Nat.pow_succ', ← Nat.mul_assoc]
    exact Nat.lt_of_lt_of_le h1 (Nat.mul_le_mul_right _ qO)
theorem B2J {ws : LN} (h : ∀ x ∈ ws, x < 256) : bev ws < 256 ^ ws.length := by
  have := B36 ws h 0
  unfold bev; omega
theorem A84 (n k : Nat) : ∀ x, x ≤ k → bev (bes n k x) = n / 2 ^ (8 * (k - x)) % 256 ^ x
  | 0, _ => by simp [bes, bev, Nat.mod_one]
  | x + 1, h => by
    rw [A6u, A6v, A84 n k x qO]
    have e1 : k - 1 - x = k - (x + 1) := by omega
    have e2 : 8 * (k - x) = 8 * (k - (x + 1)) + 8 := by omega
    rw [e1, e2, Nat.pow_add, ← Nat.div_div_eq_div_mul, show 256 ^ (x + 1) = 256 * 256 ^ x from Nat.pow_succ', Nat.mod_mul, show 2 ^ 8 = 256 from rfl]
    omega
theorem B4a {n k : Nat} (h : n < 256 ^ k) : bev (beN n k) = n := by
  unfold beN
  rw [A84 n k k (Nat.le_refl _), Nat.sub_self, Nat.mul_zero, Nat.pow_zero, Nat.div_one, Nat.mod_eq_of_lt h]
structure Wtr (wb : Nat) (ws : LN) (M : Mem) : Prop where
  ex : ∃ (v : Value) (B : Mem), M = (wb, blk [v] 97) :: B ∧ Sl 1 v ws.length (I3 .u8 ws) B
  lt : ∀ x ∈ ws, x < 256
theorem Wtr.new {b : Nat} : Wtr b [] [(b, blk [vS] 97)] := ⟨⟨_, [], rfl, Sl.nil⟩, fun x h => by cases h⟩
theorem Wtr.eq {wb : Nat} {ws ws' : LN} {M : Mem} (h : Wtr wb ws M) (e : ws = ws') : Wtr wb ws' M := e ▸ h
theorem K1 (wb n k : Nat) (ws : LN) (M A : Mem) (hW : Wtr wb ws M) (hn : n < 18446744073709551616) (hk : k ≤ 8) (hl : ws.length ≤ 1099511627776) : FnX Tryz.prog 35 [(vP wb), .int .u64 ((n : Nat) : Int), (vI k)] M A fun q M J => q = (vP wb) ∧ Wtr wb (ws ++ beN n k) M := by
 obtain ⟨⟨v, B, rfl, hsl⟩, hlt⟩ := hW
 haveI := hsl.cel
 refine FnX.enterZ (N := 33) Tryz.func35 rfl rfl rfl fun w_ => ?_
 refine A8 (E5 0 1 2) (A1 (as_ (A0 (E5 0 1 2) (A6 (A1 (mv_ ?_))))))
 refine A2 (Q0 ((k : Int) - 1) rfl rfl (A6Y rfl qO qO)) rfl ?_
 refine as_ (A0 (E5 0 1 7) (C5 ?_))
 refine H0 (α := Nat × Value × Mem) (fun x => [(0, (vP wb)), (1, .int .u64 ((n : Nat) : Int)), (7, .int .i64 ((k : Int) - 1 - (x.1 : Int)))]) (fun x => (wb, blk [x.2.1] 97) :: x.2.2) (fun _ => []) (fun x => x.1 ≤ k ∧ Sl 1 x.2.1 (ws ++ bes n k x.1).length (I3 .u8 (ws ++ bes n k x.1)) x.2.2) (fun x => k - x.1) ⟨0, v, B⟩ ⟨Nat.zero_le _, by simpa [bes] using hsl⟩ (kq 0 (kq 1 (kp 7 (by simp; rfl) kn))) .rfl qI ?_
 clear hsl
 rintro ⟨x, v, B⟩ ⟨hx, hsl⟩
 dsimp only at hx hsl ⊢
 haveI := hsl.cel
 have hbl := A83 n k x
 have hll : (ws ++ bes n k x).length = ws.length + x := by rw [List.length_append, hbl]
 refine A6 (A1 (mv_ ?_))
 refine A2 (F3 rfl rfl rfl) rfl ?_
 refine mv_ ?_
 refine H4 (t := 12) rfl (fun hb => ?_) (fun hb => ?_)
 ·
  have hltx : x < k := by simp at hb; omega
  obtain ⟨m, hm, hm2⟩ : ∃ m : Nat, ((k : Int) - 1 - (x : Int)) = (m : Int) ∧ m = k - 1 - x := ⟨k - 1 - x, by omega, rfl⟩
  rw [hm]
  refine C0 rfl rfl (OpQ.opL qm_ rfl ?_)
  refine C0 rfl rfl (OpQ.opL (F0 true rfl rfl (ltT qO)) rfl ?_)
  refine A2 (E3 rfl rfl) rfl ?_
  refine A0 (F4 0 1 7 15) ?_
  refine E9 rfl ?_
  refine A5 (nx (E5 0 1 7) (A6 (C5 ?_)))
  refine S3 [0, 1, 2, 3, 4, 5, 6, 7, 8, 9, 10, 12, 13] (zp 0 [0, 0, 0, 0, 1, 0, 0, 0, 0, 0, 2, 2, 0, 0, 2]) kR kR fun hs => ?_
  refine fm_ hs ?_
  refine fm_ hs ?_
  refine E8 hs rfl (D8 rfl) rfl ?_
  refine E8 hs rfl (qf_ 0 0) rfl ?_
  refine R5 hs rfl ql_ rfl ?_
  refine fm_ hs ?_
  refine fm_ hs ?_
  refine E8 hs rfl (A16 (a := 8) rfl rfl rfl rfl qO) rfl ?_
  refine E8 hs rfl (A78 (a := n) (b := 8 * m) rfl rfl rfl rfl (by show _ ≤ 64; omega)) rfl ?_
  refine E8 hs rfl (B3j rfl kR) rfl ?_
  refine A5s rfl rfl fun _ => (C4 (e := 5) (sz := 1) (z := [.int .u8 0]) kR (eS rfl e0) (bdS 0 1 rfl qR bd0) rfl fun b28 => ?_)
  refine L7 rfl rfl rfl (F6 (e := 5) (sz := 1) (by_ := 1) rfl rfl kR rfl (by first | assumption | exact Sl.nil) (Rd.whole (n := 1) At.mem qR) (by first | (simp [Value.oneCell']; done) | (intro c hc; simp only [List.mem_singleton] at hc; subst hc; first | exact Rd.one (by assumption) | exact Sl.one (by assumption))) qP (by unfold maxLen; omega) qO rfl fun v29 B29 hs29 => ?_)
  refine E8 hs rfl (D8 rfl) rfl ?_
  refine E8 hs rfl (qf_ 0 0) rfl ?_
  refine L7 rfl rfl rfl (F8 rfl rfl hs29.one kR SetC.set UpC.upd ?_)
  refine A10 (nb (nx (E5 0 1 7) (C6 (mv_ ?_))))
  refine A2 (Q0 ((m : Int) - 1) rfl rfl (A6Y rfl qO qO)) rfl ?_
  refine as_ (E1 ?_)
  exact rn ⟨x + 1, v29, B29⟩ ⟨by dsimp only; omega, by dsimp only; rw [A6u, ← List.append_assoc, ← hm2]; exact A73 hs29 (by simp only [List.length_append, List.length_singleton]) (by simp [I3])⟩ (by dsimp only; omega) (kq 0 (kq 1 (kp 7 (by dsimp only; rw [show ((k : Int) - 1 - ((x + 1 : Nat) : Int)) = (m : Int) - 1 by omega]; rfl) kn))) (Fit.pick (B := [_]) qP (Fit.last qP)) (fun _ h => by first | exact h | cases h)
 ·
  have hge : x = k := by simp at hb; omega
  subst hge
  refine D1 rfl rfl rfl rfl ?_
  refine D1 rfl rfl rfl rfl ?_
  refine A2 (C8 rfl rfl) rfl ?_
  refine A0 (F4 0 1 7 15) ?_
  refine B0 rfl ?_
  refine G4 (te (re (be rfl (nx (C7 0) (A1 (mv_ (as_ (A0 (C7 6) ?_))))))))
  refine A7 ?_
  exact ⟨_, (wb, blk [v] 97) :: B, [], F7 rfl rfl, Fit.none (Fit.last qP), rfl, ⟨⟨v, B, rfl, hsl⟩, B2I hlt (Y5 n x)⟩⟩
theorem I0 (wb : Nat) (p : Value) (w ws : LN) (M A : Mem) (hW : Wtr wb ws M) (hp : By A p w) (hl : ws.length ≤ 1099511620000) : FnX Tryz.prog 34 [(vP wb), p] M A fun q M J => q = (vP wb) ∧ Wtr wb (ws ++ beN w.length 4 ++ w) M := by
 haveI := hp.cel
 have hpl := hp.len
 refine FnX.enterZ (N := 20) Tryz.func34 rfl rfl rfl fun w_ => ?_
 refine A8 (D0 0 1) (A1 (as_ (A0 (D0 0 1) (A1 (mv_ (mv_ ?_))))))
 refine A2 (E2 (sz := 1) rfl kR hp.rd) rfl ?_
 refine A2 (A4u rfl kR) rfl ?_
 rw [Nat.mod_eq_of_lt (show w.length < 18446744073709551616 by omega)]
 refine A4 rfl (A9 (Mc := _) (R := _) (aS rfl (aS rfl (aS rfl (a0)))) kR qP (K1 wb w.length 4 ws _ _ hW qO qD qO) rfl ?_)
 rintro v9 M9 J9 ⟨rfl, hW9⟩
 obtain ⟨⟨v, B, rfl, hsl⟩, hlt⟩ := hW9
 haveI := hsl.cel
 have hbl := G2 w.length 4
 have hll : (ws ++ beN w.length 4).length = ws.length + 4 := by rw [List.length_append, hbl]
 refine A0 (D0 0 1) (A1 (mv_ (mv_ ?_)))
 refine A2 (D8 rfl) rfl ?_
 refine A2 (qf_ 0 0) rfl ?_
 refine A2 ql_ rfl ?_
 refine mv_ ?_
 refine A4 rfl (F6 (e := 5) (sz := 1) (by_ := 1) rfl rfl kR rfl hsl (hp.rd.mono qS) T1 qP (by unfold maxLen; omega) qO rfl fun v16 B16 hs16 => ?_)
 refine A2 (D8 rfl) rfl ?_
 refine A2 (qf_ 0 0) rfl ?_
 refine A4 rfl (F8 rfl rfl hs16.one kR SetC.set UpC.upd ?_)
 refine A0 (C7 0) (A1 (mv_ (as_ (A0 (C7 4) (A7 ?_)))))
 exact ⟨_, (wb, blk [v16] 97) :: B16, [], F7 rfl rfl, Fit.none (Fit.pick (B := [_]) qP (Fit.last qP)), rfl, ⟨⟨v16, B16, rfl, A73 hs16 (by simp only [List.length_append]) (by simp [I3])⟩, B2I hlt hp.lt⟩⟩
theorem P8 (wb : Nat) (ws : LN) (M A : Mem) (hW : Wtr wb ws M) (hl : ws.length ≤ 16777216) : FnX Tryz.prog 36 [(vP wb)] M A fun q M J => Wtr wb ws M ∧ By J q ws := by
 obtain ⟨⟨v, B, rfl, hsl⟩, hlt⟩ := hW
 haveI := hsl.cel
 refine FnX.enterZ (N := 8) Tryz.func36 rfl rfl rfl fun w_ => ?_
 refine A8 (C7 0) (A1 (as_ (A0 (C7 0) (A1 (mv_ ?_)))))
 refine A2 (D8 rfl) rfl ?_
 refine A2 (qf_ 0 0) rfl ?_
 refine A2 ql_ rfl ?_
 refine A4 rfl (F6 (e := 5) (sz := 1) (by_ := 1) rfl rfl kR rfl Sl.nil (hsl.rd qS) T1 qP (by unfold maxLen; omega) qO rfl fun v7 B7 hs7 => ?_)
 refine as_ (A0 (C7 2) (A7 ?_))
 exact ⟨_, (wb, blk [v] 97) :: B, B7, F7 rfl rfl, Fit.pick qP (Fit.last qP), ⟨⟨v, B, rfl, hsl⟩, hlt⟩, ⟨by simpa using hs7.rd (R := B7) qS, hlt, hl⟩⟩

def A4X (n : Nat) (w : LN) : LN := beN 6 4 ++ [112, 114, 101, 107, 101, 121] ++ beN n 4 ++ (beN w.length 4 ++ w)
theorem B06 (n : Nat) (w : LN) : (A4X n w).length = w.length + 18 := by simp [A4X, G2]; omega
theorem B4b {n : Nat} (h : n < 4294967296) : IntKind.u64.wrap (n : Int) = (n : Int) := A3x qO qO
theorem B4c {R : Mem} {b n : Nat} {w : LN} {e : TypeId} {fr : Nat × Nat} (hm : (b, Obj.cells (I3 .u8 w).toArray e fr) ∈ R) (hn : w.length = n) (hlt : ∀ x ∈ w, x < 256) (hl : w.length ≤ 16777216) : By R (.slice (some ⟨b, 0, none⟩) n n) w := by
  subst hn
  exact ⟨Rd.whole (n := w.length) hm qM, hlt, hl⟩
theorem A4Y (n : Nat) (v : Value) (w : LN) (A : Mem) (hn : n < 4294967296) (hv : By A v w) (hl : w.length ≤ 1000000) : FnX Tryz.prog 101 [(vU n), v] [] A fun q M J => M = [] ∧ By J q (A4X n w) := by
 haveI := hv.cel
 refine FnX.enterZ (N := 18) Tryz.func101 rfl rfl rfl fun w_ => ?_
 refine A8 (D0 0 1) (A1 (as_ (A0 (D0 0 1) (A1 ?_))))
 refine A2 (D6 (place := fun x => #[(0, 1)][x]?) (z := [vS]) (fun _ => by kernel_rfl) e0 bd0) rfl ?_
 refine A4 rfl (bx_ fun b7 => ?_)
 refine as_ (A0 (E5 0 1 5) (A1 (mv_ ?_)))
 refine A4 rfl (C4 (e := 5) (sz := 1) (z := [zu8, zu8, zu8, zu8, zu8, zu8]) kR (eS rfl (eS rfl (eS rfl (eS rfl (eS rfl (eS rfl e0)))))) (bdS 0 1 rfl qR (bdS 1 1 rfl qR (bdS 2 1 rfl qR (bdS 3 1 rfl qR (bdS 4 1 rfl qR (bdS 5 1 rfl qR bd0)))))) rfl fun b9 => ?_)
 refine A4 rfl (A53 rfl kR UpC.upd rfl ?_)
 refine A4 rfl (A9 (Mc := [(b7, blk [vS] 97)]) (R := _) (aS rfl (aS rfl (a0))) kR qP (I0 b7 _ [112, 114, 101, 107, 101, 121] [] _ _ Wtr.new (B4c At.mem qR qD qD) qD) rfl ?_)
 rintro v11 M11 J11 ⟨rfl, hW11⟩
 refine mv_ ?_
 refine A2 (H7 (k' := .u64) n rfl kR (B4b qO)) rfl ?_
 refine A4 rfl (A9 (Mc := M11) (R := _) (aS rfl (aS rfl (aS rfl (a0)))) kR qP (K1 b7 n 4 _ _ _ hW11 qO qD (by simp [G2])) rfl ?_)
 rintro v14 M14 J14 ⟨rfl, hW14⟩
 refine mv_ ?_
 refine A4 rfl (A9 (Mc := M14) (R := _) (aS rfl (aS rfl (a0))) kR qP (I0 b7 v w _ _ _ hW14 (hv.mono qS) (by simp [G2])) rfl ?_)
 rintro v16 M16 J16 ⟨rfl, hW16⟩
 refine A4 rfl (A9 (Mc := M16) (R := _) (aS rfl (a0)) kR qP (P8 b7 _ _ _ hW16 (by simp [G2]; omega)) rfl ?_)
 rintro v17 M17 J17 ⟨hW17, hb17⟩
 haveI := hb17.cel
 refine as_ (A0 (C7 4) (A7 ?_))
 exact ⟨_, [], [], F7 rfl rfl, qZ, rfl, by simpa [A4X, List.append_assoc] using hb17.mono qS⟩

end Go.Proofs.YtoameenjkiaefaaGreatDoor
namespace Go.Px
def mkB (P : Program) (t : TypeId) : Option (TypeId × Nat) :=
  match P.underlying t with
  | some (.slice e) => match P.info? e with
    | some i => match i.zero with
      | some (.bool false) => if i.size = 1 then some (e, i.bytes) else none
      | _ => none
    | none => none
  | _ => none
def P5 (h : List Bool) : List Value := h.map .bool
@[simp] theorem bools_len (h : List Bool) : (P5 h).length = h.length := by simp [P5]
theorem A85 (a b : List Bool) : P5 (a ++ b) = P5 a ++ P5 b := by simp [P5]
theorem A86 (h : List Bool) : ∀ c ∈ P5 h, c.oneCell' = true := by
  intro c hc
  obtain ⟨b, _, rfl⟩ := List.mem_map.1 hc
  rfl
theorem A2u {h : List Bool} {i : Nat} (hi : i < h.length) : (P5 h)[i]? = some (.bool (h.getD i false)) := by
  simp [P5, List.getD_eq_getElem?_getD, hi]
theorem A4Z (h : List Bool) (i : Nat) (b : Bool) : (P5 h).set i (.bool b) = P5 (h.set i b) := by simp [P5, List.map_set]
def B8l (P : Program) (t tn : TypeId) : Option (TypeId × Nat) :=
  match P.underlying tn with
  | some (.int _) => mkB P t
  | _ => none
theorem A0K (n : Nat) : Builtin.zeroCells #[.bool false] n = (P5 (List.replicate n false)).toArray := by
  apply Array.ext
  · simp [Builtin.zeroCells]
  · intro i h1 h2
    simp [Builtin.zeroCells, P5, Nat.mod_one]
theorem A3U {P : Program} {t tn e ty : TypeId} {by_ n m : Nat} {v : Value} {xs : List Value} {B R : Mem} {w : World} (ht : B8l P t tn = some (e, by_))
    (hs : Sl 1 v n xs B) (hB : ∀ q, q ∈ B → q ∈ R) (hw : Fx R w) (hmax : n + m ≤ maxLen) (hbytes : (n + m) * by_ ≤ 140737488355328) :
    ∃ v' w' B', (Builtin.append_ #[t, tn] ty #[v, .int .i64 (m : Int)]).run P w = .ok v' w' ∧ Sl 1 v' (n + m) (xs ++ P5 (List.replicate m false)) B' ∧
      ((w' = w ∧ B' = B) ∨
       (∃ (b : Nat) (cs cs' : List Value) (e' : TypeId), B = [(b, blk cs e')] ∧ B' = [(b, blk cs' e')] ∧ w' = w.setRow b cs'.toArray) ∨
       (∃ o', B' = [(w.heap.size, o')] ∧ w' = w.drew.alloc o')) := by
  unfold B8l at ht
  split at ht <;> try cases ht
  rename_i kn htn
  unfold mkB at ht
  split at ht <;> try cases ht
  rename_i e' hu
  split at ht <;> try cases ht
  rename_i i hi
  split at ht <;> try cases ht
  rename_i hz
  split at ht <;> simp only [Option.some.injEq, Prod.mk.injEq, reduceCtorEq] at ht
  rename_i his
  obtain ⟨rfl, rfl⟩ := ht
  have hzc : (Value.bool false).cells = #[.bool false] := rfl
  have hsmall : n + m ≤ 9223372036854775807 := by simp only [maxLen] at hmax; omega
  have hwm : IntKind.i64.wrap (m : Int) = m := by rw [IntKind.wrap_i64]; omega
  have hneg : ¬ ((m : Int) < 0) := by omega
  have h48i : ¬ (281474976710656 < (m : Int) * (i.bytes : Int)) := by
    rw [← Int.natCast_mul]
    have : m * i.bytes ≤ (n + m) * i.bytes := Nat.mul_le_mul_right _ (by omega)
    omega
  by_cases hm : m = 0
  · subst hm
    have hw0 : IntKind.i64.wrap 0 = 0 := by rw [IntKind.wrap_i64]; omega
    refine ⟨v, w, B, ?_, by simpa [P5] using hs, .inl ⟨rfl, rfl⟩⟩
    rcases hs with ⟨p, rfl, rfl, rfl, rfl⟩ | ⟨b, o, cap, cs, e', rfl, rfl, h1, h2, h3, h4, h5⟩
    · cases p <;> simp [Builtin.append_, run_underlying hu, run_underlying htn, sizeOf, typeInfo, hi, asInt, asIntOf, hw0, storeCells, his]
    · simp [Builtin.append_, run_underlying hu, run_underlying htn, sizeOf, typeInfo, hi, asInt, asIntOf, hw0, storeCells, his, h1]
  · have made : ∀ (r : Value) (cap' : Nat), r = .slice (some ⟨w.heap.size, 0, none⟩) (n + m) cap' → n + m ≤ cap' → cap' ≤ maxLen → xs.length = n →
        Sl 1 r (n + m) (xs ++ P5 (List.replicate m false)) [(w.heap.size, .cells (xs.toArray ++ (P5 (List.replicate m false)).toArray ++ (P5 (List.replicate (cap' - (n + m)) false)).toArray) e' (0, 0))] := by
      intro r cap' hr' hc1 hc2 hxl
      refine .inr ⟨w.heap.size, 0, cap', (xs.toArray ++ (P5 (List.replicate m false)).toArray ++ (P5 (List.replicate (cap' - (n + m)) false)).toArray).toList, e', hr', by simp [blk], hc1, hc2, ?_, ?_, ?_⟩
      · simp [hxl]; omega
      · simp [hxl]
      · intro j u hj
        have hlt : j < (xs ++ P5 (List.replicate m false)).length := (List.getElem?_eq_some_iff.1 hj).1
        rw [Nat.zero_add]
        simp only [Array.toList_append, List.append_assoc]
        rw [← List.append_assoc, List.getElem?_append_left (by simpa using hlt)]
        exact hj
    have h63' : ¬ (9223372036854775807 < ((n : Int) + (m : Int))) := by omega
    rcases hs with ⟨p, rfl, rfl, rfl, rfl⟩ | ⟨b, o, cap, cs, e2, rfl, rfl, h1, h2, h3, h4, h5⟩
    · have hge := grownCap_ge w (0 + m) 0 e'
      have hcm : grownCap w (0 + m) 0 e' ≤ maxLen := grownCap_le_maxLen w (0 + m) 0 e' hmax
      have hfit : Builtin.nextslicecap (0 + m) 0 * i.bytes ≤ 281474976710656 := growslice_fits (by omega) hbytes
      have h48' : ¬ (281474976710656 < Builtin.nextslicecap (0 + m) 0 * i.bytes) := by omega
      refine ⟨.slice (some ⟨w.heap.size, 0, none⟩) (0 + m) (grownCap w (0 + m) 0 e'), _, _, ?_, made _ _ rfl hge hcm (by simp), .inr (.inr ⟨_, rfl, rfl⟩)⟩
      simp only [Nat.zero_add] at *
      have h63'' : ¬ (9223372036854775807 < (m : Int)) := by omega
      cases p <;> simp [Builtin.append_, run_underlying hu, run_underlying htn, sizeOf, typeInfo, zeroValue, hi, hz, hzc, asInt, asIntOf, hwm, hm, hneg, his, h63'', h48', h48i, Question.forced, newRow, grownCap, Builtin.firstCells, loadCells, loadCellsFrom, A0K]
    · have hb := hw b _ (hB _ (List.mem_singleton.2 rfl))
      by_cases hroom : n + m ≤ cap
      · have hfit : o + n + (P5 (List.replicate m false)).length ≤ cs.length := by simp; omega
        have hst := run_storeCells_at (P := P) b (o + n) e2 (P5 (List.replicate m false)) 0 cs.toArray w hb (by simpa using hfit) (A86 _)
        simp only [Nat.add_zero] at hst
        refine ⟨.slice (some ⟨b, o, none⟩) (n + m) cap, w.setRow b (cs.take (o + n) ++ P5 (List.replicate m false) ++ cs.drop (o + n + (P5 (List.replicate m false)).length)).toArray, _, ?_, ?_, .inr (.inl ⟨b, cs, _, e2, rfl, rfl, rfl⟩)⟩
        · simp [Builtin.append_, run_underlying hu, run_underlying htn, sizeOf, typeInfo, zeroValue, hi, hz, hzc, asInt, asIntOf, hwm, hm, hneg, his, h48i, hroom, Addr.add_mid, hst, A0K]
        · refine .inr ⟨b, o, cap, _, e2, rfl, rfl, hroom, h2, ?_, ?_, ?_⟩
          · simp only [List.length_append, List.length_take, List.length_drop]
            omega
          · simp [h4]
          · intro j q hj
            by_cases hjx : j < xs.length
            · rw [List.getElem?_append_left hjx] at hj
              rw [List.append_assoc, List.getElem?_append_left (by simp; omega), List.getElem?_take_of_lt (by omega)]
              exact h5 j q hj
            · rw [List.getElem?_append_right (by omega)] at hj
              have hlt := (List.getElem?_eq_some_iff.1 hj).1
              have hln : (cs.take (o + n)).length = o + n := by simp; omega
              rw [List.append_assoc, List.getElem?_append_right (by omega), List.getElem?_append_left (by omega), hln, ← hj]
              congr 1
              omega
      · have hge := grownCap_ge w (n + m) cap e'
        have hcm : grownCap w (n + m) cap e' ≤ maxLen := grownCap_le_maxLen w (n + m) cap e' hmax
        have hfit : Builtin.nextslicecap (n + m) cap * i.bytes ≤ 281474976710656 := growslice_fits (by omega) hbytes
        have h48' : ¬ (281474976710656 < Builtin.nextslicecap (n + m) cap * i.bytes) := by omega
        have hfo := run_firstCells_some (P := P) w.drew 1 n ⟨b, o, none⟩ n cap xs h4 (fun j q hj => by rw [Addr.add_mid]; simpa using (by rw [cell_of_row w b _ cs.toArray e2 (0, 0) hb]; simpa using h5 j q hj))
        refine ⟨.slice (some ⟨w.heap.size, 0, none⟩) (n + m) (grownCap w (n + m) cap e'), _, _, ?_, made _ _ rfl hge hcm (by omega), .inr (.inr ⟨_, rfl, rfl⟩)⟩
        simp [Builtin.append_, run_underlying hu, run_underlying htn, sizeOf, typeInfo, zeroValue, hi, hz, hzc, asInt, asIntOf, hwm, hm, hneg, his, hroom, h63', h48', h48i, Question.forced, newRow, grownCap, hfo, A0K]
section zb
variable {C : Cx} {l : Env} {M J : Mem} {K : Env → Mem → Mem → Prop} {d : Nat} {ty t tn e : TypeId} {pos : String} {af : Array Edge} {g : Option (Nat × Bool)} {x y : Operand}
theorem A7l {by_ n m : Nat} {v : Value} {j : Int} {xs : List Value} {B M0 : Mem} (hx : ev l x = some v) (hy : ev l y = some (.int .i64 j)) (hj : j = (m : Int)) (ht : B8l C.P t tn = some (e, by_))
    (hs : Sl 1 v n xs B) (hM : M.Perm (B ++ M0)) (hmax : n + m ≤ maxLen) (hbytes : (n + m) * by_ ≤ 140737488355328) (hd : Nat.blt d C.N = true)
    (k : ∀ v' B', Sl 1 v' (n + m) (xs ++ P5 (List.replicate m false)) B' → K ((d, v') :: l) (B' ++ M0) J) :
    OpL C ⟨some d, .call { callee := .builtin .append, args := #[x, y], argTypes := #[t, tn] }, ty, pos, af, g⟩ l M J K := by
  intro Qp a w ha hw
  subst hj
  obtain ⟨v', w', B', hrun, hsl, hcase⟩ := A3U (P := C.P) (ty := ty) (R := M ++ (J ++ C.A)) ht hs (fun q hq => by have := hM.mem_iff.2 (List.mem_append_left M0 hq); simp [this]) hw.fx hmax hbytes
  have hexec : (execOp a.eval ⟨some d, .call { callee := .builtin .append, args := #[x, y], argTypes := #[t, tn] }, ty, pos, af, g⟩).run C.P w = .ok (.value v') w' := by
    simp [execOp, resolve, invoke, builtin, ha.ev hx, ha.ev hy, hrun]
  unfold Oper.wp
  rw [hexec]
  refine ⟨_, B' ++ M0, J, ha.put (D5 hd) v', ?_, k v' B' hsl⟩
  rcases hcase with ⟨rfl, rfl⟩ | ⟨b, cs, cs', e', rfl, rfl, rfl⟩ | ⟨o', rfl, rfl⟩
  · exact hw.perm hM
  · exact (hw.perm hM).setRow (M' := [(b, blk cs' e')] ++ M0) Upd.hd
  · have h2 : St C ((w.heap.size, o') :: M) J (w.drew.alloc o') := St.alloc (w := w.drew) hw.drew o'
    have h3 := h2.perm (M' := (w.heap.size, o') :: (B ++ M0)) (List.Perm.cons _ hM)
    exact h3.drop (List.Sublist.cons_cons _ (List.sublist_append_right B M0)) (fun _ h => h)
end zb
theorem B6p {C : Cx} {l : Env} {M J : Mem} {K : Env → Mem → Mem → Prop} {ty t : TypeId} {pos : String} {af : Array Edge} {g : Option (Nat × Bool)} {x y : Operand} {v u : Value} {xs : List Value} {n j : Nat} {B M0 : Mem} (h : Sl 1 v n xs B) (hx : ev l x = some (vAt 1 j v)) (hy : ev l y = some u) (h1 : u.oneCell' = true)
    (ht : P9 C.P t = some 1) (hj : j < n) (hM : M.Perm (B ++ M0)) (h2 : ∀ B', Sl 1 v n (xs.set j u) B' → K l (B' ++ M0) J) :
    OpL C ⟨none, .store t x y, ty, pos, af, g⟩ l M J K := by
  suffices hh : OpL C ⟨none, .store t x y, ty, pos, af, g⟩ l (B ++ M0) J K from fun Qp a w ha hw => hh Qp a w ha (hw.fit (Fit.perm hM) fun _ h => h)
  clear hM
  rcases h with ⟨p, rfl, rfl, hx2, rfl⟩ | ⟨b, o, cap, cs, e, rfl, rfl, h3, h4, h5, h6, h7⟩
  · omega
  · simp only [vAt, Addr.add_mid, Nat.mul_one] at hx
    refine F8 hx hy h1 ht (A1C (by omega)) .hd (h2 [_] (.inr ⟨b, o, cap, _, e, rfl, rfl, h3, h4, by simpa using h5, by simpa using h6, ?_⟩))
    intro i w hi
    rw [List.getElem?_set] at hi ⊢
    by_cases hij : j = i
    · subst hij
      simp only [if_true] at hi ⊢
      simp at hi h6
      rw [if_pos (by omega)]
      rw [← hi.2]
    · rw [if_neg hij] at hi
      rw [if_neg (by omega)]
      exact h7 i w hi
theorem A05 {P : Program} {R : Mem} {l : Env} {d : Option Nat} {ty : TypeId} {pos : String} {af : Array Edge} {g : Option (Nat × Bool)} {fn : Fn} {ys xs : List Operand} {us vs : List Value} (hy : Evs l ys us) (hx : Evs l xs vs) :
    OpQ P R ⟨d, .makeFunc fn ys.toArray xs.toArray, ty, pos, af, g⟩ l (.func fn us.toArray vs.toArray) := fun N a w ha hw => by
  have e : xs.toArray.map a.eval = vs.toArray := by simp [hx.map ha]
  have e2 : ys.toArray.map a.eval = us.toArray := by simp [hy.map ha]
  simp only [execOp, e, e2]
  simp [Instr.makeFunc]
section call
variable {C : Cx} {l : Env} {M J : Mem} {K : Env → Mem → Mem → Prop} {d : Nat} {ty : TypeId} {pos : String} {af : Array Edge} {g : Option (Nat × Bool)} {x : Operand} {f : FuncId} {xs : List Operand} {us vs cs : List Value} {ts : Array TypeId}
theorem B07 {Mc R : Mem} {post : Value → Mem → Mem → Prop} (h0 : ev l x = some (.func (.func f) us.toArray cs.toArray)) (hx : Evs l xs vs) (hc : H2 C.P f = true)
    (hM : M.Perm (Mc ++ R)) (hf : FnX C.P f (us ++ vs ++ cs) Mc (R ++ (J ++ C.A)) post) (hd : Nat.blt d C.N = true) (k : ∀ v M' J', post v M' J' → K ((d, v) :: l) (M' ++ R) (J' ++ J)) :
    OpL C ⟨some d, .call { callee := .value x, args := xs.toArray, argTypes := ts }, ty, pos, af, g⟩ l M J K := by
  intro Qp a w ha hw
  have hrun : (execOp a.eval ⟨some d, .call { callee := .value x, args := xs.toArray, argTypes := ts }, ty, pos, af, g⟩).run C.P w = .ok (.enter f (us ++ vs ++ cs).toArray) w := by
    have e : xs.toArray.map a.eval = vs.toArray := by simp [hx.map ha]
    simp only [execOp, resolve, e, Sem.run_bind, ha.ev h0]
    simp [Deferred.ofValue, invoke, A3t hc]
  unfold Oper.wp
  rw [hrun]
  refine Calls.mono (hf w (hw.callee hM)) ?_
  rintro e w' ⟨v, M', J', rfl, hp, hs⟩
  exact ⟨_, _, _, ha.put (D5 hd) v, hw.back hM hs, k v M' J' hp⟩
theorem A87 {v : Value} (h0 : ev l x = some (.func (.func f) us.toArray cs.toArray)) (hx : Evs l xs vs) (hc : H2 C.P f = true) (hf : FnV C.P f (us ++ vs ++ cs) (M ++ (J ++ C.A)) v) (hd : Nat.blt d C.N = true) (k : K ((d, v) :: l) M J) :
    OpL C ⟨some d, .call { callee := .value x, args := xs.toArray, argTypes := ts }, ty, pos, af, g⟩ l M J K :=
  B07 (Mc := []) (R := M) h0 hx hc (.refl _) hf hd fun r M' J' ⟨e, h1, h2⟩ => by subst e; subst h1; subst h2; exact k
end call
theorem A88 {p : Nat → Bool} {n : Nat} : decide (A2K p n ≥ 0) = (List.range n).any p := by
  rcases A0k p n with ⟨h1, h2⟩ | ⟨i, h1, h2, h3, _⟩
  · rw [h1]
    symm
    rw [show decide ((-1 : Int) ≥ 0) = false from rfl, List.any_eq_false]
    intro j hj
    rw [h2 j (List.mem_range.1 hj)]; decide
  · rw [h2]
    symm
    rw [decide_eq_true (by omega), List.any_eq_true]
    exact ⟨i, List.mem_range.2 h1, h3⟩
theorem A40 {α : Type} (q : α → Bool) (l : List α) : (List.range l.length).any (fun j => (l[j]?.map q).getD false) = l.any q := by
  rw [Bool.eq_iff_iff, List.any_eq_true, List.any_eq_true]
  constructor
  · rintro ⟨j, hj, h⟩
    have hj := List.mem_range.1 hj
    rw [List.getElem?_eq_getElem hj] at h
    exact ⟨l[j], List.getElem_mem hj, h⟩
  · rintro ⟨x, hx, h⟩
    obtain ⟨j, hj⟩ := List.getElem?_of_mem hx
    exact ⟨j, List.mem_range.2 (List.getElem?_eq_some_iff.1 hj).1, by rw [hj]; exact h⟩
end Go.Px

namespace Go.Proofs.YtoameenjkiaefaaGreatDoor
open Go.Px
theorem A41 {P : Program} {f : FuncId} {args : List Value} {A A' : Mem} {v : Value} (h : FnV P f args A v) (hs : ∀ x, x ∈ A → x ∈ A') : FnV P f args A' v := by
  intro w hw
  refine Calls.mono (h w ⟨hw.os, hw.tape, hw.output, hw.size, hw.frame, fun b o hb => hw.mem b o (by simpa using hs _ (by simpa using hb)), hw.nodup, hw.own, hw.sepJ, fun b o hb => hw.sepA b o (hs _ hb), hw.old⟩) ?_
  rintro e w' ⟨r, M', J', rfl, ⟨rfl, rfl, rfl⟩, h2⟩
  refine ⟨_, [], [], rfl, ⟨rfl, rfl, rfl⟩, ⟨h2.os, h2.tape, h2.output, h2.size, h2.frame, fun b o hb => ?_, h2.nodup, h2.own, h2.sepJ, fun b o hb => hw.sepA b o hb, h2.old⟩⟩
  have hb' : (b, o) ∈ A' := by simpa using hb
  have h3 := h2.frame b (hw.sepA b o hb').2 qM
  rw [h3]
  exact hw.mem b o (by simpa using hb')
structure Pr where
  n : Nat
  sec : LN
  sig : LN
structure Nm where
  n : Nat
  id : LN
def prR (R : Mem) (x : Pr) (r : List Value) : Prop := ∃ vs vg, r = [(vU x.n), vs, vg] ∧ By R vs x.sec ∧ By R vg x.sig ∧ x.n < 4294967296
theorem prT : RowT 3 prR := ⟨fun R R' x r hR ⟨vo, vk, h1, h2, h3, h4⟩ => ⟨vo, vk, h1, h2.mono hR, h3.mono hR, h4⟩, fun R x r ⟨vo, vk, h1, _⟩ => by rw [h1]; rfl, fun R x r ⟨vo, vk, h1, h2, h3, _⟩ c hc => by
  rw [h1] at hc
  simp only [List.mem_cons, List.not_mem_nil, or_false] at hc
  rcases hc with rfl | rfl | rfl
  · rfl
  · exact h2.one
  · exact h3.one⟩
def nmR (R : Mem) (x : Nm) (r : List Value) : Prop := ∃ vi, r = [(vU x.n), vi] ∧ By R vi x.id ∧ x.n < 4294967296
theorem nmT : RowT 2 nmR := ⟨fun R R' x r hR ⟨vi, h1, h2, h4⟩ => ⟨vi, h1, h2.mono hR, h4⟩, fun R x r ⟨vi, h1, _⟩ => by rw [h1]; rfl, fun R x r ⟨vi, h1, h2, _⟩ c hc => by
  rw [h1] at hc
  simp only [List.mem_cons, List.not_mem_nil, or_false] at hc
  rcases hc with rfl | rfl
  · rfl
  · exact h2.one⟩
theorem eq32 (a b : Nat) : H8 .eql .u32 ((a : Nat) : Int) ((b : Nat) : Int) = some (.bool (decide (a = b))) := by
  by_cases h : a = b
  · rw [decide_eq_true h]; exact eqT qO
  · rw [decide_eq_false h]; exact eqF qO
theorem A3f (v : Value) (rows : List (List Value)) (f : FuncId) (cs : List Value) (p : Nat → Bool) (A : Mem) (hv : Rd A 3 v rows.length rows.flatten) (hl : ∀ r ∈ rows, r.length = 3) (hn : rows.length ≤ 1099511627776) (hc_ : H2 Tryz.prog f = true) (hf : ∀ (j : Nat) (r : List Value), rows[j]? = some r → FnV Tryz.prog f (.agg r.toArray :: cs) A (.bool (p j))) : FnV Tryz.prog 141 [v, .func (.func f) #[] cs.toArray] A (.int .i64 (A2K p rows.length)) := by
 haveI := hv.cel
 refine FnX.enter (N := 19) Tryz.func141 rfl rfl rfl fun w => ?_
 refine A8 (D0 0 1) (A1 (as_ (A0 (D0 0 1) (A6 (A1 (mv_ ?_))))))
 refine A2 (E2 (sz := 3) rfl kR hv) rfl ?_
 refine mv_ (A0 (F4 0 1 7 8) (C5 ?_))
 refine H0 (α := Nat) (fun i => [(0, v), (1, .func (.func f) #[] cs.toArray), (7, (vI rows.length)), (8, .int .i64 (i : Int))]) (fun _ => []) (fun _ => []) (fun i => i ≤ rows.length ∧ ∀ j, j < i → p j = false) (fun i => rows.length - i) 0 ⟨Nat.zero_le _, fun j h => absurd h (Nat.not_lt_zero j)⟩ (F4 0 1 7 8) .rfl qI ?_
 rintro i ⟨hi, hp⟩
 refine A1 ?_
 refine A2 (F3 rfl rfl rfl) rfl ?_
 refine A0 (G6 0 1 7 8 9) (A6 ?_)
 refine C3 rfl ?_ ?_ <;> intro hc
 ·
  have hlt : i < rows.length := by simp at hc; omega
  obtain ⟨r, hr⟩ : ∃ r, rows[i]? = some r := ⟨_, List.getElem?_eq_getElem hlt⟩
  refine A5 (nx (F4 0 1 7 8) (A6 (C5 (A1 (mv_ (as_ (A0 (G6 0 1 5 7 8) (A1 ?_))))))))
  refine mv_ (mv_ (mv_ ?_))
  refine A2 (F2 (sz := 3) rfl rfl kR rfl hv hlt) rfl ?_
  refine A2 (U4 rfl kR (hv.mono qS) hl qD hr) rfl ?_
  refine A4 rfl (X7 rfl (aS rfl a0) hc_ (hf i r hr) rfl ?_)
  refine A0 (I7 0 1 5 7 8 16) ?_
  refine C3 rfl ?_ ?_ <;> intro hc
  ·
   refine A1 (mv_ (as_ (A0 (C7 4) (A7 (br (tr (rr (br ?_))))))))
   refine tr ?_
   exact ⟨_, [], [], F7 rfl rfl, List.nil_sublist _, by simp, by rw [U9 hlt hp hc], rfl, rfl⟩
  ·
   refine A5 (nb (nx (F4 0 1 7 8) (C6 ?_)))
   refine A2 (G9 (b := 1) rfl rfl rfl rfl qO) rfl ?_
   refine mv_ (E1 ?_)
   exact rn (i + 1) ⟨hlt, fun j hj => by rcases Nat.lt_succ_iff_lt_or_eq.1 hj with h | h; exact hp j h; rw [h]; exact hc⟩ qO (F4 0 1 7 8) .rfl qI
 ·
  have hge : i = rows.length := by simp at hc; omega
  subst hge
  refine G4 (te (re (be rfl (nx kn (A1 (as_ (A0 (C7 4) ?_)))))))
  refine A7 ?_
  exact ⟨_, [], [], F7 rfl rfl, List.nil_sublist _, by simp, by rw [V0 hp], rfl, rfl⟩
theorem A7m (v : Value) (rows : List (List Value)) (f : FuncId) (cs : List Value) (p : Nat → Bool) (A : Mem) (hv : Rd A 2 v rows.length rows.flatten) (hl : ∀ r ∈ rows, r.length = 2) (hn : rows.length ≤ 1099511627776) (hc_ : H2 Tryz.prog f = true) (hf : ∀ (j : Nat) (r : List Value), rows[j]? = some r → FnV Tryz.prog f (.agg r.toArray :: cs) A (.bool (p j))) : FnV Tryz.prog 140 [v, .func (.func f) #[] cs.toArray] A (.int .i64 (A2K p rows.length)) := by
 haveI := hv.cel
 refine FnX.enter (N := 19) Tryz.func140 rfl rfl rfl fun w => ?_
 refine A8 (D0 0 1) (A1 (as_ (A0 (D0 0 1) (A6 (A1 (mv_ ?_))))))
 refine A2 (E2 (sz := 2) rfl kR hv) rfl ?_
 refine mv_ (A0 (F4 0 1 7 8) (C5 ?_))
 refine H0 (α := Nat) (fun i => [(0, v), (1, .func (.func f) #[] cs.toArray), (7, (vI rows.length)), (8, .int .i64 (i : Int))]) (fun _ => []) (fun _ => []) (fun i => i ≤ rows.length ∧ ∀ j, j < i → p j = false) (fun i => rows.length - i) 0 ⟨Nat.zero_le _, fun j h => absurd h (Nat.not_lt_zero j)⟩ (F4 0 1 7 8) .rfl qI ?_
 rintro i ⟨hi, hp⟩
 refine A1 ?_
 refine A2 (F3 rfl rfl rfl) rfl ?_
 refine A0 (G6 0 1 7 8 9) (A6 ?_)
 refine C3 rfl ?_ ?_ <;> intro hc
 ·
  have hlt : i < rows.length := by simp at hc; omega
  obtain ⟨r, hr⟩ : ∃ r, rows[i]? = some r := ⟨_, List.getElem?_eq_getElem hlt⟩
  refine A5 (nx (F4 0 1 7 8) (A6 (C5 (A1 (mv_ (as_ (A0 (G6 0 1 5 7 8) (A1 ?_))))))))
  refine mv_ (mv_ (mv_ ?_))
  refine A2 (F2 (sz := 2) rfl rfl kR rfl hv hlt) rfl ?_
  refine A2 (U4 rfl kR (hv.mono qS) hl qD hr) rfl ?_
  refine A4 rfl (X7 rfl (aS rfl a0) hc_ (hf i r hr) rfl ?_)
  refine A0 (I7 0 1 5 7 8 16) ?_
  refine C3 rfl ?_ ?_ <;> intro hc
  ·
   refine A1 (mv_ (as_ (A0 (C7 4) (A7 (br (tr (rr (br ?_))))))))
   refine tr ?_
   exact ⟨_, [], [], F7 rfl rfl, List.nil_sublist _, by simp, by rw [U9 hlt hp hc], rfl, rfl⟩
  ·
   refine A5 (nb (nx (F4 0 1 7 8) (C6 ?_)))
   refine A2 (G9 (b := 1) rfl rfl rfl rfl qO) rfl ?_
   refine mv_ (E1 ?_)
   exact rn (i + 1) ⟨hlt, fun j hj => by rcases Nat.lt_succ_iff_lt_or_eq.1 hj with h | h; exact hp j h; rw [h]; exact hc⟩ qO (F4 0 1 7 8) .rfl qI
 ·
  have hge : i = rows.length := by simp at hc; omega
  subst hge
  refine G4 (te (re (be rfl (nx kn (A1 (as_ (A0 (C7 4) ?_)))))))
  refine A7 ?_
  exact ⟨_, [], [], F7 rfl rfl, List.nil_sublist _, by simp, by rw [V0 hp], rfl, rfl⟩
theorem K6 (v : Value) (w : LN) (A : Mem) (h : By A v w) : FnX Tryz.prog 47 [v] [] A fun r M J => M = [] ∧ By J r w := by
 haveI := h.cel
 have hwl := h.len
 refine FnX.enterZ (N := 8) Tryz.func47 rfl rfl rfl fun w_ => ?_
 refine A8 (C7 0) (A1 (as_ (A0 (C7 0) (A6 (A1 (mv_ ?_))))))
 refine A2 (Z2 (e := 5) rfl kR (by first | assumption | exact Sl.rd (by assumption) qI | exact By.rd (by assumption))) rfl ?_
 refine A0 (D0 0 4) ?_
 refine C3 rfl ?_ ?_ <;> intro hc
 ·
  have h0 := h.rd.isNil hc
  obtain rfl : w = [] := List.eq_nil_of_length_eq_zero h0
  refine A1 (as_ (A0 (C7 2) (A7 (tr ?_))))
  exact ⟨_, [], [], F7 rfl rfl, qZ, rfl, By.nil⟩
 ·
  refine A5 (nx (C7 0) (A1 ?_))
  refine A4 rfl (C4 (e := 5) (sz := 1) (z := []) kR e0 bd0 rfl fun b5 => ?_)
  refine mv_ ?_
  refine A4 rfl (F6 (e := 5) (sz := 1) (by_ := 1) rfl rfl kR rfl (Sl.fresh (n := 0) (cs := []) (e := 5) rfl qD) (h.rd.mono qS) T1 qP (by unfold maxLen; omega) qO rfl fun v7 B7 hs7 => ?_)
  refine as_ (A0 (C7 2) (A7 ?_))
  exact ⟨_, [], B7, F7 rfl rfl, Fit.pick qP qZ, rfl, ⟨A5r (hs7.rd fun x hx => by simp [hx]) qO qM, h.lt, h.len⟩⟩
theorem V2 (va vb : Value) (a b : LN) (A : Mem) (ha : By A va a) (hb : By A vb b) : FnV Tryz.prog 66 [va, vb] A (.bool (decide (a = b))) := by
 haveI := ha.cel
 haveI := hb.cel
 refine FnX.enter (N := 10) Tryz.func66 rfl rfl rfl fun w => ?_
 refine A8 (D0 0 1) (A1 (as_ (A0 (D0 0 1) (A1 (mv_ ?_)))))
 refine A2 (Q3 rfl kR (ha.rd.mono qS)) rfl ?_
 refine mv_ ?_
 refine A2 (Q3 rfl kR (hb.rd.mono qS)) rfl ?_
 refine A2 (B0x rfl rfl rfl rfl ha.lt hb.lt) rfl ?_
 refine as_ (A0 (C7 4) (A7 ?_))
 exact ⟨_, [], [], F7 rfl rfl, List.nil_sublist _, by simp, rfl, rfl, rfl⟩
theorem B08 {k : IntKind} (c : Int) : H8 .geq k c 0 = some (.bool (decide (0 ≤ c))) := by
  by_cases h : 0 ≤ c
  · rw [decide_eq_true h]; exact geT h
  · rw [decide_eq_false h]; exact geF qO
theorem A3V (v : Value) (rows : List (List Value)) (f : FuncId) (cs : List Value) (p : Nat → Bool) (A : Mem) (hv : Rd A 3 v rows.length rows.flatten) (hl : ∀ r ∈ rows, r.length = 3) (hn : rows.length ≤ 1099511627776) (hc_ : H2 Tryz.prog f = true) (hf : ∀ (j : Nat) (r : List Value), rows[j]? = some r → FnV Tryz.prog f (.agg r.toArray :: cs) A (.bool (p j))) : FnV Tryz.prog 104 [v, .func (.func f) #[] cs.toArray] A (.bool (decide (0 ≤ A2K p rows.length))) := by
 haveI := hv.cel
 refine FnX.enter (N := 9) Tryz.func104 rfl rfl rfl fun w => ?_
 refine A8 (D0 0 1) (A1 (as_ (A0 (D0 0 1) (A1 (mv_ (mv_ ?_))))))
 refine D7 (aS rfl (aS rfl a0)) kR (A3f v rows f cs p _ (hv.mono qS) hl hn hc_ (fun j r hr => A41 (hf j r hr) qS)) rfl ?_
 refine A2 (F0 (decide (0 ≤ A2K p rows.length)) rfl rfl (B08 _)) rfl ?_
 refine as_ (A0 (C7 4) (A7 ?_))
 exact ⟨_, [], [], F7 rfl rfl, List.nil_sublist _, by simp, rfl, rfl, rfl⟩
theorem A7n (vs vg : Value) (x : Pr) (n b : Nat) (A : Mem) (hs : By A vs x.sec) (hg : By A vg x.sig) (hb : (b, blk [(vU n)] 31) ∈ A) : FnV Tryz.prog 184 [.agg #[(vU x.n), vs, vg], (vP b)] A (.bool (decide (x.n = n))) := by
 haveI := hs.cel
 haveI := hg.cel
 refine FnX.enter (N := 8) Tryz.func184 rfl rfl rfl fun w => ?_
 refine A8 (D0 0 1) (A1 ?_)
 refine A4 rfl (bx_ fun b2 => ?_)
 refine as_ (A0 (D0 1 2) (A1 ?_))
 refine A2 (qf_ 0 0) rfl ?_
 refine A2 ql_ rfl ?_
 refine A2 (G3 rfl kR (mA hb) qR) rfl ?_
 refine A2 (F0 (decide (x.n = n)) rfl rfl (eq32 _ _)) rfl ?_
 refine as_ (A0 (C7 3) (A7 ?_))
 exact ⟨_, [], [], F7 rfl rfl, List.nil_sublist _, by simp, rfl, rfl, rfl⟩
theorem A5G (vs vg vi : Value) (x : Pr) (n b : Nat) (A : Mem) (hs : By A vs x.sec) (hg : By A vg x.sig) (hvi : Cel vi [vi]) (hb : (b, blk [(vU n), vi] 174) ∈ A) : FnV Tryz.prog 105 [.agg #[(vU x.n), vs, vg], (vP b)] A (.bool (decide (x.n = n))) := by
 haveI := hs.cel
 haveI := hg.cel
 refine FnX.enter (N := 9) Tryz.func105 rfl rfl rfl fun w => ?_
 refine A8 (D0 0 1) (A1 ?_)
 refine A4 rfl (bx_ fun b2 => ?_)
 refine as_ (A0 (D0 1 2) (A1 ?_))
 refine A2 (qf_ 0 0) rfl ?_
 refine A2 ql_ rfl ?_
 refine A2 (qf_ 0 0) rfl ?_
 refine A2 (G3 rfl kR (mA hb) qR) rfl ?_
 refine A2 (F0 (decide (x.n = n)) rfl rfl (eq32 _ _)) rfl ?_
 refine as_ (A0 (C7 3) (A7 ?_))
 exact ⟨_, [], [], F7 rfl rfl, List.nil_sublist _, by simp, rfl, rfl, rfl⟩

end Go.Proofs.YtoameenjkiaefaaGreatDoor
