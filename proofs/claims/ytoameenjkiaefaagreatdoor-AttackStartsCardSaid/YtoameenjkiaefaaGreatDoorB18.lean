/- Part 18 of the texts of this claim, one behind the other. -/
import Derived.Test.YtoameenjkiaefaaGreatDoorB17
set_option linter.unusedVariables false
set_option linter.unusedSimpArgs false
set_option maxRecDepth 100000
namespace Go.Proofs.YtoameenjkiaefaaGreatDoor
open Go.Px
def SkW (s : Ps) (x : Skp) : Prop := KK s x.key ∧ x.of.length = 32 ∧ x.n < 4294967296
structure WfR (s : Ps) (r : Rsd) : Prop where
  own : KK s r.own
  root : KK s r.root
  sk : r.sk = [] ∨ KK s r.sk
  tk : r.tk = [] ∨ KK s r.tk
  th : r.their = [] ∨ ∃ b, K32 b ∧ K8 s b r.their
  sks : ∀ x ∈ r.sks, SkW s x
  tt : r.tk ≠ [] → r.their ≠ []
theorem SkW.ext {s s' : Ps} {x : Skp} (h : SkW s x) (he : Pext s s') : SkW s' x := ⟨h.1.ext he, h.2⟩
theorem WfR.ext {s s' : Ps} {r : Rsd} (h : WfR s r) (he : Pext s s') : WfR s' r :=
  ⟨h.own.ext he, h.root.ext he, h.sk.imp id fun k => k.ext he, h.tk.imp id fun k => k.ext he, h.th.imp id fun ⟨b, k, p⟩ => ⟨b, k, p.ext he⟩, fun x hx => (h.sks x hx).ext he, h.tt⟩
theorem A6U {sks : List Skp} {of : LN} {n : Nat} {x : Skp} (h : x ∈ A3p sks of n) : x ∈ sks := by
  unfold A3p at h
  split at h
  · exact h
  · exact List.mem_of_mem_eraseIdx h
theorem B1R {sks : List Skp} {x y : Skp} (h : y ∈ B2U sks x) : y ∈ sks ∨ y = x := by
  rcases List.mem_append.1 (List.mem_of_mem_drop (show y ∈ (A3p sks x.of x.n ++ [x]).drop _ from h)) with h | h
  · exact .inl (A6U h)
  · exact .inr (List.mem_singleton.1 h)
theorem B1S {sks : List Skp} {of k : LN} {n : Nat} (h : A4d sks of n = some k) : ∃ x ∈ sks, x.key = k := by
  unfold A4d at h
  split at h
  · cases h
  · obtain ⟨x, h1, h2⟩ := Option.map_eq_some_iff.1 h
    exact ⟨x, List.mem_of_getElem? h1, h2⟩
theorem B1T {hk : LN} (h : ∀ x ∈ hk, x < 256) (p n : Nat) : ∀ x ∈ A4i hk p n, x < 256 := fun x hx => by
  unfold A4i at hx
  simp only [List.mem_append] at hx
  rcases hx with ((h1 | h1) | h1) | h1
  · exact Y5 _ _ x h1
  · exact h x h1
  · exact Y5 _ _ x h1
  · exact Y5 _ _ x h1
theorem B21 {w hk : LN} (hw : ∀ x ∈ w, x < 256) (h : ∀ x ∈ hk, x < 256) (p n : Nat) : ∀ x ∈ alW w hk p n, x < 256 := fun x hx => by
  unfold alW A3q at hx
  simp only [List.mem_append] at hx
  rcases hx with ((h1 | h1) | h1) | h1
  · exact Y5 _ _ x h1
  · exact hw x h1
  · exact Y5 _ _ x h1
  · exact B1T h p n x h1
theorem B0a (w hk : LN) (p n : Nat) : (alW w hk p n).length = w.length + hk.length + 20 := by unfold alW; rw [A1p, A1b]; omega
theorem A7I (K N wa p : LN) : (A3a K N wa p).length = p.length + 16 := by unfold A3a; rw [List.length_append, B0R, A8G]
theorem B1U (s : Ps) (w a b : LN) : (B2X s w a b).length ≤ b.length + 32 := by
  unfold B2X
  split
  · rw [A7I]; omega
  · unfold A8M; rw [show (bts _).length = 32 from W3 _ qD]; omega
structure Snt (s : Ps) (hk : LN) (hp hn : Nat) (g : LN) : Prop where
  pub : ∃ b, K32 b ∧ K8 s b hk
  hp : hp < 4294967296
  hn : hn < 4294967296
  gl : g.length ≤ 1000
theorem Snt.ext {s s' : Ps} {hk : LN} {hp hn : Nat} {g : LN} (h : Snt s hk hp hn g) (he : Pext s s') : Snt s' hk hp hn g := by
  obtain ⟨⟨b, h1, h2⟩, h3, h4, h5⟩ := h
  exact ⟨⟨b, h1, h2.ext he⟩, h3, h4, h5⟩
theorem A6V (s : Ps) (r : Rsd) (w t : LN) : (A2T s r w t).ts.length ≤ s.ts.length + 7 ∧ (A2T s r w t).n = s.n := by
  have h1 := A4f s r.own
  have h2 := X2 (G1 s r.own) r.sk
  have h3 := A6R (R9 (G1 s r.own) r.sk) (T4 (G1 s r.own) r.sk) (A5j s r w) t
  have h4 := B8t s r.own
  unfold A2T
  exact ⟨by omega, by omega⟩
theorem B8H {s : Ps} {r : Rsd} {w t : LN} (h : GS s) (hr : WfR s r) (hsk : r.sk ≠ []) (hp : r.prev < 4294967296) (hn : r.sn < 4294967296) (hw : ∀ x ∈ w, x < 256) (hwl : w.length ≤ 1000) (ht : ∀ x ∈ t, x < 256) (htl : t.length ≤ 900) (hl : s.ts.length ≤ 1020000) :
    GS (A2T s r w t) ∧ Ext s (A2T s r w t) ∧ WfR (A2T s r w t) (P1 s r) ∧ K8 (A2T s r w t) r.own (I5 s r.own) ∧ Snt (A2T s r w t) (I5 s r.own) r.prev r.sn (A4m s r w t) ∧ A1f (A2T s r w t) r.sk (T4 (G1 s r.own) r.sk) (A2S (G1 s r.own) r.sk) ∧ KK (A2T s r w t) (T4 (G1 s r.own) r.sk) ∧
    (∀ s', GS s' → Pext (A2T s r w t) s' → s'.ts.length ≤ 1048576 → A1d s' (T4 (G1 s r.own) r.sk) (alW w (I5 s r.own) r.prev r.sn) (A4m s r w t) = some t) := by
  have hk : KK s r.sk := hr.sk.resolve_left hsk
  have l1 := A4f s r.own
  obtain ⟨g1, p1⟩ := B49 h hr.own qO
  have e1 := Y4 s r.own
  obtain ⟨g2, k2, k3, sa⟩ := A6Q (c := r.sk) g1 (hk.ext e1.p) qO
  have e2 := A5V (G1 s r.own) r.sk
  have l2 := X2 (G1 s r.own) r.sk
  have hal : ∀ x ∈ A5j s r w, x < 256 := B21 hw p1.k32.1 _ _
  have hall : (A5j s r w).length = w.length + 32 + 20 := by rw [← p1.k32.2]; exact B0a _ _ _ _
  have g3 := B8y (a := A5j s r w) (b := t) g2 k2 hal ht qO qO qO
  have e3 := B7a (R9 (G1 s r.own) r.sk) (T4 (G1 s r.own) r.sk) (A5j s r w) t
  have l3 := A6R (R9 (G1 s r.own) r.sk) (T4 (G1 s r.own) r.sk) (A5j s r w) t
  have eA : Ext s (A2T s r w t) := e1.trans (e2.trans e3)
  have g3' : GS (A2T s r w t) := g3
  have p3 : K8 (A2T s r w t) r.own (I5 s r.own) := p1.ext (e2.trans e3).p
  refine ⟨g3', eA, ?_, p3, ⟨⟨_, hr.own.2, p3⟩, hp, hn, ?_⟩, ?_, k2.ext e3.p, ?_⟩
  · have h' := hr.ext eA.p
    exact ⟨h'.own, h'.root, .inr (k3.ext e3.p), h'.tk, h'.th, h'.sks, h'.tt⟩
  · have := B1U (R9 (G1 s r.own) r.sk) (T4 (G1 s r.own) r.sk) (A5j s r w) t
    unfold A4m; omega
  · have := A6V s r w t
    exact sa.ext e3.p g2 g3 (show (A2T s r w t).ts.length ≤ _ by omega)
  · intro s' g' e' l'
    exact B4P g2.tok k2.1 hal ht (Nat.le_trans (Nat.le_of_eq hall) qO) qO e' g'.tok l'
theorem B7m {of : LN} (ho : of.length = 32) : ∀ (i : Nat) {x : Ast}, GS x.1 → KK x.1 x.2.1 → (∀ y ∈ x.2.2.2, SkW x.1 y) → x.2.2.1 + i < 4294967296 → x.1.ts.length + 3 * i ≤ 1020000 →
    GS (rep (aSt of) i x).1 ∧ Ext x.1 (rep (aSt of) i x).1 ∧ KK (rep (aSt of) i x).1 (rep (aSt of) i x).2.1 ∧ ∀ y ∈ (rep (aSt of) i x).2.2.2, SkW (rep (aSt of) i x).1 y
  | 0, x, h1, h2, h3, _, _ => ⟨h1, Ext.refl _, h2, h3⟩
  | i + 1, x, h1, h2, h3, hn, hl => by
    obtain ⟨g1, g2, g3, g4⟩ := B7m ho i h1 h2 h3 qO qO
    have hts := A9L of i x
    have hnn := B1H of i x
    have e1 := A5V (rep (aSt of) i x).1 (rep (aSt of) i x).2.1
    obtain ⟨a1, a2, a3, -⟩ := A6Q g1 g3 qO
    refine ⟨a1, g2.trans e1, a3, fun y hy => ?_⟩
    rcases B1R (show y ∈ B2U (rep (aSt of) i x).2.2.2 ⟨of, (rep (aSt of) i x).2.2.1, T4 (rep (aSt of) i x).1 (rep (aSt of) i x).2.1⟩ from hy) with hy | rfl
    · exact (g4 y hy).ext e1.p
    · exact ⟨a2, ho, by show (rep (aSt of) i x).2.2.1 < _; omega⟩
theorem B7n {s : Ps} {key of : LN} {N n : Nat} {sks : List Skp} (h : GS s) (hk : KK s key) (ho : of.length = 32) (hs : ∀ y ∈ sks, SkW s y) (hn : n < 4294967296) (hl : s.ts.length ≤ 1010000) :
    GS (ahX s key N n of sks).1 ∧ Ext s (ahX s key N n of sks).1 ∧ KK (ahX s key N n of sks).1 (ahX s key N n of sks).2.1 ∧ ∀ y ∈ (ahX s key N n of sks).2.2.2, SkW (ahX s key N n of sks).1 y := by
  by_cases hE : ahE N n = 0
  · obtain ⟨h1, h2⟩ := A9S hE
    rw [A4j hE]
    exact B7m ho (n - N) (x := (s, key, N, sks)) h hk hs (by dsimp only; omega) (by dsimp only; omega)
  · rw [A9T hE]
    exact ⟨h, Ext.refl _, hk, hs⟩
theorem B8I {s : Ps} {r : Rsd} {w hk g : LN} {hp hn : Nat} (h : GS s) (hr : WfR s r) (hm : Snt s hk hp hn g) (tn : r.tn < 4294967296) (sn : s.n < 1000000000) (hsl : r.sks.length ≤ 1000) (hl : s.ts.length ≤ 1000000) :
    OpnH s r hk hp hn ∧ GS (Q1 s r w hk hp hn g).1 ∧ Ext s (Q1 s r w hk hp hn g).1 ∧ WfR (Q1 s r w hk hp hn g).1 (Q1 s r w hk hp hn g).2.1 ∧ (Q1 s r w hk hp hn g).1.ts.length ≤ s.ts.length + 200 ∧ (Q1 s r w hk hp hn g).1.n ≤ s.n + 1 ∧ (Q1 s r w hk hp hn g).2.1.sks.length ≤ 1000 ∧ (r.their ≠ [] → (Q1 s r w hk hp hn g).2.1.their ≠ []) := by
  obtain ⟨b, hb, hB⟩ := hm.pub
  have kB := hB.kk
  have hkn : hk ≠ [] := fun e => by have := kB.2.2; rw [e] at this; cases this
  -- the first half
  have hA : GS (opA s r hp).1 ∧ Ext s (opA s r hp).1 ∧ (∀ y ∈ (opA s r hp).2.2.2, SkW (opA s r hp).1 y) := by
    by_cases h0 : r.tk = []
    · rw [A9W h0]; exact ⟨h, Ext.refl _, hr.sks⟩
    · rw [A5T h0]
      obtain ⟨b', hb', hB'⟩ := hr.th.resolve_left (hr.tt h0)
      obtain ⟨x1, x2, x3, x4⟩ := B7n (N := r.tn) (n := hp) h (hr.tk.resolve_left h0) hB'.k32.2 hr.sks hm.hp qO
      exact ⟨x1, x2, x4⟩
  obtain ⟨a1, a2, a3⟩ := hA
  have lA := B44 s r hp tn hm.hp hsl
  have lT := A1S (opA s r hp).1 r.root r.own hk
  obtain ⟨t1, t2, t3, -⟩ := B5a a1 (hr.root.ext a2.p) (hr.own.ext a2.p) (hB.ext a2.p) hb qO
  have tE := A93 (opA s r hp).1 r.root r.own hk
  have hBx : ∀ x, opB s r hk hp = x → GS x.1 ∧ Ext s x.1 ∧ KK x.1 x.2.root ∧ KK x.1 x.2.tk ∧ (∃ b, K32 b ∧ K8 x.1 b x.2.their) ∧ (∀ y ∈ x.2.sks, SkW x.1 y) ∧ x.2.tn < 4294967296 ∧ x.2.sks.length ≤ 1000 ∧ x.1.ts.length ≤ s.ts.length + 55 ∧ x.1.n = s.n := by
    intro x hx
    subst hx
    cases hf : A1e r hk with
    | true =>
      rw [B1L hf]
      exact ⟨t1, a2.trans tE, t2, t3, ⟨b, hb, (hB.ext a2.p).ext tE.p⟩, fun y hy => (a3 y hy).ext tE.p, (show 0 < 4294967296 by decide), lA.2.2.2, by show (A4h _ _ _ _).ts.length ≤ _; omega, lT.2.trans lA.2.1⟩
    | false =>
      rw [B4Y hf]
      have htk : r.tk ≠ [] := fun e => by unfold A1e at hf; rw [e] at hf; simp at hf
      exact ⟨h, Ext.refl _, hr.root, hr.tk.resolve_left htk, hr.th.resolve_left (hr.tt htk), hr.sks, tn, hsl, by dsimp only; omega, rfl⟩
  obtain ⟨x, hx⟩ : ∃ x, opB s r hk hp = x := ⟨_, rfl⟩
  obtain ⟨b1, b2, b3, b4, ⟨bt, bt1, bt2⟩, b6, b7, b8, b9, b10⟩ := hBx x hx
  have hC := B7n (N := x.2.tn) (n := hn) b1 b4 bt2.k32.2 b6 hm.hn qO
  have lC := B4V x.1 x.2.tk x.2.tn hn x.2.their x.2.sks b7 hm.hn b8
  change GS (opC x hn).1 ∧ Ext x.1 (opC x hn).1 ∧ KK (opC x hn).1 (opC x hn).2.1 ∧ ∀ y ∈ (opC x hn).2.2.2, SkW (opC x hn).1 y at hC
  change (opC x hn).1.ts.length ≤ _ ∧ (opC x hn).1.n = _ ∧ (opC x hn).2.2.1 < _ ∧ (opC x hn).2.2.2.length ≤ _ at lC
  obtain ⟨c1, c2, c3, c4⟩ := hC
  obtain ⟨d1, d2, d3, -⟩ := A6Q c1 c3 qO
  have dE := A5V (opC x hn).1 (opC x hn).2.1
  have dL := X2 (opC x hn).1 (opC x hn).2.1
  have hD : Ext s (opD x hn) := b2.trans (c2.trans dE)
  have hW : WfR (opD x hn) (opG r x hn) := by
    have h' := hr.ext hD.p
    exact ⟨h'.own, b3.ext (c2.trans dE).p, h'.sk, .inr d3, .inr ⟨bt, bt1, bt2.ext (c2.trans dE).p⟩, fun y hy => (c4 y hy).ext dE.p, fun _ e => by have e2 : x.2.their = [] := e; have := bt2.k32.2; rw [e2] at this; cases this⟩
  obtain ⟨f1, f2⟩ := A9Z (s := opD x hn) d1 (by show (R9 _ _).n < _; omega)
  have fE := X9 (opD x hn)
  have fL := A4e (opD x hn)
  have lT2 := A1S (D4 (opD x hn)) x.2.root (D9 (opD x hn)) x.2.their
  have lD : (opD x hn).ts.length ≤ s.ts.length + 110 ∧ (opD x hn).n = s.n := by
    show (R9 _ _).ts.length ≤ _ ∧ (R9 _ _).n = _
    exact ⟨by omega, by omega⟩
  obtain ⟨u1, u2, u3, -⟩ := B5a f1 ((b3.ext (c2.trans dE).p).ext fE.p) f2 ((bt2.ext (c2.trans dE).p).ext fE.p) bt1 qO
  have uE := A93 (D4 (opD x hn)) x.2.root (D9 (opD x hn)) x.2.their
  have hO : OpnH s r hk hp hn := ⟨h.sel, fun k hk_ => by obtain ⟨y, hy, rfl⟩ := B1S hk_; exact (hr.sks y hy).1.1, by rw [hx]; exact d1.sel, by rw [hx]; exact d2.1⟩
  refine ⟨hO, ?_⟩
  have hsame : GS s ∧ Ext s s ∧ WfR s r ∧ s.ts.length ≤ s.ts.length + 200 ∧ s.n ≤ s.n + 1 ∧ r.sks.length ≤ 1000 ∧ (r.their ≠ [] → r.their ≠ []) := ⟨h, Ext.refl _, hr, by omega, by omega, hsl, id⟩
  have hth : x.2.their ≠ [] := fun e => by have := bt2.k32.2; rw [e] at this; cases this
  unfold Q1
  split
  · split
    · exact hsame
    · exact ⟨h, Ext.refl _, ⟨hr.own, hr.root, hr.sk, hr.tk, hr.th, fun y hy => hr.sks y (A6U hy), hr.tt⟩, by dsimp only; omega, by dsimp only; omega, Nat.le_trans (A4c _ _ _) hsl, id⟩
  · split
    · exact ⟨a1, a2, hr.ext a2.p, by dsimp only; omega, by dsimp only; omega, hsl, id⟩
    · rw [hx]
      split
      · exact ⟨c1, b2.trans c2, hr.ext (b2.trans c2).p, by dsimp only; omega, by dsimp only; omega, hsl, id⟩
      · split
        · exact ⟨d1, hD, hr.ext hD.p, by dsimp only; omega, by dsimp only; omega, hsl, id⟩
        · cases hf : A1e r hk with
          | false =>
            rw [B60 rfl]
            exact ⟨d1, hD, hW, by dsimp only; omega, by dsimp only; omega, lC.2.2.2, fun _ => hth⟩
          | true =>
            rw [B4Z rfl]
            have hW2 := hW.ext (fE.trans uE).p
            refine ⟨u1, hD.trans (fE.trans uE), ⟨f2.ext uE.p, u2, .inr u3, hW2.tk, hW2.th, hW2.sks, hW2.tt⟩, ?_, ?_, lC.2.2.2, fun _ => hth⟩
            · show (A4h (D4 (opD x hn)) x.2.root (D9 (opD x hn)) x.2.their).ts.length ≤ _
              omega
            · show (A4h (D4 (opD x hn)) x.2.root (D9 (opD x hn)) x.2.their).n ≤ _
              omega

theorem B1V {ts : List Tm} (L : List (LN × LN)) (h : (ts.all fun t => t.kind != 6 || (t.n == 0 && t.of.length == 1 && L.any fun ab => t.text == mark ab.1 ++ mark ab.2 && ab.2.all (· < 256) && decide (ab.2.length ≤ 16777216))) = true) : S0 ts := by
  intro t ht hk
  have h1 := List.all_eq_true.1 h t ht
  simp only [Bool.or_eq_true, bne_iff_ne, ne_eq, hk, not_true_eq_false, false_or, Bool.and_eq_true, beq_iff_eq, List.any_eq_true, List.all_eq_true, decide_eq_true_eq] at h1
  obtain ⟨⟨h2, h3⟩, ab, -, ⟨h4, h5⟩, h6⟩ := h1
  obtain ⟨k, of, tx, n⟩ := t
  obtain ⟨x, rfl⟩ := List.length_eq_one_iff.1 h3
  cases h2; cases hk; cases h4
  exact ⟨x, ab.1, ab.2, rfl, h5, h6⟩
def tmB (t : Tm) : Bool := Nat.blt t.kind 256 && decide (-9223372036854775808 ≤ t.n) && decide (t.n ≤ 9223372036854775807) && (t.of.all fun i => decide (-9223372036854775808 ≤ i) && decide (i ≤ 9223372036854775807)) && decide (t.of.length ≤ 1048576) && (t.text.all (· < 256)) && decide (t.text.length ≤ 1099511627776)
def tmE (a b : Tm) : Bool := a.kind == b.kind && a.of == b.of && a.text == b.text && a.n == b.n
def ndB : List Tm → Bool
  | [] => true
  | t :: r => (r.all fun u => !tmE t u) && ndB r
theorem B7o : ∀ {ts : List Tm}, ndB ts = true → ts.Nodup
  | [], _ => List.nodup_nil
  | t :: r, h => by
    simp only [ndB, Bool.and_eq_true, List.all_eq_true] at h
    refine List.nodup_cons.2 ⟨fun hm => ?_, B7o h.2⟩
    have := h.1 t hm
    simp [tmE] at this
theorem B23 {ts : List Tm} (h : (ts.all tmB && ndB ts) = true) : Tok ts := by
  simp only [Bool.and_eq_true, List.all_eq_true] at h
  refine ⟨fun t ht => ?_, B7o h.2⟩
  have h1 := h.1 t ht
  simp only [tmB, Bool.and_eq_true, decide_eq_true_eq, List.all_eq_true] at h1
  obtain ⟨⟨⟨⟨⟨⟨a, b⟩, c⟩, d⟩, e⟩, f⟩, g⟩ := h1
  exact ⟨D5 a, ⟨b, c⟩, d, e, ⟨f⟩, g⟩
def B7I (hk : LN) (k : Nat → LN) (sks : List Skp) : Nat → List Skp
  | 0 => sks
  | i + 1 => B2U (B7I hk k sks i) ⟨hk, i, k i⟩
theorem B24 {s : Ps} {hk : LN} {c k : Nat → LN} {sks : List Skp} : ∀ (i : Nat), (∀ j, j < i → A1f s (c j) (k j) (c (j + 1))) → rep (aSt hk) i (s, c 0, 0, sks) = (s, c i, i, B7I hk k sks i)
  | 0, _ => rfl
  | i + 1, h => by
    show aSt hk (rep (aSt hk) i (s, c 0, 0, sks)) = _
    rw [B24 i fun j hj => h j qO]
    obtain ⟨e1, e2, e3⟩ := (h i qO).eq
    unfold aSt
    dsimp only
    rw [e1, e2, e3]
    rfl
theorem B5k {s : Ps} {r : Rsd} {w hk b R C g t : LN} {hp n : Nat} {c k : Nat → LN} (hg : GS s) (hl : s.ts.length ≤ 1000000) (h0 : A4d r.sks hk n = none) (hfr : A1e r hk = true) (hA : opA s r hp = (s, r.tk, r.tn, r.sks)) (hAE : A7O r hp = 0) (ta : TrnAt s r.root r.own b R C) (hB : K8 s b hk)
    (hc : c 0 = C) (h16 : n ≤ 16) (hst : ∀ j, j ≤ n → A1f s (c j) (k j) (c (j + 1))) (ho : A1d s (k n) (alW w hk hp n) g = some t) :
    Q1 s r w hk hp n g = (A4h (D4 s) R (D9 s) hk, ⟨D9 s, hk, B1I (D4 s) R (D9 s) hk, B1J (D4 s) R (D9 s) hk, 0, c (n + 1), n + 1, r.sn, B7I hk k r.sks n⟩, 0, t) := by
  obtain ⟨e1, e2, e3⟩ := ta.eq hB hg qO
  have hx : opB s r hk hp = (s, ⟨r.own, hk, R, r.sk, r.sn, C, 0, r.prev, r.sks⟩) := by
    rw [B1L hfr, hA]
    unfold B7H
    dsimp only
    rw [e1, e2, e3]
  have hE : ahE 0 n = 0 := B4U (Nat.zero_le _) qO
  have hC : opC (s, (⟨r.own, hk, R, r.sk, r.sn, C, 0, r.prev, r.sks⟩ : Rsd)) n = (s, c n, n, B7I hk k r.sks n) := by
    show ahX s C 0 n hk r.sks = _
    rw [A4j hE, Nat.sub_zero, ← hc]
    exact B24 n fun j hj => hst j qO
  obtain ⟨f1, f2, f3⟩ := (hst n (Nat.le_refl _)).eq
  have hD : opD (s, (⟨r.own, hk, R, r.sk, r.sn, C, 0, r.prev, r.sks⟩ : Rsd)) n = s := by unfold opD; rw [hC]; exact f1
  have hK : A7P (s, (⟨r.own, hk, R, r.sk, r.sn, C, 0, r.prev, r.sks⟩ : Rsd)) n = k n := by unfold A7P; rw [hC]; exact f2
  rw [A9V h0 hx (fun _ => hAE) hE (by rw [hD, hK]; exact ho), B4Z hfr, hD]
  unfold opF opG
  rw [hC]
  dsimp only
  rw [f3, Nat.mod_eq_of_lt qO]
theorem B7p (a b hk : LN) : A1e (A1A a b) hk = true := by simp [A1e, A1A]
noncomputable def bU : List Bn × Ps := B4g aB.1 aC.2
noncomputable def bY : Bn := bU.1.getD 0 ⟨0, 0, [], [], 0, [], [], false, 0, []⟩
noncomputable def bX : Ses := sX aC.1 bY aC.2
noncomputable def bD : Ps := sD aC.1 bY aC.2
def bF (f : Bool) : Int := if f then 2 else 0
noncomputable def bW (f : Bool) : LN := wiW bX bX.he (bF f) 1 1 1
noncomputable def bE (f : Bool) (tx : LN) : Ps := A2T bD bX.r (bW f) tx
noncomputable def bV (f : Bool) (tx : LN) : Ev := evS bD bX bX.he (bF f) 1 1 1 tx
def scR (r : Rsd) : List (LN) := ([r.own, r.root, r.sk, r.tk].filter fun k => !k.isEmpty) ++ r.sks.map (·.key)
noncomputable def bS : LN := (aB.1.signed.getD 0 ⟨0, [], []⟩).sec
def puB (s : Ps) (w p : LN) : Bool := (List.range s.ts.length).any fun i => w == bts ((i : Nat) : Int) && (List.range s.ts.length).any fun j => p == bts ((j : Nat) : Int) && tmE (s.ts.getD j (A7M 0)) (A4l ((i : Nat) : Int))
theorem A5g {s : Ps} {w p : LN} (h : puB s w p = true) : K8 s w p := by
  obtain ⟨i, h1, h2⟩ := List.any_eq_true.1 h
  rw [Bool.and_eq_true] at h2
  obtain ⟨j, h3, h4⟩ := List.any_eq_true.1 h2.2
  rw [Bool.and_eq_true] at h4
  have hj := List.mem_range.1 h3
  refine ⟨i, j, List.mem_range.1 h1, eq_of_beq h2.1, ?_, eq_of_beq h4.1⟩
  have h5 := h4.2
  rw [List.getD_eq_getElem?_getD, List.getElem?_eq_getElem hj] at h5
  rw [List.getElem?_eq_getElem hj]
  simp only [tmE, Option.getD_some, Bool.and_eq_true, beq_iff_eq] at h5
  obtain ⟨⟨⟨a, b⟩, c⟩, d⟩ := h5
  generalize s.ts[j] = t at a b c d
  obtain ⟨k, of, tx, n⟩ := t
  cases a; cases b; cases c; cases d; rfl
def kkB (s : Ps) (w : LN) : Bool := ((List.range s.ts.length).any fun i => w == bts ((i : Nat) : Int)) && w.all (· < 256) && w.length == 32
theorem B8J {s : Ps} {w : LN} (h : kkB s w = true) : KK s w := by
  simp only [kkB, Bool.and_eq_true, beq_iff_eq] at h
  exact ⟨fun _ => by
    obtain ⟨i, h1, h2⟩ := List.any_eq_true.1 h.1.1
    exact ⟨i, List.mem_range.1 h1, eq_of_beq h2⟩, fun x hx => by simpa using List.all_eq_true.1 h.1.2 x hx, h.2⟩
theorem bf : (bU.1.length = 5 ∧ bU.2.ts.length = 52 ∧ bU.2.n = aC.2.n ∧ bU.2.seed = aC.2.seed ∧ bY.has = false ∧ ckB aC.2 bY = true) ∧
    (aC.2.ts.all tmB && ndB aC.2.ts) = true ∧ (∀ t ∈ aC.2.ts, (t.kind = 3 ∨ t.kind = 6 ∨ t.kind = 7) → 0 < t.of.length) ∧
    (puB aC.2 bS bY.key && puB aC.2 aB.1.agree bY.ia && puB aC.2 aB.1.sign bY.ig) = true ∧
    ((bD.ts.all tmB && ndB bD.ts) && (bD.ts.all fun t => t.kind != 6 || (t.n == 0 && t.of.length == 1 && [(alW (wiW aX aX.he 0 1 1 1) aV.hk aV.hp aV.hn, aT)].any fun ab => t.text == mark ab.1 ++ mark ab.2 && ab.2.all (· < 256) && decide (ab.2.length ≤ 16777216)))) = true ∧
    (kkB bD bX.r.own && kkB bD bX.r.root && kkB bD bX.r.sk && puB bD bS bX.r.their && kkB aC.2 bS) = true := by decide +kernel

noncomputable def bC : Ps := sC aC.1 bY aC.2
noncomputable def bK : LN := stK aC.1 bY aC.2
noncomputable def bP : Ps := R9 (G1 bD bX.r.own) bX.r.sk
noncomputable def bG : LN := bts ((bP.ts.length : Nat) : Int)
noncomputable def bQ (f : Bool) : Ev := ⟨bF f, 1, 1, 1, bX.id, bX.tell, bX.he, I5 bD bX.r.own, bX.r.prev, bX.r.sn, bG⟩
noncomputable def bNm (f : Bool) (h : He) : List (LN) := [B48, A9m (bF f) 1 h.ia h.ig 1 1 bY.ia bY.ig, heW [] h]
def plB (w : LN) (n : Nat) : Nat := (plc w n).getD 0
theorem bf2 : ((stS aC.1 bY aC.2).ts.length ≤ 900000 ∧ (stS aC.1 bY aC.2).n < 900000000 ∧ (stH aC.1 bY aC.2).ia.length ≤ 100000 ∧ (stH aC.1 bY aC.2).ig.length ≤ 100000 ∧ (stH aC.1 bY aC.2).key.length ≤ 100000 ∧ (idA aC.1 (stS aC.1 bY aC.2)).length + (idG aC.1 (stS aC.1 bY aC.2)).length + bY.ia.length + bY.ig.length ≤ 1000000) ∧
    (bD.ts.length ≤ 1000 ∧ bD.n ≤ 1000 ∧ 0 < bX.r.sk.length ∧ bX.wi.length ≤ 1000000 ∧ bX.id.length + bX.he.ia.length + bX.he.ig.length + bX.he.key.length ≤ 1000000 ∧ bX.tell = true ∧ bX.r.prev = 0 ∧ bX.r.sn = 0 ∧ bX.r.sks.length = 0 ∧ bX.he.signed = bY.signed ∧ bX.he.has = false) ∧
    ((bW true).length ≤ 900 ∧ (bW false).length ≤ 900 ∧ ((bW true).all (· < 256) && (bW false).all (· < 256)) = true) ∧
    ((bC.ts.all tmB && ndB bC.ts) && (bC.ts.all fun t => t.kind != 6 || (t.n == 0 && t.of.length == 1 && [(alW (wiW aX aX.he 0 1 1 1) aV.hk aV.hp aV.hn, aT)].any fun ab => t.text == mark ab.1 ++ mark ab.2 && ab.2.all (· < 256) && decide (ab.2.length ≤ 16777216))) && kkB bC bK && puB bC bS bY.key) = true ∧
    (bC.ts.length ≤ 1000 ∧ bC.n ≤ 1000 ∧ bP.ts.length ≤ 1000 ∧ aE.ts.length ≤ 1000 ∧ aE.n ≤ 1000) ∧
    ((aE.ts.all tmB && ndB aE.ts) && (aC.1.agree.all (· < 256)) && (aB.1.agree.all (· < 256)) && (bS.all (· < 256)) && (bS.length == 32) && (aB.1.signed.map (·.n) == [bY.signed])) = true ∧ (∀ t ∈ aE.ts, (t.kind = 3 ∨ t.kind = 6 ∨ t.kind = 7) → 0 < t.of.length) ∧
    ((kkB bP (T4 (G1 bD bX.r.own) bX.r.sk)) && (bP.ts.all fun t => t.kind != 6 || t.of != [(((plB (T4 (G1 bD bX.r.own) bX.r.sk) bP.ts.length : Nat)) : Int)])) = true ∧
    ((dcO (A35 (bQ true)) && evB (dcE (A35 (bQ true))) (bQ true)) && (dcO (A35 (bQ false)) && evB (dcE (A35 (bQ false))) (bQ false)) && decide ((A35 (bQ true)).length ≤ 10000) && decide ((A35 (bQ false)).length ≤ 10000) && decide ((bQ true).hk.length + (bQ true).g.length ≤ 10000)) = true ∧
    (bNm true bX.he == sNm aC.1 bY aC.2 && (List.range bC.ts.length).any fun i => bX.id == bts ((i : Nat) : Int) && tmE (bC.ts.getD i (A7M 0)) (A2F (bNm true bX.he))) = true ∧
    (tmB (A2F (bNm false bX.he)) && !tmE (A2F (bNm false bX.he)) (A2F (bNm true bX.he))) = true ∧ (tmB (A2F (bNm true bX.he))) = true ∧
    (gdB bD.ts (scR bX.r) && gdB bD.ts [bX.he.key] && gdB bD.ts [bX.id, bX.he.ia, bX.he.ig] && B6Q bD.ts (lrI bD.ts [bX.id, bX.he.ia, bX.he.ig]) (HL (lrI aC.2.ts (A3j aC.1)) 52)) = true ∧ (scR bX.r).length ≤ 10 := by decide +kernel

theorem B1W {w : LN} {n m i : Nat} (h : plc w n = some i) (hm : n ≤ m) : plc w m = some i := by
  unfold plc at h ⊢
  split at h
  · rename_i h1
    rw [if_pos ⟨h1.1, h1.2.1, h1.2.2.1, Nat.lt_of_lt_of_le h1.2.2.2 hm⟩]; exact h
  · cases h
structure Kn (ts : List Tm) (h : List Bool) : Prop where
  len : h.length ≤ ts.length
  n : ts.length ≤ 1000
  has : ∀ w ∈ trN aV, B4J ts h w = true
set_option maxRecDepth 100000
theorem bf3 : (A2w aB.1.signed bX.he.signed == some bS && (A9m 2 1 bX.he.ia bX.he.ig 1 1 bY.ia bY.ig ++ frW [] (bQ true)) == bW true && ((List.range 52).all fun i => tmE (bU.2.ts.getD i (A7M 0)) (aC.2.ts.getD i (A7M 0)))) = true := by decide +kernel
theorem B7q {a b : Tm} (h : tmE a b = true) : a = b := by
  simp only [tmE, Bool.and_eq_true, beq_iff_eq] at h
  obtain ⟨k, of, tx, n⟩ := a
  obtain ⟨k', of', tx', n'⟩ := b
  obtain ⟨⟨⟨rfl, rfl⟩, rfl⟩, rfl⟩ := h
  rfl
theorem B7r {a b : Tm} (h : tmE a b = false) : a ≠ b := fun e => by subst e; simp [tmE] at h
theorem B7s {t : Tm} (h : tmB t = true) : Tmo t := by
  simp only [tmB, Bool.and_eq_true, decide_eq_true_eq, List.all_eq_true] at h
  obtain ⟨⟨⟨⟨⟨⟨a, b⟩, c⟩, d⟩, e⟩, f⟩, g⟩ := h
  exact ⟨D5 a, ⟨b, c⟩, d, e, ⟨f⟩, g⟩
theorem b_bU : bU.2 = aC.2 := by
  obtain ⟨⟨-, l1, l2, l3, -⟩, -⟩ := bf
  have h := bf3
  simp only [Bool.and_eq_true, List.all_eq_true, List.mem_range] at h
  have e : bU.2.ts = aC.2.ts := by
    have l4 := af2.1.1
    refine List.ext_getElem qO fun i h1 h2 => ?_
    have := B7q (h.2 i qO)
    rw [List.getD_eq_getElem?_getD, List.getD_eq_getElem?_getD, List.getElem?_eq_getElem h1, List.getElem?_eq_getElem h2] at this
    exact this
  generalize bU.2 = a at *
  generalize aC.2 = b at *
  obtain ⟨a1, a2, a3⟩ := a
  obtain ⟨b1, b2, b3⟩ := b
  cases l2; cases l3; cases e; rfl
theorem B8K : BuI aC.1 aC.2 := by
  obtain ⟨-, -, -, -, ⟨-, -, -, h1, h2⟩, h3, h4, -⟩ := bf2
  simp only [Bool.and_eq_true] at h3
  exact BuI.new (B23 (by simp only [Bool.and_eq_true]; exact h3.1.1.1.1.1)) h4 qO qO
theorem b_gs : GS bC ∧ KK bC bK ∧ K8 bC bS bY.key := by
  obtain ⟨-, -, -, h1, -⟩ := bf2
  simp only [Bool.and_eq_true] at h1
  exact ⟨⟨B23 (by simp only [Bool.and_eq_true]; exact h1.1.1.1), B1V _ h1.1.1.2⟩, B8J h1.1.2, A5g h1.2⟩
theorem B8L : K32 bS := by
  obtain ⟨-, -, -, -, -, h3, -⟩ := bf2
  simp only [Bool.and_eq_true, List.all_eq_true, decide_eq_true_eq, beq_iff_eq] at h3
  exact ⟨h3.1.1.2, h3.1.2⟩
theorem B5l (s : Ps) (ws : List (LN)) : Pext s (A4a s ws) := ⟨rfl, A2q _ _⟩
theorem A7J {s : Ps} {ws : List (LN)} {i : Nat} (h : pos s.ts (A2F ws) = some i) : A4a s ws = s ∧ A1z s ws = bts ((i : Nat) : Int) := by
  unfold A1z A4a at_ add
  rw [h]
  exact ⟨rfl, rfl⟩
theorem B0b {s : Ps} {sec own b R C k c' w hk g t : LN} (hg : GS s) (hl : s.ts.length ≤ 1000000) (ta : TrnAt s sec own b R C) (hB : K8 s b hk) (hst : A1f s C k c') (ho : A1d s k (alW w hk 0 0) g = some t) : ∃ s2 r2, Q1 s (A1A sec own) w hk 0 0 g = (s2, r2, 0, t) :=
  ⟨_, _, B5k (r := A1A sec own) (c := fun j => if j = 0 then C else c') (k := fun _ => k) hg hl rfl (B7p _ _ _) (A9W rfl) (A9X rfl) ta hB rfl qD (fun j hj => by
    obtain rfl : j = 0 := by omega
    exact hst) ho⟩
theorem B7t : Pext (stS aC.1 bY aC.2) bC := by
  have e1 := (Y4 (stS aC.1 bY aC.2) aC.1.agree).p.trans (Y4 _ aC.1.sign).p
  exact e1.trans (B5l (sB aC.1 bY aC.2) (sNm aC.1 bY aC.2))
theorem B7u : Agd bC aC.1.agree (D9 aC.2) aB.1.agree bS none bX.he bK ∧ Pext aC.2 bC := by
  obtain ⟨⟨-, -, -, -, hh, -⟩, -, -, h2, -⟩ := bf
  simp only [Bool.and_eq_true] at h2
  obtain ⟨-, -, -, -, -, h3, -⟩ := bf2
  simp only [Bool.and_eq_true, List.all_eq_true, decide_eq_true_eq] at h3
  obtain ⟨g1, -, g3, -⟩ := B1o (xo := none) B8K (A5g h2.1.1) (A5g h2.1.2) hh (fun o ho => by cases ho) h3.1.1.1.1.2 h3.1.1.2 h3.1.1.1.2 (by have := af2.1.1; omega) (by have := af2.1.2.1; omega)
  exact ⟨g1.ext B7t, g3.p.trans B7t⟩
theorem A5X : GS bD ∧ Ext bC bD ∧ WfR bD bX.r ∧ TrnAt bD bK bS bX.r.own bX.r.root bX.r.sk ∧ Kok bD bX.r.own := by
  obtain ⟨g1, k1, p1⟩ := b_gs
  obtain ⟨-, -, -, -, ⟨l1, n1, -⟩, -⟩ := bf2
  obtain ⟨g2, k2⟩ := A9Z g1 qO
  have e2 := X9 bC
  have l2 := A4e bC
  obtain ⟨g3, k3, k4, ta⟩ := B5a g2 (k1.ext e2.p) k2 (p1.ext e2.p) B8L qO
  have e3 := A93 (D4 bC) bK (D9 bC) bY.key
  change GS bD at g3
  change Ext _ bD at e3
  refine ⟨g3, e2.trans e3, ⟨k2.ext e3.p, k3, .inr k4, .inl rfl, .inr ⟨bS, B8L, (p1.ext e2.p).ext e3.p⟩, fun x hx => (by cases hx), fun h => absurd rfl h⟩, ?_, (k2.ext e3.p).1⟩
  exact TrnAt.comm ta
theorem B5m {i n : Nat} (hi : i < n) (hn : n ≤ 1048576) : plc (bts ((i : Nat) : Int)) n = some i := by
  rw [Z7, show u64 ((i : Nat) : Int) = i by unfold u64; omega, if_pos hi]
theorem btsB {w : LN} {ts : List Tm} (h : ((List.range ts.length).any fun i => w == bts ((i : Nat) : Int)) = true) : ∃ i, i < ts.length ∧ w = bts ((i : Nat) : Int) := by
  obtain ⟨i, h1, h2⟩ := List.any_eq_true.1 h
  exact ⟨i, List.mem_range.1 h1, eq_of_beq h2⟩
structure BE (f : Bool) (tx : LN) : Prop where
  gs : GS (bE f tx)
  ext : Ext bD (bE f tx)
  len : (bE f tx).ts.length = bP.ts.length + 1
  n : (bE f tx).n = bD.n
  g : A4m bD bX.r (bW f) tx = bG
  pub : K8 (bE f tx) bX.r.own (bQ f).hk
  snt : Snt (bE f tx) (bQ f).hk 0 0 bG
  step : A1f (bE f tx) bX.r.sk (T4 (G1 bD bX.r.own) bX.r.sk) (A2S (G1 bD bX.r.own) bX.r.sk)
  opn : A1d (bE f tx) (T4 (G1 bD bX.r.own) bX.r.sk) (alW (bW f) (bQ f).hk 0 0) bG = some tx
theorem B8M (f : Bool) {tx : LN} (ht : ∀ x ∈ tx, x < 256) (htl : tx.length ≤ 900) : BE f tx := by
  obtain ⟨g1, e1, w1, t1, k1⟩ := A5X
  obtain ⟨-, ⟨l1, n1, s1, -, -, -, p0, n0, -⟩, ⟨w2, w3, w4⟩, -, ⟨-, -, l2, -⟩, -, -, h8, -⟩ := bf2
  simp only [Bool.and_eq_true, List.all_eq_true, decide_eq_true_eq] at w4 h8
  have hw : ∀ x ∈ bW f, x < 256 := by cases f; exact w4.2; exact w4.1
  have hwl : (bW f).length ≤ 900 := by cases f; exact w3; exact w2
  obtain ⟨a1, a2, a3, a4, a5, a6, a7, a8⟩ := B8H (w := bW f) (t := tx) g1 w1 (fun e => by rw [e] at s1; cases s1) (by rw [p0]; decide) (by rw [n0]; decide) hw qO ht htl qO
  change GS (bE f tx) at a1
  change Ext bD (bE f tx) at a2
  have l0 := A4f bD bX.r.own
  obtain ⟨i, hi, hk⟩ := btsB (by have := h8.1; simp only [kkB, Bool.and_eq_true] at this; exact this.1.1)
  have hpl : plB (T4 (G1 bD bX.r.own) bX.r.sk) bP.ts.length = i := by unfold plB; rw [hk, B5m hi qO]; rfl
  rw [hpl] at h8
  obtain ⟨e3, e4⟩ := B3P (s := bP) hi qO fun x => A03 x (A5j bD bX.r (bW f)) tx
  have tP : Tok bP.ts := by
    have g2 := (B49 g1 w1.own qO).1
    exact (A6Q g2 ((w1.sk.resolve_left (fun e => by rw [e] at s1; cases s1)).ext (Y4 _ _).p) qO).1.tok
  have p1 := (B49 g1 w1.own qO).2
  have hal : ∀ x ∈ A5j bD bX.r (bW f), x < 256 := B21 hw p1.k32.1 _ _
  have hall : (A5j bD bX.r (bW f)).length = (bW f).length + 32 + 20 := by rw [← p1.k32.2]; exact B0a _ _ _ _
  have hno : pos bP.ts (A03 ((i : Nat) : Int) (A5j bD bX.r (bW f)) tx) = none := (A1K (A6o (A1l qO) hal ht qO qO) tP.tmo).2 fun hm => by
    have := h8.2 _ hm
    simp [A03] at this
  obtain ⟨e5, e6⟩ := A3O hno
  have eE : (bE f tx) = { bP with ts := bP.ts ++ [A03 ((i : Nat) : Int) (A5j bD bX.r (bW f)) tx] } := by
    show A7F bP _ _ _ = _
    rw [B2Y rfl, hk, e3, e5]
  have eG : A4m bD bX.r (bW f) tx = bG := by
    show B2X bP _ _ _ = _
    rw [B2Z rfl, hk, e4, e6]; rfl
  rw [p0, n0] at a5 a8
  rw [eG] at a5 a8
  exact ⟨a1, a2, by rw [eE]; simp, (A6V bD bX.r (bW f) tx).2, eG, a4, a5, a6, a8 _ a1 (Pext.refl _) (by have := congrArg (fun z : Ps => z.ts.length) eE; simp at this; omega)⟩
section
variable {f : Bool} {tx : LN}
theorem BE.V (h : BE f tx) : bV f tx = bQ f := by
  show (⟨bF f, 1, 1, 1, bX.id, bX.tell, bX.he, I5 bD bX.r.own, bX.r.prev, bX.r.sn, A4m bD bX.r (bW f) tx⟩ : Ev) = _
  rw [h.g]; rfl
theorem BE.up (h : BE f tx) : Pext bC (bE f tx) := A5X.2.1.p.trans h.ext.p
theorem BE.l (h : BE f tx) : (bE f tx).ts.length ≤ 1001 := by have := h.len; have := bf2.2.2.2.2.1.2.2.1; omega
theorem BE.ans (h : BE f tx) : anR aB.1 (bQ f).he (bE f tx) = (some (bK, bS), bE f tx) := by
  have hg := bf3
  simp only [Bool.and_eq_true, beq_iff_eq] at hg
  obtain ⟨-, ⟨-, -, -, -, -, -, -, -, -, -, hh⟩, -⟩ := bf2
  exact (B7u.1.ext h.up).ans h.gs.tok (by have := h.l; omega) hg.1.1 hh (fun e => by rw [show bX.he.has = true from e] at hh; cases hh)
theorem BE.id_ (h : BE f tx) : idS aB.1 (bE f tx) = bE f tx ∧ idA aB.1 (bE f tx) = bY.ia ∧ idG aB.1 (bE f tx) = bY.ig := by
  obtain ⟨-, -, -, h2, -⟩ := bf
  simp only [Bool.and_eq_true] at h2
  have e := B7u.2.trans h.up
  have hl := h.l
  obtain ⟨a1, a2⟩ := ((A5g h2.1.2).ext e).eq h.gs.tok qO
  have hs : B0e aC.2 aB.1.sign bY.ig := A5g h2.2
  obtain ⟨a3, a4⟩ := (hs.ext e).eq h.gs.tok qO
  unfold idS idA idG
  rw [a1]
  exact ⟨a3, a2, a4⟩
theorem BE.nm (h : BE f tx) : nNm aB.1 (bQ f) (bE f tx) = bNm f bX.he := by
  obtain ⟨-, h2, h3⟩ := h.id_
  unfold nNm nWi
  rw [h2, h3, A1B.2.2.1, A1B.2.2.2]; rfl
theorem B0c : ∃ i, bX.id = bts ((i : Nat) : Int) ∧ bC.ts[i]? = some (A2F (bNm true bX.he)) := by
  obtain ⟨-, -, -, -, -, -, -, -, -, h, -⟩ := bf2
  rw [Bool.and_eq_true] at h
  obtain ⟨i, h1, h2⟩ := List.any_eq_true.1 h.2
  rw [Bool.and_eq_true] at h2
  have hi := List.mem_range.1 h1
  refine ⟨i, eq_of_beq h2.1, ?_⟩
  have h5 := B7q h2.2
  rw [List.getD_eq_getElem?_getD, List.getElem?_eq_getElem hi] at h5
  rw [List.getElem?_eq_getElem hi]
  exact congrArg some h5
theorem B7v {s s' : Ps} {i : Nat} {t : Tm} (h : s.ts[i]? = some t) (he : Pext s s') : s'.ts[i]? = some t := by
  obtain ⟨l, e⟩ := he.ts
  rw [e, List.getElem?_append_left (List.getElem?_eq_some_iff.1 h).1]; exact h
theorem BE.nid (h : BE true tx) : A1z (idS aB.1 (bE true tx)) (nNm aB.1 (bQ true) (bE true tx)) = (bQ true).ses ∧ nC aB.1 (bQ true) (bE true tx) = bE true tx := by
  obtain ⟨i, h1, h2⟩ := B0c
  have hp := B2v h.gs.tok.tmo h.gs.tok.nd (B7v h2 h.up)
  obtain ⟨a1, a2⟩ := A7J hp
  unfold nC
  rw [h.nm, h.id_.1, a1, a2]
  exact ⟨h1.symm, Eq.refl (bE true tx)⟩
theorem BE.nno (h : BE false tx) : ¬ A1z (idS aB.1 (bE false tx)) (nNm aB.1 (bQ false) (bE false tx)) = (bQ false).ses := by
  obtain ⟨i, h1, h2⟩ := B0c
  obtain ⟨-, -, -, -, -, -, -, -, -, -, h3, -⟩ := bf2
  rw [Bool.and_eq_true] at h3
  have hl := h.l
  rw [h.nm, h.id_.1]
  intro e
  obtain ⟨l, g1, g2, g3, -⟩ := A1x (B7s h3.1) h.gs.tok
  have h4 := B7v h2 h.up
  have hi := (List.getElem?_eq_some_iff.1 h4).1
  have hj := (List.getElem?_eq_some_iff.1 g3).1
  have e2 : bts ((at_ (bE false tx).ts (A2F (bNm false bX.he)) : Nat) : Int) = bts ((i : Nat) : Int) := e.trans h1
  have e3 := A3R qO qO e2
  rw [e3, g1, List.getElem?_append_left hi, h4] at g3
  exact B7r (by simpa using h3.2) (Option.some.inj g3).symm
theorem BE.opens (h : BE true tx) : ∃ s2 r2, Q1 (bE true tx) (A1A bK bS) (bW true) (bQ true).hk 0 0 bG = (s2, r2, 0, tx) ∧ OpnH (bE true tx) (A1A bK bS) (bQ true).hk 0 0 ∧ s2.ts.length ≤ 2000 := by
  have hl := h.l
  obtain ⟨g1, e1, w1, t1, k1⟩ := A5X
  have e := h.ext.p
  obtain ⟨-, ⟨-, n1, -⟩, -, -, ⟨-, n2, -⟩, -⟩ := bf2
  have t2 := t1.ext e g1 h.gs qO
  obtain ⟨s2, r2, ho⟩ := B0b (w := bW true) h.gs qO t2 h.pub h.step h.opn
  have wf : WfR (bE true tx) (A1A bK bS) := by
    obtain ⟨x1, x2, x3⟩ := b_gs
    exact ⟨⟨((x3.ext h.up).kok).1, B8L⟩, x2.ext h.up, .inl rfl, .inl rfl, .inl rfl, fun x hx => (by cases hx), fun h => absurd rfl h⟩
  have hO := B8I (w := bW true) (g := bG) h.gs wf h.snt (show 0 < 4294967296 by decide) (by rw [h.n]; omega) (show 0 ≤ 1000 by decide) qO
  refine ⟨_, _, ho, hO.1, ?_⟩
  have := hO.2.2.2.2.1
  rw [ho] at this
  exact Nat.le_trans this qO
end

def kpK (r : Rsd) (i : Nat) : List (LN) := (([r.own, r.root, r.sk, r.tk] : List (LN)).take i).filter fun k => !k.isEmpty
theorem B5n {r : Rsd} {i : Nat} {w : LN} (h : ([r.own, r.root, r.sk, r.tk] : List (LN))[i]? = some w) (hw : 0 < w.length) : kpK r (i + 1) = kpK r i ++ [w] := by
  unfold kpK
  rw [List.take_add_one, h, List.filter_append]
  cases w with
  | nil => cases hw
  | cons a l => rfl
theorem B7w {r : Rsd} {i : Nat} {w : LN} (h : ([r.own, r.root, r.sk, r.tk] : List (LN))[i]? = some w) (hw : ¬ 0 < w.length) : kpK r (i + 1) = kpK r i := by
  unfold kpK
  rw [List.take_add_one, h, List.filter_append]
  cases w with
  | nil => exact List.append_nil _
  | cons a l => exact absurd (Nat.succ_pos _) hw
theorem B5o (r : Rsd) (i : Nat) : (kpK r i).length ≤ 4 := Nat.le_trans (List.length_filter_le _ _) (Nat.le_trans (List.length_take_le' _ _) (Nat.le_refl _))
theorem B26 {r : Rsd} (h : r.sks = []) : scR r = kpK r 4 := by
  unfold scR kpK
  rw [h]
  exact List.append_nil _
theorem B5p (r : Rsd) (vo vt vr vk vl vs : Value) (A : Mem) (hr : RsR A r vo vt vr vk vl vs) (hsk : r.sks = []) : FnX Tryz.prog 159 [.agg (rsC vo vt vr vk vl vs r).toArray] [] A fun q M J => ∃ us, Sl 1 q (scR r).length us M ∧ Lst (J ++ A) us (scR r) := by
 haveI := hr.own.cel
 haveI := hr.their.cel
 haveI := hr.root.cel
 haveI := hr.sk.cel
 haveI := hr.tk.cel
 have hst := hr.st
 obtain ⟨sb, u, rows, rfl, hsb, hrd, hrw⟩ := hst
 unfold rsC
 refine FnX.enterZ (N := 48) Tryz.func159 rfl rfl rfl fun w_ => ?_
 refine A8 (C7 0) (A1 ?_)
 refine A4 rfl (bx_ fun b1 => ?_)
 refine as_ (A0 (C7 1) (A1 (as_ (A0 (D0 1 3) (A6 (A1 ?_))))))
 refine A2 (qf_ 0 0) rfl ?_
 refine A2 ql_ rfl ?_
 refine A2 (qf_ 2 2) rfl ?_
 refine A2 ql_ rfl ?_
 refine A2 (qf_ 3 3) rfl ?_
 refine A2 (qf_ 3 0) rfl ?_
 refine A2 ql_ rfl ?_
 refine A2 (qf_ 5 5) rfl ?_
 refine A2 (qf_ 5 0) rfl ?_
 refine A2 ql_ rfl ?_
 refine A4 rfl (C4 (e := 22) (sz := 1) (z := [vS, vS, vS, vS]) kR (eS rfl (eS rfl (eS rfl (eS rfl e0)))) (bdS 0 1 rfl qR (bdS 1 1 rfl qR (bdS 2 1 rfl qR (bdS 3 1 rfl qR bd0)))) rfl fun b18 => ?_)
 refine A2 (A0s (e := 22) rfl kR) rfl ?_
 refine mv_ (A0 (G6 1 3 18 19 20) (C5 ?_))
 refine V7 (B := [(b18, blk [vo, vr, vk, vl] 22)]) qP ?_
 have hr18 : Rd [(b18, blk [vo, vr, vk, vl] 22)] 1 (.slice (some ⟨b18, 0, none⟩) 4 4) 4 [vo, vr, vk, vl] := Rd.whole (n := 4) qK qR
 have hL : Lst A [vo, vr, vk, vl] [r.own, r.root, r.sk, r.tk] := Lst.cons hr.own (Lst.cons hr.root (Lst.cons hr.sk (Lst.cons hr.tk Lst.nil)))
 refine H0 (α := Nat × Value × List Value × Mem × Mem) (fun y => [(1, (vP b1)), (3, y.2.1), (18, .slice (some ⟨b18, 0, none⟩) 4 4), (19, .int .i64 4), (20, (vI y.1))]) (fun y => y.2.2.2.1 ++ [(b1, blk [vo, vt, vr, vk, (vU r.sn), vl, (vU r.tn), (vU r.prev), (vP sb)] 72)]) (fun y => y.2.2.2.2 ++ [(b18, blk [vo, vr, vk, vl] 22)]) (fun y => y.1 ≤ 4 ∧ Sl 1 y.2.1 (kpK r y.1).length y.2.2.1 y.2.2.2.1 ∧ Lst (y.2.2.2.2 ++ A) y.2.2.1 (kpK r y.1)) (fun y => 4 - y.1) (0, vS, [], [], []) ⟨Nat.zero_le _, Sl.nil, Lst.nil⟩ (G6 1 3 18 19 20) (Fit.last qP) (fun _ h => by simpa using h) ?_
 rintro ⟨i, v3, vs3, B3, J3⟩ ⟨hi, hs3, hl3⟩
 dsimp only at hi hs3 hl3 ⊢
 haveI := hs3.cel
 have hkl := B5o r i
 refine A1 ?_
 refine A2 (F3 rfl rfl rfl) rfl ?_
 refine A0 (I7 1 3 18 19 20 21) (A6 ?_)
 refine C3 rfl ?_ ?_ <;> intro hc
 ·
  have hlt : i < 4 := by simp at hc; omega
  obtain ⟨w, hw⟩ : ∃ z, ([r.own, r.root, r.sk, r.tk] : List (LN))[i]? = some z := ⟨_, List.getElem?_eq_getElem hlt⟩
  obtain ⟨vi, hvi, hbi⟩ := hL.get i w hw
  haveI := hbi.cel
  refine A5 (nx (G6 1 3 18 19 20) (A6 (C5 (A1 ?_))))
  refine A2 (F2 (sz := 1) (a := i) rfl rfl kR rfl hr18 hlt) rfl ?_
  refine A2 (L0 (u := vi) (hr18.mono qS) rfl kR hvi) rfl ?_
  refine as_ (A0 (I7 1 3 5 18 19 20) (A1 (mv_ ?_)))
  refine A2 (E2 (sz := 1) rfl kR hbi.rd) rfl ?_
  refine A2 (F3 rfl rfl rfl) rfl ?_
  refine A0 (S9 1 3 5 18 19 20 26) ?_
  refine C3 rfl ?_ ?_ <;> intro hc
  ·
   have hwp : 0 < w.length := by simp [H8] at hc; omega
   have hk1 := B5n hw hwp
   refine C6 (mv_ (mv_ ?_))
   refine E0 (aS rfl a0) kR (K6 vi w _ (hbi.mono qS)) rfl ?_
   rintro v29 M29 J29 ⟨rfl, h29⟩
   haveI := h29.cel
   refine A4 rfl (C4 (e := 22) (sz := 1) (z := [vS]) kR (eS rfl e0) (bdS 0 1 rfl qR bd0) rfl fun b30 => ?_)
   refine A4 rfl (F6 (e := 22) (sz := 1) (by_ := 24) rfl rfl kR rfl hs3 (Rd.whole (n := 1) At.mem qR) (by intro c hc; rw [List.mem_singleton.1 hc]; exact h29.one) qP (by unfold maxLen; omega) qO rfl fun v31 B31 hs31 => ?_)
   haveI := hs31.cel
   refine as_ (E1 (nb (nx (G6 1 3 18 19 20) (C6 ?_))))
   refine A2 (Q0 ((i + 1 : Nat) : Int) rfl rfl (W1 qO qO qO)) rfl ?_
   refine mv_ (E1 ?_)
   exact rn (i + 1, v31, vs3 ++ [v29], B31, J29 ++ J3) ⟨hlt, Sl.cast hs31 (by dsimp only; rw [hk1, List.length_append]; rfl) rfl, by dsimp only; rw [hk1]; exact (hl3.mono qS).snoc (h29.mono qS)⟩ (by dsimp only; omega) (G6 1 3 18 19 20) (Fit.pick qP (Fit.last qP)) (fun _ h => by simpa using h)
  ·
   have hwp : ¬ 0 < w.length := by simp [H8] at hc; rw [hc]; decide
   have hk1 := B7w hw hwp
   refine A5 (nb (nx (G6 1 3 18 19 20) (C6 ?_)))
   refine A2 (Q0 ((i + 1 : Nat) : Int) rfl rfl (W1 qO qO qO)) rfl ?_
   refine mv_ (E1 ?_)
   exact rn (i + 1, v3, vs3, B3, J3) ⟨hlt, Sl.cast hs3 (by dsimp only; rw [hk1]) rfl, by dsimp only; rw [hk1]; exact hl3⟩ (by dsimp only; omega) (G6 1 3 18 19 20) (Fit.pick qP (Fit.last qP)) (fun _ h => by simpa using h)
 ·
  obtain rfl : i = 4 := by simp at hc; omega
  refine G4 (te (re (be rfl (nx (D0 1 3) (A6 (A1 ?_))))))
  refine A2 (qf_ 8 8) rfl ?_
  refine A2 ql_ rfl ?_
  refine E0 (aS rfl a0) kR (A6L sb r.sks.length u rows.flatten _ (mA hsb) (hrd.mono qS) (hrw.ones skT) (by rw [hsk]; decide)) rfl ?_
  rintro v35 M35 J35 hs35
  rw [show r.sks.length = 0 by rw [hsk]; rfl] at hs35
  haveI := hs35.cel
  refine A28 (B := M35) qP ?_
  have hr35 := hs35.rd (R := M35) fun _ h => h
  refine A2 (E2 (sz := 3) rfl kR hr35) rfl ?_
  refine mv_ (A0 (F4 3 35 36 37) (C5 ?_))
  refine A11 1 ?_
  refine A0C ?_
  refine A1 ?_
  refine A2 (F0 false rfl rfl (ltF qD)) rfl ?_
  refine A0 (G6 3 35 36 37 38) (A6 ?_)
  refine B0 rfl ?_
  refine G4 (te (ue (be rfl (nx (C7 3) (A1 (mv_ (as_ (A0 (C7 2) ?_))))))))
  refine A7 ?_
  exact ⟨_, B3, [], F7 rfl rfl, Fit.none (Fit.last qP), vs3, Sl.cast hs3 (by rw [B26 hsk]) rfl, by rw [B26 hsk]; exact hl3.mono qS⟩
theorem B5q (x : Ses) (vi vw p0 r0 u0 vo vt vr vk0 vl vst : Value) (A : Mem) (hx : SeR A x vi vw p0 r0 u0 vo vt vr vk0 vl vst) (hsk : x.r.sks = []) : FnX Tryz.prog 126 [.agg (seC vi vw p0 r0 u0 vo vt vr vk0 vl vst x).toArray] [] A fun q M J => ∃ us, Sl 1 q (scR x.r).length us M ∧ Lst (J ++ A) us (scR x.r) := by
 haveI := hx.id.cel
 haveI := hx.wi.cel
 haveI := hx.he.ia.cel
 haveI := hx.he.ig.cel
 haveI := hx.he.key.cel
 haveI := hx.r.own.cel
 haveI := hx.r.their.cel
 haveI := hx.r.root.cel
 haveI := hx.r.sk.cel
 haveI := hx.r.tk.cel
 haveI := hx.r.st.cel
 unfold seC
 refine FnX.enterZ (N := 6) Tryz.func126 rfl rfl rfl fun w_ => ?_
 refine A8 (C7 0) (A1 ?_)
 refine A4 rfl (bx_ fun b1 => ?_)
 refine as_ (A0 (C7 1) (A1 ?_))
 refine A2 (qf_ 9 9) rfl ?_
 refine A2 (E7 (n := 9) (vs := [vo, vt, vr, vk0, (vU x.r.sn), vl, (vU x.r.tn), (vU x.r.prev), vst]) rfl kR At.mem rfl (D3 [vi, vw, p0, r0, u0, (vU x.he.signed), .bool x.he.has, (vU x.he.once), .bool x.tell] [vo, vt, vr, vk0, (vU x.r.sn), vl, (vU x.r.tn), (vU x.r.prev), vst] [])) rfl ?_
 refine E0 (aS rfl a0) kR (FnX.amb qS (B5p x.r vo vt vr vk0 vl vst A hx.r hsk)) rfl ?_
 rintro v5 M5 J5 ⟨us, h1, h2⟩
 haveI := h1.cel
 refine as_ (A0 (C7 2) (A7 ?_))
 exact ⟨_, M5, [], F7 rfl rfl, Fit.none (Fit.last qP), us, h1, h2.mono qS⟩

theorem B1X (bz0 bz1 bz2 bz3 bz4 bz5 bz6 bz7 bz8 bz9 : Value) (vb kb : Nat) (pb : Nat × Nat) (u1 u2 wt : Value) (fu fd tu td : Int) (n : Nat) (A : Mem) [Cel wt [wt]] (hv : (vb, blk [.pointer (some ⟨pb.1, 0, none⟩), (vP kb), u1, u2] 93) ∈ A) (hr : Rd A 1 u2 0 []) : FnX Tryz.prog 84 [(vP vb), .agg #[.int .u8 3, .int .i64 0, .int .i64 0, .int .i64 fu, .int .i64 fd, .int .i64 tu, .int .i64 td, (vU n), wt], .agg #[bz0, bz1, bz2, bz3, bz4, bz5, bz6, bz7, bz8, bz9]] [] A fun q M J => M = [] ∧ q = .tuple #[.agg #[.int .i64 0, .int .i64 0, .int .i64 0, .int .i64 0, vS, .bool false, vS, vS, vS, .int .u32 0, .bool false, .int .u32 0, vS, .int .u32 0, .int .u32 0, vS], .int .i64 2] := by
 haveI := hr.cel
 refine FnX.enterZ (N := 101) Tryz.func84 rfl rfl rfl fun w_ => ?_
 refine A8 (E5 0 1 2) (A1 ?_)
 refine A4 rfl (bx_ fun b4 => ?_)
 refine A4 rfl (bx_ fun b5 => ?_)
 refine A4 rfl (D2 (cs := [G8, G8, G8, G8, vS, .bool false, vS, vS, vS, E4, .bool false, E4, vS, E4, E4, vS]) kR rfl fun b6 => ?_)
 refine as_ (A0 (F4 0 4 5 6) ?_)
 refine G5 (.range 9) (zp 0 [0, 1, 0, 0, 0, 1, 0, 2, 0]) kR kR fun hs => ?_
 refine E8 hs rfl (qf_ 2 2) rfl ?_
 refine R5 hs rfl ql_ rfl ?_
 refine fm_ hs ?_
 refine E8 hs rfl (D8 rfl) rfl ?_
 refine E8 hs rfl (qf_ 3 3) rfl ?_
 refine R5 hs rfl (G3 rfl kR (mA hv) qR) rfl ?_
 refine E8 hs rfl (E2 (sz := 1) rfl kR hr) rfl ?_
 refine Q2 rfl (aS rfl (aS rfl a0)) kR (B7g 0 _) rfl ?_
 refine fa_ hs ?_
 refine I2 (G6 0 4 5 6 8) (A6 (A1 (mv_ ?_)))
 refine A2 (F0 true rfl rfl (ltT qD)) rfl ?_
 refine A0 (I7 0 4 5 6 8 23) ?_
 refine E9 rfl ?_
 refine A1 ?_
 refine A2 (D6 (place := fun x => #[(0, 2), (2, 2), (4, 1), (5, 1), (6, 6), (12, 3), (15, 1)][x]?) (z := [G8, G8, G8, G8, vS, .bool false, vS, vS, vS, E4, .bool false, E4, vS, E4, E4, vS]) (fun _ => by kernel_rfl) e0 bd0) rfl ?_
 refine A4 rfl (B8 (vs := [.int .i64 0, .int .i64 0, .int .i64 0, .int .i64 0, vS, .bool false, vS, vS, vS, .int .u32 0, .bool false, .int .u32 0, vS, .int .u32 0, .int .u32 0, vS]) rfl rfl rfl kR qR B3o UpC.upd ?_)
 refine as_ (A0 (D0 6 7) (A7 (tr ?_)))
 exact ⟨_, [], [], W0 (n := 16) rfl rfl rfl kR At.mem qR, qZ, rfl, rfl⟩
theorem B1Y (bz0 bz1 bz2 bz3 bz4 bz5 bz6 bz7 bz8 bz9 : Value) (vb kb : Nat) (pb : Nat × Nat) (u1 u2 wt : Value) (fu fd tu td : Int) (n : Nat) (A : Mem) [Cel wt [wt]] (hv : (vb, blk [.pointer (some ⟨pb.1, 0, none⟩), (vP kb), u1, u2] 93) ∈ A) (hr : Rd A 1 u2 0 []) : FnX Tryz.prog 48 [(vP vb), .agg #[.int .u8 3, .int .i64 0, .int .i64 0, .int .i64 fu, .int .i64 fd, .int .i64 tu, .int .i64 td, (vU n), wt], .agg #[bz0, bz1, bz2, bz3, bz4, bz5, bz6, bz7, bz8, bz9]] [] A fun q M J => M = [] ∧ q = .tuple #[.agg #[.int .i64 0, .int .i64 0, .int .i64 0, .int .i64 0, vS, .bool false, vS, vS, vS, .int .u32 0, .bool false, .int .u32 0, vS, .int .u32 0, .int .u32 0, vS], .int .i64 2] := by
 haveI := hr.cel
 refine FnX.enterZ (N := 154) Tryz.func48 rfl rfl rfl fun w_ => ?_
 refine A8 (E5 0 1 2) (A1 ?_)
 refine A4 rfl (bx_ fun b4 => ?_)
 refine A4 rfl (bx_ fun b5 => ?_)
 refine A4 rfl (D2 (cs := [G8, G8, G8, G8, vS, .bool false, vS, vS, vS, E4, .bool false, E4, vS, E4, E4, vS]) kR rfl fun b6 => ?_)
 refine as_ (A0 (F4 0 4 5 6) (A6 (A1 ?_)))
 refine A2 (qf_ 0 0) rfl ?_
 refine A2 ql_ rfl ?_
 refine A2 (F0 true rfl rfl (eqT rfl)) rfl ?_
 refine A0 (G6 0 4 5 6 17) ?_
 refine E9 rfl ?_
 refine A1 (mv_ ?_)
 refine A2 (qw_ 9) rfl ?_
 refine A2 (qw_ 10) rfl ?_
 refine E0 (aS rfl (aS rfl (aS rfl a0))) kR (B1X bz0 bz1 bz2 bz3 bz4 bz5 bz6 bz7 bz8 bz9 vb kb pb u1 u2 wt fu fd tu td n _ (mA hv) (hr.mono qS)) rfl ?_
 rintro v21 M21 J21 ⟨rfl, rfl⟩
 refine A2 (R6 rfl) rfl ?_
 refine A2 (R4 rfl) rfl ?_
 refine A4 rfl (B8 (vs := [.int .i64 0, .int .i64 0, .int .i64 0, .int .i64 0, vS, .bool false, vS, vS, vS, .int .u32 0, .bool false, .int .u32 0, vS, .int .u32 0, .int .u32 0, vS]) rfl rfl rfl kR qR B3o UpC.upd ?_)
 refine as_ (A0 (D0 6 7) (A7 (tr ?_)))
 exact ⟨_, [], [], W0 (n := 16) rfl rfl rfl kR At.mem qR, qZ, rfl, rfl⟩
theorem B1Z (bz0 bz1 bz2 bz3 bz4 bz5 bz6 bz7 bz8 bz9 : Value) (vb kb : Nat) (pb : Nat × Nat) (u1 u2 wt : Value) (fu fd tu td : Int) (n : Nat) (A : Mem) [Cel wt [wt]] (hv : (vb, blk [.pointer (some ⟨pb.1, 0, none⟩), (vP kb), u1, u2] 93) ∈ A) (hr : Rd A 1 u2 0 []) : FnV Tryz.prog 17 [(vP vb), .agg #[.int .u8 3, .int .i64 0, .int .i64 0, .int .i64 fu, .int .i64 fd, .int .i64 tu, .int .i64 td, (vU n), wt], .agg #[bz0, bz1, bz2, bz3, bz4, bz5, bz6, bz7, bz8, bz9]] A (.tuple #[vS, .int .i64 2]) := by
 haveI := hr.cel
 refine FnX.enter (N := 42) Tryz.func17 rfl rfl rfl fun w_ => ?_
 refine A8 (E5 0 1 2) (A1 ?_)
 refine A4 rfl (bx_ fun b4 => ?_)
 refine A4 rfl (bx_ fun b5 => ?_)
 refine as_ (as_ (A0 (E5 0 4 5) (A6 (A1 (mv_ ?_)))))
 refine A2 (C9 (e := 93) rfl rfl kR) rfl ?_
 refine A0 (F4 0 4 5 11) ?_
 refine B0 rfl ?_
 refine A5 (nx (E5 0 4 5) (A6 (A1 ?_)))
 refine A2 (qf_ 0 0) rfl ?_
 refine A2 ql_ rfl ?_
 refine A2 (F0 false rfl rfl (eqF qD)) rfl ?_
 refine A0 (F4 0 4 5 14) ?_
 refine B0 rfl ?_
 refine A5 (nx (E5 0 4 5) (A1 (mv_ ?_)))
 refine A2 (qw_ 9) rfl ?_
 refine A2 (qw_ 10) rfl ?_
 refine E0 (aS rfl (aS rfl (aS rfl a0))) kR (B1Y bz0 bz1 bz2 bz3 bz4 bz5 bz6 bz7 bz8 bz9 vb kb pb u1 u2 wt fu fd tu td n _ (mA hv) (hr.mono qS)) rfl ?_
 rintro v22 M22 J22 ⟨rfl, rfl⟩
 refine mv_ ?_
 refine A2 (R6 rfl) rfl ?_
 refine A2 (R4 rfl) rfl ?_
 refine A4 rfl (D2 (cs := [G8, G8, G8, G8, vS, .bool false, vS, vS, vS, E4, .bool false, E4, vS, E4, E4, vS]) kR rfl fun b8 => ?_)
 refine A4 rfl (B8 (vs := [.int .i64 0, .int .i64 0, .int .i64 0, .int .i64 0, vS, .bool false, vS, vS, vS, .int .u32 0, .bool false, .int .u32 0, vS, .int .u32 0, .int .u32 0, vS]) rfl rfl rfl kR qR B3o UpC.upd ?_)
 refine as_ (A0 (E5 0 8 9) (A6 (A1 (mv_ ?_))))
 refine A2 (F0 true rfl rfl (neT qD)) rfl ?_
 refine A0 (F4 0 8 9 26) ?_
 refine E9 rfl ?_
 refine A1 (mv_ (as_ (as_ (A0 (D0 6 7) (A7 (tr ?_))))))
 exact ⟨_, [], [], A1g rfl rfl rfl, List.nil_sublist _, by simp, rfl, rfl, rfl⟩

def ksI : List (LN) → List (LN) := id
structure HR (h : List Bool) : Prop where
  len : h.length = 52
  lo : Le (HL (lrI aC.2.ts (A3j aC.1)) 52) h
structure H1 (ws : List (LN)) (h : List Bool) : Prop where
  len : h.length = bD.ts.length
  lo : ∀ w ∈ ws, ∃ j, plc w bD.ts.length = some j ∧ kat h j = true
structure HK (f : Bool) (tx : LN) (h : List Bool) : Prop where
  len : h.length = (bE f tx).ts.length
  has : ∀ h2, Le h h2 → ∀ w ∈ trN (bQ f), B4J (bE f tx).ts h2 w = true
theorem bf4 : (52 ≤ bD.ts.length ∧ gdB aC.2.ts (A3j aC.1) = true) := by decide +kernel
theorem B5r {ts : List Tm} {ls : List (LN)} {w : LN} (hg : gdB ts ls = true) (hw : w ∈ ls) : ∃ j, plc w ts.length = some j ∧ j ∈ lrI ts ls := by
  obtain ⟨j, hj⟩ := Option.isSome_iff_exists.1 (List.all_eq_true.1 hg w hw)
  exact ⟨j, hj, List.mem_map.2 ⟨w, hw, by rw [hj]; rfl⟩⟩
theorem B28 {ts : List Tm} {h : List Bool} {w : LN} {j n : Nat} (hp : plc w n = some j) (hn : n ≤ ts.length) (hk : kat h j = true) : B4J ts h w = true := by
  unfold B4J
  rw [B1W hp hn]
  show (false || isK h ((j : Nat) : Int)) = true
  rw [Bool.false_or, A37]
  exact hk
theorem B8N {h h' : List Bool} (hl : h.length ≤ aC.2.ts.length) (hc : Clo (N4 aC.2.ts h (A3j aC.1)).1 (N4 aC.2.ts h (A3j aC.1)).2 h') : (N4 aC.2.ts h (A3j aC.1)).1 = aC.2.ts ∧ HR h' := by
  obtain ⟨-, d2, d3, d4⟩ := A0p hl bf4.2 hc
  exact ⟨(Y2 _ _ h hl bf4.2).1, by have := af2.1.1; omega, fun i hi => d3 i (B7d hi)⟩
theorem B8O {h h' : List Bool} (hh : HR h) (hc : Clo (N4 bD.ts h (scR bX.r)).1 (N4 bD.ts h (scR bX.r)).2 h') : (N4 bD.ts h (scR bX.r)).1 = bD.ts ∧ H1 [bX.id, bX.he.ia, bX.he.ig] h' := by
  obtain ⟨-, -, -, -, -, -, -, -, -, -, -, -, g, -⟩ := bf2
  simp only [Bool.and_eq_true] at g
  have hl : h.length ≤ bD.ts.length := by have := hh.len; have := bf4.1; omega
  obtain ⟨d1, d2, d3, d4⟩ := A0p hl g.1.1.1 hc
  have hd := B2T d1 _ _ (Le.trans hh.lo d2) g.2
  exact ⟨(Y2 _ _ h hl g.1.1.1).1, d4, fun w hw => by
    obtain ⟨j, h1, h2⟩ := B5r g.1.2 hw
    exact ⟨j, h1, hd j h2⟩⟩
theorem B8P {h h' : List Bool} (hh : H1 [bX.id, bX.he.ia, bX.he.ig] h) (hc : Clo (N4 bD.ts h [bX.he.key]).1 (N4 bD.ts h [bX.he.key]).2 h') : (N4 bD.ts h [bX.he.key]).1 = bD.ts ∧ H1 [bX.id, bX.he.ia, bX.he.ig, bX.he.key] h' := by
  obtain ⟨-, -, -, -, -, -, -, -, -, -, -, -, g, -⟩ := bf2
  simp only [Bool.and_eq_true] at g
  have hl : h.length ≤ bD.ts.length := Nat.le_of_eq hh.len
  obtain ⟨d1, d2, d3, d4⟩ := A0p hl g.1.1.2 hc
  refine ⟨(Y2 _ _ h hl g.1.1.2).1, d4, fun w hw => ?_⟩
  have hw2 : w ∈ [bX.id, bX.he.ia, bX.he.ig] ∨ w = bX.he.key := by simpa [or_assoc] using hw
  rcases hw2 with hw2 | rfl
  · obtain ⟨j, h1, h2⟩ := hh.lo w hw2
    exact ⟨j, h1, d2 j h2⟩
  · obtain ⟨j, h1, h2⟩ := B5r g.1.1.2 (List.mem_singleton.2 rfl)
    exact ⟨j, h1, d3 j h2⟩
theorem B8Q {f : Bool} {tx : LN} {h h' : List Bool} (e : BE f tx) (hh : H1 [bX.id, bX.he.ia, bX.he.ig, bX.he.key] h) (hc : Clo (N4 (bE f tx).ts h [(bQ f).hk, bG]).1 (N4 (bE f tx).ts h [(bQ f).hk, bG]).2 h') : (N4 (bE f tx).ts h [(bQ f).hk, bG]).1 = (bE f tx).ts ∧ HK f tx h' := by
  have hel := e.l
  have hle : bD.ts.length ≤ (bE f tx).ts.length := by obtain ⟨l, z⟩ := e.ext.p.ts; rw [z, List.length_append]; omega
  have hl : h.length ≤ (bE f tx).ts.length := by rw [hh.len]; exact hle
  have hg : gdB (bE f tx).ts [(bQ f).hk, bG] = true := by
    have h1 := e.pub
    obtain ⟨i, j, -, -, h3, h4⟩ := (show B2C (bE f tx) bX.r.own (bQ f).hk from h1)
    unfold gdB
    rw [List.all_cons, List.all_cons, List.all_nil, h4, B5m (List.getElem?_eq_some_iff.1 h3).1 qO]
    unfold bG
    rw [B5m (by have := e.len; omega) qO]; rfl
  obtain ⟨d1, d2, d3, d4⟩ := A0p hl hg hc
  refine ⟨(Y2 _ _ h hl hg).1, d4, fun h2 hle2 w hw => ?_⟩
  have hh1 : (bQ f).has = true := by obtain ⟨-, ⟨-, -, -, -, -, h1, -⟩, -⟩ := bf2; exact h1
  have hw2 : w ∈ [bX.id, bX.he.ia, bX.he.ig, bX.he.key] ∨ w ∈ [(bQ f).hk, bG] := by
    unfold trN at hw
    rw [if_pos hh1] at hw
    simp only [List.mem_append, List.mem_cons, List.not_mem_nil, or_false] at hw
    rcases hw with (rfl | rfl | rfl) | rfl | rfl | rfl
    · exact .inl (by show bX.id ∈ _; simp)
    · exact .inr qM
    · exact .inr (by show bG ∈ _; simp)
    · exact .inl (by show bX.he.ia ∈ _; simp)
    · exact .inl (by show bX.he.ig ∈ _; simp)
    · exact .inl (by show bX.he.key ∈ _; simp)
  rcases hw2 with hw2 | hw2
  · obtain ⟨j, h1, h3⟩ := hh.lo w hw2
    exact B28 h1 hle (hle2 j (d2 j h3))
  · obtain ⟨j, h1, h3⟩ := B5r hg hw2
    exact B28 h1 (Nat.le_refl _) (hle2 j (d3 j h3))
theorem A5Y {to : Int} {n : Nat} {w : LN} (h : ∀ x ∈ w, x < 256) : ∀ x ∈ S6 to n w, x < 256 := fun x hx => by
  unfold S6 at hx
  simp only [List.mem_append] at hx
  rcases hx with (h1 | h1) | h1 | h1
  · exact Y5 _ _ x h1
  · exact Y5 _ _ x h1
  · exact Y5 _ _ x h1
  · exact h x h1
theorem B8R : StH aC.1 bY aC.2 := by
  obtain ⟨⟨h1, h2, h3, h4, h5, h6⟩, -⟩ := bf2
  exact ⟨h1, h2, h3, h4, h5, h6⟩
theorem b_ar : Ar aC.2.ts := bf.2.2.1

def evA (e : Ev) (fu fd tu td : Int) (n : Nat) : Ev := ⟨fu, fd, tu, td, e.ses, e.has, e.he, e.hk, e.hp, n, e.g⟩
theorem B8S (i : Int) : Int.tmod i 1 = 0 := Int.tmod_one i
theorem B8T (i : Int) (A : Mem) : FnV Tryz.prog 85 [.int .i64 i, .int .i64 1] A (.int .i64 0) := by
 refine FnX.enter (N := 13) Tryz.func85 rfl rfl rfl fun w_ => ?_
 refine A8 (D0 0 1) (A1 (as_ (A0 (D0 0 1) (A6 (A1 (mv_ ?_))))))
 refine A2 (F0 false rfl rfl (eqF qD)) rfl ?_
 refine A0 (E5 0 1 6) ?_
 refine B0 rfl ?_
 refine A5 (nx (D0 0 1) (A1 (mv_ ?_)))
 refine A2 (A7Q (k' := .u64) rfl kR) rfl ?_
 refine mv_ ?_
 refine A2 (X4 (k' := .u64) 1 rfl kR qR) rfl ?_
 refine A2 (B5A rfl rfl qD) rfl ?_
 rw [B8S]
 refine A2 (X4 (k' := .i64) 0 rfl kR qR) rfl ?_
 refine as_ (A0 (C7 4) (A7 ?_))
 exact ⟨_, [], [], F7 rfl rfl, List.nil_sublist _, by simp, rfl, rfl, rfl⟩

theorem B7x {ts : List Tm} {h h' : List Bool} (hc : Clo ts h h') : Le h h' ∧ h'.length = ts.length := ⟨hc.sup, hc.len⟩
theorem B8U {e : Ev} (hh : e.has = true) : e.ses ∈ trN e ∧ e.hk ∈ trN e ∧ e.g ∈ trN e ∧ e.he.ia ∈ trN e ∧ e.he.ig ∈ trN e ∧ e.he.key ∈ trN e := by
  unfold trN; rw [hh]; simp

end Go.Proofs.YtoameenjkiaefaaGreatDoor
