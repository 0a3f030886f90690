/- Part 19 of the texts of this claim, one behind the other. -/
import Derived.Test.YtlilcmjbaknafaaGreatDoorB18
set_option linter.unusedVariables false
set_option linter.unusedSimpArgs false
set_option maxRecDepth 100000
namespace Go.Proofs.YtlilcmjbaknafaaGreatDoor
open Go.Px
def SkW (s : Ps) (x : Skp) : Prop := KK s x.key ∧ x.of.length = 32 ∧ x.n < 4294967296
structure WfR (s : Ps) (r : Rsd) : Prop where
  own : KK s r.own
  root : KK s r.root
  sk : r.sk = [] ∨ KK s r.sk
  tk : r.tk = [] ∨ KK s r.tk
  th : r.their = [] ∨ ∃ b, K32 b ∧ U5 s b r.their
  sks : ∀ x ∈ r.sks, SkW s x
  tt : r.tk ≠ [] → r.their ≠ []
theorem SkW.ext {s s' : Ps} {x : Skp} (h : SkW s x) (he : Pext s s') : SkW s' x := ⟨h.1.ext he, h.2⟩
theorem WfR.ext {s s' : Ps} {r : Rsd} (h : WfR s r) (he : Pext s s') : WfR s' r :=
  ⟨h.own.ext he, h.root.ext he, h.sk.imp id fun k => k.ext he, h.tk.imp id fun k => k.ext he, h.th.imp id fun ⟨b, k, p⟩ => ⟨b, k, p.ext he⟩, fun x hx => (h.sks x hx).ext he, h.tt⟩
theorem A76 {sks : List Skp} {of : List Nat} {n : Nat} {x : Skp} (h : x ∈ A4u sks of n) : x ∈ sks := by
  unfold A4u at h
  split at h
  · exact h
  · exact List.mem_of_mem_eraseIdx h
theorem B3K {sks : List Skp} {x y : Skp} (h : y ∈ A7M sks x) : y ∈ sks ∨ y = x := by
  rcases List.mem_append.1 (List.mem_of_mem_drop (show y ∈ (A4u sks x.of x.n ++ [x]).drop _ from h)) with h | h
  · exact .inl (A76 h)
  · exact .inr (List.mem_singleton.1 h)
theorem B3L {sks : List Skp} {of k : List Nat} {n : Nat} (h : A5l sks of n = some k) : ∃ x ∈ sks, x.key = k := by
  unfold A5l at h
  split at h
  · cases h
  · obtain ⟨x, h1, h2⟩ := Option.map_eq_some_iff.1 h
    exact ⟨x, List.mem_of_getElem? h1, h2⟩
theorem A77 : ∀ x ∈ F2, x < 256 := by decide
theorem B3M {hk : List Nat} (h : ∀ x ∈ hk, x < 256) (p n : Nat) : ∀ x ∈ A5o hk p n, x < 256 := fun x hx => by
  unfold A5o at hx
  simp only [List.mem_append] at hx
  rcases hx with ((h1 | h1) | h1) | h1
  · exact A4v _ _ x h1
  · exact h x h1
  · exact A4v _ _ x h1
  · exact A4v _ _ x h1
theorem B8r {w hk : List Nat} (hw : ∀ x ∈ w, x < 256) (h : ∀ x ∈ hk, x < 256) (p n : Nat) : ∀ x ∈ alW w hk p n, x < 256 := fun x hx => by
  unfold alW A4y at hx
  simp only [List.mem_append] at hx
  rcases hx with ((h1 | h1) | h1) | h1
  · exact A4v _ _ x h1
  · exact hw x h1
  · exact A4v _ _ x h1
  · exact B3M h p n x h1
theorem B6S (w hk : List Nat) (p n : Nat) : (alW w hk p n).length = w.length + hk.length + 20 := by unfold alW; rw [A2l, A14]; omega
theorem A8R (K N wa p : List Nat) : (U7 K N wa p).length = p.length + 16 := by unfold U7; rw [List.length_append, X8, A3M]
theorem B3N (s : Ps) (w a b : List Nat) : (B6x s w a b).length ≤ b.length + 32 := by
  unfold B6x
  split
  · rw [A8R]; omega
  · unfold B4j; rw [show (bts _).length = 32 from A0t _ (by decide)]; omega
structure Snt (s : Ps) (hk : List Nat) (hp hn : Nat) (g : List Nat) : Prop where
  pub : ∃ b, K32 b ∧ U5 s b hk
  hp : hp < 4294967296
  hn : hn < 4294967296
  gl : g.length ≤ 1000
theorem Snt.ext {s s' : Ps} {hk : List Nat} {hp hn : Nat} {g : List Nat} (h : Snt s hk hp hn g) (he : Pext s s') : Snt s' hk hp hn g := by
  obtain ⟨⟨b, h1, h2⟩, h3, h4, h5⟩ := h
  exact ⟨⟨b, h1, h2.ext he⟩, h3, h4, h5⟩
theorem A1e (s : Ps) (r : Rsd) (w t : List Nat) : (W3 s r w t).ts.length ≤ s.ts.length + 7 ∧ (W3 s r w t).n = s.n := by
  have h1 := A2k s r.own
  have h2 := A0n (K5 s r.own) r.sk
  have h3 := A75 (W1 (K5 s r.own) r.sk) (A0h (K5 s r.own) r.sk) (B1v s r w) t
  have h4 := B6h s r.own
  unfold W3
  exact ⟨by omega, by omega⟩
theorem B8s {s : Ps} {r : Rsd} {w t : List Nat} (h : GS s) (hr : WfR s r) (hsk : r.sk ≠ []) (hp : r.prev < 4294967296) (hn : r.sn < 4294967296) (hw : ∀ x ∈ w, x < 256) (hwl : w.length ≤ 1000) (ht : ∀ x ∈ t, x < 256) (htl : t.length ≤ 900) (hl : s.ts.length ≤ 1020000) :
    GS (W3 s r w t) ∧ Ext s (W3 s r w t) ∧ WfR (W3 s r w t) (U8 s r) ∧ U5 (W3 s r w t) r.own (I0 s r.own) ∧ Snt (W3 s r w t) (I0 s r.own) r.prev r.sn (A1d s r w t) ∧ A2z (W3 s r w t) r.sk (A0h (K5 s r.own) r.sk) (A2B (K5 s r.own) r.sk) ∧ KK (W3 s r w t) (A0h (K5 s r.own) r.sk) ∧
    (∀ s', GS s' → Pext (W3 s r w t) s' → s'.ts.length ≤ 1048576 → A1H s' (A0h (K5 s r.own) r.sk) (alW w (I0 s r.own) r.prev r.sn) (A1d s r w t) = some t) := by
  have hk : KK s r.sk := hr.sk.resolve_left hsk
  have l1 := A2k s r.own
  obtain ⟨g1, p1⟩ := B6R h hr.own (by omega)
  have e1 := B0P s r.own
  obtain ⟨g2, k2, k3, sa⟩ := A74 (c := r.sk) g1 (hk.ext e1.p) (by omega)
  have e2 := A64 (K5 s r.own) r.sk
  have l2 := A0n (K5 s r.own) r.sk
  have hal : ∀ x ∈ B1v s r w, x < 256 := B8r hw p1.k32.1 _ _
  have hall : (B1v s r w).length = w.length + 32 + 20 := by rw [← p1.k32.2]; exact B6S _ _ _ _
  have g3 := B9H (a := B1v s r w) (b := t) g2 k2 hal ht (by omega) (by omega) (by omega)
  have e3 := B8q (W1 (K5 s r.own) r.sk) (A0h (K5 s r.own) r.sk) (B1v s r w) t
  have l3 := A75 (W1 (K5 s r.own) r.sk) (A0h (K5 s r.own) r.sk) (B1v s r w) t
  have eA : Ext s (W3 s r w t) := e1.trans (e2.trans e3)
  have g3' : GS (W3 s r w t) := g3
  have p3 : U5 (W3 s r w t) r.own (I0 s r.own) := p1.ext (e2.trans e3).p
  refine ⟨g3', eA, ?_, p3, ⟨⟨_, hr.own.2, p3⟩, hp, hn, ?_⟩, ?_, k2.ext e3.p, ?_⟩
  · have h' := hr.ext eA.p
    exact ⟨h'.own, h'.root, .inr (k3.ext e3.p), h'.tk, h'.th, h'.sks, h'.tt⟩
  · have := B3N (W1 (K5 s r.own) r.sk) (A0h (K5 s r.own) r.sk) (B1v s r w) t
    unfold A1d; omega
  · have := A1e s r w t
    exact sa.ext e3.p g2 g3 (show (W3 s r w t).ts.length ≤ _ by omega)
  · intro s' g' e' l'
    exact B6y g2.tok k2.1 hal ht (Nat.le_trans (Nat.le_of_eq hall) (by omega)) (by omega) e' g'.tok l'
theorem B8t {of : List Nat} (ho : of.length = 32) : ∀ (i : Nat) {x : Ast}, GS x.1 → KK x.1 x.2.1 → (∀ y ∈ x.2.2.2, SkW x.1 y) → x.2.2.1 + i < 4294967296 → x.1.ts.length + 3 * i ≤ 1020000 →
    GS (rep (aSt of) i x).1 ∧ Ext x.1 (rep (aSt of) i x).1 ∧ KK (rep (aSt of) i x).1 (rep (aSt of) i x).2.1 ∧ ∀ y ∈ (rep (aSt of) i x).2.2.2, SkW (rep (aSt of) i x).1 y
  | 0, x, h1, h2, h3, _, _ => ⟨h1, Ext.refl _, h2, h3⟩
  | i + 1, x, h1, h2, h3, hn, hl => by
    obtain ⟨g1, g2, g3, g4⟩ := B8t ho i h1 h2 h3 (by omega) (by omega)
    have hts := B0X of i x
    have hnn := B3s of i x
    have e1 := A64 (rep (aSt of) i x).1 (rep (aSt of) i x).2.1
    obtain ⟨a1, a2, a3, -⟩ := A74 g1 g3 (by omega)
    refine ⟨a1, g2.trans e1, a3, fun y hy => ?_⟩
    rcases B3K (show y ∈ A7M (rep (aSt of) i x).2.2.2 ⟨of, (rep (aSt of) i x).2.2.1, A0h (rep (aSt of) i x).1 (rep (aSt of) i x).2.1⟩ from hy) with hy | rfl
    · exact (g4 y hy).ext e1.p
    · exact ⟨a2, ho, by show (rep (aSt of) i x).2.2.1 < _; omega⟩
theorem B8u {s : Ps} {key of : List Nat} {N n : Nat} {sks : List Skp} (h : GS s) (hk : KK s key) (ho : of.length = 32) (hs : ∀ y ∈ sks, SkW s y) (hn : n < 4294967296) (hl : s.ts.length ≤ 1010000) :
    GS (ahX s key N n of sks).1 ∧ Ext s (ahX s key N n of sks).1 ∧ KK (ahX s key N n of sks).1 (ahX s key N n of sks).2.1 ∧ ∀ y ∈ (ahX s key N n of sks).2.2.2, SkW (ahX s key N n of sks).1 y := by
  by_cases hE : ahE N n = 0
  · obtain ⟨h1, h2⟩ := B1y hE
    rw [A3Q hE]
    exact B8t ho (n - N) (x := (s, key, N, sks)) h hk hs (by dsimp only; omega) (by dsimp only; omega)
  · rw [B1A hE]
    exact ⟨h, Ext.refl _, hk, hs⟩
theorem B8v {s : Ps} {r : Rsd} {w hk g : List Nat} {hp hn : Nat} (h : GS s) (hr : WfR s r) (hm : Snt s hk hp hn g) (tn : r.tn < 4294967296) (sn : s.n < 1000000000) (hsl : r.sks.length ≤ 1000) (hl : s.ts.length ≤ 1000000) :
    OpnH s r hk hp hn ∧ GS (P6 s r w hk hp hn g).1 ∧ Ext s (P6 s r w hk hp hn g).1 ∧ WfR (P6 s r w hk hp hn g).1 (P6 s r w hk hp hn g).2.1 ∧ (P6 s r w hk hp hn g).1.ts.length ≤ s.ts.length + 200 ∧ (P6 s r w hk hp hn g).1.n ≤ s.n + 1 ∧ (P6 s r w hk hp hn g).2.1.sks.length ≤ 1000 ∧ (r.their ≠ [] → (P6 s r w hk hp hn g).2.1.their ≠ []) := by
  obtain ⟨b, hb, hB⟩ := hm.pub
  have kB := hB.kk
  have hkn : hk ≠ [] := fun e => by have := kB.2.2; rw [e] at this; cases this
  -- the first half
  have hA : GS (opA s r hp).1 ∧ Ext s (opA s r hp).1 ∧ (∀ y ∈ (opA s r hp).2.2.2, SkW (opA s r hp).1 y) := by
    by_cases h0 : r.tk = []
    · rw [B1D h0]; exact ⟨h, Ext.refl _, hr.sks⟩
    · rw [A5t h0]
      obtain ⟨b', hb', hB'⟩ := hr.th.resolve_left (hr.tt h0)
      obtain ⟨x1, x2, x3, x4⟩ := B8u (N := r.tn) (n := hp) h (hr.tk.resolve_left h0) hB'.k32.2 hr.sks hm.hp (by omega)
      exact ⟨x1, x2, x4⟩
  obtain ⟨a1, a2, a3⟩ := hA
  have lA := B6N s r hp tn hm.hp hsl
  have lT := A1b (opA s r hp).1 r.root r.own hk
  obtain ⟨t1, t2, t3, -⟩ := B3J a1 (hr.root.ext a2.p) (hr.own.ext a2.p) (hB.ext a2.p) hb (by omega)
  have tE := A73 (opA s r hp).1 r.root r.own hk
  have hBx : ∀ x, opB s r hk hp = x → GS x.1 ∧ Ext s x.1 ∧ KK x.1 x.2.root ∧ KK x.1 x.2.tk ∧ (∃ b, K32 b ∧ U5 x.1 b x.2.their) ∧ (∀ y ∈ x.2.sks, SkW x.1 y) ∧ x.2.tn < 4294967296 ∧ x.2.sks.length ≤ 1000 ∧ x.1.ts.length ≤ s.ts.length + 55 ∧ x.1.n = s.n := by
    intro x hx
    subst hx
    cases hf : A1p r hk with
    | true =>
      rw [B3H hf]
      exact ⟨t1, a2.trans tE, t2, t3, ⟨b, hb, (hB.ext a2.p).ext tE.p⟩, fun y hy => (a3 y hy).ext tE.p, (show 0 < 4294967296 by decide), lA.2.2.2, by show (A3T _ _ _ _).ts.length ≤ _; omega, lT.2.trans lA.2.1⟩
    | false =>
      rw [B6L hf]
      have htk : r.tk ≠ [] := fun e => by unfold A1p at hf; rw [e] at hf; simp at hf
      exact ⟨h, Ext.refl _, hr.root, hr.tk.resolve_left htk, hr.th.resolve_left (hr.tt htk), hr.sks, tn, hsl, by dsimp only; omega, rfl⟩
  obtain ⟨x, hx⟩ : ∃ x, opB s r hk hp = x := ⟨_, rfl⟩
  obtain ⟨b1, b2, b3, b4, ⟨bt, bt1, bt2⟩, b6, b7, b8, b9, b10⟩ := hBx x hx
  have hC := B8u (N := x.2.tn) (n := hn) b1 b4 bt2.k32.2 b6 hm.hn (by omega)
  have lC := B6I x.1 x.2.tk x.2.tn hn x.2.their x.2.sks b7 hm.hn b8
  change GS (opC x hn).1 ∧ Ext x.1 (opC x hn).1 ∧ KK (opC x hn).1 (opC x hn).2.1 ∧ ∀ y ∈ (opC x hn).2.2.2, SkW (opC x hn).1 y at hC
  change (opC x hn).1.ts.length ≤ _ ∧ (opC x hn).1.n = _ ∧ (opC x hn).2.2.1 < _ ∧ (opC x hn).2.2.2.length ≤ _ at lC
  obtain ⟨c1, c2, c3, c4⟩ := hC
  obtain ⟨d1, d2, d3, -⟩ := A74 c1 c3 (by omega)
  have dE := A64 (opC x hn).1 (opC x hn).2.1
  have dL := A0n (opC x hn).1 (opC x hn).2.1
  have hD : Ext s (opD x hn) := b2.trans (c2.trans dE)
  have hW : WfR (opD x hn) (opG r x hn) := by
    have h' := hr.ext hD.p
    exact ⟨h'.own, b3.ext (c2.trans dE).p, h'.sk, .inr d3, .inr ⟨bt, bt1, bt2.ext (c2.trans dE).p⟩, fun y hy => (c4 y hy).ext dE.p, fun _ e => by have e2 : x.2.their = [] := e; have := bt2.k32.2; rw [e2] at this; cases this⟩
  obtain ⟨f1, f2⟩ := A3S (s := opD x hn) d1 (by show (W1 _ _).n < _; omega)
  have fE := A2S (opD x hn)
  have fL := A0z (opD x hn)
  have lT2 := A1b (E6 (opD x hn)) x.2.root (I5 (opD x hn)) x.2.their
  have lD : (opD x hn).ts.length ≤ s.ts.length + 110 ∧ (opD x hn).n = s.n := by
    show (W1 _ _).ts.length ≤ _ ∧ (W1 _ _).n = _
    exact ⟨by omega, by omega⟩
  obtain ⟨u1, u2, u3, -⟩ := B3J f1 ((b3.ext (c2.trans dE).p).ext fE.p) f2 ((bt2.ext (c2.trans dE).p).ext fE.p) bt1 (by omega)
  have uE := A73 (E6 (opD x hn)) x.2.root (I5 (opD x hn)) x.2.their
  have hO : OpnH s r hk hp hn := ⟨h.sel, fun k hk_ => by obtain ⟨y, hy, rfl⟩ := B3L hk_; exact (hr.sks y hy).1.1, by rw [hx]; exact d1.sel, by rw [hx]; exact d2.1⟩
  refine ⟨hO, ?_⟩
  have hsame : GS s ∧ Ext s s ∧ WfR s r ∧ s.ts.length ≤ s.ts.length + 200 ∧ s.n ≤ s.n + 1 ∧ r.sks.length ≤ 1000 ∧ (r.their ≠ [] → r.their ≠ []) := ⟨h, Ext.refl _, hr, by omega, by omega, hsl, id⟩
  have hth : x.2.their ≠ [] := fun e => by have := bt2.k32.2; rw [e] at this; cases this
  unfold P6
  split
  · split
    · exact hsame
    · exact ⟨h, Ext.refl _, ⟨hr.own, hr.root, hr.sk, hr.tk, hr.th, fun y hy => hr.sks y (A76 hy), hr.tt⟩, by dsimp only; omega, by dsimp only; omega, Nat.le_trans (A5k _ _ _) hsl, id⟩
  · split
    · exact ⟨a1, a2, hr.ext a2.p, by dsimp only; omega, by dsimp only; omega, hsl, id⟩
    · rw [hx]
      split
      · exact ⟨c1, b2.trans c2, hr.ext (b2.trans c2).p, by dsimp only; omega, by dsimp only; omega, hsl, id⟩
      · split
        · exact ⟨d1, hD, hr.ext hD.p, by dsimp only; omega, by dsimp only; omega, hsl, id⟩
        · cases hf : A1p r hk with
          | false =>
            rw [B8n rfl]
            exact ⟨d1, hD, hW, by dsimp only; omega, by dsimp only; omega, lC.2.2.2, fun _ => hth⟩
          | true =>
            rw [B6M rfl]
            have hW2 := hW.ext (fE.trans uE).p
            refine ⟨u1, hD.trans (fE.trans uE), ⟨f2.ext uE.p, u2, .inr u3, hW2.tk, hW2.th, hW2.sks, hW2.tt⟩, ?_, ?_, lC.2.2.2, fun _ => hth⟩
            · show (A3T (E6 (opD x hn)) x.2.root (I5 (opD x hn)) x.2.their).ts.length ≤ _
              omega
            · show (A3T (E6 (opD x hn)) x.2.root (I5 (opD x hn)) x.2.their).n ≤ _
              omega
theorem wf0 (m : Nat) : GS (B1T (rS m) (rK m) (rP m)) ∧ WfR (B1T (rS m) (rK m) (rP m)) (B1S (rS m) (rK m) (rP m)) ∧ WfR (B1T (rS m) (rK m) (rP m)) (A1G (rK m) (rO m)) ∧ (B1T (rS m) (rK m) (rP m)).ts.length ≤ 12 ∧ (B1T (rS m) (rK m) (rP m)).n = 3 ∧
    TrnAt (B1T (rS m) (rK m) (rP m)) (rK m) (B1S (rS m) (rK m) (rP m)).own (rO m) (B1S (rS m) (rK m) (rP m)).root (B1S (rS m) (rK m) (rP m)).sk ∧ (B1S (rS m) (rK m) (rP m)).sk ≠ [] := by
  have g0 : GS (rg0 m) := ⟨Tok.nil, W2.nil⟩
  have n0 : (rg0 m).n = 0 := rfl
  have t0 : (rg0 m).ts.length = 0 := rfl
  obtain ⟨g1, k1⟩ := A3S g0 (by omega)
  have l1 := A0z (rg0 m)
  obtain ⟨g2, k2⟩ := A3S g1 (by omega)
  have l2 := A0z (E6 (rg0 m))
  have e2 := A2S (E6 (rg0 m))
  obtain ⟨g3, p3⟩ := B6R g2 k2 (by omega)
  have l3 := A2k (E6 (E6 (rg0 m))) (rO m)
  have n3 := B6h (E6 (E6 (rg0 m))) (rO m)
  have e3 := B0P (E6 (E6 (rg0 m))) (rO m)
  change GS (rS m) at g3
  change U5 (rS m) (rO m) (rP m) at p3
  change (rS m).ts.length ≤ _ at l3
  change (rS m).n = _ at n3
  obtain ⟨g4, k4⟩ := A3S g3 (by omega)
  have l4 := A0z (rS m)
  have e4 := A2S (rS m)
  have kK : KK (E6 (rS m)) (rK m) := ((k1.ext e2.p).ext e3.p).ext e4.p
  have kO : KK (E6 (rS m)) (rO m) := (k2.ext e3.p).ext e4.p
  obtain ⟨g5, k5, k6, ta⟩ := B3J g4 kK k4 (p3.ext e4.p) k2.2 (by omega)
  have e5 := A73 (E6 (rS m)) (rK m) (I5 (rS m)) (rP m)
  have l5 := A1b (E6 (rS m)) (rK m) (I5 (rS m)) (rP m)
  refine ⟨g5, ⟨k4.ext e5.p, k5, .inr k6, .inl rfl, .inr ⟨_, k2.2, (p3.ext e4.p).ext e5.p⟩, (fun x hx => by cases hx), fun h => absurd rfl h⟩, ⟨kO.ext e5.p, kK.ext e5.p, .inl rfl, .inl rfl, .inl rfl, (fun x hx => by cases hx), fun h => absurd rfl h⟩, ?_, ?_, ta, ?_⟩
  · show (A3T _ _ _ _).ts.length ≤ _; omega
  · show (A3T _ _ _ _).n = _; omega
  · intro e
    have := k6.2.2
    rw [show A8X (E6 (rS m)) (rK m) (I5 (rS m)) (rP m) = [] from e] at this
    cases this

def B8J (hk : List Nat) (k : Nat → List Nat) (sks : List Skp) : Nat → List Skp
  | 0 => sks
  | i + 1 => A7M (B8J hk k sks i) ⟨hk, i, k i⟩
theorem B4M {s : Ps} {hk : List Nat} {c k : Nat → List Nat} {sks : List Skp} : ∀ (i : Nat), (∀ j, j < i → A2z s (c j) (k j) (c (j + 1))) → rep (aSt hk) i (s, c 0, 0, sks) = (s, c i, i, B8J hk k sks i)
  | 0, _ => rfl
  | i + 1, h => by
    show aSt hk (rep (aSt hk) i (s, c 0, 0, sks)) = _
    rw [B4M i fun j hj => h j (by omega)]
    obtain ⟨e1, e2, e3⟩ := (h i (by omega)).eq
    unfold aSt
    dsimp only
    rw [e1, e2, e3]
    rfl
theorem B6T {s : Ps} {r : Rsd} {w hk b R C g t : List Nat} {hp n : Nat} {c k : Nat → List Nat} (hg : GS s) (hl : s.ts.length ≤ 1000000) (h0 : A5l r.sks hk n = none) (hfr : A1p r hk = true) (hA : opA s r hp = (s, r.tk, r.tn, r.sks)) (hAE : A8Q r hp = 0) (ta : TrnAt s r.root r.own b R C) (hB : U5 s b hk)
    (hc : c 0 = C) (h16 : n ≤ 16) (hst : ∀ j, j ≤ n → A2z s (c j) (k j) (c (j + 1))) (ho : A1H s (k n) (alW w hk hp n) g = some t) :
    P6 s r w hk hp n g = (A3T (E6 s) R (I5 s) hk, ⟨I5 s, hk, B1R (E6 s) R (I5 s) hk, A8X (E6 s) R (I5 s) hk, 0, c (n + 1), n + 1, r.sn, B8J hk k r.sks n⟩, 0, t) := by
  obtain ⟨e1, e2, e3⟩ := ta.eq hB hg (by omega)
  have hx : opB s r hk hp = (s, ⟨r.own, hk, R, r.sk, r.sn, C, 0, r.prev, r.sks⟩) := by
    rw [B3H hfr, hA]
    unfold B8I
    dsimp only
    rw [e1, e2, e3]
  have hE : ahE 0 n = 0 := B1z (Nat.zero_le _) (by omega)
  have hC : opC (s, (⟨r.own, hk, R, r.sk, r.sn, C, 0, r.prev, r.sks⟩ : Rsd)) n = (s, c n, n, B8J hk k r.sks n) := by
    show ahX s C 0 n hk r.sks = _
    rw [A3Q hE, Nat.sub_zero, ← hc]
    exact B4M n fun j hj => hst j (by omega)
  obtain ⟨f1, f2, f3⟩ := (hst n (Nat.le_refl _)).eq
  have hD : opD (s, (⟨r.own, hk, R, r.sk, r.sn, C, 0, r.prev, r.sks⟩ : Rsd)) n = s := by unfold opD; rw [hC]; exact f1
  have hK : A8Z (s, (⟨r.own, hk, R, r.sk, r.sn, C, 0, r.prev, r.sks⟩ : Rsd)) n = k n := by unfold A8Z; rw [hC]; exact f2
  rw [B1C h0 hx (fun _ => hAE) hE (by rw [hD, hK]; exact ho), B6M hfr, hD]
  unfold opF opG
  rw [hC]
  dsimp only
  rw [f3, Nat.mod_eq_of_lt (by omega)]
noncomputable def snd (m : Nat) : Nat → Ps × Rsd
  | 0 => (B1T (rS m) (rK m) (rP m), B1S (rS m) (rK m) (rP m))
  | i + 1 => (W3 (snd m i).1 (snd m i).2 F2 [i % 256], U8 (snd m i).1 (snd m i).2)
noncomputable def B8w (m i : Nat) : List Nat := I0 (snd m i).1 (snd m i).2.own
noncomputable def B8K (m i : Nat) : List Nat := A0h (K5 (snd m i).1 (snd m i).2.own) (snd m i).2.sk
noncomputable def sndG (m i : Nat) : List Nat := A1d (snd m i).1 (snd m i).2 F2 [i % 256]
structure SnF (m i : Nat) : Prop where
  gs : GS (snd m i).1
  ext : Ext (snd m 0).1 (snd m i).1
  wf : WfR (snd m i).1 (snd m i).2
  len : (snd m i).1.ts.length ≤ 12 + 7 * i
  n : (snd m i).1.n = 3
  prev : (snd m i).2.prev = 0
  sn : (snd m i).2.sn = i
  own : (snd m i).2.own = (snd m 0).2.own
  sk : (snd m i).2.sk ≠ []
structure SnG (m i : Nat) : Prop where
  gs : GS (snd m (i + 1)).1
  ext : Ext (snd m i).1 (snd m (i + 1)).1
  wf : WfR (snd m (i + 1)).1 (snd m (i + 1)).2
  pub : U5 (snd m (i + 1)).1 (snd m i).2.own (B8w m i)
  snt : Snt (snd m (i + 1)).1 (B8w m i) 0 i (sndG m i)
  step : A2z (snd m (i + 1)).1 (snd m i).2.sk (B8K m i) (snd m (i + 1)).2.sk
  kk : KK (snd m (i + 1)).1 (B8K m i)
  opn : ∀ s', GS s' → Pext (snd m (i + 1)).1 s' → s'.ts.length ≤ 1048576 → A1H s' (B8K m i) (alW F2 (B8w m i) 0 i) (sndG m i) = some [i % 256]
def skL (hk : List Nat) (k : Nat → List Nat) (n : Nat) : List Skp := (List.range n).map fun j => ⟨hk, j, k j⟩
noncomputable def sndS (m k : Nat) : Ps := (snd m (k + 1)).1
structure SkF (m k : Nat) (z : Ps × Rsd × Int × List Nat) : Prop where
  e : z.2.2.1 = 0
  t : z.2.2.2 = [k % 256]
  gs : GS z.1
  wf : WfR z.1 z.2.1
  ext : Ext (sndS m k) z.1
  len : z.1.ts.length ≤ 600
  n : z.1.n ≤ 4
  their : z.2.1.their = B8w m 0
  tk : z.2.1.tk ≠ []
  tn : z.2.1.tn = k + 1
  sks : z.2.1.sks = skL (B8w m 0) (B8K m) k
structure Lnk (s : Ps) (a b : Rsd) : Prop where
  gs : GS s
  wa : WfR s a
  wb : WfR s b
  ta : TrnAt s b.root b.own a.own a.root a.sk
  sn : a.sn = 0
  sk : a.sk ≠ []
  ska : a.sks = []
  skb : b.sks = []
  an : a.tn < 4294967296
  bn : b.tn < 4294967296
  bs : b.sn < 4294967296
structure Png (s : Ps) (a b : Rsd) (t : List Nat) (s2 : Ps) (b2 : Rsd) : Prop where
  o : OpnH (W3 s a F2 t) b (I0 s a.own) a.prev 0
  e : P6 (W3 s a F2 t) b F2 (I0 s a.own) a.prev 0 (A1d s a F2 t) = (s2, b2, 0, t)
  l : Lnk s2 b2 (U8 s a)
  snt : Snt (W3 s a F2 t) (I0 s a.own) a.prev 0 (A1d s a F2 t)
  s2e : s2 = A3T (E6 (W3 s a F2 t)) a.root (I5 (W3 s a F2 t)) (I0 s a.own)
  b2e : b2 = ⟨I5 (W3 s a F2 t), I0 s a.own, B1R (E6 (W3 s a F2 t)) a.root (I5 (W3 s a F2 t)) (I0 s a.own), A8X (E6 (W3 s a F2 t)) a.root (I5 (W3 s a F2 t)) (I0 s a.own), 0, A2B (K5 s a.own) a.sk, 1, b.sn, []⟩
  len : s2.ts.length ≤ s.ts.length + 20
  n : s2.n = s.n + 1
theorem B9I {s : Ps} {a b : Rsd} {t : List Nat} (h : Lnk s a b) (hfr : A1p b (I0 s a.own) = true) (hp : b.tk = [] ∨ b.tn = a.prev) (pv : a.prev < 4294967296) (ht : ∀ x ∈ t, x < 256) (htl : t.length ≤ 900) (hl : s.ts.length ≤ 900000) (hn : s.n < 900000000) : ∃ s2 b2, Png s a b t s2 b2 := by
  obtain ⟨a1, a2, a3, a4, a5, a6, a7, a8⟩ := B8s (w := F2) (t := t) h.gs h.wa h.sk pv (by rw [h.sn]; decide) A77 (by decide) ht htl (by omega)
  rw [h.sn] at a5 a8
  have l1 := A1e s a F2 t
  have hO := B8v (w := F2) (g := A1d s a F2 t) a1 (h.wb.ext a2.p) a5 h.bn (by omega) (by rw [h.skb]; exact Nat.zero_le _) (by omega)
  have hA : opA (W3 s a F2 t) b a.prev = (W3 s a F2 t, b.tk, b.tn, b.sks) ∧ A8Q b a.prev = 0 := by
    by_cases h0 : b.tk = []
    · exact ⟨B1D h0, B1E h0⟩
    · have e := hp.resolve_left h0
      have hE : ahE b.tn a.prev = 0 := by rw [e]; exact B1z (Nat.le_refl _) (by omega)
      rw [A5t h0, A2W h0, A3Q hE]
      refine ⟨?_, hE⟩
      rw [e, Nat.sub_self]; rfl
  have e := B6T (s := W3 s a F2 t) (r := b) (w := F2) (g := A1d s a F2 t) (t := t) (hp := a.prev) (n := 0) (c := fun j => if j = 0 then a.sk else (U8 s a).sk) (k := fun _ => A0h (K5 s a.own) a.sk) a1 (by omega) (by rw [h.skb]; rfl) hfr hA.1 hA.2 (h.ta.ext a2.p h.gs a1 (by omega)) a4 rfl (by decide)
    (fun j hj => by rw [show j = 0 by omega]; exact a6) (a8 _ a1 (Pext.refl _) (by omega))
  rw [h.skb] at e
  change _ = (_, (⟨_, _, _, _, 0, A2B (K5 s a.own) a.sk, 1, b.sn, []⟩ : Rsd), 0, t) at e
  obtain ⟨o1, o2, o3, o4, o5, o6, o7, o8⟩ := hO
  rw [e] at o2 o3 o4 o5 o6
  obtain ⟨f1, f2⟩ := A3S a1 (by omega)
  have fE := A2S (W3 s a F2 t)
  have l2 := A0z (W3 s a F2 t)
  have kr : KK (E6 (W3 s a F2 t)) a.root := (h.wa.root.ext a2.p).ext fE.p
  obtain ⟨t1, t2, t3, t4⟩ := B3J f1 kr f2 (a4.ext fE.p) h.wa.own.2 (by omega)
  have tE := A73 (E6 (W3 s a F2 t)) a.root (I5 (W3 s a F2 t)) (I0 s a.own)
  have l3 := A1b (E6 (W3 s a F2 t)) a.root (I5 (W3 s a F2 t)) (I0 s a.own)
  refine ⟨_, _, ⟨o1, e, ⟨t1, o4, a3.ext (fE.trans tE).p, t4.comm, rfl, ?_, rfl, h.ska, (show 1 < 4294967296 by decide), h.an, ?_⟩, a5, rfl, rfl, by omega, by omega⟩⟩
  · intro e3
    have := t3.2.2
    rw [show A8X (E6 (W3 s a F2 t)) a.root (I5 (W3 s a F2 t)) (I0 s a.own) = [] from e3] at this
    cases this
  · show (a.sn + 1) % 4294967296 < _; exact Nat.mod_lt _ (by decide)

theorem Par.mono {R R' : Mem} {tb pb : Nat} {s : Ps} {r0 r1 : Rsd} {M : Mem} (h : Par R tb pb s r0 r1 M) (hR : ∀ x, x ∈ R → x ∈ R') : Par R' tb pb s r0 r1 M := by
  obtain ⟨ao, at_, ar, ak, al, aq, bo, bt, br, bk, bl, bq, MP, h1, h2, h3, h4⟩ := h
  exact ⟨ao, at_, ar, ak, al, aq, bo, bt, br, bk, bl, bq, MP, h1, h2.mono hR, h3.mono hR, h4⟩
def hiW : List Nat := [104, 105]
def hoW : List Nat := [104, 111]
noncomputable def p0S (m : Nat) : Ps := B1T (rS m) (rK m) (rP m)
noncomputable def p0A (m : Nat) : Rsd := B1S (rS m) (rK m) (rP m)
noncomputable def p0B (m : Nat) : Rsd := A1G (rK m) (rO m)
theorem lnk0 (m : Nat) : Lnk (p0S m) (p0A m) (p0B m) ∧ (p0S m).ts.length ≤ 12 ∧ (p0S m).n = 3 := by
  obtain ⟨w1, w2, w3, w4, w5, w6, w7⟩ := wf0 m
  exact ⟨⟨w1, w2, w3, w6.comm, rfl, w7, rfl, rfl, (show 0 < 4294967296 by decide), (show 0 < 4294967296 by decide), (show 0 < 4294967296 by decide)⟩, w4, w5⟩
theorem B4N {r : Rsd} (h : r.tk = []) (hk : List Nat) : A1p r hk = true := by unfold A1p; rw [h]; simp
theorem B1L (A : Mem) (hG : Glb A) : FnV Tryz.prog 7 [] A (.bool true) := by
 refine FnX.enter (N := 55) Tryz.func7 rfl rfl rfl fun w_ => ?_
 refine B0 kn (A1 (as_ (A0 kn (A1 ?_))))
 refine C6 (aS rfl a0) kR (A72 1 _ (by decide) hG.up) rfl ?_
 rintro v10 M10 J10 ⟨tb, pb, rfl, hp10⟩
 change Par _ tb pb (p0S 1) (p0A 1) (p0B 1) M10 at hp10
 obtain ⟨L0, n0, n1⟩ := lnk0 1
 obtain ⟨s2, rb2, Q⟩ := B9I (t := hiW) L0 (B4N rfl _) (.inl rfl) (show 0 < 4294967296 by decide) (by decide) (by decide) (by omega) (by omega)
 have q1 := Q.len
 have q2 := Q.n
 have q3 : rb2.sn = 0 := by rw [Q.b2e]
 have q4 : rb2.prev = 0 := by rw [Q.b2e]; rfl
 obtain ⟨s4, ra4, V⟩ := B9I (t := hoW) Q.l (B4N rfl _) (.inl rfl) (by rw [q4]; decide) (by decide) (by decide) (by omega) (by omega)
 have l1 := A1e (p0S 1) (p0A 1) F2 hiW
 have l2 := A1e s2 rb2 F2 hoW
 have g1 := Q.snt.gl
 have g2 := V.snt.gl
 have ak : 0 < (p0A 1).sk.length := List.length_pos_iff.2 L0.sk
 have bk : 0 < rb2.sk.length := List.length_pos_iff.2 Q.l.sk
 have h1l := A3H (p0S 1) (p0A 1).own
 have h2l := A3H s2 rb2.own
 refine as_ (A0 (D7 1) (A3 (A1 (mv_ ?_))))
 refine A2 (H2 (e := 45) rfl rfl kR) rfl ?_
 refine A0 (D3 1 12) ?_
 refine D0 rfl ?_
 refine A6 (nx (D7 1) (A1 (mv_ ?_)))
 refine A4 rfl (E0 (Mc := M10) (R := _) (aS rfl (aS rfl (aS rfl (a0)))) kR PickC.perm (B1G tb pb (p0S 1) (p0A 1) (p0B 1) hiW M10 _ (hp10.mono SubC.sub) (by omega) ak ⟨by decide⟩ (by decide) hG.up) rfl ?_)
 rintro v15 M15 J15 ⟨hp15, vk, vg, rfl, hvk, hvg⟩
 haveI := hvk.cel
 haveI := hvg.cel
 refine mv_ ?_
 refine A2 (A1l rfl) rfl ?_
 refine A2 (A1g rfl) rfl ?_
 refine A4 rfl (C4 (cs := [A7a, .slice none 0 0, F7, F7, .slice none 0 0, .string ByteArray.empty]) kR rfl fun b2 => ?_)
 refine A4 rfl (A9 (vs := [.int .i64 1, vk, .int .u32 (((p0A 1).prev : Nat) : Int), .int .u32 (((p0A 1).sn : Nat) : Int), vg, .string (txt hiW)]) rfl rfl rfl kR (by rfl) (A7 rfl (A7 hvk.one (A7 rfl (A7 rfl (A7 hvg.one (A7 rfl K9)))))) UpC.upd ?_)
 refine as_ (A0 (D4 1 2 3) (A1 (mv_ ?_)))
 refine A2 (qw_ 6) rfl ?_
 refine A4 rfl (E0 (Mc := M15) (R := _) (aS rfl (aS rfl (a0))) kR PickC.perm (B1H tb pb (W3 (p0S 1) (p0A 1) F2 hiW) (U8 (p0S 1) (p0A 1)) (p0B 1) vk vg (I0 (p0S 1) (p0A 1).own) (A1d (p0S 1) (p0A 1) F2 hiW) hiW (p0A 1).prev (p0A 1).sn (s2, rb2, 0, hiW) M15 _ (hp15.mono SubC.sub) (by omega) (by omega) (hvk.mono SubC.sub) (by omega) Q.snt.hp Q.snt.hn (hvg.mono SubC.sub) (by omega) Q.o Q.e hG.up) rfl ?_)
 rintro v21 M21 J21 ⟨hp21, rfl⟩
 dsimp only at hp21 ⊢
 refine mv_ ?_
 refine A2 (A1l rfl) rfl ?_
 refine A2 (A1g rfl) rfl ?_
 refine as_ (as_ (A0 (D6 1 3 4 5) (A1 (mv_ ?_))))
 refine A4 rfl (E0 (Mc := M21) (R := _) (aS rfl (aS rfl (aS rfl (a0)))) kR PickC.perm (B6P tb pb s2 (U8 (p0S 1) (p0A 1)) rb2 hoW M21 _ (hp21.mono SubC.sub) (by omega) bk ⟨by decide⟩ (by decide) hG.up) rfl ?_)
 rintro v26 M26 J26 ⟨hp26, wk, wg, rfl, hwk, hwg⟩
 haveI := hwk.cel
 haveI := hwg.cel
 refine mv_ ?_
 refine A2 (A1l rfl) rfl ?_
 refine A2 (A1g rfl) rfl ?_
 refine A4 rfl (C4 (cs := [A7a, .slice none 0 0, F7, F7, .slice none 0 0, .string ByteArray.empty]) kR rfl fun b6 => ?_)
 refine A4 rfl (A9 (vs := [.int .i64 0, wk, .int .u32 ((rb2.prev : Nat) : Int), .int .u32 ((rb2.sn : Nat) : Int), wg, .string (txt hoW)]) rfl rfl rfl kR (by rfl) (A7 rfl (A7 hwk.one (A7 rfl (A7 rfl (A7 hwg.one (A7 rfl K9)))))) UpC.upd ?_)
 refine as_ (A0 (H9 1 3 4 5 6 7) (A1 (mv_ ?_)))
 refine A2 (qw_ 6) rfl ?_
 refine A4 rfl (E0 (Mc := M26) (R := _) (aS rfl (aS rfl (a0))) kR PickC.perm (B6Q tb pb (W3 s2 rb2 F2 hoW) (U8 (p0S 1) (p0A 1)) (U8 s2 rb2) wk wg (I0 s2 rb2.own) (A1d s2 rb2 F2 hoW) hoW rb2.prev rb2.sn (s4, ra4, 0, hoW) M26 _ (hp26.mono SubC.sub) (by omega) (by omega) (hwk.mono SubC.sub) (by omega) V.snt.hp (by rw [q3]; decide) (hwg.mono SubC.sub) (by omega) (by rw [q3]; exact V.o) (by rw [q3]; exact V.e) hG.up) rfl ?_)
 rintro v32 M32 J32 ⟨hp32, rfl⟩
 dsimp only
 refine mv_ ?_
 refine A2 (A1l rfl) rfl ?_
 refine A2 (A1g rfl) rfl ?_
 refine as_ (as_ (A0 (H9 3 4 5 7 8 9) (A1 (mv_ (mv_ ?_)))))
 refine F8 rfl rfl (OpQ.opL qm_ rfl ?_)
 refine F8 rfl rfl (OpQ.opL (F0 true rfl rfl (eqT rfl)) rfl ?_)
 refine A2 (E1 rfl rfl) rfl ?_
 refine mv_ ?_
 refine F8 rfl rfl (OpQ.opL qm_ rfl ?_)
 refine F8 rfl rfl (OpQ.opL (A7d rfl rfl rfl) rfl ?_)
 refine A2 (E1 rfl rfl) rfl ?_
 refine mv_ ?_
 refine F8 rfl rfl (OpQ.opL qm_ rfl ?_)
 refine A2 (E1 rfl rfl) rfl ?_
 refine mv_ ?_
 refine F8 rfl rfl (OpQ.opL qm_ rfl ?_)
 refine F8 rfl rfl (OpQ.opL (F0 true rfl rfl (eqT rfl)) rfl ?_)
 refine A2 (E1 rfl rfl) rfl ?_
 refine mv_ ?_
 refine F8 rfl rfl (OpQ.opL qm_ rfl ?_)
 refine F8 rfl rfl (OpQ.opL (A7d rfl rfl rfl) rfl ?_)
 refine A2 (E1 rfl rfl) rfl ?_
 refine as_ (A0 (D7 0) (B4 ?_))
 exact ⟨_, [], [], I7 rfl rfl, List.nil_sublist _, by simp, rfl, rfl, rfl⟩

theorem eqU8 (a b : Nat) : I2 .eql .u32 ((a : Nat) : Int) ((b : Nat) : Int) = some (.bool (decide (a = b))) := by
  by_cases h : a = b
  · rw [decide_eq_true h]; exact eqT (by omega)
  · rw [decide_eq_false h]; exact eqF (by omega)
theorem B9J {k : IntKind} (a b : Nat) : I2 .neq k ((a : Nat) : Int) ((b : Nat) : Int) = some (.bool (!decide (a = b))) := by
  by_cases h : a = b
  · rw [decide_eq_true h]; exact neF (by omega)
  · rw [decide_eq_false h]; exact neT (by omega)
theorem B8x (v1 v2 : Value) (k1 k2 : List Nat) (n1 n2 : Nat) (A : Mem) (h1 : By A v1 k1) (h2 : By A v2 k2) : FnV Tryz.prog 32 [.agg #[v1, .int .u32 ((n1 : Nat) : Int)], .agg #[v2, .int .u32 ((n2 : Nat) : Int)]] A (.bool (decide (n1 = n2) && decide (k1 = k2))) := by
 haveI := h1.cel
 haveI := h2.cel
 refine FnX.enter (N := 17) Tryz.func32 rfl rfl rfl fun w_ => ?_
 refine B0 (D3 0 1) (A1 ?_)
 refine A4 rfl (bx_ fun b2 => ?_)
 refine A4 rfl (bx_ fun b3 => ?_)
 refine as_ (A0 (D3 2 3) (A1 ?_))
 refine A2 (qf_ 1 1) rfl ?_
 refine A2 ql_ rfl ?_
 refine A2 (qf_ 1 1) rfl ?_
 refine A2 ql_ rfl ?_
 refine A2 (F0 (decide (n1 = n2)) rfl rfl (eqU8 _ _)) rfl ?_
 refine mv_ ?_
 refine X3 (t := 10) rfl (fun hb => ?_) (fun hb => ?_)
 ·
  have e1 : n1 = n2 := of_decide_eq_true hb
  refine F8 rfl rfl (OpQ.opL (qf_ 0 0) rfl ?_)
  refine F8 rfl rfl (OpQ.opL ql_ rfl ?_)
  refine F8 rfl rfl (OpQ.opL (qf_ 0 0) rfl ?_)
  refine F8 rfl rfl (OpQ.opL ql_ rfl ?_)
  refine A5G rfl rfl (aS rfl (aS rfl a0)) kR (P5 v1 v2 k1 k2 _ (h1.mono SubC.sub) (h2.mono SubC.sub)) rfl ?_
  refine A2 (E1 rfl rfl) rfl ?_
  refine as_ (A0 (D7 4) (B4 ?_))
  exact ⟨_, [], [], I7 rfl rfl, List.nil_sublist _, by simp, by rw [e1]; simp, rfl, rfl⟩
 ·
  have e1 : decide (n1 = n2) = false := hb
  refine K3 rfl rfl rfl rfl ?_
  refine K3 rfl rfl rfl rfl ?_
  refine K3 rfl rfl rfl rfl ?_
  refine K3 rfl rfl rfl rfl ?_
  refine K3 rfl rfl rfl rfl ?_
  refine A2 (F6 rfl rfl) rfl ?_
  refine as_ (A0 (D7 4) (B4 ?_))
  exact ⟨_, [], [], I7 rfl rfl, List.nil_sublist _, by simp, by rw [e1]; rfl, rfl, rfl⟩
theorem B6U {a b : Rsd} (h1 : a.own = b.own) (h2 : a.their = b.their) (h3 : a.root = b.root) (h4 : a.sn = b.sn ∧ a.sk = b.sk) (h5 : a.tn = b.tn ∧ a.tk = b.tk) (h6 : a.prev = b.prev) (h7 : a.sks = b.sks) : a = b := by
  obtain ⟨a1, a2, a3, a4, a5, a6, a7, a8, a9⟩ := a
  obtain ⟨b1, b2, b3, b4, b5, b6, b7, b8, b9⟩ := b
  dsimp only at h1 h2 h3 h4 h5 h6 h7
  obtain ⟨g1, g2⟩ := h4
  obtain ⟨g3, g4⟩ := h5
  rw [h1, h2, h3, g1, g2, g3, g4, h6, h7]
set_option maxHeartbeats 2000000 in
theorem B1M (a b : Rsd) (ao at_ ar ak al aq bo bt bw bk bl bq : Value) (A : Mem) (ha : RsR A a ao at_ ar ak al aq) (hb_ : RsR A b bo bt bw bk bl bq) : FnX Tryz.prog 14 [.agg (rsC ao at_ ar ak al aq a).toArray, .agg (rsC bo bt bw bk bl bq b).toArray] [] A fun q M J => M = [] ∧ ∃ c, q = .bool c ∧ (c = true ↔ a = b) := by
 haveI := ha.own.cel
 haveI := ha.their.cel
 haveI := ha.root.cel
 haveI := ha.sk.cel
 haveI := ha.tk.cel
 haveI := hb_.own.cel
 haveI := hb_.their.cel
 haveI := hb_.root.cel
 haveI := hb_.sk.cel
 haveI := hb_.tk.cel
 obtain ⟨sa, ua, rowsA, rfl, hsa, hrdA, hrwA⟩ := ha.st
 obtain ⟨sb, ub, rowsB, rfl, hsb, hrdB, hrwB⟩ := hb_.st
 have hal := ha.sks
 have hbl := hb_.sks
 unfold rsC
 refine FnX.enterZ (N := 108) Tryz.func14 rfl rfl rfl fun w_ => ?_
 refine B0 (D3 0 1) (A1 ?_)
 refine A4 rfl (bx_ fun b2 => ?_)
 refine A4 rfl (bx_ fun b3 => ?_)
 refine as_ (A0 (D3 2 3) (A1 (as_ (A0 (D4 2 3 5) (A3 ?_)))))
 refine C7 (.range 56) [(0, 0), (1, 1), (2, 0), (3, 1), (4, 2), (5, 0), (6, 0), (7, 0), (8, 1), (9, 0), (10, 1), (11, 2), (12, 0), (13, 0), (14, 0), (15, 0), (16, 1), (17, 0), (18, 1), (19, 2), (20, 0), (21, 0), (22, 0), (23, 0), (24, 0), (25, 1), (26, 0), (27, 1), (28, 2), (29, 0), (30, 0), (31, 0), (32, 0), (33, 0), (34, 1), (35, 0), (36, 1), (37, 2), (38, 0), (39, 0), (40, 0), (41, 0), (42, 1), (43, 0), (44, 1), (45, 0), (46, 0), (47, 0), (48, 0), (49, 1), (51, 0), (52, 1), (50, 2), (53, 2), (54, 0), (55, 0)] kR kR fun hs => ?_
 refine C2 hs rfl (qf_ 0 0) rfl ?_
 refine G4 hs rfl ql_ rfl ?_
 refine C2 hs rfl (qf_ 0 0) rfl ?_
 refine G4 hs rfl ql_ rfl ?_
 refine L8 rfl (aS rfl (aS rfl a0)) kR (P5 ao bo a.own b.own _ (ha.own.mono SubC.sub) (hb_.own.mono SubC.sub)) rfl ?_
 refine C2 hs rfl (A1f rfl) rfl ?_
 refine fm_ hs ?_
 refine X4 (t := 15) rfl (fun hb => ?_) (fun hb => ?_)
 ·
  have hne : a ≠ b := fun e => by rw [e] at hb; simp at hb
  refine I8 hs ?_
  refine W4 hs ?_
  refine I8 hs ?_
  refine W4 hs ?_
  refine V8 hs rfl rfl rfl rfl rfl rfl ?_
  refine I8 hs ?_
  refine C2 hs rfl (E1 rfl rfl) rfl ?_
  refine fm_ hs ?_
  refine I8 hs ?_
  refine W4 hs ?_
  refine I8 hs ?_
  refine W4 hs ?_
  refine V8 hs rfl rfl rfl rfl rfl rfl ?_
  refine I8 hs ?_
  refine C2 hs rfl (E1 rfl rfl) rfl ?_
  refine fm_ hs ?_
  refine I8 hs ?_
  refine I8 hs ?_
  refine W4 hs ?_
  refine I8 hs ?_
  refine W4 hs ?_
  refine V8 hs rfl rfl rfl rfl rfl rfl ?_
  refine I8 hs ?_
  refine C2 hs rfl (E1 rfl rfl) rfl ?_
  refine fm_ hs ?_
  refine I8 hs ?_
  refine I8 hs ?_
  refine W4 hs ?_
  refine I8 hs ?_
  refine W4 hs ?_
  refine V8 hs rfl rfl rfl rfl rfl rfl ?_
  refine I8 hs ?_
  refine C2 hs rfl (E1 rfl rfl) rfl ?_
  refine fm_ hs ?_
  refine I8 hs ?_
  refine W4 hs ?_
  refine I8 hs ?_
  refine W4 hs ?_
  refine I8 hs ?_
  refine C2 hs rfl (E1 rfl rfl) rfl ?_
  refine fm_ hs ?_
  refine I8 hs ?_
  refine W4 hs ?_
  refine I8 hs ?_
  refine W4 hs ?_
  refine V8 hs rfl rfl rfl rfl rfl rfl ?_
  refine V8 hs rfl rfl rfl rfl rfl rfl ?_
  refine I8 hs ?_
  refine C2 hs rfl (E1 rfl rfl) rfl ?_
  refine E4 (D4 2 3 64) ?_
  refine D1 rfl ?_
  refine A1 (as_ (A0 (D7 4) (B4 (tr ?_))))
  exact ⟨_, [], [], I7 rfl rfl, Fit.sub (List.nil_sublist _), rfl, false, rfl, ⟨(fun h => by cases h), fun h => absurd h hne⟩⟩
 ·
  have e0 : a.own = b.own := by simpa using hb
  refine F4 hs rfl rfl rfl rfl (qf_ 1 1) rfl ?_
  refine X5 hs rfl rfl rfl rfl ql_ rfl ?_
  refine F4 hs rfl rfl rfl rfl (qf_ 1 1) rfl ?_
  refine X5 hs rfl rfl rfl rfl ql_ rfl ?_
  refine Y7 rfl rfl rfl rfl (aS rfl (aS rfl a0)) kR (P5 at_ bt a.their b.their _ (ha.their.mono SubC.sub) (hb_.their.mono SubC.sub)) rfl ?_
  refine F4 hs rfl rfl rfl rfl (A1f rfl) rfl ?_
  refine C2 hs rfl (F6 rfl rfl) rfl ?_
  refine fm_ hs ?_
  refine X4 (t := 23) rfl (fun hb => ?_) (fun hb => ?_)
  ·
   have hne : a ≠ b := fun e => by rw [e] at hb; simp at hb
   refine I8 hs ?_
   refine W4 hs ?_
   refine I8 hs ?_
   refine W4 hs ?_
   refine V8 hs rfl rfl rfl rfl rfl rfl ?_
   refine I8 hs ?_
   refine C2 hs rfl (E1 rfl rfl) rfl ?_
   refine fm_ hs ?_
   refine I8 hs ?_
   refine I8 hs ?_
   refine W4 hs ?_
   refine I8 hs ?_
   refine W4 hs ?_
   refine V8 hs rfl rfl rfl rfl rfl rfl ?_
   refine I8 hs ?_
   refine C2 hs rfl (E1 rfl rfl) rfl ?_
   refine fm_ hs ?_
   refine I8 hs ?_
   refine I8 hs ?_
   refine W4 hs ?_
   refine I8 hs ?_
   refine W4 hs ?_
   refine V8 hs rfl rfl rfl rfl rfl rfl ?_
   refine I8 hs ?_
   refine C2 hs rfl (E1 rfl rfl) rfl ?_
   refine fm_ hs ?_
   refine I8 hs ?_
   refine W4 hs ?_
   refine I8 hs ?_
   refine W4 hs ?_
   refine I8 hs ?_
   refine C2 hs rfl (E1 rfl rfl) rfl ?_
   refine fm_ hs ?_
   refine I8 hs ?_
   refine W4 hs ?_
   refine I8 hs ?_
   refine W4 hs ?_
   refine V8 hs rfl rfl rfl rfl rfl rfl ?_
   refine V8 hs rfl rfl rfl rfl rfl rfl ?_
   refine I8 hs ?_
   refine C2 hs rfl (E1 rfl rfl) rfl ?_
   refine E4 (D4 2 3 64) ?_
   refine D1 rfl ?_
   refine A1 (as_ (A0 (D7 4) (B4 (tr ?_))))
   exact ⟨_, [], [], I7 rfl rfl, Fit.sub (List.nil_sublist _), rfl, false, rfl, ⟨(fun h => by cases h), fun h => absurd h hne⟩⟩
  ·
   have e1 : a.their = b.their := by simpa using hb
   refine F4 hs rfl rfl rfl rfl (qf_ 2 2) rfl ?_
   refine X5 hs rfl rfl rfl rfl ql_ rfl ?_
   refine F4 hs rfl rfl rfl rfl (qf_ 2 2) rfl ?_
   refine X5 hs rfl rfl rfl rfl ql_ rfl ?_
   refine Y7 rfl rfl rfl rfl (aS rfl (aS rfl a0)) kR (P5 ar bw a.root b.root _ (ha.root.mono SubC.sub) (hb_.root.mono SubC.sub)) rfl ?_
   refine F4 hs rfl rfl rfl rfl (A1f rfl) rfl ?_
   refine C2 hs rfl (F6 rfl rfl) rfl ?_
   refine fm_ hs ?_
   refine X4 (t := 31) rfl (fun hb => ?_) (fun hb => ?_)
   ·
    have hne : a ≠ b := fun e => by rw [e] at hb; simp at hb
    refine I8 hs ?_
    refine I8 hs ?_
    refine W4 hs ?_
    refine I8 hs ?_
    refine W4 hs ?_
    refine V8 hs rfl rfl rfl rfl rfl rfl ?_
    refine I8 hs ?_
    refine C2 hs rfl (E1 rfl rfl) rfl ?_
    refine fm_ hs ?_
    refine I8 hs ?_
    refine I8 hs ?_
    refine W4 hs ?_
    refine I8 hs ?_
    refine W4 hs ?_
    refine V8 hs rfl rfl rfl rfl rfl rfl ?_
    refine I8 hs ?_
    refine C2 hs rfl (E1 rfl rfl) rfl ?_
    refine fm_ hs ?_
    refine I8 hs ?_
    refine W4 hs ?_
    refine I8 hs ?_
    refine W4 hs ?_
    refine I8 hs ?_
    refine C2 hs rfl (E1 rfl rfl) rfl ?_
    refine fm_ hs ?_
    refine I8 hs ?_
    refine W4 hs ?_
    refine I8 hs ?_
    refine W4 hs ?_
    refine V8 hs rfl rfl rfl rfl rfl rfl ?_
    refine V8 hs rfl rfl rfl rfl rfl rfl ?_
    refine I8 hs ?_
    refine C2 hs rfl (E1 rfl rfl) rfl ?_
    refine E4 (D4 2 3 64) ?_
    refine D1 rfl ?_
    refine A1 (as_ (A0 (D7 4) (B4 (tr ?_))))
    exact ⟨_, [], [], I7 rfl rfl, Fit.sub (List.nil_sublist _), rfl, false, rfl, ⟨(fun h => by cases h), fun h => absurd h hne⟩⟩
   ·
    have e2 : a.root = b.root := by simpa using hb
    refine F4 hs rfl rfl rfl rfl qm_ rfl ?_
    refine F4 hs rfl rfl rfl rfl (qf_ 3 3) rfl ?_
    refine X5 hs rfl rfl rfl rfl (Q6 (n := 2) rfl kR (by first | exact At.mem | exact mA (by assumption)) TakeC.take) rfl ?_
    refine F4 hs rfl rfl rfl rfl (qf_ 3 3) rfl ?_
    refine X5 hs rfl rfl rfl rfl (Q6 (n := 2) rfl kR (by first | exact At.mem | exact mA (by assumption)) TakeC.take) rfl ?_
    refine B5e rfl rfl rfl rfl fun _ => (A5c (cs := []) rfl (aS rfl (aS rfl a0)) kR (B8x ak bk a.sk b.sk a.sn b.sn _ (ha.sk.mono SubC.sub) (hb_.sk.mono SubC.sub)) rfl ?_)
    refine F4 hs rfl rfl rfl rfl (A1f rfl) rfl ?_
    refine C2 hs rfl (F6 rfl rfl) rfl ?_
    refine fm_ hs ?_
    refine X4 (t := 40) rfl (fun hb => ?_) (fun hb => ?_)
    ·
     have hne : a ≠ b := fun e => by rw [e] at hb; simp at hb
     refine I8 hs ?_
     refine I8 hs ?_
     refine W4 hs ?_
     refine I8 hs ?_
     refine W4 hs ?_
     refine V8 hs rfl rfl rfl rfl rfl rfl ?_
     refine I8 hs ?_
     refine C2 hs rfl (E1 rfl rfl) rfl ?_
     refine fm_ hs ?_
     refine I8 hs ?_
     refine W4 hs ?_
     refine I8 hs ?_
     refine W4 hs ?_
     refine I8 hs ?_
     refine C2 hs rfl (E1 rfl rfl) rfl ?_
     refine fm_ hs ?_
     refine I8 hs ?_
     refine W4 hs ?_
     refine I8 hs ?_
     refine W4 hs ?_
     refine V8 hs rfl rfl rfl rfl rfl rfl ?_
     refine V8 hs rfl rfl rfl rfl rfl rfl ?_
     refine I8 hs ?_
     refine C2 hs rfl (E1 rfl rfl) rfl ?_
     refine E4 (D4 2 3 64) ?_
     refine D1 rfl ?_
     refine A1 (as_ (A0 (D7 4) (B4 (tr ?_))))
     exact ⟨_, [], [], I7 rfl rfl, Fit.sub (List.nil_sublist _), rfl, false, rfl, ⟨(fun h => by cases h), fun h => absurd h hne⟩⟩
    ·
     have e3 : a.sn = b.sn ∧ a.sk = b.sk := by simpa using hb
     refine F4 hs rfl rfl rfl rfl qm_ rfl ?_
     refine F4 hs rfl rfl rfl rfl (qf_ 5 5) rfl ?_
     refine X5 hs rfl rfl rfl rfl (Q6 (n := 2) rfl kR (by first | exact At.mem | exact mA (by assumption)) TakeC.take) rfl ?_
     refine F4 hs rfl rfl rfl rfl (qf_ 5 5) rfl ?_
     refine X5 hs rfl rfl rfl rfl (Q6 (n := 2) rfl kR (by first | exact At.mem | exact mA (by assumption)) TakeC.take) rfl ?_
     refine B5e rfl rfl rfl rfl fun _ => (A5c (cs := []) rfl (aS rfl (aS rfl a0)) kR (B8x al bl a.tk b.tk a.tn b.tn _ (ha.tk.mono SubC.sub) (hb_.tk.mono SubC.sub)) rfl ?_)
     refine F4 hs rfl rfl rfl rfl (A1f rfl) rfl ?_
     refine C2 hs rfl (F6 rfl rfl) rfl ?_
     refine fm_ hs ?_
     refine X4 (t := 49) rfl (fun hb => ?_) (fun hb => ?_)
     ·
      have hne : a ≠ b := fun e => by rw [e] at hb; simp at hb
      refine I8 hs ?_
      refine W4 hs ?_
      refine I8 hs ?_
      refine W4 hs ?_
      refine I8 hs ?_
      refine C2 hs rfl (E1 rfl rfl) rfl ?_
      refine fm_ hs ?_
      refine I8 hs ?_
      refine W4 hs ?_
      refine I8 hs ?_
      refine W4 hs ?_
      refine V8 hs rfl rfl rfl rfl rfl rfl ?_
      refine V8 hs rfl rfl rfl rfl rfl rfl ?_
      refine I8 hs ?_
      refine C2 hs rfl (E1 rfl rfl) rfl ?_
      refine E4 (D4 2 3 64) ?_
      refine D1 rfl ?_
      refine A1 (as_ (A0 (D7 4) (B4 (tr ?_))))
      exact ⟨_, [], [], I7 rfl rfl, Fit.sub (List.nil_sublist _), rfl, false, rfl, ⟨(fun h => by cases h), fun h => absurd h hne⟩⟩
     ·
      have e4 : a.tn = b.tn ∧ a.tk = b.tk := by simpa using hb
      refine F4 hs rfl rfl rfl rfl (qf_ 7 7) rfl ?_
      refine X5 hs rfl rfl rfl rfl ql_ rfl ?_
      refine F4 hs rfl rfl rfl rfl (qf_ 7 7) rfl ?_
      refine X5 hs rfl rfl rfl rfl ql_ rfl ?_
      refine F4 hs rfl rfl rfl rfl (F0 (!decide (a.prev = b.prev)) rfl rfl (B9J _ _)) rfl ?_
      refine C2 hs rfl (F6 rfl rfl) rfl ?_
      refine fm_ hs ?_
      refine X4 (t := 56) rfl (fun hb => ?_) (fun hb => ?_)
      ·
       have hne : a ≠ b := fun e => by rw [e] at hb; simp at hb
       refine I8 hs ?_
       refine W4 hs ?_
       refine I8 hs ?_
       refine W4 hs ?_
       refine V8 hs rfl rfl rfl rfl rfl rfl ?_
       refine V8 hs rfl rfl rfl rfl rfl rfl ?_
       refine I8 hs ?_
       refine C2 hs rfl (E1 rfl rfl) rfl ?_
       refine E4 (D4 2 3 64) ?_
       refine D1 rfl ?_
       refine A1 (as_ (A0 (D7 4) (B4 (tr ?_))))
       exact ⟨_, [], [], I7 rfl rfl, Fit.sub (List.nil_sublist _), rfl, false, rfl, ⟨(fun h => by cases h), fun h => absurd h hne⟩⟩
      ·
       have e5 : a.prev = b.prev := by simpa using hb
       refine F4 hs rfl rfl rfl rfl (qf_ 8 8) rfl ?_
       refine X5 hs rfl rfl rfl rfl ql_ rfl ?_
       refine F4 hs rfl rfl rfl rfl (qf_ 8 8) rfl ?_
       refine X5 hs rfl rfl rfl rfl ql_ rfl ?_
       refine Y7 rfl rfl rfl rfl (aS rfl a0) kR (A6i sa a.sks.length ua rowsA.flatten _ (mA hsa) (hrdA.mono SubC.sub)) rfl ?_
       refine Y7 rfl rfl rfl rfl (aS rfl a0) kR (A6i sb b.sks.length ub rowsB.flatten _ (mA hsb) (hrdB.mono SubC.sub)) rfl ?_
       refine F4 hs rfl rfl rfl rfl (F0 (!decide (a.sks.length = b.sks.length)) rfl rfl (B9J _ _)) rfl ?_
       refine C2 hs rfl (F6 rfl rfl) rfl ?_
       refine E4 (D4 2 3 64) ?_
       refine C0 rfl (fun hc => ?_) (fun hc => ?_)
       ·
        have hne : a ≠ b := fun e => by rw [e] at hc; simp at hc
        refine A1 (as_ (A0 (D7 4) (B4 (tr ?_))))
        exact ⟨_, [], [], I7 rfl rfl, Fit.sub (List.nil_sublist _), rfl, false, rfl, ⟨(fun h => by cases h), fun h => absurd h hne⟩⟩
       ·
        have e7 : a.sks.length = b.sks.length := by simpa using hc
        refine A6 (nx (D3 2 3) (A1 ?_))
        refine A2 (qf_ 8 8) rfl ?_
        refine A2 ql_ rfl ?_
        refine C6 (aS rfl a0) kR (A5m sb b.sks.length ub rowsB.flatten _ (mA hsb) (hrdB.mono SubC.sub) (hrwB.ones skT) (by have := hb_.sks; omega)) rfl ?_
        rintro v67 M67 J67 hs67
        haveI := hs67.cel
        refine A1o (B := M67) PickC.perm ?_
        have hr67 := hs67.rd (R := M67) fun _ h => h
        refine as_ (A0 (D3 2 6) (A3 (A1 ?_)))
        refine A2 (qf_ 8 8) rfl ?_
        refine A2 ql_ rfl ?_
        refine C6 (aS rfl a0) kR (A5m sa a.sks.length ua rowsA.flatten _ (mA hsa) (hrdA.mono SubC.sub) (hrwA.ones skT) (by have := ha.sks; omega)) rfl ?_
        rintro v70 M70 J70 hs70
        haveI := hs70.cel
        refine A1o (B := M70) PickC.perm ?_
        have hr70 := hs70.rd (R := M70) fun _ h => h
        refine A2 (G3 (sz := 3) rfl kR hr70) rfl ?_
        refine mv_ (A0 (D6 6 70 71 72) (A5 ?_))
        refine D9 (α := Nat) (fun i => [(6, v67), (70, v70), (71, .int .i64 ((a.sks.length : Nat) : Int)), (72, .int .i64 ((i : Nat) : Int))]) (fun _ => []) (fun _ => _) (fun i => i ≤ a.sks.length ∧ ∀ j, j < i → a.sks[j]? = b.sks[j]?) (fun i => a.sks.length - i) 0 ⟨Nat.zero_le _, fun j h => absurd h (Nat.not_lt_zero j)⟩ (D6 6 70 71 72) (Fit.sub (List.nil_sublist _)) (fun _ h => h) ?_
        rintro i ⟨hi, hpi⟩
        refine A1 ?_
        refine A2 (D8 rfl rfl rfl) rfl ?_
        refine A0 (E5 6 70 71 72 73) (A3 ?_)
        refine C0 rfl (fun hc => ?_) (fun hc => ?_)
        ·
         have hlt : i < a.sks.length := by simp at hc; omega
         obtain ⟨xa, hxa⟩ : ∃ z, a.sks[i]? = some z := ⟨_, List.getElem?_eq_getElem hlt⟩
         obtain ⟨xb, hxb⟩ : ∃ z, b.sks[i]? = some z := ⟨_, List.getElem?_eq_getElem (by omega)⟩
         obtain ⟨ra, hra, va1, va2, rfl, hao, hak, -⟩ := hrwA.get i xa hxa
         obtain ⟨rb, hrb, vb1, vb2, rfl, hbo, hbk, -⟩ := hrwB.get i xb hxb
         haveI := hao.cel
         haveI := hak.cel
         haveI := hbo.cel
         haveI := hbk.cel
         refine A6 (nx (D6 6 70 71 72) (A3 (A5 (A1 (mv_ ?_)))))
         refine A2 (I1 (sz := 3) (a := i) rfl rfl kR rfl hr70 hlt) rfl ?_
         refine A2 (A9v (sz := 3) rfl kR (hr70.mono SubC.sub) (hrwA.lens skT) (by decide) hra) rfl ?_
         refine A4 rfl (C4 (cs := [.slice none 0 0, .int .u32 0, .slice none 0 0]) kR rfl fun b8 => ?_)
         refine as_ ?_
         refine A4 rfl (A9 (vs := [va1, .int .u32 ((xa.n : Nat) : Int), va2]) rfl rfl rfl kR (by rfl) (A7 hao.one (A7 rfl (A7 hak.one K9))) UpC.upd ?_)
         refine A0 (H9 6 7 8 70 71 72) ?_
         refine C7 (.range 30) (zp 0 [0, 1, 0, 0, 0, 0, 1, 2, 0, 0, 0, 1, 0, 0, 0, 0, 1, 0, 0, 0, 0, 1, 0, 0, 0, 0, 1, 2, 0, 0]) kR kR fun hs => ?_
         refine C2 hs rfl (qf_ 0 0) rfl ?_
         refine G4 hs rfl ql_ rfl ?_
         refine fm_ hs ?_
         refine fm_ hs ?_
         refine C2 hs rfl (I1 (sz := 3) (a := i) rfl rfl kR rfl hr67 (by omega)) rfl ?_
         refine C2 hs rfl (A7q (off := 0) rfl hr67 (by omega) kR) rfl ?_
         refine G4 hs rfl (A7r (u := vb1) rfl (hr67.mono SubC.sub) (by omega) kR (by rw [A06 (hrwB.lens skT) hrb 0 (by decide)]; rfl)) rfl ?_
         refine L8 rfl (aS rfl (aS rfl a0)) kR (P5 va1 vb1 xa.of xb.of _ (hao.mono SubC.sub) (hbo.mono SubC.sub)) rfl ?_
         refine C2 hs rfl (A1f rfl) rfl ?_
         refine fm_ hs ?_
         refine X4 (t := 86) rfl (fun hb => ?_) (fun hb => ?_)
         ·
          have hne : a ≠ b := fun e => by rw [e, hxb] at hxa; obtain rfl := Option.some.inj hxa; simp at hb
          refine I8 hs ?_
          refine W4 hs ?_
          refine I8 hs ?_
          refine I8 hs ?_
          refine I8 hs ?_
          refine I8 hs ?_
          refine W4 hs ?_
          refine I8 hs ?_
          refine C2 hs rfl (E1 rfl rfl) rfl ?_
          refine fm_ hs ?_
          refine I8 hs ?_
          refine W4 hs ?_
          refine I8 hs ?_
          refine I8 hs ?_
          refine I8 hs ?_
          refine I8 hs ?_
          refine W4 hs ?_
          refine V8 hs rfl rfl rfl rfl rfl rfl ?_
          refine I8 hs ?_
          refine C2 hs rfl (E1 rfl rfl) rfl ?_
          refine E4 (E5 6 70 71 72 106) ?_
          refine D1 rfl ?_
          refine A1 (as_ (A0 (D7 4) (B4 (br (tr (rr (br ?_)))))))
          refine tr ?_
          exact ⟨_, [], [], I7 rfl rfl, Fit.sub (List.nil_sublist _), rfl, false, rfl, ⟨(fun h => by cases h), fun h => absurd h hne⟩⟩
         ·
          have f1 : xa.of = xb.of := by simpa using hb
          refine F4 hs rfl rfl rfl rfl (qf_ 1 1) rfl ?_
          refine X5 hs rfl rfl rfl rfl ql_ rfl ?_
          refine F4 hs rfl rfl rfl rfl qm_ rfl ?_
          refine F4 hs rfl rfl rfl rfl qm_ rfl ?_
          refine F4 hs rfl rfl rfl rfl (I1 (sz := 3) (a := i) rfl rfl kR rfl hr67 (by omega)) rfl ?_
          refine F4 hs rfl rfl rfl rfl (A7q (off := 1) rfl hr67 (by omega) kR) rfl ?_
          refine X5 hs rfl rfl rfl rfl (A7r (u := .int .u32 ((xb.n : Nat) : Int)) rfl (hr67.mono SubC.sub) (by omega) kR (by rw [A06 (hrwB.lens skT) hrb 1 (by decide)]; rfl)) rfl ?_
          refine F4 hs rfl rfl rfl rfl (F0 (!decide (xa.n = xb.n)) rfl rfl (B9J _ _)) rfl ?_
          refine C2 hs rfl (F6 rfl rfl) rfl ?_
          refine fm_ hs ?_
          refine X4 (t := 96) rfl (fun hb => ?_) (fun hb => ?_)
          ·
           have hne : a ≠ b := fun e => by rw [e, hxb] at hxa; obtain rfl := Option.some.inj hxa; simp at hb
           refine I8 hs ?_
           refine W4 hs ?_
           refine I8 hs ?_
           refine I8 hs ?_
           refine I8 hs ?_
           refine I8 hs ?_
           refine W4 hs ?_
           refine V8 hs rfl rfl rfl rfl rfl rfl ?_
           refine I8 hs ?_
           refine C2 hs rfl (E1 rfl rfl) rfl ?_
           refine E4 (E5 6 70 71 72 106) ?_
           refine D1 rfl ?_
           refine A1 (as_ (A0 (D7 4) (B4 (br (tr (rr (br ?_)))))))
           refine tr ?_
           exact ⟨_, [], [], I7 rfl rfl, Fit.sub (List.nil_sublist _), rfl, false, rfl, ⟨(fun h => by cases h), fun h => absurd h hne⟩⟩
          ·
           have f2 : xa.n = xb.n := by simpa using hb
           refine F4 hs rfl rfl rfl rfl (qf_ 2 2) rfl ?_
           refine X5 hs rfl rfl rfl rfl ql_ rfl ?_
           refine F4 hs rfl rfl rfl rfl qm_ rfl ?_
           refine F4 hs rfl rfl rfl rfl qm_ rfl ?_
           refine F4 hs rfl rfl rfl rfl (I1 (sz := 3) (a := i) rfl rfl kR rfl hr67 (by omega)) rfl ?_
           refine F4 hs rfl rfl rfl rfl (A7q (off := 2) rfl hr67 (by omega) kR) rfl ?_
           refine X5 hs rfl rfl rfl rfl (A7r (u := vb2) rfl (hr67.mono SubC.sub) (by omega) kR (by rw [A06 (hrwB.lens skT) hrb 2 (by decide)]; rfl)) rfl ?_
           refine Y7 rfl rfl rfl rfl (aS rfl (aS rfl a0)) kR (P5 va2 vb2 xa.key xb.key _ (hak.mono SubC.sub) (hbk.mono SubC.sub)) rfl ?_
           refine F4 hs rfl rfl rfl rfl (A1f rfl) rfl ?_
           refine C2 hs rfl (F6 rfl rfl) rfl ?_
           refine E4 (E5 6 70 71 72 106) ?_
           refine C0 rfl (fun hc => ?_) (fun hc => ?_)
           ·
            have hne : a ≠ b := fun e => by rw [e, hxb] at hxa; obtain rfl := Option.some.inj hxa; simp at hc
            refine A1 (as_ (A0 (D7 4) (B4 (br (tr (rr (br ?_)))))))
            refine tr ?_
            exact ⟨_, [], [], I7 rfl rfl, Fit.sub (List.nil_sublist _), rfl, false, rfl, ⟨(fun h => by cases h), fun h => absurd h hne⟩⟩
           ·
            have f3 : xa.key = xb.key := by simpa using hc
            refine A6 (nb (nx (D6 6 70 71 72) (A8 ?_)))
            refine A2 (C8 ((i + 1 : Nat) : Int) rfl rfl (E2 (by omega) (by omega) (by omega))) rfl ?_
            refine mv_ (C1 ?_)
            refine rn (i + 1) ⟨hlt, fun j hj => ?_⟩ (by omega) (D6 6 70 71 72) (Fit.sub (List.nil_sublist _)) (fun _ h => h)
            rcases Nat.lt_succ_iff_lt_or_eq.1 hj with h | rfl
            · exact hpi j h
            · rw [hxa, hxb]; obtain ⟨x1, x2, x3⟩ := xa; obtain ⟨y1, y2, y3⟩ := xb; dsimp only at f1 f2 f3; rw [f1, f2, f3]
        ·
         obtain rfl : i = a.sks.length := by simp at hc; omega
         refine D2 (te (re (be rfl (nx kn (A1 (as_ (A0 (D7 4) ?_)))))))
         refine B4 ?_
         exact ⟨_, [], [], I7 rfl rfl, Fit.sub (List.nil_sublist _), rfl, true, rfl, ⟨fun _ => B6U e0 e1 e2 e3 e4 e5 (List.ext_getElem? fun j => by by_cases h : j < a.sks.length; exact hpi j h; rw [List.getElem?_eq_none (by omega), List.getElem?_eq_none (by omega)]), fun _ => rfl⟩⟩

structure ApI (i : Nat) (s : Ps) (a b : Rsd) : Prop where
  gs : GS s
  wa : WfR s a
  wb : WfR s b
  len : s.ts.length ≤ 12 + 300 * i
  n : s.n ≤ 3 + i
  prev : a.prev = 0
  sn : a.sn = i
  sk : a.sk ≠ []
  l0 : i = 0 → Lnk s a b ∧ b.tk = []
  th : 0 < i → b.their ≠ []
structure ApS (i : Nat) (s : Ps) (a b : Rsd) (t : List Nat) : Prop where
  snt : Snt (W3 s a F2 t) (I0 s a.own) a.prev a.sn (A1d s a F2 t)
  no : ∀ (h : 0 < i), ApI (i + 1) (W3 s a F2 t) (U8 s a) b
  o : OpnH (W3 s a F2 t) b (I0 s a.own) a.prev a.sn
  yes : ∀ z, P6 (W3 s a F2 t) b F2 (I0 s a.own) a.prev a.sn (A1d s a F2 t) = z → ApI (i + 1) z.1 (U8 s a) z.2.1
theorem B6V {i : Nat} {s : Ps} {a b : Rsd} {t : List Nat} (h : ApI i s a b) (hi : i ≤ 100) (tn : b.tn < 4294967296) (hsl : b.sks.length ≤ 1000) (ht : ∀ x ∈ t, x < 256) (htl : t.length ≤ 900) : ApS i s a b t := by
  have hl := h.len
  have hn := h.n
  obtain ⟨a1, a2, a3, a4, a5, a6, a7, a8⟩ := B8s (w := F2) (t := t) h.gs h.wa h.sk (by rw [h.prev]; decide) (by rw [h.sn]; omega) A77 (by decide) ht htl (by omega)
  have l1 := A1e s a F2 t
  have hO := B8v (w := F2) (g := A1d s a F2 t) a1 (h.wb.ext a2.p) a5 tn (by omega) hsl (by omega)
  obtain ⟨o1, o2, o3, o4, o5, o6, o7, o8⟩ := hO
  have sn1 : (U8 s a).sn = i + 1 := by show (a.sn + 1) % 4294967296 = _; rw [h.sn]; omega
  have sk1 : (U8 s a).sk ≠ [] := by
    have hs := (A74 (c := a.sk) (B6R h.gs h.wa.own (by omega)).1 ((h.wa.sk.resolve_left h.sk).ext (B0P _ _).p) (by have := A2k s a.own; omega)).2.2.1
    intro e
    have h2 := hs.2.2
    rw [show A2B (K5 s a.own) a.sk = [] from e] at h2
    cases h2
  refine ⟨a5, fun h0 => ⟨a1, a3, h.wb.ext a2.p, by omega, by omega, h.prev, sn1, sk1, fun e => by omega, fun _ => h.th h0⟩, o1, fun z hz => ?_⟩
  have hth : z.2.1.their ≠ [] := by
    by_cases h0 : i = 0
    · obtain ⟨L, tk⟩ := h.l0 h0
      have hfr : A1p b (I0 s a.own) = true := by unfold A1p; rw [tk]; simp
      obtain ⟨s2, b2, P⟩ := B9I (t := t) L hfr (.inl tk) (by rw [h.prev]; decide) ht htl (by omega) (by omega)
      have e := P.e
      rw [← L.sn, hz] at e
      rw [e, P.b2e]
      intro e2
      have := A3H s a.own
      rw [show I0 s a.own = [] from e2] at this
      cases this
    · rw [← hz]; exact o8 (h.th (by omega))
  rw [hz] at o2 o3 o4 o5 o6
  exact ⟨o2, a3.ext o3.p, o4, by omega, by omega, h.prev, sn1, sk1, fun e => by omega, fun _ => hth⟩

end Go.Proofs.YtlilcmjbaknafaaGreatDoor
