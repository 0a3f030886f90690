/- The card of the law RatchetSkips: it returns true for every input; each argument reads behind the call as it read before; the listed package variables are tied to the program's text. No further condition. -/
import Derived.Test.YtlilcmjbaknafaaGreatDoorB18
import Derived.Lib.LaidTab
import Derived.Stop.LaidErr
import Derived.MakeChecks
import Derived.Test.YtlilcmjbaknafaaGreatDoorCards
import Derived.Test.YtlilcmjbaknafaaGreatDoorTie
import Derived.Deep.DeepHandedRow
import Derived.Deep.DeepWitnessRowRef
import Derived.Lay
import Derived.LaidMore
set_option linter.unusedVariables false
set_option linter.unusedSimpArgs false
set_option maxRecDepth 100000
namespace Go.Proofs.YtlilcmjbaknafaaGreatDoor
open Go.Px
def SkW (s : Ps) (x : Skp) : Prop := KK s x.key ∧ x.of.length = 32 ∧ x.n < 4294967296
structure WfR (s : Ps) (r : Rsd) : Prop where
  own : KK s r.own
  root : KK s r.root
  sk : r.sk = [] ∨ KK s r.sk
  tk : r.tk = [] ∨ KK s r.tk
  th : r.their = [] ∨ ∃ b, K32 b ∧ R9 s b r.their
  sks : ∀ x ∈ r.sks, SkW s x
  tt : r.tk ≠ [] → r.their ≠ []
theorem SkW.ext {s s' : Ps} {x : Skp} (h : SkW s x) (he : Pext s s') : SkW s' x := ⟨h.1.ext he, h.2⟩
theorem WfR.ext {s s' : Ps} {r : Rsd} (h : WfR s r) (he : Pext s s') : WfR s' r :=
  ⟨h.own.ext he, h.root.ext he, h.sk.imp id fun k => k.ext he, h.tk.imp id fun k => k.ext he, h.th.imp id fun ⟨b, k, p⟩ => ⟨b, k, p.ext he⟩, fun x hx => (h.sks x hx).ext he, h.tt⟩
theorem A77 {sks : List Skp} {of : List Nat} {n : Nat} {x : Skp} (h : x ∈ A4o sks of n) : x ∈ sks := by
  unfold A4o at h
  split at h
  · exact h
  · exact List.mem_of_mem_eraseIdx h
theorem B3W {sks : List Skp} {x y : Skp} (h : y ∈ B1X sks x) : y ∈ sks ∨ y = x := by
  rcases List.mem_append.1 (List.mem_of_mem_drop (show y ∈ (A4o sks x.of x.n ++ [x]).drop _ from h)) with h | h
  · exact .inl (A77 h)
  · exact .inr (List.mem_singleton.1 h)
theorem B3X {sks : List Skp} {of k : List Nat} {n : Nat} (h : A3L sks of n = some k) : ∃ x ∈ sks, x.key = k := by
  unfold A3L at h
  split at h
  · cases h
  · obtain ⟨x, h1, h2⟩ := Option.map_eq_some_iff.1 h
    exact ⟨x, List.mem_of_getElem? h1, h2⟩
theorem A78 : ∀ x ∈ F3, x < 256 := by decide
theorem B3Y {hk : List Nat} (h : ∀ x ∈ hk, x < 256) (p n : Nat) : ∀ x ∈ A5f hk p n, x < 256 := fun x hx => by
  unfold A5f at hx
  simp only [List.mem_append] at hx
  rcases hx with ((h1 | h1) | h1) | h1
  · exact A4p _ _ x h1
  · exact h x h1
  · exact A4p _ _ x h1
  · exact A4p _ _ x h1
theorem B8L {w hk : List Nat} (hw : ∀ x ∈ w, x < 256) (h : ∀ x ∈ hk, x < 256) (p n : Nat) : ∀ x ∈ alW w hk p n, x < 256 := fun x hx => by
  unfold alW A4s at hx
  simp only [List.mem_append] at hx
  rcases hx with ((h1 | h1) | h1) | h1
  · exact A4p _ _ x h1
  · exact hw x h1
  · exact A4p _ _ x h1
  · exact B3Y h p n x h1
theorem B7b (w hk : List Nat) (p n : Nat) : (alW w hk p n).length = w.length + hk.length + 20 := by unfold alW; rw [A2e, A1U]; omega
theorem A8W (K N wa p : List Nat) : (U3 K N wa p).length = p.length + 16 := by unfold U3; rw [List.length_append, W6, A3E]
theorem B3Z (s : Ps) (w a b : List Nat) : (B6P s w a b).length ≤ b.length + 32 := by
  unfold B6P
  split
  · rw [A8W]; omega
  · unfold B4z; rw [show (bts _).length = 32 from A0n _ (by decide)]; omega
structure Snt (s : Ps) (hk : List Nat) (hp hn : Nat) (g : List Nat) : Prop where
  pub : ∃ b, K32 b ∧ R9 s b hk
  hp : hp < 4294967296
  hn : hn < 4294967296
  gl : g.length ≤ 1000
theorem Snt.ext {s s' : Ps} {hk : List Nat} {hp hn : Nat} {g : List Nat} (h : Snt s hk hp hn g) (he : Pext s s') : Snt s' hk hp hn g := by
  obtain ⟨⟨b, h1, h2⟩, h3, h4, h5⟩ := h
  exact ⟨⟨b, h1, h2.ext he⟩, h3, h4, h5⟩
theorem A10 (s : Ps) (r : Rsd) (w t : List Nat) : (W7 s r w t).ts.length ≤ s.ts.length + 7 ∧ (W7 s r w t).n = s.n := by
  have h1 := A2d s r.own
  have h2 := A0g (K0 s r.own) r.sk
  have h3 := A76 (V3 (K0 s r.own) r.sk) (A0b (K0 s r.own) r.sk) (B1y s r w) t
  have h4 := B6y s r.own
  unfold W7
  exact ⟨by omega, by omega⟩
theorem B8M {s : Ps} {r : Rsd} {w t : List Nat} (h : GS s) (hr : WfR s r) (hsk : r.sk ≠ []) (hp : r.prev < 4294967296) (hn : r.sn < 4294967296) (hw : ∀ x ∈ w, x < 256) (hwl : w.length ≤ 1000) (ht : ∀ x ∈ t, x < 256) (htl : t.length ≤ 900) (hl : s.ts.length ≤ 1020000) :
    GS (W7 s r w t) ∧ Ext s (W7 s r w t) ∧ WfR (W7 s r w t) (V9 s r) ∧ R9 (W7 s r w t) r.own (I6 s r.own) ∧ Snt (W7 s r w t) (I6 s r.own) r.prev r.sn (A1Y s r w t) ∧ A1Z (W7 s r w t) r.sk (A0b (K0 s r.own) r.sk) (A2t (K0 s r.own) r.sk) ∧ KK (W7 s r w t) (A0b (K0 s r.own) r.sk) ∧
    (∀ s', GS s' → Pext (W7 s r w t) s' → s'.ts.length ≤ 1048576 → A1u s' (A0b (K0 s r.own) r.sk) (alW w (I6 s r.own) r.prev r.sn) (A1Y s r w t) = some t) := by
  have hk : KK s r.sk := hr.sk.resolve_left hsk
  have l1 := A2d s r.own
  obtain ⟨g1, p1⟩ := B7a h hr.own (by omega)
  have e1 := B0V s r.own
  obtain ⟨g2, k2, k3, sa⟩ := A75 (c := r.sk) g1 (hk.ext e1.p) (by omega)
  have e2 := A68 (K0 s r.own) r.sk
  have l2 := A0g (K0 s r.own) r.sk
  have hal : ∀ x ∈ B1y s r w, x < 256 := B8L hw p1.k32.1 _ _
  have hall : (B1y s r w).length = w.length + 32 + 20 := by rw [← p1.k32.2]; exact B7b _ _ _ _
  have g3 := B91 (a := B1y s r w) (b := t) g2 k2 hal ht (by omega) (by omega) (by omega)
  have e3 := B8K (V3 (K0 s r.own) r.sk) (A0b (K0 s r.own) r.sk) (B1y s r w) t
  have l3 := A76 (V3 (K0 s r.own) r.sk) (A0b (K0 s r.own) r.sk) (B1y s r w) t
  have eA : Ext s (W7 s r w t) := e1.trans (e2.trans e3)
  have g3' : GS (W7 s r w t) := g3
  have p3 : R9 (W7 s r w t) r.own (I6 s r.own) := p1.ext (e2.trans e3).p
  refine ⟨g3', eA, ?_, p3, ⟨⟨_, hr.own.2, p3⟩, hp, hn, ?_⟩, ?_, k2.ext e3.p, ?_⟩
  · have h' := hr.ext eA.p
    exact ⟨h'.own, h'.root, .inr (k3.ext e3.p), h'.tk, h'.th, h'.sks, h'.tt⟩
  · have := B3Z (V3 (K0 s r.own) r.sk) (A0b (K0 s r.own) r.sk) (B1y s r w) t
    unfold A1Y; omega
  · have := A10 s r w t
    exact sa.ext e3.p g2 g3 (show (W7 s r w t).ts.length ≤ _ by omega)
  · intro s' g' e' l'
    exact B6Q g2.tok k2.1 hal ht (Nat.le_trans (Nat.le_of_eq hall) (by omega)) (by omega) e' g'.tok l'
theorem B8N {of : List Nat} (ho : of.length = 32) : ∀ (i : Nat) {x : Ast}, GS x.1 → KK x.1 x.2.1 → (∀ y ∈ x.2.2.2, SkW x.1 y) → x.2.2.1 + i < 4294967296 → x.1.ts.length + 3 * i ≤ 1020000 →
    GS (rep (aSt of) i x).1 ∧ Ext x.1 (rep (aSt of) i x).1 ∧ KK (rep (aSt of) i x).1 (rep (aSt of) i x).2.1 ∧ ∀ y ∈ (rep (aSt of) i x).2.2.2, SkW (rep (aSt of) i x).1 y
  | 0, x, h1, h2, h3, _, _ => ⟨h1, Ext.refl _, h2, h3⟩
  | i + 1, x, h1, h2, h3, hn, hl => by
    obtain ⟨g1, g2, g3, g4⟩ := B8N ho i h1 h2 h3 (by omega) (by omega)
    have hts := B02 of i x
    have hnn := B3E of i x
    have e1 := A68 (rep (aSt of) i x).1 (rep (aSt of) i x).2.1
    obtain ⟨a1, a2, a3, -⟩ := A75 g1 g3 (by omega)
    refine ⟨a1, g2.trans e1, a3, fun y hy => ?_⟩
    rcases B3W (show y ∈ B1X (rep (aSt of) i x).2.2.2 ⟨of, (rep (aSt of) i x).2.2.1, A0b (rep (aSt of) i x).1 (rep (aSt of) i x).2.1⟩ from hy) with hy | rfl
    · exact (g4 y hy).ext e1.p
    · exact ⟨a2, ho, by show (rep (aSt of) i x).2.2.1 < _; omega⟩
theorem B8O {s : Ps} {key of : List Nat} {N n : Nat} {sks : List Skp} (h : GS s) (hk : KK s key) (ho : of.length = 32) (hs : ∀ y ∈ sks, SkW s y) (hn : n < 4294967296) (hl : s.ts.length ≤ 1010000) :
    GS (ahX s key N n of sks).1 ∧ Ext s (ahX s key N n of sks).1 ∧ KK (ahX s key N n of sks).1 (ahX s key N n of sks).2.1 ∧ ∀ y ∈ (ahX s key N n of sks).2.2.2, SkW (ahX s key N n of sks).1 y := by
  by_cases hE : ahE N n = 0
  · obtain ⟨h1, h2⟩ := B1B hE
    rw [A3I hE]
    exact B8N ho (n - N) (x := (s, key, N, sks)) h hk hs (by dsimp only; omega) (by dsimp only; omega)
  · rw [A71 hE]
    exact ⟨h, Ext.refl _, hk, hs⟩
theorem B1N {s : Ps} {r : Rsd} {w hk g : List Nat} {hp hn : Nat} (h : GS s) (hr : WfR s r) (hm : Snt s hk hp hn g) (tn : r.tn < 4294967296) (sn : s.n < 1000000000) (hsl : r.sks.length ≤ 1000) (hl : s.ts.length ≤ 1000000) :
    OpnH s r hk hp hn ∧ GS (L6 s r w hk hp hn g).1 ∧ Ext s (L6 s r w hk hp hn g).1 ∧ WfR (L6 s r w hk hp hn g).1 (L6 s r w hk hp hn g).2.1 ∧ (L6 s r w hk hp hn g).1.ts.length ≤ s.ts.length + 200 ∧ (L6 s r w hk hp hn g).1.n ≤ s.n + 1 ∧ (L6 s r w hk hp hn g).2.1.sks.length ≤ 1000 ∧ (r.their ≠ [] → (L6 s r w hk hp hn g).2.1.their ≠ []) := by
  obtain ⟨b, hb, hB⟩ := hm.pub
  have kB := hB.kk
  have hkn : hk ≠ [] := fun e => by have := kB.2.2; rw [e] at this; cases this
  -- the first half
  have hA : GS (opA s r hp).1 ∧ Ext s (opA s r hp).1 ∧ (∀ y ∈ (opA s r hp).2.2.2, SkW (opA s r hp).1 y) := by
    by_cases h0 : r.tk = []
    · rw [A6o h0]; exact ⟨h, Ext.refl _, hr.sks⟩
    · rw [A5k h0]
      obtain ⟨b', hb', hB'⟩ := hr.th.resolve_left (hr.tt h0)
      obtain ⟨x1, x2, x3, x4⟩ := B8O (N := r.tn) (n := hp) h (hr.tk.resolve_left h0) hB'.k32.2 hr.sks hm.hp (by omega)
      exact ⟨x1, x2, x4⟩
  obtain ⟨a1, a2, a3⟩ := hA
  have lA := B64 s r hp tn hm.hp hsl
  have lT := A05 (opA s r hp).1 r.root r.own hk
  obtain ⟨t1, t2, t3, -⟩ := B3V a1 (hr.root.ext a2.p) (hr.own.ext a2.p) (hB.ext a2.p) hb (by omega)
  have tE := A74 (opA s r hp).1 r.root r.own hk
  have hBx : ∀ x, opB s r hk hp = x → GS x.1 ∧ Ext s x.1 ∧ KK x.1 x.2.root ∧ KK x.1 x.2.tk ∧ (∃ b, K32 b ∧ R9 x.1 b x.2.their) ∧ (∀ y ∈ x.2.sks, SkW x.1 y) ∧ x.2.tn < 4294967296 ∧ x.2.sks.length ≤ 1000 ∧ x.1.ts.length ≤ s.ts.length + 55 ∧ x.1.n = s.n := by
    intro x hx
    subst hx
    cases hf : A0Y r hk with
    | true =>
      rw [B1G hf]
      exact ⟨t1, a2.trans tE, t2, t3, ⟨b, hb, (hB.ext a2.p).ext tE.p⟩, fun y hy => (a3 y hy).ext tE.p, (show 0 < 4294967296 by decide), lA.2.2.2, by show (A3M _ _ _ _).ts.length ≤ _; omega, lT.2.trans lA.2.1⟩
    | false =>
      rw [B3T hf]
      have htk : r.tk ≠ [] := fun e => by unfold A0Y at hf; rw [e] at hf; simp at hf
      exact ⟨h, Ext.refl _, hr.root, hr.tk.resolve_left htk, hr.th.resolve_left (hr.tt htk), hr.sks, tn, hsl, by dsimp only; omega, rfl⟩
  obtain ⟨x, hx⟩ : ∃ x, opB s r hk hp = x := ⟨_, rfl⟩
  obtain ⟨b1, b2, b3, b4, ⟨bt, bt1, bt2⟩, b6, b7, b8, b9, b10⟩ := hBx x hx
  have hC := B8O (N := x.2.tn) (n := hn) b1 b4 bt2.k32.2 b6 hm.hn (by omega)
  have lC := B61 x.1 x.2.tk x.2.tn hn x.2.their x.2.sks b7 hm.hn b8
  change GS (opC x hn).1 ∧ Ext x.1 (opC x hn).1 ∧ KK (opC x hn).1 (opC x hn).2.1 ∧ ∀ y ∈ (opC x hn).2.2.2, SkW (opC x hn).1 y at hC
  change (opC x hn).1.ts.length ≤ _ ∧ (opC x hn).1.n = _ ∧ (opC x hn).2.2.1 < _ ∧ (opC x hn).2.2.2.length ≤ _ at lC
  obtain ⟨c1, c2, c3, c4⟩ := hC
  obtain ⟨d1, d2, d3, -⟩ := A75 c1 c3 (by omega)
  have dE := A68 (opC x hn).1 (opC x hn).2.1
  have dL := A0g (opC x hn).1 (opC x hn).2.1
  have hD : Ext s (opD x hn) := b2.trans (c2.trans dE)
  have hW : WfR (opD x hn) (opG r x hn) := by
    have h' := hr.ext hD.p
    exact ⟨h'.own, b3.ext (c2.trans dE).p, h'.sk, .inr d3, .inr ⟨bt, bt1, bt2.ext (c2.trans dE).p⟩, fun y hy => (c4 y hy).ext dE.p, fun _ e => by have e2 : x.2.their = [] := e; have := bt2.k32.2; rw [e2] at this; cases this⟩
  obtain ⟨f1, f2⟩ := A3K (s := opD x hn) d1 (by show (V3 _ _).n < _; omega)
  have fE := A2K (opD x hn)
  have fL := A0t (opD x hn)
  have lT2 := A05 (E5 (opD x hn)) x.2.root (I4 (opD x hn)) x.2.their
  have lD : (opD x hn).ts.length ≤ s.ts.length + 110 ∧ (opD x hn).n = s.n := by
    show (V3 _ _).ts.length ≤ _ ∧ (V3 _ _).n = _
    exact ⟨by omega, by omega⟩
  obtain ⟨u1, u2, u3, -⟩ := B3V f1 ((b3.ext (c2.trans dE).p).ext fE.p) f2 ((bt2.ext (c2.trans dE).p).ext fE.p) bt1 (by omega)
  have uE := A74 (E5 (opD x hn)) x.2.root (I4 (opD x hn)) x.2.their
  have hO : OpnH s r hk hp hn := ⟨h.sel, fun k hk_ => by obtain ⟨y, hy, rfl⟩ := B3X hk_; exact (hr.sks y hy).1.1, by rw [hx]; exact d1.sel, by rw [hx]; exact d2.1⟩
  refine ⟨hO, ?_⟩
  have hsame : GS s ∧ Ext s s ∧ WfR s r ∧ s.ts.length ≤ s.ts.length + 200 ∧ s.n ≤ s.n + 1 ∧ r.sks.length ≤ 1000 ∧ (r.their ≠ [] → r.their ≠ []) := ⟨h, Ext.refl _, hr, by omega, by omega, hsl, id⟩
  have hth : x.2.their ≠ [] := fun e => by have := bt2.k32.2; rw [e] at this; cases this
  unfold L6
  split
  · split
    · exact hsame
    · exact ⟨h, Ext.refl _, ⟨hr.own, hr.root, hr.sk, hr.tk, hr.th, fun y hy => hr.sks y (A77 hy), hr.tt⟩, by dsimp only; omega, by dsimp only; omega, Nat.le_trans (A5c _ _ _) hsl, id⟩
  · split
    · exact ⟨a1, a2, hr.ext a2.p, by dsimp only; omega, by dsimp only; omega, hsl, id⟩
    · rw [hx]
      split
      · exact ⟨c1, b2.trans c2, hr.ext (b2.trans c2).p, by dsimp only; omega, by dsimp only; omega, hsl, id⟩
      · split
        · exact ⟨d1, hD, hr.ext hD.p, by dsimp only; omega, by dsimp only; omega, hsl, id⟩
        · cases hf : A0Y r hk with
          | false =>
            rw [B8H rfl]
            exact ⟨d1, hD, hW, by dsimp only; omega, by dsimp only; omega, lC.2.2.2, fun _ => hth⟩
          | true =>
            rw [B63 rfl]
            have hW2 := hW.ext (fE.trans uE).p
            refine ⟨u1, hD.trans (fE.trans uE), ⟨f2.ext uE.p, u2, .inr u3, hW2.tk, hW2.th, hW2.sks, hW2.tt⟩, ?_, ?_, lC.2.2.2, fun _ => hth⟩
            · show (A3M (E5 (opD x hn)) x.2.root (I4 (opD x hn)) x.2.their).ts.length ≤ _
              omega
            · show (A3M (E5 (opD x hn)) x.2.root (I4 (opD x hn)) x.2.their).n ≤ _
              omega
theorem wf0 (m : Nat) : GS (B13 (rS m) (rK m) (rP m)) ∧ WfR (B13 (rS m) (rK m) (rP m)) (B1Z (rS m) (rK m) (rP m)) ∧ WfR (B13 (rS m) (rK m) (rP m)) (A6h (rK m) (rO m)) ∧ (B13 (rS m) (rK m) (rP m)).ts.length ≤ 12 ∧ (B13 (rS m) (rK m) (rP m)).n = 3 ∧
    TrnAt (B13 (rS m) (rK m) (rP m)) (rK m) (B1Z (rS m) (rK m) (rP m)).own (rO m) (B1Z (rS m) (rK m) (rP m)).root (B1Z (rS m) (rK m) (rP m)).sk ∧ (B1Z (rS m) (rK m) (rP m)).sk ≠ [] := by
  have g0 : GS (rg0 m) := ⟨Tok.nil, V4.nil⟩
  have n0 : (rg0 m).n = 0 := rfl
  have t0 : (rg0 m).ts.length = 0 := rfl
  obtain ⟨g1, k1⟩ := A3K g0 (by omega)
  have l1 := A0t (rg0 m)
  obtain ⟨g2, k2⟩ := A3K g1 (by omega)
  have l2 := A0t (E5 (rg0 m))
  have e2 := A2K (E5 (rg0 m))
  obtain ⟨g3, p3⟩ := B7a g2 k2 (by omega)
  have l3 := A2d (E5 (E5 (rg0 m))) (rO m)
  have n3 := B6y (E5 (E5 (rg0 m))) (rO m)
  have e3 := B0V (E5 (E5 (rg0 m))) (rO m)
  change GS (rS m) at g3
  change R9 (rS m) (rO m) (rP m) at p3
  change (rS m).ts.length ≤ _ at l3
  change (rS m).n = _ at n3
  obtain ⟨g4, k4⟩ := A3K g3 (by omega)
  have l4 := A0t (rS m)
  have e4 := A2K (rS m)
  have kK : KK (E5 (rS m)) (rK m) := ((k1.ext e2.p).ext e3.p).ext e4.p
  have kO : KK (E5 (rS m)) (rO m) := (k2.ext e3.p).ext e4.p
  obtain ⟨g5, k5, k6, ta⟩ := B3V g4 kK k4 (p3.ext e4.p) k2.2 (by omega)
  have e5 := A74 (E5 (rS m)) (rK m) (I4 (rS m)) (rP m)
  have l5 := A05 (E5 (rS m)) (rK m) (I4 (rS m)) (rP m)
  refine ⟨g5, ⟨k4.ext e5.p, k5, .inr k6, .inl rfl, .inr ⟨_, k2.2, (p3.ext e4.p).ext e5.p⟩, (fun x hx => by cases hx), fun h => absurd rfl h⟩, ⟨kO.ext e5.p, kK.ext e5.p, .inl rfl, .inl rfl, .inl rfl, (fun x hx => by cases hx), fun h => absurd rfl h⟩, ?_, ?_, ta, ?_⟩
  · show (A3M _ _ _ _).ts.length ≤ _; omega
  · show (A3M _ _ _ _).n = _; omega
  · intro e
    have := k6.2.2
    rw [show A82 (E5 (rS m)) (rK m) (I4 (rS m)) (rP m) = [] from e] at this
    cases this

def B7c (hk : List Nat) (k : Nat → List Nat) (sks : List Skp) : Nat → List Skp
  | 0 => sks
  | i + 1 => B1X (B7c hk k sks i) ⟨hk, i, k i⟩
theorem B48 {s : Ps} {hk : List Nat} {c k : Nat → List Nat} {sks : List Skp} : ∀ (i : Nat), (∀ j, j < i → A1Z s (c j) (k j) (c (j + 1))) → rep (aSt hk) i (s, c 0, 0, sks) = (s, c i, i, B7c hk k sks i)
  | 0, _ => rfl
  | i + 1, h => by
    show aSt hk (rep (aSt hk) i (s, c 0, 0, sks)) = _
    rw [B48 i fun j hj => h j (by omega)]
    obtain ⟨e1, e2, e3⟩ := (h i (by omega)).eq
    unfold aSt
    dsimp only
    rw [e1, e2, e3]
    rfl
theorem B1O {s : Ps} {r : Rsd} {w hk b R C g t : List Nat} {hp n : Nat} {c k : Nat → List Nat} (hg : GS s) (hl : s.ts.length ≤ 1000000) (h0 : A3L r.sks hk n = none) (hfr : A0Y r hk = true) (hA : opA s r hp = (s, r.tk, r.tn, r.sks)) (hAE : A72 r hp = 0) (ta : TrnAt s r.root r.own b R C) (hB : R9 s b hk)
    (hc : c 0 = C) (h16 : n ≤ 16) (hst : ∀ j, j ≤ n → A1Z s (c j) (k j) (c (j + 1))) (ho : A1u s (k n) (alW w hk hp n) g = some t) :
    L6 s r w hk hp n g = (A3M (E5 s) R (I4 s) hk, ⟨I4 s, hk, B1Y (E5 s) R (I4 s) hk, A82 (E5 s) R (I4 s) hk, 0, c (n + 1), n + 1, r.sn, B7c hk k r.sks n⟩, 0, t) := by
  obtain ⟨e1, e2, e3⟩ := ta.eq hB hg (by omega)
  have hx : opB s r hk hp = (s, ⟨r.own, hk, R, r.sk, r.sn, C, 0, r.prev, r.sks⟩) := by
    rw [B1G hfr, hA]
    unfold B8F
    dsimp only
    rw [e1, e2, e3]
  have hE : ahE 0 n = 0 := B1C (Nat.zero_le _) (by omega)
  have hC : opC (s, (⟨r.own, hk, R, r.sk, r.sn, C, 0, r.prev, r.sks⟩ : Rsd)) n = (s, c n, n, B7c hk k r.sks n) := by
    show ahX s C 0 n hk r.sks = _
    rw [A3I hE, Nat.sub_zero, ← hc]
    exact B48 n fun j hj => hst j (by omega)
  obtain ⟨f1, f2, f3⟩ := (hst n (Nat.le_refl _)).eq
  have hD : opD (s, (⟨r.own, hk, R, r.sk, r.sn, C, 0, r.prev, r.sks⟩ : Rsd)) n = s := by unfold opD; rw [hC]; exact f1
  have hK : A84 (s, (⟨r.own, hk, R, r.sk, r.sn, C, 0, r.prev, r.sks⟩ : Rsd)) n = k n := by unfold A84; rw [hC]; exact f2
  rw [B1F h0 hx (fun _ => hAE) hE (by rw [hD, hK]; exact ho), B63 hfr, hD]
  unfold opF opG
  rw [hC]
  dsimp only
  rw [f3, Nat.mod_eq_of_lt (by omega)]
theorem B7d {s : Ps} {r : Rsd} {w hk b R C g : List Nat} {hp n : Nat} (hg : GS s) (hl : s.ts.length ≤ 1000000) (h0 : A3L r.sks hk n = none) (hfr : A0Y r hk = true) (hA : opA s r hp = (s, r.tk, r.tn, r.sks)) (hAE : A72 r hp = 0) (ta : TrnAt s r.root r.own b R C) (hB : R9 s b hk) (h16 : 16 < n) :
    L6 s r w hk hp n g = (s, r, 7, []) := by
  obtain ⟨e1, e2, e3⟩ := ta.eq hB hg (by omega)
  have hx : opB s r hk hp = (s, ⟨r.own, hk, R, r.sk, r.sn, C, 0, r.prev, r.sks⟩) := by
    rw [B1G hfr, hA]
    unfold B8F
    dsimp only
    rw [e1, e2, e3]
  have hE : ahE 0 n = 7 := by unfold ahE; rw [if_neg (by omega), if_pos (by omega)]
  rw [B9X h0 hx (fun _ => hAE) (by show ahE 0 n ≠ 0; rw [hE]; decide)]
  show ((ahX s C 0 n hk r.sks).1, r, ahE 0 n, []) = _
  rw [A71 (by rw [hE]; decide), hE]
noncomputable def snd (m : Nat) : Nat → Ps × Rsd
  | 0 => (B13 (rS m) (rK m) (rP m), B1Z (rS m) (rK m) (rP m))
  | i + 1 => (W7 (snd m i).1 (snd m i).2 F3 [i % 256], V9 (snd m i).1 (snd m i).2)
noncomputable def A1t (m i : Nat) : List Nat := I6 (snd m i).1 (snd m i).2.own
noncomputable def A8X (m i : Nat) : List Nat := A0b (K0 (snd m i).1 (snd m i).2.own) (snd m i).2.sk
noncomputable def A5p (m i : Nat) : List Nat := A1Y (snd m i).1 (snd m i).2 F3 [i % 256]
structure SnF (m i : Nat) : Prop where
  gs : GS (snd m i).1
  ext : Ext (snd m 0).1 (snd m i).1
  wf : WfR (snd m i).1 (snd m i).2
  len : (snd m i).1.ts.length ≤ 12 + 7 * i
  n : (snd m i).1.n = 3
  prev : (snd m i).2.prev = 0
  sn : (snd m i).2.sn = i
  own : (snd m i).2.own = (snd m 0).2.own
  sk : (snd m i).2.sk ≠ []
theorem A79 (i : Nat) : ∀ x ∈ [i % 256], x < 256 := fun x hx => by rw [List.mem_singleton.1 hx]; exact Nat.mod_lt _ (by decide)
structure SnG (m i : Nat) : Prop where
  gs : GS (snd m (i + 1)).1
  ext : Ext (snd m i).1 (snd m (i + 1)).1
  wf : WfR (snd m (i + 1)).1 (snd m (i + 1)).2
  pub : R9 (snd m (i + 1)).1 (snd m i).2.own (A1t m i)
  snt : Snt (snd m (i + 1)).1 (A1t m i) 0 i (A5p m i)
  step : A1Z (snd m (i + 1)).1 (snd m i).2.sk (A8X m i) (snd m (i + 1)).2.sk
  kk : KK (snd m (i + 1)).1 (A8X m i)
  opn : ∀ s', GS s' → Pext (snd m (i + 1)).1 s' → s'.ts.length ≤ 1048576 → A1u s' (A8X m i) (alW F3 (A1t m i) 0 i) (A5p m i) = some [i % 256]
theorem B35 {m i : Nat} (h : SnF m i) (hi : i ≤ 100) : SnG m i := by
  obtain ⟨a1, a2, a3, a4, a5, a6, a7, a8⟩ := B8M (w := F3) (t := [i % 256]) h.gs h.wf h.sk (by rw [h.prev]; decide) (by rw [h.sn]; omega) A78 (by decide) (A79 i) (by simp) (by have := h.len; omega)
  rw [h.prev, h.sn] at a5 a8
  exact ⟨a1, a2, a3, a4, a5, a6, a7, a8⟩
theorem A8a (m : Nat) : ∀ i, i ≤ 100 → SnF m i
  | 0, _ => by
    obtain ⟨w1, w2, w3, w4, w5, w6, w7⟩ := wf0 m
    exact ⟨w1, Ext.refl _, w2, w4, w5, rfl, rfl, rfl, w7⟩
  | i + 1, hi => by
    have h := A8a m i (by omega)
    have g := B35 h (by omega)
    have l := A10 (snd m i).1 (snd m i).2 F3 [i % 256]
    refine ⟨g.gs, h.ext.trans g.ext, g.wf, ?_, l.2.trans h.n, h.prev, ?_, h.own, ?_⟩
    · have := h.len
      show (W7 _ _ _ _).ts.length ≤ _
      omega
    · show ((snd m i).2.sn + 1) % 4294967296 = _
      rw [h.sn]; omega
    · intro e
      have k := g.wf.sk
      have hs := (A75 (c := (snd m i).2.sk) (B7a h.gs h.wf.own (by have := h.len; omega)).1 ((h.wf.sk.resolve_left h.sk).ext (B0V _ _).p) (by have := h.len; have := A2d (snd m i).1 (snd m i).2.own; omega)).2.2.1
      have h2 := hs.2.2
      rw [show A2t (K0 (snd m i).1 (snd m i).2.own) (snd m i).2.sk = [] from e] at h2
      cases h2
theorem B36 (m : Nat) {i j : Nat} (hij : i ≤ j) (hj : j ≤ 100) : Ext (snd m i).1 (snd m j).1 := by
  induction j with
  | zero => rw [show i = 0 by omega]; exact Ext.refl _
  | succ j ih =>
    by_cases h : i = j + 1
    · rw [h]; exact Ext.refl _
    · exact (ih (by omega) (by omega)).trans (B35 (A8a m j (by omega)) (by omega)).ext
theorem B8P (m : Nat) : ∀ i, i ≤ 99 → A1t m i = A1t m 0
  | 0, _ => rfl
  | i + 1, hi => by
    have h0 := B35 (A8a m 0 (by omega)) (by omega)
    have h := A8a m (i + 1) (by omega)
    have p := h0.pub.ext (B36 m (i := 1) (j := i + 1) (by omega) (by omega)).p
    have e := (p.eq h.gs.tok (by have := h.len; omega)).2
    unfold A1t
    rw [h.own]
    exact e
def skL (hk : List Nat) (k : Nat → List Nat) (n : Nat) : List Skp := (List.range n).map fun j => ⟨hk, j, k j⟩
theorem A5n (hk : List Nat) (k : Nat → List Nat) (n : Nat) : (skL hk k n).length = n := by simp [skL]
theorem B1P {hk : List Nat} {k : Nat → List Nat} {n j : Nat} {x : Skp} (h : (skL hk k n)[j]? = some x) : j < n ∧ x = ⟨hk, j, k j⟩ := by
  have hj := (List.getElem?_eq_some_iff.1 h).1
  rw [A5n] at hj
  refine ⟨hj, ?_⟩
  unfold skL at h
  rw [List.getElem?_map, List.getElem?_range hj] at h
  exact (Option.some.inj h).symm
theorem B5a {hk : List Nat} {k : Nat → List Nat} {n j : Nat} (hj : j < n) : (skL hk k n)[j]? = some ⟨hk, j, k j⟩ := by
  unfold skL
  rw [List.getElem?_map, List.getElem?_range hj]; rfl
theorem B7e {hk : List Nat} {k : Nat → List Nat} {n i : Nat} (hi : i < n) : A0C (tst hk i) (skL hk k n) = (i : Int) := by
  obtain ⟨hf, hz⟩ | ⟨j, x, hf, hx, hq, -⟩ := P3 (tst hk i) (skL hk k n)
  · have := hz _ (List.mem_of_getElem? (B5a (hk := hk) (k := k) hi))
    simp [tst] at this
  · obtain ⟨hj, rfl⟩ := B1P hx
    simp [tst] at hq
    rw [hf, hq]
theorem B5c {hk : List Nat} {i : Nat} {l : List Skp} (h : ∀ x ∈ l, x.n ≠ i) : A0C (tst hk i) l = -1 := by
  obtain ⟨hf, -⟩ | ⟨j, x, -, hx, hq, -⟩ := P3 (tst hk i) l
  · exact hf
  · have := h x (List.mem_of_getElem? hx)
    simp [tst, this] at hq
theorem B7f {hk : List Nat} {k : Nat → List Nat} {n : Nat} {x : Skp} (h : x ∈ skL hk k n) : x.n < n := by
  obtain ⟨j, hj, rfl⟩ := List.mem_map.1 h
  exact List.mem_range.1 hj
theorem B1Q (hk : List Nat) (k : Nat → List Nat) : ∀ i, i ≤ 32 → B7c hk k [] i = skL hk k i
  | 0, _ => rfl
  | i + 1, hi => by
    show B1X (B7c hk k [] i) ⟨hk, i, k i⟩ = _
    rw [B1Q hk k i (by omega)]
    unfold B1X
    rw [A3w (B5c fun x hx => by have := B7f hx; show x.n ≠ i; omega)]
    rw [show (skL hk k i ++ [(⟨hk, i, k i⟩ : Skp)]).length - 32 = 0 by rw [List.length_append, A5n]; simp; omega, List.drop_zero]
    unfold skL
    rw [List.range_succ, List.map_append]; rfl
theorem B7g (hk : List Nat) (k : Nat → List Nat) (n i : Nat) : ∀ x ∈ (skL hk k n).eraseIdx i, x.n ≠ i := by
  intro x hx
  obtain ⟨j, hj, hne, e⟩ := List.mem_eraseIdx_iff_getElem.1 hx
  obtain ⟨h1, h2⟩ := B1P (List.getElem?_eq_getElem hj ▸ (congrArg some e) : (skL hk k n)[j]? = some x)
  rw [h2]; exact hne
theorem B5d (a b hk : List Nat) : A0Y (A6h a b) hk = true := by simp [A0Y, A6h]
noncomputable def A8b (m k : Nat) : Ps := (snd m (k + 1)).1
theorem A69 (m k : Nat) (hk : k ≤ 30) : GS (A8b m k) ∧ WfR (A8b m k) (A6h (rK m) (rO m)) ∧ (A8b m k).ts.length ≤ 400 ∧ (A8b m k).n = 3 ∧ TrnAt (A8b m k) (rK m) (rO m) (snd m 0).2.own (snd m 0).2.root (snd m 0).2.sk ∧ (∀ i, i ≤ k → Snt (A8b m k) (A1t m i) 0 i (A5p m i)) := by
  obtain ⟨w1, w2, w3, w4, w5, w6, w7⟩ := wf0 m
  have h := A8a m (k + 1) (by omega)
  have hl := h.len
  refine ⟨h.gs, w3.ext h.ext.p, by show (snd m (k + 1)).1.ts.length ≤ _; omega, h.n, (w6.ext h.ext.p w1 h.gs (by omega)).comm, fun i hi => ?_⟩
  exact (B35 (A8a m i (by omega)) (by omega)).snt.ext (B36 m (by omega) (by omega)).p
theorem B8Q (m k : Nat) (hk : k ≤ 30) (h16 : 16 < k) : L6 (A8b m k) (A6h (rK m) (rO m)) F3 (A1t m k) 0 k (A5p m k) = (A8b m k, A6h (rK m) (rO m), 7, []) := by
  obtain ⟨a1, a2, a3, a4, a5, a6⟩ := A69 m k hk
  have g := B35 (A8a m k (by omega)) (by omega)
  have hf := A8a m k (by omega)
  exact B7d a1 (by omega) rfl (B5d _ _ _) (A6o rfl) (A5l rfl) a5 (hf.own ▸ g.pub) h16
structure SkF (m k : Nat) (z : Ps × Rsd × Int × List Nat) : Prop where
  e : z.2.2.1 = 0
  t : z.2.2.2 = [k % 256]
  gs : GS z.1
  wf : WfR z.1 z.2.1
  ext : Ext (A8b m k) z.1
  len : z.1.ts.length ≤ 600
  n : z.1.n ≤ 4
  their : z.2.1.their = A1t m 0
  tk : z.2.1.tk ≠ []
  tn : z.2.1.tn = k + 1
  sks : z.2.1.sks = skL (A1t m 0) (A8X m) k
theorem B8R (m k : Nat) (h16 : k ≤ 16) : SkF m k (L6 (A8b m k) (A6h (rK m) (rO m)) F3 (A1t m k) 0 k (A5p m k)) := by
  obtain ⟨a1, a2, a3, a4, a5, a6⟩ := A69 m k (by omega)
  have g := B35 (A8a m k (by omega)) (by omega)
  have hf := A8a m k (by omega)
  have hst : ∀ j, j ≤ k → A1Z (A8b m k) (snd m j).2.sk (A8X m j) (snd m (j + 1)).2.sk := fun j hj => by
    have gj := B35 (A8a m j (by omega)) (by omega)
    exact gj.step.ext (B36 m (i := j + 1) (j := k + 1) (by omega) (by omega)).p gj.gs a1 (by omega)
  have ho := g.opn (A8b m k) a1 (Pext.refl _) (by omega)
  have hO := B1N (w := F3) (g := A5p m k) a1 a2 (a6 k (Nat.le_refl _)) (show 0 < 4294967296 by decide) (by omega) (show 0 ≤ 1000 by decide) (by omega)
  have e := B1O (r := A6h (rK m) (rO m)) (w := F3) (g := A5p m k) (t := [k % 256]) (hp := 0) (n := k) (c := fun j => (snd m j).2.sk) (k := A8X m) a1 (by omega) rfl (B5d _ _ _) (A6o rfl) (A5l rfl) a5 (hf.own ▸ g.pub) rfl h16 hst ho
  obtain ⟨o1, o2, o3, o4, o5, o6, o7, o8⟩ := hO
  rw [e] at o2 o3 o4 o5 o6 o7 o8 ⊢
  exact ⟨rfl, rfl, o2, o4, o3, Nat.le_trans o5 (by omega), Nat.le_trans o6 (by omega), B8P m k (by omega), (A8a m (k + 1) (by omega)).sk, rfl, by
    show B7c (A1t m k) (A8X m) [] k = _
    rw [B1Q _ _ _ (by omega), B8P m k (by omega)]⟩
theorem B8S {m k i : Nat} {z : Ps × Rsd × Int × List Nat} (h : SkF m k z) (h16 : k ≤ 16) (hi : i < k) :
    L6 z.1 z.2.1 F3 (A1t m i) 0 i (A5p m i) = (z.1, ⟨z.2.1.own, z.2.1.their, z.2.1.root, z.2.1.sk, z.2.1.sn, z.2.1.tk, z.2.1.tn, z.2.1.prev, (skL (A1t m 0) (A8X m) k).eraseIdx i⟩, 0, [i % 256]) := by
  have g := B35 (A8a m i (by omega)) (by omega)
  have he := (B36 m (i := i + 1) (j := k + 1) (by omega) (by omega)).trans h.ext
  have ho := g.opn z.1 h.gs he.p (by have := h.len; omega)
  have hy := B7e (hk := A1t m 0) (k := A8X m) hi
  have hs : A3L z.2.1.sks (A1t m i) i = some (A8X m i) := by
    rw [h.sks, B8P m i (by omega)]
    exact A5d hy (B5a hi)
  rw [B1E hs ho, h.sks, B8P m i (by omega), A1T hy]
theorem B37 {m k i : Nat} {z : Ps × Rsd × Int × List Nat} (h : SkF m k z) (hi : i < k) {r : Rsd} (hr : r = ⟨z.2.1.own, z.2.1.their, z.2.1.root, z.2.1.sk, z.2.1.sn, z.2.1.tk, z.2.1.tn, z.2.1.prev, (skL (A1t m 0) (A8X m) k).eraseIdx i⟩) (hh : A1t m i = A1t m 0) :
    (L6 z.1 r F3 (A1t m i) 0 i (A5p m i)).2.2.1 = 8 := by
  have h1 : r.sks = (skL (A1t m 0) (A8X m) k).eraseIdx i := by rw [hr]
  have h2 : r.their = A1t m 0 := by rw [hr]; exact h.their
  have h3 : r.tk ≠ [] := by rw [hr]; exact h.tk
  have h4 : r.tn = k + 1 := by rw [hr]; exact h.tn
  clear hr
  have hs : A3L r.sks (A1t m i) i = none := by rw [h1]; exact A6Y (B5c (B7g _ _ _ _))
  have hf : A0Y r (A1t m i) = false := by unfold A0Y; rw [h2, hh, decide_eq_true rfl, decide_eq_false h3]; rfl
  have hE : ahE r.tn i = 8 := by unfold ahE; rw [h4, if_pos (by omega)]
  rw [B9X (r := r) hs (B3T hf) (fun h => by rw [hf] at h; cases h) (by show ahE r.tn i ≠ 0; rw [hE]; decide)]
  exact hE

structure Lnk (s : Ps) (a b : Rsd) : Prop where
  gs : GS s
  wa : WfR s a
  wb : WfR s b
  ta : TrnAt s b.root b.own a.own a.root a.sk
  sn : a.sn = 0
  sk : a.sk ≠ []
  ska : a.sks = []
  skb : b.sks = []
  an : a.tn < 4294967296
  bn : b.tn < 4294967296
  bs : b.sn < 4294967296
structure Png (s : Ps) (a b : Rsd) (t : List Nat) (s2 : Ps) (b2 : Rsd) : Prop where
  o : OpnH (W7 s a F3 t) b (I6 s a.own) a.prev 0
  e : L6 (W7 s a F3 t) b F3 (I6 s a.own) a.prev 0 (A1Y s a F3 t) = (s2, b2, 0, t)
  l : Lnk s2 b2 (V9 s a)
  snt : Snt (W7 s a F3 t) (I6 s a.own) a.prev 0 (A1Y s a F3 t)
  s2e : s2 = A3M (E5 (W7 s a F3 t)) a.root (I4 (W7 s a F3 t)) (I6 s a.own)
  b2e : b2 = ⟨I4 (W7 s a F3 t), I6 s a.own, B1Y (E5 (W7 s a F3 t)) a.root (I4 (W7 s a F3 t)) (I6 s a.own), A82 (E5 (W7 s a F3 t)) a.root (I4 (W7 s a F3 t)) (I6 s a.own), 0, A2t (K0 s a.own) a.sk, 1, b.sn, []⟩
  len : s2.ts.length ≤ s.ts.length + 20
  n : s2.n = s.n + 1
theorem ping {s : Ps} {a b : Rsd} {t : List Nat} (h : Lnk s a b) (hfr : A0Y b (I6 s a.own) = true) (hp : b.tk = [] ∨ b.tn = a.prev) (pv : a.prev < 4294967296) (ht : ∀ x ∈ t, x < 256) (htl : t.length ≤ 900) (hl : s.ts.length ≤ 900000) (hn : s.n < 900000000) : ∃ s2 b2, Png s a b t s2 b2 := by
  obtain ⟨a1, a2, a3, a4, a5, a6, a7, a8⟩ := B8M (w := F3) (t := t) h.gs h.wa h.sk pv (by rw [h.sn]; decide) A78 (by decide) ht htl (by omega)
  rw [h.sn] at a5 a8
  have l1 := A10 s a F3 t
  have hO := B1N (w := F3) (g := A1Y s a F3 t) a1 (h.wb.ext a2.p) a5 h.bn (by omega) (by rw [h.skb]; exact Nat.zero_le _) (by omega)
  have hA : opA (W7 s a F3 t) b a.prev = (W7 s a F3 t, b.tk, b.tn, b.sks) ∧ A72 b a.prev = 0 := by
    by_cases h0 : b.tk = []
    · exact ⟨A6o h0, A5l h0⟩
    · have e := hp.resolve_left h0
      have hE : ahE b.tn a.prev = 0 := by rw [e]; exact B1C (Nat.le_refl _) (by omega)
      rw [A5k h0, A2N h0, A3I hE]
      refine ⟨?_, hE⟩
      rw [e, Nat.sub_self]; rfl
  have e := B1O (s := W7 s a F3 t) (r := b) (w := F3) (g := A1Y s a F3 t) (t := t) (hp := a.prev) (n := 0) (c := fun j => if j = 0 then a.sk else (V9 s a).sk) (k := fun _ => A0b (K0 s a.own) a.sk) a1 (by omega) (by rw [h.skb]; rfl) hfr hA.1 hA.2 (h.ta.ext a2.p h.gs a1 (by omega)) a4 rfl (by decide)
    (fun j hj => by rw [show j = 0 by omega]; exact a6) (a8 _ a1 (Pext.refl _) (by omega))
  rw [h.skb] at e
  change _ = (_, (⟨_, _, _, _, 0, A2t (K0 s a.own) a.sk, 1, b.sn, []⟩ : Rsd), 0, t) at e
  obtain ⟨o1, o2, o3, o4, o5, o6, o7, o8⟩ := hO
  rw [e] at o2 o3 o4 o5 o6
  obtain ⟨f1, f2⟩ := A3K a1 (by omega)
  have fE := A2K (W7 s a F3 t)
  have l2 := A0t (W7 s a F3 t)
  have kr : KK (E5 (W7 s a F3 t)) a.root := (h.wa.root.ext a2.p).ext fE.p
  obtain ⟨t1, t2, t3, t4⟩ := B3V f1 kr f2 (a4.ext fE.p) h.wa.own.2 (by omega)
  have tE := A74 (E5 (W7 s a F3 t)) a.root (I4 (W7 s a F3 t)) (I6 s a.own)
  have l3 := A05 (E5 (W7 s a F3 t)) a.root (I4 (W7 s a F3 t)) (I6 s a.own)
  refine ⟨_, _, ⟨o1, e, ⟨t1, o4, a3.ext (fE.trans tE).p, t4.comm, rfl, ?_, rfl, h.ska, (show 1 < 4294967296 by decide), h.an, ?_⟩, a5, rfl, rfl, by omega, by omega⟩⟩
  · intro e3
    have := t3.2.2
    rw [show A82 (E5 (W7 s a F3 t)) a.root (I4 (W7 s a F3 t)) (I6 s a.own) = [] from e3] at this
    cases this
  · show (a.sn + 1) % 4294967296 < _; exact Nat.mod_lt _ (by decide)

theorem Par.mono {R R' : Mem} {tb pb : Nat} {s : Ps} {r0 r1 : Rsd} {M : Mem} (h : Par R tb pb s r0 r1 M) (hR : ∀ x, x ∈ R → x ∈ R') : Par R' tb pb s r0 r1 M := by
  obtain ⟨ao, at_, ar, ak, al, aq, bo, bt, br, bk, bl, bq, MP, h1, h2, h3, h4⟩ := h
  exact ⟨ao, at_, ar, ak, al, aq, bo, bt, br, bk, bl, bq, MP, h1, h2.mono hR, h3.mono hR, h4⟩
def hiW : List Nat := [104, 105]
def hoW : List Nat := [104, 111]
noncomputable def p0S (m : Nat) : Ps := B13 (rS m) (rK m) (rP m)
noncomputable def p0A (m : Nat) : Rsd := B1Z (rS m) (rK m) (rP m)
noncomputable def p0B (m : Nat) : Rsd := A6h (rK m) (rO m)
theorem lnk0 (m : Nat) : Lnk (p0S m) (p0A m) (p0B m) ∧ (p0S m).ts.length ≤ 12 ∧ (p0S m).n = 3 := by
  obtain ⟨w1, w2, w3, w4, w5, w6, w7⟩ := wf0 m
  exact ⟨⟨w1, w2, w3, w6.comm, rfl, w7, rfl, rfl, (show 0 < 4294967296 by decide), (show 0 < 4294967296 by decide), (show 0 < 4294967296 by decide)⟩, w4, w5⟩
theorem B5e {r : Rsd} (h : r.tk = []) (hk : List Nat) : A0Y r hk = true := by unfold A0Y; rw [h]; simp
theorem B1R (A : Mem) (hG : Glb A) : FnV Tryz.prog 7 [] A (.bool true) := by
 refine FnX.enter (N := 55) Tryz.func7 rfl rfl rfl fun w_ => ?_
 refine B0 kn (A1 (as_ (A0 kn (A1 ?_))))
 refine C5 (aS rfl a0) kR (A73 1 _ (by decide) hG.up) rfl ?_
 rintro v10 M10 J10 ⟨tb, pb, rfl, hp10⟩
 change Par _ tb pb (p0S 1) (p0A 1) (p0B 1) M10 at hp10
 obtain ⟨L0, n0, n1⟩ := lnk0 1
 obtain ⟨s2, rb2, Q⟩ := ping (t := hiW) L0 (B5e rfl _) (.inl rfl) (show 0 < 4294967296 by decide) (by decide) (by decide) (by omega) (by omega)
 have q1 := Q.len
 have q2 := Q.n
 have q3 : rb2.sn = 0 := by rw [Q.b2e]
 have q4 : rb2.prev = 0 := by rw [Q.b2e]; rfl
 obtain ⟨s4, ra4, V⟩ := ping (t := hoW) Q.l (B5e rfl _) (.inl rfl) (by rw [q4]; decide) (by decide) (by decide) (by omega) (by omega)
 have l1 := A10 (p0S 1) (p0A 1) F3 hiW
 have l2 := A10 s2 rb2 F3 hoW
 have g1 := Q.snt.gl
 have g2 := V.snt.gl
 have ak : 0 < (p0A 1).sk.length := List.length_pos_iff.2 L0.sk
 have bk : 0 < rb2.sk.length := List.length_pos_iff.2 Q.l.sk
 have h1l := A60 (p0S 1) (p0A 1).own
 have h2l := A60 s2 rb2.own
 refine as_ (A0 (D4 1) (A3 (A1 (mv_ ?_))))
 refine A2 (G6 (e := 45) rfl rfl kR) rfl ?_
 refine A0 (D2 1 12) ?_
 refine C6 rfl ?_
 refine A6 (nx (D4 1) (A1 (mv_ ?_)))
 refine A4 rfl (E0 (Mc := M10) (R := _) (aS rfl (aS rfl (aS rfl (a0)))) kR PickC.perm (B1I tb pb (p0S 1) (p0A 1) (p0B 1) hiW M10 _ (hp10.mono SubC.sub) (by omega) ak ⟨by decide⟩ (by decide) hG.up) rfl ?_)
 rintro v15 M15 J15 ⟨hp15, vk, vg, rfl, hvk, hvg⟩
 haveI := hvk.cel
 haveI := hvg.cel
 refine mv_ ?_
 refine A2 (A0M rfl) rfl ?_
 refine A2 (A0F rfl) rfl ?_
 refine A4 rfl (C4 (cs := [A6z, .slice none 0 0, F7, F7, .slice none 0 0, .string ByteArray.empty]) kR rfl fun b2 => ?_)
 refine A4 rfl (A9 (vs := [.int .i64 1, vk, .int .u32 (((p0A 1).prev : Nat) : Int), .int .u32 (((p0A 1).sn : Nat) : Int), vg, .string (txt hiW)]) rfl rfl rfl kR (by rfl) (A8 rfl (A8 hvk.one (A8 rfl (A8 rfl (A8 hvg.one (A8 rfl L3)))))) UpC.upd ?_)
 refine as_ (A0 (D5 1 2 3) (A1 (mv_ ?_)))
 refine A2 (qw_ 6) rfl ?_
 refine A4 rfl (E0 (Mc := M15) (R := _) (aS rfl (aS rfl (a0))) kR PickC.perm (A5m tb pb (W7 (p0S 1) (p0A 1) F3 hiW) (V9 (p0S 1) (p0A 1)) (p0B 1) vk vg (I6 (p0S 1) (p0A 1).own) (A1Y (p0S 1) (p0A 1) F3 hiW) hiW (p0A 1).prev (p0A 1).sn (s2, rb2, 0, hiW) M15 _ (hp15.mono SubC.sub) (by omega) (by omega) (hvk.mono SubC.sub) (by omega) Q.snt.hp Q.snt.hn (hvg.mono SubC.sub) (by omega) Q.o Q.e hG.up) rfl ?_)
 rintro v21 M21 J21 ⟨hp21, rfl⟩
 dsimp only at hp21 ⊢
 refine mv_ ?_
 refine A2 (A0M rfl) rfl ?_
 refine A2 (A0F rfl) rfl ?_
 refine as_ (as_ (A0 (D3 1 3 4 5) (A1 (mv_ ?_))))
 refine A4 rfl (E0 (Mc := M21) (R := _) (aS rfl (aS rfl (aS rfl (a0)))) kR PickC.perm (B66 tb pb s2 (V9 (p0S 1) (p0A 1)) rb2 hoW M21 _ (hp21.mono SubC.sub) (by omega) bk ⟨by decide⟩ (by decide) hG.up) rfl ?_)
 rintro v26 M26 J26 ⟨hp26, wk, wg, rfl, hwk, hwg⟩
 haveI := hwk.cel
 haveI := hwg.cel
 refine mv_ ?_
 refine A2 (A0M rfl) rfl ?_
 refine A2 (A0F rfl) rfl ?_
 refine A4 rfl (C4 (cs := [A6z, .slice none 0 0, F7, F7, .slice none 0 0, .string ByteArray.empty]) kR rfl fun b6 => ?_)
 refine A4 rfl (A9 (vs := [.int .i64 0, wk, .int .u32 ((rb2.prev : Nat) : Int), .int .u32 ((rb2.sn : Nat) : Int), wg, .string (txt hoW)]) rfl rfl rfl kR (by rfl) (A8 rfl (A8 hwk.one (A8 rfl (A8 rfl (A8 hwg.one (A8 rfl L3)))))) UpC.upd ?_)
 refine as_ (A0 (H6 1 3 4 5 6 7) (A1 (mv_ ?_)))
 refine A2 (qw_ 6) rfl ?_
 refine A4 rfl (E0 (Mc := M26) (R := _) (aS rfl (aS rfl (a0))) kR PickC.perm (B67 tb pb (W7 s2 rb2 F3 hoW) (V9 (p0S 1) (p0A 1)) (V9 s2 rb2) wk wg (I6 s2 rb2.own) (A1Y s2 rb2 F3 hoW) hoW rb2.prev rb2.sn (s4, ra4, 0, hoW) M26 _ (hp26.mono SubC.sub) (by omega) (by omega) (hwk.mono SubC.sub) (by omega) V.snt.hp (by rw [q3]; decide) (hwg.mono SubC.sub) (by omega) (by rw [q3]; exact V.o) (by rw [q3]; exact V.e) hG.up) rfl ?_)
 rintro v32 M32 J32 ⟨hp32, rfl⟩
 dsimp only
 refine mv_ ?_
 refine A2 (A0M rfl) rfl ?_
 refine A2 (A0F rfl) rfl ?_
 refine as_ (as_ (A0 (H6 3 4 5 7 8 9) (A1 (mv_ (mv_ ?_)))))
 refine E1 rfl rfl (OpQ.opL qm_ rfl ?_)
 refine E1 rfl rfl (OpQ.opL (E8 true rfl rfl (eqT rfl)) rfl ?_)
 refine A2 (G9 rfl rfl) rfl ?_
 refine mv_ ?_
 refine E1 rfl rfl (OpQ.opL qm_ rfl ?_)
 refine E1 rfl rfl (OpQ.opL (A4G rfl rfl rfl) rfl ?_)
 refine A2 (G9 rfl rfl) rfl ?_
 refine mv_ ?_
 refine E1 rfl rfl (OpQ.opL qm_ rfl ?_)
 refine A2 (G9 rfl rfl) rfl ?_
 refine mv_ ?_
 refine E1 rfl rfl (OpQ.opL qm_ rfl ?_)
 refine E1 rfl rfl (OpQ.opL (E8 true rfl rfl (eqT rfl)) rfl ?_)
 refine A2 (G9 rfl rfl) rfl ?_
 refine mv_ ?_
 refine E1 rfl rfl (OpQ.opL qm_ rfl ?_)
 refine E1 rfl rfl (OpQ.opL (A4G rfl rfl rfl) rfl ?_)
 refine A2 (G9 rfl rfl) rfl ?_
 refine as_ (A0 (D4 0) (B4 ?_))
 exact ⟨_, [], [], K4 rfl rfl, List.nil_sublist _, by simp, rfl, rfl, rfl⟩

structure Ltr where
  to : Nat
  hk : List Nat
  hp : Nat
  hn : Nat
  g : List Nat
  t : List Nat
def ltR (R : Mem) (x : Ltr) (r : List Value) : Prop := ∃ vk vg, r = [.int .i64 ((x.to : Nat) : Int), vk, .int .u32 ((x.hp : Nat) : Int), .int .u32 ((x.hn : Nat) : Int), vg, .string (txt x.t)] ∧ By R vk x.hk ∧ By R vg x.g
theorem ltT : RowT 6 ltR := ⟨fun R R' x r hR ⟨vk, vg, h1, h2, h3⟩ => ⟨vk, vg, h1, h2.mono hR, h3.mono hR⟩, fun R x r ⟨vk, vg, h1, _⟩ => by rw [h1]; rfl, fun R x r ⟨vk, vg, h1, h2, h3⟩ c hc => by
  rw [h1] at hc
  simp only [List.mem_cons, List.not_mem_nil, or_false] at hc
  rcases hc with rfl | rfl | rfl | rfl | rfl | rfl
  · rfl
  · exact h2.one
  · rfl
  · rfl
  · exact h3.one
  · rfl⟩
noncomputable def ltA (m j : Nat) : Ltr := ⟨1, A1t m j, 0, j, A5p m j, [j % 256]⟩
noncomputable def ltL (m n : Nat) : List Ltr := (List.range n).map (ltA m)
theorem Y3 (m n : Nat) : (ltL m n).length = n := by simp [ltL]
theorem B5f {m n j : Nat} (h : j < n) : (ltL m n)[j]? = some (ltA m j) := by unfold ltL; rw [List.getElem?_map, List.getElem?_range h]; rfl
theorem A8c (m n : Nat) : ltL m (n + 1) = ltL m n ++ [ltA m n] := by unfold ltL; rw [List.range_succ, List.map_append]; rfl
theorem StF.len {A : Mem} {v : Value} {sks : List Skp} (h : StF A v sks) (hl : sks.length ≤ 1000000) : FnV Tryz.prog 11 [v] A (.int .i64 ((sks.length : Nat) : Int)) := by
  obtain ⟨sb, u, rows, rfl, h1, h2, -⟩ := h
  exact B0Z sb sks.length u rows.flatten A h1 h2
set_option maxHeartbeats 2000000 in
theorem A3Z (m n bk : Nat) (A : Mem) (hm : m < 256) (hn : n < 256) (hb : bk < 256) (hG : Glb A) : FnV Tryz.prog 3 [.int .u8 ((m : Nat) : Int), .int .u8 ((n : Nat) : Int), .int .u8 ((bk : Nat) : Int)] A (.bool true) := by
  refine FnX.enter (N := 142) Tryz.func3 rfl rfl rfl fun w_ => ?_
  refine B0 (D5 0 1 2) (A1 (as_ (A0 (D5 0 1 2) (A3 (A1 ?_)))))
  refine F1 a0 kR (B1R _ hG.up) rfl ?_
  refine A2 (A6s rfl) rfl ?_
  refine A0 (D3 0 1 2 19) ?_
  refine C6 rfl ?_
  refine A6 (nx (D5 0 1 2) (A1 (mv_ ?_)))
  refine C5 (aS rfl a0) kR (A73 m _ hm hG.up) rfl ?_
  rintro v21 M21 J21 ⟨tb, pb, rfl, hp21⟩
  change Par _ tb pb (snd m 0).1 (snd m 0).2 (A6h (rK m) (rO m)) M21 at hp21
  refine as_ (A0 (D5 1 2 7) (A1 (as_ (A0 (D3 1 2 7 8) (A1 (mv_ ?_))))))
  refine A2 (A0v (k' := .i64) rfl kR (by show _ < 9223372036854775808; omega)) rfl ?_
  refine A2 (T3 (a := n) (b := 22) rfl rfl rfl rfl (by decide)) rfl ?_
  refine as_ (A0 (D3 2 7 8 9) (A3 ?_))
  obtain ⟨k, hk⟩ : ∃ z, n % 22 = z := ⟨_, rfl⟩
  rw [hk]
  have hk21 : k ≤ 21 := by omega
  refine A1 (as_ (A0 (E4 2 7 8 9 10) (A5 ?_)))
  refine D7 (α := Nat × Mem × Mem × Value × List (List Value) × Mem) (fun y => [(2, .int .u8 ((bk : Nat) : Int)), (7, .pointer (some ⟨tb, 0, none⟩)), (8, y.2.2.2.1), (9, .int .i64 ((k : Nat) : Int)), (10, .int .i64 ((y.1 : Nat) : Int))]) (fun y => y.2.1 ++ y.2.2.1) (fun y => y.2.2.2.2.2) (fun y => y.1 ≤ k + 1 ∧ Par (y.2.2.2.2.2 ++ A) tb pb (snd m y.1).1 (snd m y.1).2 (A6h (rK m) (rO m)) y.2.1 ∧ Sl 6 y.2.2.2.1 (ltL m y.1).length y.2.2.2.2.1.flatten y.2.2.1 ∧ RwL ltR (y.2.2.2.2.2 ++ A) y.2.2.2.2.1 (ltL m y.1)) (fun y => k + 1 - y.1) (0, M21, [], .slice none 0 0, [], J21) ⟨Nat.zero_le _, hp21.mono SubC.sub, Sl.nil, RwL.nil⟩ (E4 2 7 8 9 10) (Fit.eq (by simp)) (fun _ h => by simpa using h) ?_
  rintro ⟨i, Mi, Bi, vi, rwi, Ji⟩ ⟨hi, hpi, hsl, hrw⟩
  dsimp only at hi hpi hsl hrw ⊢
  haveI := hsl.cel
  refine A3 (A1 (mv_ (mv_ ?_)))
  refine A2 (D6 rfl rfl rfl) rfl ?_
  refine A0 (H6 2 7 8 9 10 27) ?_
  refine C0 rfl (fun hc => ?_) (fun hc => ?_)
  ·
    have hlt : i < k + 1 := by simp [H9] at hc; omega
    have sf := A8a m i (by omega)
    have sg := B35 sf (by omega)
    have s1 := sf.len
    have s2 : 0 < (snd m i).2.sk.length := List.length_pos_iff.2 sf.sk
    have s3 := Y3 m i
    refine A6 (nx (E4 2 7 8 9 10) (A3 (A5 (A1 (mv_ (mv_ ?_))))))
    refine A2 (A07 rfl kR) rfl ?_
    refine A4 rfl (C3 (e := 5) (sz := 1) (z := [.int .u8 0]) kR (eS rfl e0) (bdS 0 1 rfl (by rfl) bd0) rfl fun b34 => ?_)
    refine A2 (Q9 rfl kR (Rd.whole (n := 1) (cs := nums .u8 [i % 256]) At.mem (by rfl))) rfl ?_
    refine A4 rfl (E0 (Mc := Mi) (R := _) (aS rfl (aS rfl (aS rfl (a0)))) kR PickC.perm (FnX.amb SubC.sub (B1I tb pb (snd m i).1 (snd m i).2 (A6h (rK m) (rO m)) [i % 256] Mi (Ji ++ A) hpi (by omega) s2 ⟨A79 i⟩ (by simp) (hG.sub SubC.sub))) rfl ?_)
    rintro v36 M36 J36 ⟨hp36, vk, vg, rfl, hvk, hvg⟩
    haveI := hvk.cel
    haveI := hvg.cel
    rw [sf.prev, sf.sn]
    refine mv_ ?_
    refine A2 (A0M rfl) rfl ?_
    refine A2 (A0F rfl) rfl ?_
    refine A4 rfl (C4 (cs := [A6z, .slice none 0 0, F7, F7, .slice none 0 0, .string ByteArray.empty]) kR rfl fun b11 => ?_)
    refine A4 rfl (A9 (vs := [.int .i64 1, vk, .int .u32 ((0 : Nat) : Int), .int .u32 ((i : Nat) : Int), vg, .string (txt [i % 256])]) rfl rfl rfl kR (by rfl) (A8 rfl (A8 hvk.one (A8 rfl (A8 rfl (A8 hvg.one (A8 rfl L3)))))) UpC.upd ?_)
    refine as_ (A0 (Q0 2 7 8 9 10 11 12) (A3 (A1 (mv_ ?_))))
    refine A2 (A6s rfl) rfl ?_
    refine A0 (Q0 2 7 8 9 10 11 40) ?_
    refine C6 rfl ?_
    refine A6 (nx (H6 2 7 8 9 10 11) (A7 (mv_ ?_)))
    refine A2 (qw_ 6) rfl ?_
    refine A4 rfl (C3 (e := 31) (sz := 6) (z := [A6z, .slice none 0 0, F7, F7, .slice none 0 0, .string ByteArray.empty]) kR (eS rfl e0) (bdS 0 6 rfl (by rfl) bd0) rfl fun b43 => ?_)
    refine A4 rfl (G3 (e := 31) (sz := 6) (by_ := 80) rfl rfl kR rfl hsl (Rd.whole (n := 1) At.mem (by rfl)) (by intro c hc; simp only [List.mem_cons, List.not_mem_nil, or_false] at hc; rcases hc with rfl | rfl | rfl | rfl | rfl | rfl; rfl; exact hvk.one; rfl; rfl; exact hvg.one; rfl) PickC.perm (by unfold maxLen; omega) (by omega) rfl fun v44 B44 hs44 => ?_)
    haveI := hs44.cel
    refine as_ (C1 (nb (nx (E4 2 7 8 9 10) (A7 (mv_ ?_)))))
    refine A2 (C8 ((i + 1 : Nat) : Int) rfl rfl (E3 (by omega) (by omega) (by omega))) rfl ?_
    refine as_ (C1 ?_)
    refine rn (i + 1, M36, B44, v44, rwi ++ [[.int .i64 ((1 : Nat) : Int), vk, .int .u32 ((0 : Nat) : Int), .int .u32 ((i : Nat) : Int), vg, .string (txt [i % 256])]], J36 ++ Ji) ⟨by dsimp only; omega, hp36.mono SubC.sub, ?_, ?_⟩ (by dsimp only; omega) (E4 2 7 8 9 10) (Fit.pick PickC.perm (Fit.last PickC.perm)) (fun _ h => h)
    · exact Sl.cast hs44 (by dsimp only; rw [A8c, List.length_append]; rfl) (by dsimp only; simp)
    · dsimp only
      rw [A8c]
      exact (hrw.mono ltT SubC.sub).snoc ⟨vk, vg, rfl, hvk.mono SubC.sub, hvg.mono SubC.sub⟩
  ·
    obtain rfl : i = k + 1 := by simp [H9] at hc; omega
    refine D1 (te (re (be rfl (nx (D3 2 7 8 9) ?_))))
    refine A0T (B := Bi) PickC.perm ?_
    have hrd := hsl.rd (R := Bi) fun _ h => h
    have s3 := Y3 m (k + 1)
    obtain ⟨a1, a2, a3, a4, a5, a6⟩ := A69 m k (by omega)
    obtain ⟨z, hz⟩ : ∃ z, L6 (A8b m k) (A6h (rK m) (rO m)) F3 (A1t m k) 0 k (A5p m k) = z := ⟨_, rfl⟩
    have hO := (B1N (w := F3) (g := A5p m k) a1 a2 (a6 k (Nat.le_refl _)) (show 0 < 4294967296 by decide) (by omega) (show 0 ≤ 1000 by decide) (by omega)).1
    have hK := (a6 k (Nat.le_refl _)).pub.elim fun b hb => hb.2.k32.2
    have hGl := (a6 k (Nat.le_refl _)).gl
    obtain ⟨ra, hra, vka, vga, rfl, hvka, hvga⟩ := hrw.get k _ (B5f (m := m) (n := k + 1) (j := k) (by omega))
    haveI := hvka.cel
    haveI := hvga.cel
    refine A1 (mv_ (mv_ (mv_ ?_)))
    refine A2 (H8 (sz := 6) (a := k) rfl rfl kR rfl hrd (by rw [Y3]; omega)) rfl ?_
    refine A2 (A5E (sz := 6) rfl kR (hrd.mono SubC.sub) (hrw.lens ltT) (by decide) hra) rfl ?_
    refine A4 rfl (E0 (Mc := Mi) (R := _) (aS rfl (aS rfl (a0))) kR PickC.perm (A5m tb pb (A8b m k) (snd m (k + 1)).2 (A6h (rK m) (rO m)) vka vga (A1t m k) (A5p m k) [k % 256] 0 k z Mi _ (hpi.mono SubC.sub) (by omega) (by omega) (hvka.mono SubC.sub) (by omega) (by decide) (by omega) (hvga.mono SubC.sub) (by omega) hO hz hG.up) rfl ?_)
    rintro v51 M51 J51 ⟨hp51, rfl⟩
    refine mv_ ?_
    refine A2 (A0M rfl) rfl ?_
    refine A2 (A0F rfl) rfl ?_
    refine as_ (as_ (A0 (H6 2 7 8 9 13 14) (A3 (A1 (mv_ ?_)))))
    refine A2 (D6 rfl rfl rfl) rfl ?_
    refine A0 (Q0 2 7 8 9 13 14 55) ?_
    refine C0 rfl (fun hc => ?_) (fun hc => ?_)
    ·
      have h16 : 16 < k := by simp [H9] at hc; omega
      have hz2 := B8Q m k (by omega) h16
      rw [hz] at hz2
      subst hz2
      obtain ⟨ao, at_, ar, ak, al, aq, bo, bt, br, bk_, bl, bq, MP, rfl, h0, h1, hP⟩ := hp51
      haveI := h1.tk.cel
      dsimp only
      refine A1 (mv_ ?_)
      refine A2 (E8 true rfl rfl (eqT rfl)) rfl ?_
      refine mv_ ?_
      refine E1 rfl rfl (OpQ.opL qm_ rfl ?_)
      refine E1 rfl rfl (OpQ.opL (E7 rfl) rfl ?_)
      refine E1 rfl rfl (OpQ.opL (qf_ 1 1) rfl ?_)
      refine E1 rfl rfl (OpQ.opL (qi_ 10 41 2 9 1) rfl ?_)
      refine E1 rfl rfl (OpQ.opL (qf_ 15 5) rfl ?_)
      refine E1 rfl rfl (OpQ.opL (qf_ 15 0) rfl ?_)
      refine E1 rfl rfl (OpQ.opL (I1 (v := bl) rfl kR At.mem (by rfl)) rfl ?_)
      refine E1 rfl rfl (OpQ.opL (G1 (sz := 1) rfl kR h1.tk.rd) rfl ?_)
      refine E1 rfl rfl (OpQ.opL (E8 true rfl rfl (eqT rfl)) rfl ?_)
      refine A2 (G9 rfl rfl) rfl ?_
      refine as_ (A0 (D4 6) (B4 (tr ?_)))
      exact ⟨_, [], [], K4 rfl rfl, List.nil_sublist _, by simp, rfl, rfl, rfl⟩
    ·
      have h16 : k ≤ 16 := by simp [H9] at hc; omega
      have sF := hz ▸ B8R m k h16
      obtain ⟨zp, zr, ze, zt⟩ := z
      obtain ⟨f1, f2, f3, f4, f5, f6, f7, f8, f9, f10, f11⟩ := sF
      dsimp only at f1 f2 f3 f4 f5 f6 f7 f8 f9 f10 f11 hp51 ⊢
      subst f1
      subst f2
      refine A6 (nx (H6 2 7 8 9 13 14) (A3 ?_))
      obtain ⟨ao, at_, ar, ak, al, aq, bo, bt, br, bk_, bl, bq, MP, rfl, h0, h1, hP⟩ := hp51
      have hp51 : Par _ tb pb zp (snd m (k + 1)).2 zr _ := ⟨ao, at_, ar, ak, al, aq, bo, bt, br, bk_, bl, bq, MP, rfl, h0, h1, hP⟩
      haveI := h1.st.cel
      have hsk : zr.sks.length = k := by rw [f11, A5n]
      refine A1 (mv_ ?_)
      refine A2 (E8 false rfl rfl (neF rfl)) rfl ?_
      refine mv_ ?_
      refine E1 rfl rfl (OpQ.opL qm_ rfl ?_)
      refine E1 rfl rfl (OpQ.opL qm_ rfl ?_)
      refine E1 rfl rfl (OpQ.opL qm_ rfl ?_)
      refine E1 rfl rfl (OpQ.opL (H8 (sz := 6) (a := k) rfl rfl kR rfl hrd (by rw [Y3]; omega)) rfl ?_)
      refine E1 rfl rfl (OpQ.opL (A9T (off := 5) rfl hrd (by rw [Y3]; omega) kR) rfl ?_)
      refine E1 rfl rfl (OpQ.opL (A9U (u := .string (txt [k % 256])) rfl (hrd.mono SubC.sub) (by rw [Y3]; omega) kR (by rw [A1z (hrw.lens ltT) hra 5 (by decide)]; rfl)) rfl ?_)
      refine E1 rfl rfl (OpQ.opL ((show (!decide ([k % 256] = [k % 256])) = false by simp) ▸ B2z rfl rfl rfl rfl (A79 k) (A79 k)) rfl ?_)
      refine A2 (H2 rfl rfl) rfl ?_
      refine mv_ ?_
      refine E1 rfl rfl (OpQ.opL qm_ rfl ?_)
      refine E1 rfl rfl (OpQ.opL (E7 rfl) rfl ?_)
      refine E1 rfl rfl (OpQ.opL (qf_ 1 1) rfl ?_)
      refine E1 rfl rfl (OpQ.opL (qi_ 10 41 2 9 1) rfl ?_)
      refine E1 rfl rfl (OpQ.opL (qf_ 18 8) rfl ?_)
      refine E1 rfl rfl (OpQ.opL (I1 (v := bq) rfl kR At.mem (by rfl)) rfl ?_)
      refine A2Z rfl rfl (aS rfl a0) kR ((h1.st.mono SubC.sub).len (by omega)) rfl ?_
      rw [hsk]
      refine E1 rfl rfl (OpQ.opL qm_ rfl ?_)
      refine E1 rfl rfl (OpQ.opL (E8 false rfl rfl (neF rfl)) rfl ?_)
      refine A2 (H2 rfl rfl) rfl ?_
      refine A0 (E4 2 7 8 9 90) ?_
      refine C6 rfl ?_
      refine A6 (nx (D3 2 7 8 9) (A3 (A1 (mv_ ?_))))
      refine A2 (D6 rfl rfl rfl) rfl ?_
      refine A0 (E4 2 7 8 9 92) ?_
      refine C0 rfl (fun hc => ?_) (fun hc => ?_)
      ·
        refine A1 (as_ (A0 (D4 6) (B4 (tr ?_))))
        exact ⟨_, [], [], K4 rfl rfl, List.nil_sublist _, by simp, rfl, rfl, rfl⟩
      ·
        have hk0 : 0 < k := by simp [H9] at hc; omega
        refine A6 (nx (D3 2 7 8 9) (A1 (mv_ ?_)))
        refine A2 (A0v (k' := .i64) rfl kR (by show _ < 9223372036854775808; omega)) rfl ?_
        refine mv_ ?_
        refine A2 (T3 (a := bk) (b := k) rfl rfl rfl rfl hk0) rfl ?_
        refine as_ (A0 (D3 7 8 9 15) ?_)
        obtain ⟨j, hj⟩ : ∃ z, bk % k = z := ⟨_, rfl⟩
        have hjk : j < k := hj ▸ Nat.mod_lt _ hk0
        rw [hj]
        have hKj := (a6 j (by omega)).pub.elim fun b hb => hb.2.k32.2
        have hGj := (a6 j (by omega)).gl
        have w1 := B1N (w := F3) (g := A5p m j) f3 f4 ((a6 j (by omega)).ext f5.p) (by rw [f10]; omega) (by omega) (by omega) (by omega)
        have e1 := B8S (m := m) (k := k) (i := j) (z := (zp, zr, 0, [k % 256])) ⟨rfl, rfl, f3, f4, f5, f6, f7, f8, f9, f10, f11⟩ h16 hjk
        dsimp only at e1
        obtain ⟨w0, w1, w2, w3, w4, w5, w6, w7⟩ := w1
        rw [e1] at w3
        obtain ⟨r2, hr2⟩ : ∃ z, (⟨zr.own, zr.their, zr.root, zr.sk, zr.sn, zr.tk, zr.tn, zr.prev, (skL (A1t m 0) (A8X m) k).eraseIdx j⟩ : Rsd) = z := ⟨_, rfl⟩
        rw [hr2] at e1 w3
        have e3 := B37 (m := m) (k := k) (i := j) (z := (zp, zr, 0, [k % 256])) ⟨rfl, rfl, f3, f4, f5, f6, f7, f8, f9, f10, f11⟩ hjk hr2.symm (B8P m j (by omega))
        dsimp only at w3 e3
        have r2l : r2.sks.length = k - 1 := by rw [← hr2]; show ((skL _ _ _).eraseIdx j).length = _; rw [List.length_eraseIdx, A5n, if_pos hjk]
        have r2t : r2.tn = k + 1 := by rw [← hr2]; exact f10
        have w8 := (B1N (w := F3) (g := A5p m j) f3 w3 ((a6 j (by omega)).ext f5.p) (by rw [r2t]; omega) (by omega) (by omega) (by omega)).1
        obtain ⟨rb, hrb, vkb, vgb, rfl, hvkb, hvgb⟩ := hrw.get j _ (B5f (m := m) (n := k + 1) (j := j) (by omega))
        haveI := hvkb.cel
        haveI := hvgb.cel
        refine A1 (mv_ (mv_ (mv_ ?_)))
        refine A2 (H8 (sz := 6) (a := j) rfl rfl kR rfl hrd (by rw [Y3]; omega)) rfl ?_
        refine A2 (A5E (sz := 6) rfl kR (hrd.mono SubC.sub) (hrw.lens ltT) (by decide) hrb) rfl ?_
        refine A4 rfl (E0 (Mc := _ :: MP) (R := _) (aS rfl (aS rfl (a0))) kR PickC.perm (A5m tb pb zp (snd m (k + 1)).2 zr vkb vgb (A1t m j) (A5p m j) [j % 256] 0 j (zp, r2, 0, [j % 256]) _ _ (hp51.mono SubC.sub) (by omega) (by omega) (hvkb.mono SubC.sub) (by omega) (by decide) (by omega) (hvgb.mono SubC.sub) (by omega) w0 e1 hG.up) rfl ?_)
        rintro v103 M103 J103 ⟨hp103, rfl⟩
        dsimp only at hp103 ⊢
        refine mv_ ?_
        refine A2 (A0M rfl) rfl ?_
        refine A2 (A0F rfl) rfl ?_
        refine as_ (as_ (A0 (H6 7 8 9 13 14 15) ?_))
        obtain ⟨z3, hz3⟩ : ∃ z, L6 zp r2 F3 (A1t m j) 0 j (A5p m j) = z := ⟨_, rfl⟩
        rw [hz3] at e3
        have e4 := (B1J (hz3 ▸ (by rw [e3]; decide : z3.2.2.1 ≠ 0))).1
        rw [hz3] at e4
        obtain ⟨z3p, z3r, z3e, z3t⟩ := z3
        dsimp only at e3 e4
        subst e3
        subst e4
        refine A1 (mv_ (mv_ (mv_ ?_)))
        refine A2 (H8 (sz := 6) (a := j) rfl rfl kR rfl hrd (by rw [Y3]; omega)) rfl ?_
        refine A2 (A5E (sz := 6) rfl kR (hrd.mono SubC.sub) (hrw.lens ltT) (by decide) hrb) rfl ?_
        refine A4 rfl (E0 (Mc := M103) (R := _) (aS rfl (aS rfl (a0))) kR PickC.perm (A5m tb pb zp (snd m (k + 1)).2 z3r vkb vgb (A1t m j) (A5p m j) [j % 256] 0 j (z3p, z3r, 8, z3t) _ _ (hp103.mono SubC.sub) (by omega) (by omega) (hvkb.mono SubC.sub) (by omega) (by decide) (by omega) (hvgb.mono SubC.sub) (by omega) w8 hz3 hG.up) rfl ?_)
        rintro v112 M112 J112 ⟨hp112, rfl⟩
        dsimp only at hp112 ⊢
        refine mv_ ?_
        refine A2 (A0M rfl) rfl ?_
        refine A2 (A0F rfl) rfl ?_
        refine as_ (as_ (A0 (Q0 7 8 9 13 14 15 17) ?_))
        obtain ⟨ao2, at2, ar2, ak2, al2, aq2, bo2, bt2, br2, bk2, bl2, bq2, MP2, rfl, h02, h12, hP2⟩ := hp112
        haveI := h12.st.cel
        refine A1 (mv_ ?_)
        refine A2 (E8 true rfl rfl (eqT rfl)) rfl ?_
        refine mv_ ?_
        refine E1 rfl rfl (OpQ.opL qm_ rfl ?_)
        refine E1 rfl rfl (OpQ.opL qm_ rfl ?_)
        refine E1 rfl rfl (OpQ.opL qm_ rfl ?_)
        refine E1 rfl rfl (OpQ.opL (H8 (sz := 6) (a := j) rfl rfl kR rfl hrd (by rw [Y3]; omega)) rfl ?_)
        refine E1 rfl rfl (OpQ.opL (A9T (off := 5) rfl hrd (by rw [Y3]; omega) kR) rfl ?_)
        refine E1 rfl rfl (OpQ.opL (A9U (u := .string (txt [j % 256])) rfl (hrd.mono SubC.sub) (by rw [Y3]; omega) kR (by rw [A1z (hrw.lens ltT) hrb 5 (by decide)]; rfl)) rfl ?_)
        refine E1 rfl rfl (OpQ.opL (A4G rfl rfl rfl) rfl ?_)
        refine A2 (G9 rfl rfl) rfl ?_
        refine mv_ ?_
        refine E1 rfl rfl (OpQ.opL qm_ rfl ?_)
        refine E1 rfl rfl (OpQ.opL (E8 true rfl rfl (eqT rfl)) rfl ?_)
        refine A2 (G9 rfl rfl) rfl ?_
        refine mv_ ?_
        refine E1 rfl rfl (OpQ.opL qm_ rfl ?_)
        refine E1 rfl rfl (OpQ.opL (E7 rfl) rfl ?_)
        refine E1 rfl rfl (OpQ.opL (qf_ 1 1) rfl ?_)
        refine E1 rfl rfl (OpQ.opL (qi_ 10 41 2 9 1) rfl ?_)
        refine E1 rfl rfl (OpQ.opL (qf_ 18 8) rfl ?_)
        refine E1 rfl rfl (OpQ.opL (I1 (v := bq2) rfl kR At.mem (by rfl)) rfl ?_)
        refine A2Z rfl rfl (aS rfl a0) kR ((h12.st.mono SubC.sub).len (by omega)) rfl ?_
        rw [r2l]
        refine E1 rfl rfl (OpQ.opL qm_ rfl ?_)
        refine E1 rfl rfl (OpQ.opL (C8 ((k - 1 : Nat) : Int) rfl rfl (Z9 (by omega) (by omega) (by omega))) rfl ?_)
        refine E1 rfl rfl (OpQ.opL (E8 true rfl rfl (eqT rfl)) rfl ?_)
        refine A2 (G9 rfl rfl) rfl ?_
        refine as_ (A0 (D4 6) (B4 ?_))
        exact ⟨_, [], [], K4 rfl rfl, List.nil_sublist _, by simp, rfl, rfl, rfl⟩

section
variable {H : Type} {enc : TypeId × Value → H} {P : Program} {w : World} {spare : Nat → Bool} {held : Bool} {fuel : Nat} {t e : TypeId} {cs : List Value} {x : DataW H × List MemPlace} {v : Value} {d : DataW H} {p : List MemPlace} {r : Reach} {base : Nat} {k : IntKind}
end
theorem A5o {P : Program} {W : World} {name : String} {g : Nat} {cs : Array Value} (hg : P.globalNamed name = some g) (h : W.var? P name = some cs) : ∃ e fr, W.heap[g]? = some (.cells cs e fr) := by
  unfold World.var? at h
  rw [hg] at h
  simp only [Option.bind_some] at h
  split at h
  · rename_i c e fr hh
    cases h
    exact ⟨e, fr, hh⟩
  · cases h
def B1S (ws : List Nat) : List Int := ws.map fun n : Nat => (n : Int)
theorem A4v (k : IntKind) (ws : List Nat) : ((B1S ws).map fun z => Value.int k z).toArray = (nums k ws).toArray := by simp [B1S, nums]
theorem B7h {W : World} {a b : String × DataW Unit} {rest : List (String × DataW Unit)} (h : laidMet Tryz.prog (a :: b :: ("internal/strconv.uint64pow10", Rows.laid_internal_strconv_uint64pow10) :: rest) W) : ∃ e fr, W.heap[4]? = some (Obj.cells (nums .u64 Z5).toArray e fr) := by
  have h' : laidMet Tryz.prog (("internal/strconv.uint64pow10", Lib.tabData .u64 (B1S Z5)) :: rest) W := h.tail.tail
  have h1 := Lib.tabIs_of_head (g := 4) (t := 222) (e := 94) (n := 20) (by kernel_rfl) (by kernel_rfl) (by kernel_rfl) (by kernel_rfl) (by kernel_rfl) (by kernel_rfl) h'
  obtain ⟨ek, fk, h3⟩ := A5o (g := 4) (by kernel_rfl) h1
  rw [A4v] at h3
  exact ⟨ek, fk, h3⟩
end Go.Proofs.YtlilcmjbaknafaaGreatDoor

namespace Go.Proofs.YtlilcmjbaknafaaGreatDoor
open Go.Px
theorem B8T {W : World} {a b : String × DataW Unit} {rest : List (String × DataW Unit)} (h : laidMet Tryz.prog (a :: b :: ("internal/strconv.uint64pow10", Rows.laid_internal_strconv_uint64pow10) :: ("pawl/sha.round", Rows.laid_pawl_sha_round) :: ("pawl/sha.first", Rows.laid_pawl_sha_first) :: rest) W) : Glb (B2O W) := by
  obtain ⟨e4, f4, h4⟩ := B7h h
  have h' : laidMet Tryz.prog (("pawl/sha.round", Lib.tabData .u32 (B1S A1B)) :: ("pawl/sha.first", Lib.tabData .u32 (B1S A2k.list)) :: rest) W := h.tail.tail.tail
  have h1 := Lib.tabIs_of_head (g := 1) (t := 187) (e := 27) (n := 64) (by kernel_rfl) (by kernel_rfl) (by kernel_rfl) (by kernel_rfl) (by kernel_rfl) (by kernel_rfl) h'
  have h2 := Lib.tabIs_of_head (g := 0) (t := 166) (e := 27) (n := 8) (by kernel_rfl) (by kernel_rfl) (by kernel_rfl) (by kernel_rfl) (by kernel_rfl) (by kernel_rfl) h'.tail
  obtain ⟨ek, fk, h3⟩ := A5o (g := 1) (by kernel_rfl) h1
  obtain ⟨ef, ff, h5⟩ := A5o (g := 0) (by kernel_rfl) h2
  rw [A4v] at h3 h5
  exact ⟨⟨ef, ff, A1M.2 h5⟩, ⟨ek, fk, A1M.2 h3⟩, ⟨e4, f4, A1M.2 h4⟩⟩
end Go.Proofs.YtlilcmjbaknafaaGreatDoor

namespace Go.Proofs.YtlilcmjbaknafaaGreatDoor.ratchetSkips
open Go.ChangeShapes Go.WideShapes Go.ChangeAt Go.RowKit
theorem own : ownKnob Tryz.prog.godebug = none := by kernel_rfl
theorem laidOut : laidOutB Tryz.prog = true := by kernel_rfl
noncomputable def laidWorld (os : Os) : World := World.laidAll Tryz.prog os Rows.ratchetSkipsRow.laid
theorem laid_met (os : Os) : laidMetH Tryz.prog Rows.ratchetSkipsRow.laid ((laidWorld os).forCall (fun _ _ => 0) ⟨#[], #[.int .u8 0, .int .u8 0, .int .u8 0], []⟩).memory := by
  rw [MakeChecks.laidMetH_plain _ _ _ (by kernel_rfl)]; exact laidMet_laidAll _ (by kernel_rfl) (by kernel_rfl)
theorem reads (os : Os) {H : Type} (enc : TypeId × Value → H) : ∃ places, DataW.whole enc Tryz.prog ((laidWorld os).forCall (fun _ _ => 0) ⟨#[], #[.int .u8 0, .int .u8 0, .int .u8 0], []⟩).memory Tryz.f3.params.toList Rows.ratchetSkipsSpec.vars false (#[.int .u8 0, .int .u8 0, .int .u8 0] : Array Value).toList 8 = some ([.lit (.int .u8 0), .lit (.int .u8 0), .lit (.int .u8 0)], [], places) :=
  ⟨[], by kernel_rfl⟩
theorem lifted (os : Os) (started : os.Started) (H : Type) (enc : TypeId × Value → H) (F : Stop.Interp) :
    ReturnsInHanded {} Tryz.checked os 3 .any ((OpenSpec.ofChange Rows.ratchetSkipsSpec).preRow enc Tryz.prog Tryz.f3 Rows.ratchetSkipsRow.domain false Rows.ratchetSkipsRow.laid) (((OpenSpec.ofChange Rows.ratchetSkipsSpec).at F).post enc Tryz.prog Tryz.f3 false true false false) := by
  obtain ⟨places, hx⟩ := reads os enc
  refine returnsInHanded_of_row (C := Tryz.checked) (s := (OpenSpec.ofChange Rows.ratchetSkipsSpec)) own started (by kernel_rfl) Tryz.func3
    (witness_row_at (enc := enc) (C := Tryz.checked) false (laidWorld os) #[.int .u8 0, .int .u8 0, .int .u8 0] (World.laidAll_os _ _ _) (by kernel_rfl) (by kernel_rfl) (by kernel_rfl)
      (OpenSpec.preRow_of_cond 8 hx (by kernel_rfl) (fun k hk => by cases hk) (by kernel_rfl) (laid_met os))) ?_
  intro W base args ds gs before hval0 hW _ _ _ hL _ _
  have hval : ∀ (j : Nat) t v, Tryz.f3.params[j]? = some t → args[j]? = some v → Value.okWide Tryz.prog W .any base t v := hval0
  have hW' := hW
  obtain ⟨p, q, hA0, hV, rfl, hfz, hnd⟩ := hW
  have hA : DataW.TrodAll enc Tryz.prog W 0 (fun _ => true) true Tryz.f3.params.toList args.toList ds p := hA0
  rw [Tryz.params3] at hA hval
  obtain ⟨v0, vs0, d0, ds0, p0, q0, hargs, rfl, rfl, k0, r0_⟩ := trodAll_cons hA
  obtain ⟨v1, vs1, d1, ds1, p1, q1, rfl, rfl, rfl, k1, r1_⟩ := trodAll_cons r0_
  obtain ⟨v2, vs2, d2, ds2, p2, q2, rfl, rfl, rfl, k2, r2_⟩ := trodAll_cons r1_
  obtain ⟨rfl, rfl, rfl⟩ := trodAll_nil r2_
  obtain rfl : args = #[v0, v1, v2] := by cases args; simp_all
  obtain ⟨rfl, rfl⟩ := trodVars_none hV
  have lt0 : ∀ x ∈ p0, x.block < W.heap.size := by obtain ⟨m, hm⟩ := k0; exact DataW.trod_lt m _ _ _ hm
  have lt1 : ∀ x ∈ p1, x.block < W.heap.size := by obtain ⟨m, hm⟩ := k1; exact DataW.trod_lt m _ _ _ hm
  have lt2 : ∀ x ∈ p2, x.block < W.heap.size := by obtain ⟨m, hm⟩ := k2; exact DataW.trod_lt m _ _ _ hm
  obtain ⟨x0, rfl, hx0⟩ := Px.inU Tryz.underlying5 rfl (hval 0 5 v0 rfl rfl) k0
  obtain ⟨x1, rfl, hx1⟩ := Px.inU Tryz.underlying5 rfl (hval 1 5 v1 rfl rfl) k1
  obtain ⟨x2, rfl, hx2⟩ := Px.inU Tryz.underlying5 rfl (hval 2 5 v2 rfl rfl) k2
  clear hA0 hval0
  rw [MakeChecks.laidMetH_plain _ _ _ (by kernel_rfl)] at hL
  have hG := B8T hL
  refine Calls.mono ((A3Z x0 x1 x2 _ hx0 hx1 hx2 hG).calls (Px.heapA_fx W)) fun e W' ⟨he, bel⟩ => ?_
  subst he
  exact ⟨_, rfl, _, _, _, [], _, [], hW', trodAll_mk1 (shut_bool Tryz.underlying4 _), (trodAll_cons_mk (Below.trod laidOut (by kernel_rfl) (of_decide_eq_true (by kernel_rfl)) k0 bel lt0) (trodAll_cons_mk (Below.trod laidOut (by kernel_rfl) (of_decide_eq_true (by kernel_rfl)) k1 bel lt1) (trodAll_cons_mk (Below.trod laidOut (by kernel_rfl) (of_decide_eq_true (by kernel_rfl)) k2 bel lt2) trodAll_mk0))), rfl, bel.frame _, fun h => by cases h⟩
theorem said : Rows.RatchetSkipsSaid :=
  OpenClaim.holds_of_cond 3 Tryz.f3 rfl rfl rfl rfl rfl rfl rfl ⟨rfl, rfl, rfl, rfl, rfl⟩ rfl rfl rfl rfl rfl (by kernel_rfl) Tryz.func3 (by kernel_rfl)
    (of_decide_eq_true (by kernel_rfl)) (by unfold Func.isWrapper; first | (rw [if_pos (by decide +kernel)]; kernel_rfl) | (rw [if_neg (by decide +kernel)]; exact ⟨rfl, rfl⟩))
    (fun os started H enc _ F => by rw [OpenClaim.pre_eq_preRow]; exact lifted os started H enc F)
theorem plain (f : FuncId) (fn : Func) (hf : Tryz.pinned.checked.prog.funcNamed "pawl/pawllaw11.RatchetSkips" = some f) (hfn : Tryz.pinned.checked.prog.funcs[f]? = some fn) :
    true = Tryz.pinned.checked.prog.looks [] ∧ ∀ (j : Nat) t, fn.params[j]? = some t → Tryz.pinned.checked.prog.wantsStandIn t = false := by
  obtain rfl : f = 3 := Option.some.inj ((show Tryz.prog.funcNamed "pawl/pawllaw11.RatchetSkips" = some 3 by kernel_rfl).symm.trans hf) |>.symm
  obtain rfl : fn = Tryz.f3 := (Option.some.inj (Tryz.func3.symm.trans hfn)).symm
  refine ⟨by kernel_rfl, fun j t ht => ?_⟩
  rw [Tryz.params3] at ht
  have hm := Array.mem_of_getElem? ht
  simp only [List.mem_toArray, List.mem_cons, List.not_mem_nil, or_false] at hm
  rcases hm with rfl | rfl | rfl
  · exact (show Tryz.prog.wantsStandIn 5 = false by kernel_rfl)
  · exact (show Tryz.prog.wantsStandIn 5 = false by kernel_rfl)
  · exact (show Tryz.prog.wantsStandIn 5 = false by kernel_rfl)
theorem proved : Rows.RatchetSkipsCardSaid :=
  Claim7.holds_tied_plain_at .later [] _ _ _ _ said (fun _ h => by cases h) (by kernel_rfl) (fun _ h => by cases h) ratchetSkips_row_tie rfl ⟨rfl, rfl⟩ (by kernel_rfl) rfl plain (by kernel_rfl)
#print axioms proved
end Go.Proofs.YtlilcmjbaknafaaGreatDoor.ratchetSkips

