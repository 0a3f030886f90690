/- The card of the law AgreeGone: it returns true for every input; each argument reads behind the call as it read before; the listed package variables are tied to the program's text. No further condition. -/
import Derived.Test.YthbhpfefdnffaaaGreatDoorB19
import Derived.Lib.LaidTab
import Derived.Stop.LaidErr
import Derived.MakeChecks
import Derived.Test.YthbhpfefdnffaaaGreatDoorCards
import Derived.Test.YthbhpfefdnffaaaGreatDoorTie
import Derived.Deep.DeepHandedRow
import Derived.Deep.DeepWitnessRowRef
import Derived.Lay
import Derived.LaidMore
set_option linter.unusedVariables false
set_option linter.unusedSimpArgs false
set_option maxRecDepth 100000
namespace Go.Proofs.YthbhpfefdnffaaaGreatDoor
open Go.Px
structure GnI (s0 : Ps) (x : Pr) (bk : Ks) (i : Nat) (k : Ks) (s : Ps) : Prop where
  bi : BuI k s
  once : k.once = bk.once
  agree : k.agree = bk.agree
  sg : (i = 0 ∧ k.signed = [x]) ∨ (i = 1 ∧ ∃ t, k.signed = [t, x] ∧ t.n = 6) ∨ (2 ≤ i ∧ ∀ p ∈ k.signed, p.n ≠ 1)
  nx : k.next = 6 + i
  ts : s.ts.length ≤ 100 + 5 * i
  n : s.n ≤ 30 + i
  ext : Pext s0 s
theorem GnI.turn {s0 : Ps} {x : Pr} {bk : Ks} {i : Nat} {k : Ks} {s : Ps} (h : GnI s0 x bk i k s) (hi : i < 1000) : GnI s0 x bk (i + 1) (Z5 k s).1 (Z5 k s).2 := by
  have hp := A2V k s
  have a := h.nx
  have b := h.ts
  have c := h.n
  have e : (Z5 k s).1.signed = (turnP k s :: k.signed).take 2 := rfl
  have e2 : (turnP k s).n = k.next := rfl
  refine ⟨h.bi.turn (by omega) (by omega), h.once, h.agree, ?_, by rw [A4s]; omega, by omega, by omega, h.ext.trans (A7B k s).p⟩
  rcases h.sg with ⟨rfl, h1⟩ | ⟨rfl, t, h1, h2⟩ | ⟨h0, h1⟩
  · exact .inr (.inl ⟨rfl, turnP k s, by rw [e, h1]; rfl, by omega⟩)
  · refine .inr (.inr ⟨by omega, fun p hp => ?_⟩)
    rw [e, h1] at hp
    simp at hp
    rcases hp with rfl | rfl <;> omega
  · refine .inr (.inr ⟨by omega, fun p hp => ?_⟩)
    rw [e] at hp
    rcases List.mem_cons.1 (List.mem_of_mem_take hp) with rfl | hp
    · omega
    · exact h1 p hp
theorem B4n {l : List Pr} {n : Nat} (h : ∀ p ∈ l, p.n ≠ n) : A0S l n = none := by
  rw [← Option.not_isSome_iff_eq_none, A5o]
  simp only [decide_eq_true_eq]
  intro hm
  obtain ⟨p, hp, e⟩ := List.mem_map.1 hm
  exact h p hp e
theorem B4o {t x : Pr} (h : t.n ≠ x.n) : A0S [t, x] x.n = some x.sec := by
  have e : A1b (Z4 x.n) [t, x] = ((1 : Nat) : Int) := by
    rcases U5 (Z4 x.n) [t, x] with ⟨h1, h2⟩ | ⟨i, z, h1, h2, h3, h4⟩
    · have := h2 x (by simp); simp [Z4] at this
    · match i, h1, h2 with
      | 0, h1, h2 => cases h2; exact absurd (by simpa [Z4] using h3) h
      | 1, h1, h2 => exact h1
      | i + 2, h1, h2 => simp at h2
  exact Y9 e rfl
theorem GnI.get {s0 : Ps} {x : Pr} {bk : Ks} {i : Nat} {k : Ks} {s : Ps} (h : GnI s0 x bk i k s) (hx : x.n = 1) : (i < 2 → A0S k.signed 1 = some x.sec) ∧ (¬ i < 2 → A0S k.signed 1 = none) := by
  rcases h.sg with ⟨rfl, h1⟩ | ⟨rfl, t, h1, h2⟩ | ⟨h0, h1⟩
  · exact ⟨fun _ => by rw [h1, ← hx]; exact A3M, fun h => absurd (by decide) h⟩
  · exact ⟨fun _ => by rw [h1, ← hx]; exact B4o (by omega), fun h => absurd (by decide) h⟩
  · exact ⟨fun h => absurd h (by omega), fun _ => B4n h1⟩
theorem A7G (m p0 n q : Nat) (A : Mem) (hm : m < 256) (hp : p0 < 256) (hn_ : n < 256) (hq : q < 256) (hG : Glb A) : FnV Tryz.prog 7 [.int .u8 ((m : Nat) : Int), .int .u8 ((p0 : Nat) : Int), .int .u8 ((n : Nat) : Int), .int .u8 ((q : Nat) : Int)] A (.bool true) := by
 refine FnX.enter (N := 162) Tryz.func7 rfl rfl rfl fun w_ => ?_
 refine C4 (E4 0 1 2 3) (A3 (as_ (A0 (E4 0 1 2 3) (A5 (A3 ?_)))))
 refine G1 a0 kR (B2d _ hG.up) rfl ?_
 refine A4 (W4 rfl) rfl ?_
 refine A0 (F7 0 1 2 3 27) ?_
 refine D3 rfl ?_
 refine A8 (nx (E4 0 1 2 3) (A3 (mv_ ?_)))
 refine D0 (aS rfl a0) kR (A8O m _ hm hG.up) rfl ?_
 rintro v29 M29 J29 ⟨tb, pb, ka, kb, MA, MB, MP, rfl, rfl, hKa, hKb, hP⟩
 have hF := A8M (m)
 generalize (oA (m)).1 = ak at *
 generalize (oB (m)).1 = bk at *
 generalize (oB (m)).2 = s at *
 obtain ⟨x, hsg, hxn, hxl⟩ := hF.sg
 have hol := B5u bk
 rw [hF.on] at hol
 change 4 = _ at hol
 have hts := hF.ts
 have hsn := hF.n
 have hrise : B1C bk.once := A7A (by rw [show bk.once.map (·.n) = onN bk from rfl, hF.on]; decide)
 refine as_ (A0 (E4 1 2 3 9) ?_)
 refine A1M (B := [(tb, blk [.pointer (some ⟨pb, 0, none⟩), .pointer (some ⟨ka, 0, none⟩), .pointer (some ⟨kb, 0, none⟩)] 37)]) PickC.perm ?_
 refine A1M (B := MA) PickC.perm ?_
 obtain ⟨va, vg, vq, vo, vm, rs, ro, rm, hra⟩ := hKa.r
 obtain ⟨ua, ug, uq, uo, um, ss, so, sm, hrb⟩ := hKb.r
 have hla := (hra _ (fun _ h => List.mem_append_left MA h) (fun _ h => List.mem_append_right _ h)).lt
 have hlb := (hrb _ (fun _ h => List.mem_append_left MB h) (fun _ h => List.mem_append_right _ h)).lt
 obtain ⟨hbl, -, -, hbt⟩ := A2m (s := s) hsg
 rw [← hol] at hbl
 obtain ⟨y, xo, hy, -, -, y3, y4, y5, y6, y7, y8, y9, y10⟩ := B2c (s := s) hsg (j := p0 % 5) (by rw [← hol]; exact Nat.mod_lt _ (by decide))
 obtain ⟨hb1, hb2, -⟩ := hF.bb.bundles hsg (by omega) (by omega)
 have hbn : (K9 bk s).2.n = s.n := B5x
 have ha2 := hF.ba.ext hb2 hb1.tok hb1.ar
 obtain ⟨hck, hag, hbi, hex, -, hpx⟩ := A8N hF.bb hsg (by omega) (by omega) (Pext.refl _) ha2 hla hlb (by omega) (by omega) y3 y4 y5 y6 y7 y8 y9
 have hst := A5r ak y (K9 bk s).2
 have hans := hag.ans (kb := bk) hbi.tok (by omega) (by rw [hsg]; show A0S [x] (stH ak y (K9 bk s).2).signed = _; rw [show (stH ak y (K9 bk s).2).signed = x.n from y5]; exact A3M) y8 (fun hh => by
  change y.has = true at hh
  rw [y8] at hh
  obtain ⟨o, rfl⟩ := Option.isSome_iff_exists.1 hh
  obtain ⟨q, q0, q1, q2, q3, -⟩ := y9 o rfl
  rw [show (stH ak y (K9 bk s).2).once = y.once from if_pos (y8.trans rfl), q3, q2]
  exact A7C hrise q1)
 have hKl := (A6I (stI ak y (K9 bk s).2) (stL ak.agree y (K9 bk s).2)).2
 change (stK ak y (K9 bk s).2).length = 32 at hKl
 have h2k := hex.n
 refine I2 (MB ++ MP) (_) true (.range 15) [(0, 0), (1, 0), (2, 0), (3, 1), (4, 0), (5, 0), (6, 0), (7, 1), (9, 0), (10, 0), (11, 0), (8, 3), (12, 3), (13, 3), (14, 4), (15, 2)] kR kR PickC.perm fun hs K n0 hKm hKs hKn => ?_
 refine km_ hs ?_
 refine K6 hs rfl (F5 rfl) rfl ?_
 refine K6 hs rfl (qf_ 2 2) rfl ?_
 refine Q5 hs rfl hKs ql_ ?_
 refine km_ hs ?_
 refine K6 hs rfl (F5 rfl) rfl ?_
 refine K6 hs rfl (qf_ 0 0) rfl ?_
 refine Q5 hs rfl hKs ql_ ?_
 refine km_ hs ?_
 refine K6 hs rfl (A1c (k' := .i64) rfl kR (by show _ < 9223372036854775808; omega)) rfl ?_
 refine K6 hs rfl (A0P (a := p0) (b := 5) rfl rfl rfl rfl (by decide)) rfl ?_
 refine A1Z [⟨8, 38, none, MB ++ MP, fun v B R => ∃ MP2, B = MB ++ MP2 ∧ Prm pb (K9 bk s).2 MP2 ∧ ∃ rows, Rd R 10 v (K9 bk s).1.length rows.flatten ∧ RwL bnR R rows (K9 bk s).1⟩, ⟨12, 42, none, [], fun v B R => B = [] ∧ ∃ u rows, v = vAt 10 (p0 % 5) u ∧ Rd R 10 u (K9 bk s).1.length rows.flatten ∧ RwL bnR R rows (K9 bk s).1⟩, ⟨13, 43, none, [], fun v B R => B = [] ∧ ∃ r, v = .agg r.toArray ∧ bnR R y r⟩, ⟨14, 10, none, [], fun v B _ => ∃ b, v = .pointer (some ⟨b, 0, none⟩) ∧ B = [(b, blk [.int .i64 0, .int .i64 0, .slice none 0 0, .slice none 0 0, .int .u32 0, .slice none 0 0, .slice none 0 0, .bool false, .int .u32 0, .slice none 0 0] 32)]⟩] (_) (fun bs => [bs 8, bs 12, bs 13, bs 14]) (hKn rfl) (List.Perm.refl _) (show ∀ m ∈ ([MB ++ MP, [], [], []] : List Mem), ∀ x ∈ m, K x.1 from C1 (hKm) (C1 (fun _ h => by cases h) (C1 (fun _ h => by cases h) (C1 (fun _ h => by cases h) (K7))))) kR (fun _ => by first | rfl | kernel_rfl)
  (C1 (fun _ _ _ _ h hp => by obtain ⟨MP2, e, p1, rows, p2, p3⟩ := hp; exact ⟨MP2, e, p1, rows, p2.mono h, p3.mono bnT h⟩) (C1 (fun _ _ _ _ h hp => by obtain ⟨e, u, rows, e2, p2, p3⟩ := hp; exact ⟨e, u, rows, e2, p2.mono h, p3.mono bnT h⟩) (C1 (fun _ _ _ _ h hp => by obtain ⟨e, r, e2, p2⟩ := hp; exact ⟨e, r, e2, bnT.mono _ _ _ _ h p2⟩) (C1 (fun _ _ _ _ _ h => h) (K7))))) (show List.Nodup [38, 42, 43, 10] by decide) (show List.Nodup [8, 12, 13, 14] by decide) (C1 (C8 rfl) (C1 (C8 rfl) (C1 (C8 rfl) (C1 (C8 rfl) (K7)))))
  (C1 ⟨_, rfl, fun vs bs R Rj wG hb hj hjr ha => ⟨.inl rfl, ?_⟩⟩ (C1 ⟨_, rfl, fun vs bs R Rj wG hb hj hjr ha => ⟨.inl rfl, ?_⟩⟩ (C1 ⟨_, rfl, fun vs bs R Rj wG hb hj hjr ha => ⟨.inl rfl, ?_⟩⟩ (C1 ⟨_, rfl, fun vs bs R Rj wG hb hj hjr ha => ⟨.inl rfl, ?_⟩⟩ (K7))))) ?_
 ·
  dsimp only [Gc.inp]
  refine D9 (Mc := MB ++ MP) (R := []) (aS rfl (aS rfl (a0))) kR (by simp) (FnX.amb (A := Rj) (fun x hx => by have := hjr x hx; simp [this]) (B2e pb kb s bk x [] MB MP Rj (hKb.mono (fun x hx => hj x (SubC.sub x hx))) hsg hP (by omega) (by omega) (hG.sub (fun x hx => hj x (SubC.sub x hx))))) rfl ?_
  rintro v25 M25 J25 ⟨MP2, rfl, hP2, rows, k1, k2⟩
  exact ⟨_, rfl, MP2, by simp, hP2, rows, k1.mono SubC.sub, k2.mono bnT SubC.sub⟩
 ·
  dsimp only [Gc.inp]
  have g8 := ha _ (List.mem_of_getElem? (i := 0) rfl) kR
  replace g8 : (fun v B R => ∃ MP2, B = MB ++ MP2 ∧ Prm pb (K9 bk s).2 MP2 ∧ ∃ rows, Rd R 10 v (K9 bk s).1.length rows.flatten ∧ RwL bnR R rows (K9 bk s).1) (vs 8) (bs 8) Rj := g8
  dsimp only at g8
  obtain ⟨-, -, -, rows, k1, k2⟩ := g8
  exact OpQ.opL (I4 (sz := 10) (a := p0 % 5) rfl rfl kR rfl k1 (by rw [hbl]; exact Nat.mod_lt _ (by decide))) rfl ⟨_, rfl, rfl, _, rows, rfl, k1, k2⟩
 ·
  dsimp only [Gc.inp]
  have g12 := ha _ (List.mem_of_getElem? (i := 1) rfl) kR
  replace g12 : (fun v B R => B = [] ∧ ∃ u rows, v = vAt 10 (p0 % 5) u ∧ Rd R 10 u (K9 bk s).1.length rows.flatten ∧ RwL bnR R rows (K9 bk s).1) (vs 12) (bs 12) Rj := g12
  dsimp only at g12
  obtain ⟨-, u, rows, e, k1, k2⟩ := g12
  obtain ⟨r, hr, hbn_⟩ := k2.get (p0 % 5) y hy
  exact OpQ.opL (A0c (rows := rows) (by rw [← e]; rfl) kR (k1.mono (fun x hx => by have := hjr x hx; simp [this])) (k2.lens bnT) (by decide) hr) rfl ⟨_, rfl, rfl, r, rfl, hbn_⟩
 ·
  dsimp only [Gc.inp]
  exact C5 (cs := [A2E, A2E, .slice none 0 0, .slice none 0 0, G6, .slice none 0 0, .slice none 0 0, .bool false, G6, .slice none 0 0]) kR rfl fun b => ⟨_, rfl, b, rfl, rfl⟩
 intro vs bs Jn0 hφ hKK
 have kk8 := hKK _ (List.mem_of_getElem? (i := 0) rfl)
 dsimp only at kk8
 have kk12 := hKK _ (List.mem_of_getElem? (i := 1) rfl)
 dsimp only at kk12
 have kk13 := hKK _ (List.mem_of_getElem? (i := 2) rfl)
 dsimp only at kk13
 have kk14 := hKK _ (List.mem_of_getElem? (i := 3) rfl)
 dsimp only at kk14
 clear hKK
 have g8 := ofH hφ
 dsimp only at g8
 replace hφ := ofT hφ
 have g12 := ofH hφ
 dsimp only at g12
 replace hφ := ofT hφ
 have g13 := ofH hφ
 dsimp only at g13
 replace hφ := ofT hφ
 have g14 := ofH hφ
 dsimp only at g14
 clear hφ
 dsimp only [U2, A1w, List.foldr, List.map, List.cons_append, List.nil_append]
 generalize bs 8 = B38 at *
 generalize bs 12 = B42 at *
 generalize bs 13 = B43 at *
 generalize bs 14 = B10 at *
 generalize vs 8 = u38 at *
 generalize vs 12 = u42 at *
 generalize vs 13 = u43 at *
 generalize vs 14 = u10 at *
 obtain ⟨MP2, rfl, hP27, -⟩ := g8
 obtain ⟨rfl, -⟩ := g12
 obtain ⟨rfl, r0, rfl, w1, w2, w3, w4, w5, rfl, gw1, gw2, gw3, gw4, gw5, gws, gwo⟩ := g13
 obtain ⟨b10, rfl, rfl⟩ := g14
 haveI := gw1.cel
 haveI := gw2.cel
 haveI := gw3.cel
 haveI := gw4.cel
 haveI := gw5.cel
 refine XK.tl rfl rfl rfl (A9 (vs := [.int .i64 y.user, .int .i64 y.dev, w1, w2, .int .u32 ((y.signed : Nat) : Int), w3, w4, .bool y.has, .int .u32 ((y.once : Nat) : Int), w5]) rfl rfl rfl kR (by rfl) (C1 rfl (C1 rfl (C1 gw1.one (C1 gw2.one (C1 rfl (C1 gw3.one (C1 gw4.one (C1 rfl (C1 rfl (C1 gw5.one K7)))))))))) UpC.upd ?_)
 refine P7 (E4 2 3 9 10) ?_
 refine I2 (MP2) (_) true [0, 1, 2, 3, 4, 5, 6, 7, 8, 9, 10, 11, 12, 13, 14, 15, 17] [(0, 0), (1, 0), (2, 0), (3, 1), (4, 0), (5, 0), (6, 0), (7, 1), (8, 1), (9, 8), (10, 8), (11, 8), (14, 8), (12, 9), (13, 10), (15, 0), (16, 2), (17, 0)] kR kR PickC.perm fun hs K n0 hKm hKs hKn => ?_
 refine km_ hs ?_
 refine K6 hs rfl (F5 rfl) rfl ?_
 refine K6 hs rfl (qf_ 0 0) rfl ?_
 refine Q5 hs rfl hKs ql_ ?_
 refine km_ hs ?_
 refine K6 hs rfl (F5 rfl) rfl ?_
 refine K6 hs rfl (qf_ 1 1) rfl ?_
 refine Q5 hs rfl hKs ql_ ?_
 refine Q5 hs rfl hKs (qw_ 10) ?_
 refine A6J [⟨9, 54, none, MP2, fun v B R => Prm pb (stS ak y (K9 bk s).2) B ∧ StV R v (stK ak y (K9 bk s).2) (stH ak y (K9 bk s).2)⟩, ⟨10, 44, none, [], fun v B R => B = [] ∧ StV R v (stK ak y (K9 bk s).2) (stH ak y (K9 bk s).2)⟩, ⟨11, 55, none, [], fun v B R => B = [] ∧ By R v (stK ak y (K9 bk s).2)⟩, ⟨14, 12, none, [], fun v B _ => ∃ b, v = .pointer (some ⟨b, 0, none⟩) ∧ B = [(b, blk [.slice none 0 0, .slice none 0 0, .slice none 0 0, .int .u32 0, .bool false, .int .u32 0] 43)]⟩] [⟨12, 56, none, [], fun v B R => B = [] ∧ ∃ p r u, v = .agg (heC p r u (stH ak y (K9 bk s).2)).toArray ∧ HeR R (stH ak y (K9 bk s).2) p r u⟩, ⟨13, 57, none, [], fun v B R => B = [] ∧ v = .int .i64 0⟩] (MB ++ [(b10, blk [.int .i64 y.user, .int .i64 y.dev, w1, w2, .int .u32 ((y.signed : Nat) : Int), w3, w4, .bool y.has, .int .u32 ((y.once : Nat) : Int), w5] 32)]) (fun bs => [bs 9, bs 10, bs 11, bs 14, bs 12, bs 13]) (hKn rfl) (by simp [A1w, A2l]) (show ∀ m ∈ ([MP2, [], [], [], [], []] : List Mem), ∀ x ∈ m, K x.1 from C1 (hKm) (C1 (fun _ h => by cases h) (C1 (fun _ h => by cases h) (C1 (fun _ h => by cases h) (C1 (fun _ h => by cases h) (C1 (fun _ h => by cases h) (K7))))))) kR (fun _ => by first | rfl | kernel_rfl)
  (C1 (fun _ _ _ _ h ⟨p1, p2⟩ => ⟨p1, p2.mono h⟩) (C1 (fun _ _ _ _ h ⟨p1, p2⟩ => ⟨p1, p2.mono h⟩) (C1 (fun _ _ _ _ h ⟨p1, p2⟩ => ⟨p1, p2.mono h⟩) (C1 (fun _ _ _ _ _ h => h) (C1 (fun _ _ _ _ h ⟨p1, p, r, u, e, p2⟩ => ⟨p1, p, r, u, e, p2.mono h⟩) (C1 (fun _ _ _ _ _ h => h) (K7))))))) (show List.Nodup [54, 44, 55, 12, 56, 57] by decide) (show List.Nodup [9, 10, 11, 14, 12, 13] by decide) (C1 (C8 rfl) (C1 (C8 rfl) (C1 (C8 rfl) (C1 (C8 rfl) (C1 (C8 rfl) (C1 (C8 rfl) (K7)))))))
  hs (List.cons_ne_nil _ _) (C1 ⟨_, rfl, fun vs bs R Rj wG hb hj hjr ha => ⟨.inl rfl, ?_⟩⟩ (C1 ⟨_, rfl, fun vs bs R Rj wG hb hj hjr ha => ⟨.inl rfl, ?_⟩⟩ (C1 ⟨_, rfl, fun vs bs R Rj wG hb hj hjr ha => ⟨.inl rfl, ?_⟩⟩ (C1 ⟨_, rfl, fun vs bs R Rj wG hb hj hjr ha => ⟨.inl rfl, ?_⟩⟩ (K7))))) (C1 ⟨rfl, rfl, _, _, _, _, rfl, fun vs bs Rj hj ha => ?_⟩ (C1 ⟨rfl, rfl, _, _, _, _, rfl, fun vs bs Rj hj ha => ?_⟩ (K7))) ?_
 ·
  dsimp only [Gc.inp]
  refine D9 (Mc := MP2) (R := []) (aS rfl (aS rfl (aS rfl (a0)))) kR (by simp) (FnX.amb (A := Rj) (fun x hx => by have := hjr x hx; simp [this]) (B1Y pb (K9 bk s).2 ka ak va vg vq vo vm rs ro rm y w1 w2 w3 w4 w5 MP2 Rj (hra _ (fun x hx => hj x (SubC.sub x hx)) (fun x hx => hj x (SubC.sub x hx))) hP27 hb1.ar (by omega) (by omega) (gw1.mono (fun x hx => hj x (SubC.sub x hx))) (gw2.mono (fun x hx => hj x (SubC.sub x hx))) (gw3.mono (fun x hx => hj x (SubC.sub x hx))) (gw4.mono (fun x hx => hj x (SubC.sub x hx))) (gw5.mono (fun x hx => hj x (SubC.sub x hx))) gws gwo (hG.sub (fun x hx => hj x (SubC.sub x hx))))) rfl ?_
  rintro v25 M25 J25 ⟨hh, -⟩
  obtain ⟨x, p, r, u, rfl, hP25, h25, hH25⟩ := hh hck
  exact ⟨_, rfl, by simpa using hP25, x, p, r, u, rfl, h25.mono fun x hx => by simp [hx], hH25.mono fun x hx => by simp [hx]⟩
 ·
  dsimp only [Gc.inp]
  have g9 := ha _ (List.mem_of_getElem? (i := 0) rfl) kR
  replace g9 : (fun v B R => Prm pb (stS ak y (K9 bk s).2) B ∧ StV R v (stK ak y (K9 bk s).2) (stH ak y (K9 bk s).2)) (vs 9) (bs 9) Rj := g9
  dsimp only at g9
  obtain ⟨-, k⟩ := g9
  exact OpQ.opL qm_ rfl ⟨_, rfl, rfl, k⟩
 ·
  dsimp only [Gc.inp]
  have g10 := ha _ (List.mem_of_getElem? (i := 1) rfl) kR
  replace g10 : (fun v B R => B = [] ∧ StV R v (stK ak y (K9 bk s).2) (stH ak y (K9 bk s).2)) (vs 10) (bs 10) Rj := g10
  dsimp only at g10
  obtain ⟨-, x, p, r, u, e, k1, k2⟩ := g10
  exact OpQ.opL (L9 (vs := #[x, .agg (heC p r u (stH ak y (K9 bk s).2)).toArray, .int .i64 0]) (by rw [← e]; rfl) rfl) rfl ⟨_, rfl, rfl, k1⟩
 ·
  dsimp only [Gc.inp]
  exact C5 (cs := [.slice none 0 0, .slice none 0 0, .slice none 0 0, .int .u32 0, .bool false, .int .u32 0]) kR rfl fun b => ⟨_, rfl, b, rfl, rfl⟩
 ·
  have g10 := ha _ (List.mem_of_getElem? (i := 1) rfl) kR
  replace g10 : (fun v B R => B = [] ∧ StV R v (stK ak y (K9 bk s).2) (stH ak y (K9 bk s).2)) (vs 10) (bs 10) Rj := g10
  dsimp only at g10
  obtain ⟨-, x, p, r, u, e, k1, k2⟩ := g10
  exact ⟨_, L9 (vs := #[x, .agg (heC p r u (stH ak y (K9 bk s).2)).toArray, .int .i64 0]) (by rw [← e]; rfl) rfl, rfl, p, r, u, rfl, k2⟩
 ·
  have g10 := ha _ (List.mem_of_getElem? (i := 1) rfl) kR
  replace g10 : (fun v B R => B = [] ∧ StV R v (stK ak y (K9 bk s).2) (stH ak y (K9 bk s).2)) (vs 10) (bs 10) Rj := g10
  dsimp only at g10
  obtain ⟨-, x, p, r, u, e, k1, k2⟩ := g10
  exact ⟨_, L9 (vs := #[x, .agg (heC p r u (stH ak y (K9 bk s).2)).toArray, .int .i64 0]) (by rw [← e]; rfl) rfl, rfl, rfl⟩
 intro vs bs Jn0 hφ hKK
 have kk9 := hKK _ (List.mem_of_getElem? (i := 0) rfl)
 dsimp only at kk9
 have kk10 := hKK _ (List.mem_of_getElem? (i := 1) rfl)
 dsimp only at kk10
 have kk11 := hKK _ (List.mem_of_getElem? (i := 2) rfl)
 dsimp only at kk11
 have kk14 := hKK _ (List.mem_of_getElem? (i := 3) rfl)
 dsimp only at kk14
 have kk12 := hKK _ (List.mem_of_getElem? (i := 4) rfl)
 dsimp only at kk12
 have kk13 := hKK _ (List.mem_of_getElem? (i := 5) rfl)
 dsimp only at kk13
 clear hKK
 have g9 := ofH hφ
 dsimp only at g9
 replace hφ := ofT hφ
 have g10 := ofH hφ
 dsimp only at g10
 replace hφ := ofT hφ
 have g11 := ofH hφ
 dsimp only at g11
 replace hφ := ofT hφ
 have g14 := ofH hφ
 dsimp only at g14
 replace hφ := ofT hφ
 have g12 := ofH hφ
 dsimp only at g12
 replace hφ := ofT hφ
 have g13 := ofH hφ
 dsimp only at g13
 clear hφ
 dsimp only [U2, A1w, List.foldr, List.map, List.cons_append, List.nil_append]
 generalize bs 9 = B54 at *
 generalize bs 10 = B44 at *
 generalize bs 11 = B55 at *
 generalize bs 14 = B12 at *
 generalize bs 12 = B56 at *
 generalize bs 13 = B57 at *
 generalize vs 9 = u54 at *
 generalize vs 10 = u44 at *
 generalize vs 11 = u55 at *
 generalize vs 14 = u12 at *
 generalize vs 12 = u56 at *
 generalize vs 13 = u57 at *
 obtain ⟨hP43, -⟩ := g9
 obtain ⟨rfl, -⟩ := g10
 obtain ⟨rfl, hK43⟩ := g11
 obtain ⟨rfl, p, r, u, rfl, hHe⟩ := g12
 obtain ⟨rfl, rfl⟩ := g13
 obtain ⟨b12, rfl, rfl⟩ := g14
 haveI := hK43.cel
 haveI := hHe.ia.cel
 haveI := hHe.ig.cel
 haveI := hHe.key.cel
 obtain ⟨H, hH⟩ : ∃ z, stH ak y (K9 bk s).2 = z := ⟨_, rfl⟩
 obtain ⟨K, hK⟩ : ∃ z, stK ak y (K9 bk s).2 = z := ⟨_, rfl⟩
 obtain ⟨s3, hs3⟩ : ∃ z, stS ak y (K9 bk s).2 = z := ⟨_, rfl⟩
 rw [hH] at hHe hag hans
 rw [hK] at hK43 hag hans hKl
 rw [hs3] at hP43 hag hbi hex hst hans
 rw [hH]
 dsimp only [heC]
 change He at H
 have hyH : H.signed = 1 := by rw [← hH]; exact y5.trans hxn
 have hyo : H.has = y.has := by rw [← hH]; rfl
 have hyo2 : H.has = true → H.once = y.once := fun hh => by rw [hyo] at hh; rw [← hH]; exact if_pos hh
 refine K6 hs rfl (I6 rfl) rfl ?_
 refine XK.tl rfl rfl rfl (A9 (vs := [p, r, u, .int .u32 ((H.signed : Nat) : Int), .bool H.has, .int .u32 ((H.once : Nat) : Int)]) rfl rfl rfl kR (by rfl) (C1 hHe.ia.one (C1 hHe.ig.one (C1 hHe.key.one al3))) UpC.upd ?_)
 refine K6 hs rfl (I6 rfl) rfl ?_
 refine P7 (F7 2 3 9 10 12) (A5 (A3 (as_ (A0 (I1 2 3 9 10 12 14) (C0 ?_)))))
 refine F1 (α := Nat × Mem) (fun z => [(2, .int .u8 ((n : Nat) : Int)), (3, .int .u8 ((q : Nat) : Int)), (9, .pointer (some ⟨tb, 0, none⟩)), (10, .pointer (some ⟨b10, 0, none⟩)), (12, .pointer (some ⟨b12, 0, none⟩)), (14, .int .i64 ((z.1 : Nat) : Int))]) (fun z => z.2 ++ ((b12, blk [p, r, u, .int .u32 ((H.signed : Nat) : Int), .bool H.has, .int .u32 ((H.once : Nat) : Int)] 43) :: (b10, blk [.int .i64 y.user, .int .i64 y.dev, w1, w2, .int .u32 ((y.signed : Nat) : Int), w3, w4, .bool y.has, .int .u32 ((y.once : Nat) : Int), w5] 32) :: MB)) (fun _ => _) (fun z => z.1 ≤ q % 3 ∧ Prm pb s3 z.2) (fun z => q % 3 - z.1) (0, B54) ⟨Nat.zero_le _, hP43⟩ (I1 2 3 9 10 12 14) (Fit.pick PickC.perm (Fit.pick (B := [_]) PickC.perm (Fit.pick (B := [_]) PickC.perm (Fit.last PickC.perm)))) (fun _ h => h) ?_
 clear hP43
 rintro ⟨i, MPi⟩ ⟨hi, hPi⟩
 dsimp only at hi hPi ⊢
 refine A5 (A3 (mv_ (mv_ ?_)))
 refine A4 (A1c (k' := .i64) rfl kR (by show _ < 9223372036854775808; omega)) rfl ?_
 refine A4 (A0P (b := 3) rfl rfl rfl rfl (by omega)) rfl ?_
 refine A4 (F3 rfl rfl rfl) rfl ?_
 refine A0 (V5 2 3 9 10 12 14 62) ?_
 refine C6 rfl (fun hc => ?_) (fun hc => ?_)
 ·
  have hlt : i < q % 3 := by simp at hc; omega
  refine A8 (nx (I1 2 3 9 10 12 14) (A5 (C0 ?_)))
  refine D2 [0, 1, 2, 3, 4, 5, 6, 7, 8, 10, 11, 12, 13, 14, 15, 16] (zp 0 [0, 0, 0, 1, 0, 0, 0, 1, 1, 2, 0, 0, 0, 0, 0, 0, 0]) kR kR fun hs => ?_
  refine fm_ hs ?_
  refine D1 hs rfl (F5 rfl) rfl ?_
  refine D1 hs rfl (qf_ 0 0) rfl ?_
  refine F6 hs rfl ql_ rfl ?_
  refine fm_ hs ?_
  refine D1 hs rfl (F5 rfl) rfl ?_
  refine D1 hs rfl (qf_ 2 2) rfl ?_
  refine F6 hs rfl ql_ rfl ?_
  refine F6 hs rfl (qw_ 6) rfl ?_
  refine G3 rfl rfl rfl (D9 (Mc := MPi) (R := _) (aS rfl (aS rfl (aS rfl (a0)))) kR PickC.perm (A11 pb s3 kb bk ua ug uq uo um ss so sm H p r u MPi _ (hrb _ SubC.sub SubC.sub) hrise hPi (by omega) (hHe.mono SubC.sub) hG.up) rfl ?_)
  rintro v75 M75 J75 ⟨o1, o2, rfl, hP75, ho1, ho2⟩
  rw [hans] at hP75 ho1 ho2 ⊢
  change Prm pb s3 M75 at hP75
  haveI := ho1.cel
  haveI := ho2.cel
  refine fm_ hs ?_
  refine D1 hs rfl (A2s rfl) rfl ?_
  refine D1 hs rfl (A18 rfl) rfl ?_
  refine D1 hs rfl (B5T rfl) rfl ?_
  refine fa_ hs ?_
  refine fa_ hs ?_
  refine fa_ hs ?_
  refine E0 (V5 2 3 9 10 12 14 17) (A3 (mv_ ?_))
  refine A4 (F9 false rfl rfl (neF rfl)) rfl ?_
  refine mv_ ?_
  refine F4 rfl rfl (OpQ.opL qm_ rfl ?_)
  refine F4 rfl rfl (OpQ.opL (F5 rfl) rfl ?_)
  refine F4 rfl rfl (OpQ.opL (qf_ 2 2) rfl ?_)
  refine F4 rfl rfl (OpQ.opL ql_ rfl ?_)
  refine A5L rfl rfl (aS rfl a0) kR (B9d kb bk ua ug uq uo um ss so sm _ (hrb _ SubC.sub SubC.sub)) rfl ?_
  refine F4 rfl rfl (OpQ.opL (F9 false rfl rfl (neF (by omega))) rfl ?_)
  refine A4 (E7 rfl rfl) rfl ?_
  refine A0 (V5 2 3 9 10 12 14 88) ?_
  refine D3 rfl ?_
  refine A8 (nb (nx (I1 2 3 9 10 12 14) (C3 (mv_ ?_))))
  refine A4 (E3 ((i + 1 : Nat) : Int) rfl rfl (G2 (by omega) (by omega) (by omega))) rfl ?_
  refine as_ (C9 ?_)
  exact rn (i + 1, M75) ⟨hlt, hP75⟩ (by dsimp only; omega) (I1 2 3 9 10 12 14) (Fit.pick PickC.perm (Fit.pick (B := [_]) PickC.perm (Fit.pick (B := [_]) PickC.perm (Fit.last PickC.perm)))) SubC.sub
 ·
  have hge : i = q % 3 := by simp at hc; omega
  clear hge hi hc
  refine E5 (te (re (be rfl (nx (E4 2 9 10 12) (A3 (mv_ ?_))))))
  refine A4 (A1c (k' := .i64) rfl kR (by show _ < 9223372036854775808; omega)) rfl ?_
  refine A4 (A0P (a := n) (b := 4) rfl rfl rfl rfl (by decide)) rfl ?_
  refine as_ (A0 (E4 9 10 12 18) (A5 (A3 (as_ (A0 (F7 9 10 12 18 19) (C0 ?_))))))
  have hG0 : GnI s3 x bk 0 bk s3 := ⟨hb1.ext hex.p hbi.tok hbi.ar, rfl, rfl, .inl ⟨rfl, hsg⟩, hF.nx, by omega, by omega, Pext.refl _⟩
  refine F1 (α := Nat × Ks × Ps × Mem × Mem × Mem) (fun z => [(9, .pointer (some ⟨tb, 0, none⟩)), (10, .pointer (some ⟨b10, 0, none⟩)), (12, .pointer (some ⟨b12, 0, none⟩)), (18, .int .i64 ((n % 4 : Nat) : Int)), (19, .int .i64 ((z.1 : Nat) : Int))]) (fun z => z.2.2.2.1 ++ (z.2.2.2.2.1 ++ [(b12, blk [p, r, u, .int .u32 ((H.signed : Nat) : Int), .bool H.has, .int .u32 ((H.once : Nat) : Int)] 43), (b10, blk [.int .i64 y.user, .int .i64 y.dev, w1, w2, .int .u32 ((y.signed : Nat) : Int), w3, w4, .bool y.has, .int .u32 ((y.once : Nat) : Int), w5] 32)])) (fun z => z.2.2.2.2.2) (fun z => z.1 ≤ n % 4 ∧ GnI s3 x bk z.1 z.2.1 z.2.2.1 ∧ Kys (z.2.2.2.2.2 ++ A) kb z.2.1 z.2.2.2.1 ∧ Prm pb z.2.2.1 z.2.2.2.2.1 ∧ HeR (z.2.2.2.2.2 ++ A) H p r u ∧ (tb, blk [.pointer (some ⟨pb, 0, none⟩), .pointer (some ⟨ka, 0, none⟩), .pointer (some ⟨kb, 0, none⟩)] 37) ∈ z.2.2.2.2.2) (fun z => n % 4 - z.1) (0, bk, s3, MB, MPi, _) ⟨Nat.zero_le _, hG0, hKb.mono SubC.sub, hPi, hHe.mono SubC.sub, by simp⟩ (F7 9 10 12 18 19) (Fit.pick PickC.perm (Fit.pick PickC.perm (Fit.last PickC.perm))) (fun _ h => h) ?_
  clear hG0 hKb hPi hHe
  rintro ⟨j, k, sj, MK, MPj, Jj⟩ ⟨hj, hGn, hK, hPj, hHe, hTW⟩
  dsimp only at hj hGn hK hPj hHe hTW ⊢
  have g1 := hGn.nx
  have g2 := hGn.ts
  have g3 := hGn.n
  have hn4 : n % 4 < 4 := Nat.mod_lt _ (by decide)
  refine A5 (A3 (mv_ (mv_ ?_)))
  refine A4 (F3 rfl rfl rfl) rfl ?_
  refine A0 (I1 9 10 12 18 19 94) ?_
  refine C6 rfl (fun hc => ?_) (fun hc => ?_)
  ·
   have hlt : j < n % 4 := by simp at hc; omega
   refine A8 (nx (F7 9 10 12 18 19) (A5 (C0 ?_)))
   refine I3 (.range 8) (zp 0 [0, 0, 0, 1, 0, 0, 0, 1, 2]) kR kR fun hs => ?_
   refine fm_ hs ?_
   refine D1 hs rfl (F5 rfl) rfl ?_
   refine D1 hs rfl (qf_ 2 2) rfl ?_
   refine F6 hs rfl (G8 rfl kR (SubC.sub _ hTW) (by rfl)) rfl ?_
   refine fm_ hs ?_
   refine D1 hs rfl (F5 rfl) rfl ?_
   refine D1 hs rfl (qf_ 0 0) rfl ?_
   refine F6 hs rfl (G8 rfl kR (SubC.sub _ hTW) (by rfl)) rfl ?_
   refine G3 rfl rfl rfl (D9 (Mc := MK ++ MPj) (R := _) (aS rfl (aS rfl (a0))) kR PickC.perm (FnX.amb SubC.sub (B5s kb pb k sj MK MPj (Jj ++ A) hK hPj (by omega) (by omega) (by omega) (hG.sub fun _ h => List.mem_append_right _ h))) rfl ?_)
   rintro v105 M105 J105 ⟨MK2, MP3, rfl, hK2, hP3⟩
   refine U4 (nb (nx (F7 9 10 12 18 19) (C3 (mv_ ?_))))
   refine A4 (E3 ((j + 1 : Nat) : Int) rfl rfl (G2 (by omega) (by omega) (by omega))) rfl ?_
   refine as_ (C9 ?_)
   exact rn (j + 1, _, _, MK2, MP3, J105 ++ Jj) ⟨hlt, hGn.turn (by omega), by dsimp only; exact hK2.mono SubC.sub, hP3, hHe.mono SubC.sub, List.mem_append_right _ hTW⟩ (by dsimp only; omega) (F7 9 10 12 18 19) (Fit.pick PickC.perm (Fit.pick PickC.perm (Fit.last PickC.perm))) SubC.sub
  ·
   have hge : j = n % 4 := by simp at hc; omega
   subst hge
   obtain ⟨ta, tg, tq, to_, tm, ts_, to2, tm2, hr⟩ := hK.r
   have hrk : B1C k.once := hGn.once ▸ hrise
   obtain ⟨gt1, gt2⟩ := hGn.get hxn
   refine E5 (te (re (be rfl (nx (E4 9 10 12 18) ?_))))
   by_cases h2 : n % 4 < 2
   ·
    have hag2 := hag.ext hGn.ext
    rw [← hGn.agree] at hag2
    have hR : anR k H sj = (some (K, x.sec), sj) := hag2.ans hGn.bi.tok (by omega) (by rw [hyH]; exact gt1 h2) (by rw [hyo]; exact y8) (fun hh => by
     rw [hyo2 hh]
     rw [hyo, y8] at hh
     obtain ⟨o, rfl⟩ := Option.isSome_iff_exists.1 hh
     obtain ⟨q1, q2, q3, q4, q5, -⟩ := y9 o rfl
     rw [hGn.once, q5, q4]
     exact A7C hrise q3)
    refine D2 [0, 1, 2, 3, 4, 5, 6, 7, 8, 10, 11, 12, 13, 14, 15, 16] (zp 0 [0, 0, 0, 1, 0, 0, 0, 1, 1, 2, 0, 0, 0, 0, 0, 0, 0]) kR kR fun hs => ?_
    refine fm_ hs ?_
    refine D1 hs rfl (F5 rfl) rfl ?_
    refine D1 hs rfl (qf_ 0 0) rfl ?_
    refine F6 hs rfl (G8 rfl kR (SubC.sub _ hTW) (by rfl)) rfl ?_
    refine fm_ hs ?_
    refine D1 hs rfl (F5 rfl) rfl ?_
    refine D1 hs rfl (qf_ 2 2) rfl ?_
    refine F6 hs rfl (G8 rfl kR (SubC.sub _ hTW) (by rfl)) rfl ?_
    refine F6 hs rfl (qw_ 6) rfl ?_
    refine G3 rfl rfl rfl (D9 (Mc := MPj) (R := _) (aS rfl (aS rfl (aS rfl (a0)))) kR PickC.perm (A11 pb sj kb k ta tg tq to_ tm ts_ to2 tm2 H p r u MPj _ (hr _ SubC.sub SubC.sub) hrk hPj (by omega) (hHe.mono SubC.sub) hG.up) rfl ?_)
    rintro v116 M116 J116 ⟨o1, o2, rfl, hP116, ho1, ho2⟩
    haveI := ho1.cel
    haveI := ho2.cel
    rw [hR] at hP116 ⊢
    change Prm pb sj M116 at hP116
    refine fm_ hs ?_
    refine D1 hs rfl (A2s rfl) rfl ?_
    refine D1 hs rfl (A18 rfl) rfl ?_
    refine D1 hs rfl (B5T rfl) rfl ?_
    refine fa_ hs ?_
    refine fa_ hs ?_
    refine fa_ hs ?_
    refine E0 (F7 9 10 12 18 22) (A5 (A3 (mv_ ?_)))
    refine A4 (F9 true rfl rfl (eqT rfl)) rfl ?_
    refine mv_ ?_
    refine A4 (F9 true rfl rfl (ltT (by omega))) rfl ?_
    refine A4 (A5x false rfl rfl kR (by simp)) rfl ?_
    refine mv_ ?_
    refine F4 rfl rfl (OpQ.opL qm_ rfl ?_)
    refine F4 rfl rfl (OpQ.opL (F9 false rfl rfl (neF rfl)) rfl ?_)
    refine F4 rfl rfl (OpQ.opL qm_ rfl ?_)
    refine K5 rfl rfl rfl rfl ?_
    refine K5 rfl rfl rfl rfl ?_
    refine F4 rfl rfl (OpQ.opL (E7 rfl rfl) rfl ?_)
    refine A4 (E7 rfl rfl) rfl ?_
    refine A0 (F7 9 10 12 18 132) ?_
    refine D3 rfl ?_
    refine A8 (nx (E4 9 10 12 18) (A5 (A3 ?_)))
    refine A4 (qf_ 7 7) rfl ?_
    refine A4 ql_ rfl ?_
    refine mv_ ?_
    refine U7 (t := 135) rfl (fun hb => ?_) (fun hb => ?_)
    ·
     have hhy : H.has = true := hyo.trans hb
     have hol2 : k.once = bk.once := hGn.once
     refine F4 rfl rfl (OpQ.opL qm_ rfl ?_)
     refine F4 rfl rfl (OpQ.opL (F9 true rfl rfl (ltT (by omega))) rfl ?_)
     refine A4 (H5 rfl rfl) rfl ?_
     refine A0 (E4 9 10 12 138) ?_
     refine E2 rfl ?_
     refine D2 [0, 1, 2, 3, 4, 5] (zp 0 [0, 0, 0, 1, 0, 1, 2]) kR kR fun hs => ?_
     refine fm_ hs ?_
     refine D1 hs rfl (F5 rfl) rfl ?_
     refine D1 hs rfl (qf_ 2 2) rfl ?_
     refine F6 hs rfl (G8 rfl kR (SubC.sub _ hTW) (by rfl)) rfl ?_
     refine D1 hs rfl (qf_ 8 8) rfl ?_
     refine F6 hs rfl ql_ rfl ?_
     refine G3 rfl rfl rfl (D9 (Mc := MK) (R := _) (aS rfl (aS rfl (a0))) kR PickC.perm (FnX.amb SubC.sub (C0t kb k y.once MK (Jj ++ A) hK hrk)) rfl ?_)
     rintro v145 M145 J145 ⟨rfl, hK2⟩
     obtain ⟨fa, fg, fq, fo, fm, fs, fo2, fm2, hrf⟩ := hK2.r
     have hrise2 : B1C (B2m k y.once).once := A7A (by show (onN (B2m k y.once)).Pairwise _; rw [B5t]; unfold onN; rw [hol2]; exact List.Pairwise.filter _ (by have := hF.on; unfold onN at this; rw [this]; decide))
     have hR2 : (anR (B2m k y.once) H sj).1 = none := by rw [B1T (sx := x.sec) (by rw [hyH]; exact gt1 h2) hhy (by rw [hyo2 hhy]; exact Option.not_isSome_iff_eq_none.1 (by rw [B4l]; decide))]
     refine E0 (D4 9 12) ?_
     refine D2 [0, 1, 2, 3, 4, 5, 6, 7, 8, 10, 11, 12, 13, 14, 15, 16] (zp 0 [0, 0, 0, 1, 0, 0, 0, 1, 1, 2, 0, 0, 0, 0, 0, 0, 0]) kR kR fun hs => ?_
     refine fm_ hs ?_
     refine D1 hs rfl (F5 rfl) rfl ?_
     refine D1 hs rfl (qf_ 0 0) rfl ?_
     refine F6 hs rfl (G8 rfl kR (SubC.sub _ hTW) (by rfl)) rfl ?_
     refine fm_ hs ?_
     refine D1 hs rfl (F5 rfl) rfl ?_
     refine D1 hs rfl (qf_ 2 2) rfl ?_
     refine F6 hs rfl (G8 rfl kR (SubC.sub _ hTW) (by rfl)) rfl ?_
     refine F6 hs rfl (qw_ 6) rfl ?_
     refine G3 rfl rfl rfl (D9 (Mc := M116) (R := _) (aS rfl (aS rfl (aS rfl (a0)))) kR PickC.perm (A11 pb sj kb (B2m k y.once) fa fg fq fo fm fs fo2 fm2 H p r u M116 _ (hrf _ SubC.sub SubC.sub) hrise2 hP116 (by omega) (hHe.mono SubC.sub) hG.up) rfl ?_)
     rintro v156 M156 J156 ⟨o3, o4, rfl, hP156, ho3, ho4⟩
     haveI := ho3.cel
     haveI := ho4.cel
     rw [hR2]
     refine fm_ hs ?_
     refine D1 hs rfl (A2s rfl) rfl ?_
     refine D1 hs rfl (A18 rfl) rfl ?_
     refine D1 hs rfl (B5T rfl) rfl ?_
     refine fa_ hs ?_
     refine fa_ hs ?_
     refine fa_ hs ?_
     refine E0 (D5 25) (A3 (mv_ ?_))
     refine A4 (F9 true rfl rfl (eqT rfl)) rfl ?_
     refine as_ (A0 (D5 8) (C2 (tr ?_)))
     exact ⟨_, [], [], I0 rfl rfl, List.nil_sublist _, by simp, rfl, rfl, rfl⟩
    ·
     refine K5 rfl rfl rfl rfl ?_
     refine K5 rfl rfl rfl rfl ?_
     refine A4 (E7 rfl rfl) rfl ?_
     refine A0 (E4 9 10 12 138) ?_
     refine D3 rfl ?_
     refine A8 (nx kn (A3 (as_ (A0 (D5 8) (C2 ?_)))))
     exact ⟨_, [], [], I0 rfl rfl, List.nil_sublist _, by simp, rfl, rfl, rfl⟩
   ·
    have hR : anR k H sj = (none, sj) := B5v (by rw [hyH]; exact gt2 h2)
    refine D2 [0, 1, 2, 3, 4, 5, 6, 7, 8, 10, 11, 12, 13, 14, 15, 16] (zp 0 [0, 0, 0, 1, 0, 0, 0, 1, 1, 2, 0, 0, 0, 0, 0, 0, 0]) kR kR fun hs => ?_
    refine fm_ hs ?_
    refine D1 hs rfl (F5 rfl) rfl ?_
    refine D1 hs rfl (qf_ 0 0) rfl ?_
    refine F6 hs rfl (G8 rfl kR (SubC.sub _ hTW) (by rfl)) rfl ?_
    refine fm_ hs ?_
    refine D1 hs rfl (F5 rfl) rfl ?_
    refine D1 hs rfl (qf_ 2 2) rfl ?_
    refine F6 hs rfl (G8 rfl kR (SubC.sub _ hTW) (by rfl)) rfl ?_
    refine F6 hs rfl (qw_ 6) rfl ?_
    refine G3 rfl rfl rfl (D9 (Mc := MPj) (R := _) (aS rfl (aS rfl (aS rfl (a0)))) kR PickC.perm (A11 pb sj kb k ta tg tq to_ tm ts_ to2 tm2 H p r u MPj _ (hr _ SubC.sub SubC.sub) hrk hPj (by omega) (hHe.mono SubC.sub) hG.up) rfl ?_)
    rintro v116 M116 J116 ⟨o1, o2, rfl, hP116, ho1, ho2⟩
    haveI := ho1.cel
    haveI := ho2.cel
    rw [hR] at hP116 ⊢
    change Prm pb sj M116 at hP116
    refine fm_ hs ?_
    refine D1 hs rfl (A2s rfl) rfl ?_
    refine D1 hs rfl (A18 rfl) rfl ?_
    refine D1 hs rfl (B5T rfl) rfl ?_
    refine fa_ hs ?_
    refine fa_ hs ?_
    refine fa_ hs ?_
    refine E0 (F7 9 10 12 18 22) (A5 (A3 (mv_ ?_)))
    refine A4 (F9 false rfl rfl (eqF (by show (9 : Int) ≠ 0; decide))) rfl ?_
    refine mv_ ?_
    refine A4 (F9 false rfl rfl (ltF (by omega))) rfl ?_
    refine A4 (A5x false rfl rfl kR (by simp)) rfl ?_
    refine mv_ ?_
    refine F4 rfl rfl (OpQ.opL qm_ rfl ?_)
    refine F4 rfl rfl (OpQ.opL (F9 true rfl rfl (neT (by show (9 : Int) ≠ 0; decide))) rfl ?_)
    refine F4 rfl rfl (OpQ.opL qm_ rfl ?_)
    refine F4 rfl rfl (OpQ.opL qm_ rfl ?_)
    refine F4 rfl rfl (OpQ.opL (F9 false rfl rfl (neF rfl)) rfl ?_)
    refine F4 rfl rfl (OpQ.opL (H5 rfl rfl) rfl ?_)
    refine A4 (E7 rfl rfl) rfl ?_
    refine A0 (F7 9 10 12 18 132) ?_
    refine D3 rfl ?_
    refine A8 (nx (E4 9 10 12 18) (A5 (A3 ?_)))
    refine A4 (qf_ 7 7) rfl ?_
    refine A4 ql_ rfl ?_
    refine mv_ ?_
    refine U7 (t := 135) rfl (fun hb => ?_) (fun hb => ?_)
    ·
     refine F4 rfl rfl (OpQ.opL qm_ rfl ?_)
     refine F4 rfl rfl (OpQ.opL (F9 false rfl rfl (ltF (by omega))) rfl ?_)
     refine A4 (H5 rfl rfl) rfl ?_
     refine A0 (E4 9 10 12 138) ?_
     refine D3 rfl ?_
     refine A8 (nx kn (A3 (as_ (A0 (D5 8) (C2 ?_)))))
     exact ⟨_, [], [], I0 rfl rfl, List.nil_sublist _, by simp, rfl, rfl, rfl⟩
    ·
     refine K5 rfl rfl rfl rfl ?_
     refine K5 rfl rfl rfl rfl ?_
     refine A4 (E7 rfl rfl) rfl ?_
     refine A0 (E4 9 10 12 138) ?_
     refine D3 rfl ?_
     refine A8 (nx kn (A3 (as_ (A0 (D5 8) (C2 ?_)))))
     exact ⟨_, [], [], I0 rfl rfl, List.nil_sublist _, by simp, rfl, rfl, rfl⟩

section
variable {H : Type} {enc : TypeId × Value → H} {P : Program} {w : World} {spare : Nat → Bool} {held : Bool} {fuel : Nat} {t e : TypeId} {cs : List Value} {x : DataW H × List MemPlace} {v : Value} {d : DataW H} {p : List MemPlace} {r : Reach} {base : Nat} {k : IntKind}
end
theorem A5s {P : Program} {W : World} {name : String} {g : Nat} {cs : Array Value} (hg : P.globalNamed name = some g) (h : W.var? P name = some cs) : ∃ e fr, W.heap[g]? = some (.cells cs e fr) := by
  unfold World.var? at h
  rw [hg] at h
  simp only [Option.bind_some] at h
  split at h
  · rename_i c e fr hh
    cases h
    exact ⟨e, fr, hh⟩
  · cases h
def B2f (ws : List Nat) : List Int := ws.map fun n : Nat => (n : Int)
theorem A4t (k : IntKind) (ws : List Nat) : ((B2f ws).map fun z => Value.int k z).toArray = (nums k ws).toArray := by simp [B2f, nums]
theorem B7D {W : World} {a b : String × DataW Unit} {rest : List (String × DataW Unit)} (h : laidMet Tryz.prog (a :: b :: ("internal/strconv.uint64pow10", Rows.laid_internal_strconv_uint64pow10) :: rest) W) : ∃ e fr, W.heap[2]? = some (Obj.cells (nums .u64 A0B).toArray e fr) := by
  have h' : laidMet Tryz.prog (("internal/strconv.uint64pow10", Lib.tabData .u64 (B2f A0B)) :: rest) W := h.tail.tail
  have h1 := Lib.tabIs_of_head (g := 2) (t := 305) (e := 143) (n := 20) (by kernel_rfl) (by kernel_rfl) (by kernel_rfl) (by kernel_rfl) (by kernel_rfl) (by kernel_rfl) h'
  obtain ⟨ek, fk, h3⟩ := A5s (g := 2) (by kernel_rfl) h1
  rw [A4t] at h3
  exact ⟨ek, fk, h3⟩
end Go.Proofs.YthbhpfefdnffaaaGreatDoor

namespace Go.Proofs.YthbhpfefdnffaaaGreatDoor
open Go.Px
theorem B9p {W : World} {a b : String × DataW Unit} {rest : List (String × DataW Unit)} (h : laidMet Tryz.prog (a :: b :: ("internal/strconv.uint64pow10", Rows.laid_internal_strconv_uint64pow10) :: ("pawl/sha.round", Rows.laid_pawl_sha_round) :: ("pawl/sha.first", Rows.laid_pawl_sha_first) :: rest) W) : Glb (B2U W) := by
  obtain ⟨e4, f4, h4⟩ := B7D h
  have h' : laidMet Tryz.prog (("pawl/sha.round", Lib.tabData .u32 (B2f A24)) :: ("pawl/sha.first", Lib.tabData .u32 (B2f A25.list)) :: rest) W := h.tail.tail.tail
  have h1 := Lib.tabIs_of_head (g := 1) (t := 265) (e := 30) (n := 64) (by kernel_rfl) (by kernel_rfl) (by kernel_rfl) (by kernel_rfl) (by kernel_rfl) (by kernel_rfl) h'
  have h2 := Lib.tabIs_of_head (g := 0) (t := 222) (e := 30) (n := 8) (by kernel_rfl) (by kernel_rfl) (by kernel_rfl) (by kernel_rfl) (by kernel_rfl) (by kernel_rfl) h'.tail
  obtain ⟨ek, fk, h3⟩ := A5s (g := 1) (by kernel_rfl) h1
  obtain ⟨ef, ff, h5⟩ := A5s (g := 0) (by kernel_rfl) h2
  rw [A4t] at h3 h5
  exact ⟨⟨ef, ff, A1L.2 h5⟩, ⟨ek, fk, A1L.2 h3⟩, ⟨e4, f4, A1L.2 h4⟩⟩
end Go.Proofs.YthbhpfefdnffaaaGreatDoor

namespace Go.Proofs.YthbhpfefdnffaaaGreatDoor.agreeGone
open Go.ChangeShapes Go.WideShapes Go.ChangeAt Go.RowKit
theorem own : ownKnob Tryz.prog.godebug = none := by kernel_rfl
theorem laidOut : laidOutB Tryz.prog = true := by kernel_rfl
noncomputable def laidWorld (os : Os) : World := World.laidAll Tryz.prog os Rows.agreeGoneRow.laid
theorem laid_met (os : Os) : laidMetH Tryz.prog Rows.agreeGoneRow.laid ((laidWorld os).forCall (fun _ _ => 0) ⟨#[], #[.int .u8 0, .int .u8 0, .int .u8 0, .int .u8 0], []⟩).memory := by
  rw [MakeChecks.laidMetH_plain _ _ _ (by kernel_rfl)]; exact laidMet_laidAll _ (by kernel_rfl) (by kernel_rfl)
theorem reads (os : Os) {H : Type} (enc : TypeId × Value → H) : ∃ places, DataW.whole enc Tryz.prog ((laidWorld os).forCall (fun _ _ => 0) ⟨#[], #[.int .u8 0, .int .u8 0, .int .u8 0, .int .u8 0], []⟩).memory Tryz.f7.params.toList Rows.agreeGoneSpec.vars false (#[.int .u8 0, .int .u8 0, .int .u8 0, .int .u8 0] : Array Value).toList 8 = some ([.lit (.int .u8 0), .lit (.int .u8 0), .lit (.int .u8 0), .lit (.int .u8 0)], [], places) :=
  ⟨[], by kernel_rfl⟩
theorem lifted (os : Os) (started : os.Started) (H : Type) (enc : TypeId × Value → H) (F : Stop.Interp) :
    ReturnsInHanded {} Tryz.checked os 7 .any ((OpenSpec.ofChange Rows.agreeGoneSpec).preRow enc Tryz.prog Tryz.f7 Rows.agreeGoneRow.domain false Rows.agreeGoneRow.laid) (((OpenSpec.ofChange Rows.agreeGoneSpec).at F).post enc Tryz.prog Tryz.f7 false true false false) := by
  obtain ⟨places, hx⟩ := reads os enc
  refine returnsInHanded_of_row (C := Tryz.checked) (s := (OpenSpec.ofChange Rows.agreeGoneSpec)) own started (by kernel_rfl) Tryz.func7
    (witness_row_at (enc := enc) (C := Tryz.checked) false (laidWorld os) #[.int .u8 0, .int .u8 0, .int .u8 0, .int .u8 0] (World.laidAll_os _ _ _) (by kernel_rfl) (by kernel_rfl) (by kernel_rfl)
      (OpenSpec.preRow_of_cond 8 hx (by kernel_rfl) (fun k hk => by cases hk) (by kernel_rfl) (laid_met os))) ?_
  intro W base args ds gs before hval0 hW _ _ _ hL _ _
  have hval : ∀ (j : Nat) t v, Tryz.f7.params[j]? = some t → args[j]? = some v → Value.okWide Tryz.prog W .any base t v := hval0
  have hW' := hW
  obtain ⟨p, q, hA0, hV, rfl, hfz, hnd⟩ := hW
  have hA : DataW.TrodAll enc Tryz.prog W 0 (fun _ => true) true Tryz.f7.params.toList args.toList ds p := hA0
  rw [Tryz.params7] at hA hval
  obtain ⟨v0, vs0, d0, ds0, p0, q0, hargs, rfl, rfl, k0, r0_⟩ := trodAll_cons hA
  obtain ⟨v1, vs1, d1, ds1, p1, q1, rfl, rfl, rfl, k1, r1_⟩ := trodAll_cons r0_
  obtain ⟨v2, vs2, d2, ds2, p2, q2, rfl, rfl, rfl, k2, r2_⟩ := trodAll_cons r1_
  obtain ⟨v3, vs3, d3, ds3, p3, q3, rfl, rfl, rfl, k3, r3_⟩ := trodAll_cons r2_
  obtain ⟨rfl, rfl, rfl⟩ := trodAll_nil r3_
  obtain rfl : args = #[v0, v1, v2, v3] := by cases args; simp_all
  obtain ⟨rfl, rfl⟩ := trodVars_none hV
  have lt0 : ∀ x ∈ p0, x.block < W.heap.size := by obtain ⟨m, hm⟩ := k0; exact DataW.trod_lt m _ _ _ hm
  have lt1 : ∀ x ∈ p1, x.block < W.heap.size := by obtain ⟨m, hm⟩ := k1; exact DataW.trod_lt m _ _ _ hm
  have lt2 : ∀ x ∈ p2, x.block < W.heap.size := by obtain ⟨m, hm⟩ := k2; exact DataW.trod_lt m _ _ _ hm
  have lt3 : ∀ x ∈ p3, x.block < W.heap.size := by obtain ⟨m, hm⟩ := k3; exact DataW.trod_lt m _ _ _ hm
  obtain ⟨x0, rfl, hx0⟩ := Px.inU Tryz.underlying5 rfl (hval 0 5 v0 rfl rfl) k0
  obtain ⟨x1, rfl, hx1⟩ := Px.inU Tryz.underlying5 rfl (hval 1 5 v1 rfl rfl) k1
  obtain ⟨x2, rfl, hx2⟩ := Px.inU Tryz.underlying5 rfl (hval 2 5 v2 rfl rfl) k2
  obtain ⟨x3, rfl, hx3⟩ := Px.inU Tryz.underlying5 rfl (hval 3 5 v3 rfl rfl) k3
  clear hA0 hval0
  rw [MakeChecks.laidMetH_plain _ _ _ (by kernel_rfl)] at hL
  have hG := B9p hL
  refine Calls.mono ((A7G x0 x1 x2 x3 _ hx0 hx1 hx2 hx3 hG).calls (Px.heapA_fx W)) fun e W' ⟨he, bel⟩ => ?_
  subst he
  exact ⟨_, rfl, _, _, _, [], _, [], hW', trodAll_mk1 (shut_bool Tryz.underlying4 _), (trodAll_cons_mk (Below.trod laidOut (by kernel_rfl) (of_decide_eq_true (by kernel_rfl)) k0 bel lt0) (trodAll_cons_mk (Below.trod laidOut (by kernel_rfl) (of_decide_eq_true (by kernel_rfl)) k1 bel lt1) (trodAll_cons_mk (Below.trod laidOut (by kernel_rfl) (of_decide_eq_true (by kernel_rfl)) k2 bel lt2) (trodAll_cons_mk (Below.trod laidOut (by kernel_rfl) (of_decide_eq_true (by kernel_rfl)) k3 bel lt3) trodAll_mk0)))), rfl, bel.frame _, fun h => by cases h⟩
theorem said : Rows.AgreeGoneSaid :=
  OpenClaim.holds_of_cond 7 Tryz.f7 rfl rfl rfl rfl rfl rfl rfl ⟨rfl, rfl, rfl, rfl, rfl⟩ rfl rfl rfl rfl rfl (by kernel_rfl) Tryz.func7 (by kernel_rfl)
    (of_decide_eq_true (by kernel_rfl)) (by unfold Func.isWrapper; first | (rw [if_pos (by decide +kernel)]; kernel_rfl) | (rw [if_neg (by decide +kernel)]; exact ⟨rfl, rfl⟩))
    (fun os started H enc _ F => by rw [OpenClaim.pre_eq_preRow]; exact lifted os started H enc F)
theorem plain (f : FuncId) (fn : Func) (hf : Tryz.pinned.checked.prog.funcNamed "pawl/pawllaw13.AgreeGone" = some f) (hfn : Tryz.pinned.checked.prog.funcs[f]? = some fn) :
    true = Tryz.pinned.checked.prog.looks [] ∧ ∀ (j : Nat) t, fn.params[j]? = some t → Tryz.pinned.checked.prog.wantsStandIn t = false := by
  obtain rfl : f = 7 := Option.some.inj ((show Tryz.prog.funcNamed "pawl/pawllaw13.AgreeGone" = some 7 by kernel_rfl).symm.trans hf) |>.symm
  obtain rfl : fn = Tryz.f7 := (Option.some.inj (Tryz.func7.symm.trans hfn)).symm
  refine ⟨by kernel_rfl, fun j t ht => ?_⟩
  rw [Tryz.params7] at ht
  have hm := Array.mem_of_getElem? ht
  simp only [List.mem_toArray, List.mem_cons, List.not_mem_nil, or_false] at hm
  rcases hm with rfl | rfl | rfl | rfl
  · exact (show Tryz.prog.wantsStandIn 5 = false by kernel_rfl)
  · exact (show Tryz.prog.wantsStandIn 5 = false by kernel_rfl)
  · exact (show Tryz.prog.wantsStandIn 5 = false by kernel_rfl)
  · exact (show Tryz.prog.wantsStandIn 5 = false by kernel_rfl)
theorem proved : Rows.AgreeGoneCardSaid :=
  Claim7.holds_tied_plain_at .later [] _ _ _ _ said (fun _ h => by cases h) (by kernel_rfl) (fun _ h => by cases h) agreeGone_row_tie rfl ⟨rfl, rfl⟩ (by kernel_rfl) rfl plain (by kernel_rfl)
#print axioms proved
end Go.Proofs.YthbhpfefdnffaaaGreatDoor.agreeGone

