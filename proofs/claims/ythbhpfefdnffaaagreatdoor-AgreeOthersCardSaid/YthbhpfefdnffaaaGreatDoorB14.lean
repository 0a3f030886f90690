/- Part 14 of the texts of this claim, one behind the other. -/
import Derived.Test.YthbhpfefdnffaaaGreatDoorB13
set_option linter.unusedVariables false
set_option linter.unusedSimpArgs false
set_option maxRecDepth 100000
namespace Go.Proofs.YthbhpfefdnffaaaGreatDoor
open Go.Px
structure GlS (A : Mem) : Prop where
  first : ∃ e f, (0, Obj.cells (nums .u32 A2p.list).toArray e f) ∈ A
  round : ∃ e f, (1, Obj.cells (nums .u32 A1B).toArray e f) ∈ A
theorem GlS.sub {A A' : Mem} (h : GlS A) (hs : ∀ x, x ∈ A → x ∈ A') : GlS A' := by
  obtain ⟨⟨a, b, c⟩, ⟨d, e, f⟩⟩ := h
  exact ⟨⟨a, b, hs _ c⟩, ⟨d, e, hs _ f⟩⟩
theorem GlS.up {M J A : Mem} (h : GlS A) : GlS (M ++ (J ++ A)) := h.sub fun _ h => mA h
theorem A07 (p : List Nat) : (B2z p).length = 64 := by simp [B2z, A0Z]
theorem A7u (p : List Nat) : ∀ x ∈ B2z p, x < 256 := by
  intro x hx
  rcases List.mem_append.1 hx with h | h <;> exact A7T _ x h
theorem B3L {R B : Mem} {v : Value} {w : List Nat} {n : Nat} (h : Sl 1 v n (nums .u8 w) B) (hn : n = w.length) (hlt : ∀ x ∈ w, x < 256) (hl : w.length ≤ 16777216) (hR : ∀ x, x ∈ B → x ∈ R) : By R v w := ⟨hn ▸ h.rd hR, hlt, hl⟩
theorem B66 {k : IntKind} (x y : Nat) : K1 .geq k (x : Int) (y : Int) = some (.bool (decide (y ≤ x))) := by
  by_cases h : y ≤ x
  · rw [decide_eq_true h]; exact geT (by omega)
  · rw [decide_eq_false h]; exact geF (by omega)
theorem B67 {n : Nat} (h : n < lN) : bv (T0 n 32) = n := by rw [B04, Nat.mod_eq_of_lt (Nat.lt_trans h (by decide))]
def RdR (r : Value) (w : List Nat) : Prop := ∃ V b, r = .tuple #[V, .bool b] ∧ ((∃ P, S9 w = some P ∧ b = true ∧ FeP V P) ∨ (S9 w = none ∧ b = false ∧ FeP V pZ))
theorem B1l {w : List Nat} (h : ¬ w.length = 32) : S9 w = none := if_neg h
theorem A9s {w : List Nat} (h : atN (rdN w) (decide (128 ≤ w.getD 31 0)) = none) : S9 w = none := by
  unfold S9
  split
  · rw [h]
  · rfl
theorem B3M {w : List Nat} {x : Nat} (hl : w.length = 32) (h : atN (rdN w) (decide (128 ≤ w.getD 31 0)) = some x) (hb : ¬ pB (pAt x (rdN w)) = w) : S9 w = none := by
  unfold S9
  rw [if_pos hl, h]
  exact if_neg hb
theorem B3N {w : List Nat} {x : Nat} (hl : w.length = 32) (h : atN (rdN w) (decide (128 ≤ w.getD 31 0)) = some x) (hb : pB (pAt x (rdN w)) = w) : S9 w = some (pAt x (rdN w)) := by
  unfold S9
  rw [if_pos hl, h]
  exact if_pos hb
theorem B69 (V W : Value) (P Q : Pt) (hV : FeP V P) (hW : FeP W Q) (A : Mem) : FnX Tryz.prog 147 [V, W] [] A fun r M J => M = [] ∧ J = [] ∧ FeP r (A6q d2N P Q) := by
 have hP0 := hV
 have hQ0 := hW
 obtain ⟨xsp, rfl, p0, p1, p2, p3, p4, p5, p6, p7, p8, p9, p10, p11, p12, p13, p14, p15, p16, p17, p18, p19, rfl, hPX, hPY, hPZ, hPT⟩ := hV
 dsimp only [nums, List.map]
 obtain ⟨xsq, rfl, q0, q1, q2, q3, q4, q5, q6, q7, q8, q9, q10, q11, q12, q13, q14, q15, q16, q17, q18, q19, rfl, hQX, hQY, hQZ, hQT⟩ := hW
 dsimp only [nums, List.map]
 refine FnX.enter (N := 11) Tryz.func147 rfl rfl rfl fun w => ?_
 refine C4 (D5 0 1) (A3 ?_)
 refine A6 rfl (bx_ fun b2 => ?_)
 refine A6 rfl (bx_ fun b3 => ?_)
 refine A6 rfl (C5 (cs := [A7, A7, A7, A7, A7, A7, A7, A7, A7, A7, A7, A7, A7, A7, A7, A7, A7, A7, A7, A7]) kR rfl fun b4 => ?_)
 refine A0 (E1 2 3 4) ?_
 refine D2 [0, 1, 2, 3, 4, 5] (zp 0 [1, 1, 2, 2, 2, 2, 2]) kR kR fun hs => ?_
 refine F6 hs rfl (qw_ 20) rfl ?_
 refine F6 hs rfl (qw_ 20) rfl ?_
 refine G1 rfl (aS rfl a0) kR (A0I 2 (by decide) _) rfl ?_
 rintro rn2 Mn2 Jn2 ⟨rfl, rfl, kn2⟩
 have hn2 := kn2
 obtain ⟨an2, bn2, cn2, dn2, en2, rfl, -⟩ := kn2
 refine G1 rfl a0 kR (A7g _) rfl ?_
 rintro rn3 Mn3 Jn3 ⟨rfl, rfl, kn3⟩
 have hn3 := kn3
 obtain ⟨an3, bn3, cn3, dn3, en3, rfl, -⟩ := kn3
 refine G1 rfl (aS rfl (aS rfl a0)) kR (R7 hn2 hn3 _) rfl ?_
 rintro rn4 Mn4 Jn4 ⟨rfl, rfl, kn4⟩
 rw [B6B] at kn4
 have hn4 := kn4
 obtain ⟨an4, bn4, cn4, dn4, en4, rfl, -⟩ := kn4
 refine G1 rfl (aS rfl (aS rfl (aS rfl a0))) kR (B0U _ _ _ P Q d2N hP0 hQ0 hn4 _) rfl ?_
 rintro r5 M5 J5 ⟨rfl, rfl, h5⟩
 have h50 := h5
 obtain ⟨xsz, rfl, z0, z1, z2, z3, z4, z5, z6, z7, z8, z9, z10, z11, z12, z13, z14, z15, z16, z17, z18, z19, rfl, h5X, h5Y, h5Z, h5T⟩ := h5
 dsimp only [nums, List.map]
 refine G2 rfl rfl rfl (A8 rfl rfl Cel.cel kR A2L A2M UpC.upd ?_)
 refine E3 (D8 4) (C2 ?_)
 exact ⟨_, [], [], A1k rfl rfl kR At.mem (by rfl), List.nil_sublist _, by simp, rfl, rfl, h50⟩
theorem B7a (V W : Value) (P Q : Pt) (hV : FeP V P) (hW : FeP W Q) (A : Mem) : FnV Tryz.prog 149 [V, W] A (.bool (A7o P Q)) := by
 obtain ⟨xsp, rfl, p0, p1, p2, p3, p4, p5, p6, p7, p8, p9, p10, p11, p12, p13, p14, p15, p16, p17, p18, p19, rfl, hPX, hPY, hPZ, hPT⟩ := hV
 dsimp only [nums, List.map]
 obtain ⟨xsq, rfl, q0, q1, q2, q3, q4, q5, q6, q7, q8, q9, q10, q11, q12, q13, q14, q15, q16, q17, q18, q19, rfl, hQX, hQY, hQZ, hQT⟩ := hW
 dsimp only [nums, List.map]
 refine FnX.enter (N := 29) Tryz.func149 rfl rfl rfl fun w => ?_
 refine C4 (D5 0 1) (A3 ?_)
 refine A6 rfl (bx_ fun b2 => ?_)
 refine A6 rfl (bx_ fun b3 => ?_)
 refine as_ (A0 (D5 2 3) ?_)
 refine D2 (.range 25) [(0, 0), (1, 1), (2, 0), (3, 1), (5, 0), (6, 1), (7, 0), (8, 1), (4, 2), (9, 2), (10, 2), (11, 0), (12, 0), (13, 1), (14, 0), (15, 1), (17, 0), (18, 1), (19, 0), (20, 1), (16, 2), (21, 2), (22, 2), (23, 0), (24, 0)] kR kR fun hs => ?_
 refine D1 hs rfl (qf_ 0 0) rfl ?_
 refine F6 hs rfl (G5 (n := 5) rfl kR (by first | exact At.mem | exact mA (by assumption)) TakeC.take) rfl ?_
 refine D1 hs rfl (qf_ 10 10) rfl ?_
 refine F6 hs rfl (G5 (n := 5) rfl kR (by first | exact At.mem | exact mA (by assumption)) TakeC.take) rfl ?_
 refine D1 hs rfl (qf_ 0 0) rfl ?_
 refine F6 hs rfl (G5 (n := 5) rfl kR (by first | exact At.mem | exact mA (by assumption)) TakeC.take) rfl ?_
 refine D1 hs rfl (qf_ 10 10) rfl ?_
 refine F6 hs rfl (G5 (n := 5) rfl kR (by first | exact At.mem | exact mA (by assumption)) TakeC.take) rfl ?_
 refine G1 rfl (aS rfl (aS rfl a0)) kR (R7 hPX hQZ _) rfl ?_
 rintro rn4 Mn4 Jn4 ⟨rfl, rfl, kn4⟩
 have hn4 := kn4
 obtain ⟨an4, bn4, cn4, dn4, en4, rfl, -⟩ := kn4
 refine G1 rfl (aS rfl (aS rfl a0)) kR (R7 hQX hPZ _) rfl ?_
 rintro rn9 Mn9 Jn9 ⟨rfl, rfl, kn9⟩
 have hn9 := kn9
 obtain ⟨an9, bn9, cn9, dn9, en9, rfl, -⟩ := kn9
 refine R9 rfl (aS rfl (aS rfl a0)) kR (A0l _ _ _ _ hn4 hn9 _) rfl ?_
 refine fm_ hs ?_
 refine V9 (t := 16) rfl (fun hb => ?_) (fun hb => ?_)
 ·
  have hx : fM P.X Q.Z = fM Q.X P.Z := of_decide_eq_true hb
  refine N3 hs rfl rfl rfl rfl (qf_ 5 5) rfl ?_
  refine A0d hs rfl rfl rfl rfl (G5 (n := 5) rfl kR (by first | exact At.mem | exact mA (by assumption)) TakeC.take) rfl ?_
  refine N3 hs rfl rfl rfl rfl (qf_ 10 10) rfl ?_
  refine A0d hs rfl rfl rfl rfl (G5 (n := 5) rfl kR (by first | exact At.mem | exact mA (by assumption)) TakeC.take) rfl ?_
  refine N3 hs rfl rfl rfl rfl (qf_ 5 5) rfl ?_
  refine A0d hs rfl rfl rfl rfl (G5 (n := 5) rfl kR (by first | exact At.mem | exact mA (by assumption)) TakeC.take) rfl ?_
  refine N3 hs rfl rfl rfl rfl (qf_ 10 10) rfl ?_
  refine A0d hs rfl rfl rfl rfl (G5 (n := 5) rfl kR (by first | exact At.mem | exact mA (by assumption)) TakeC.take) rfl ?_
  refine A2J rfl rfl rfl rfl (aS rfl (aS rfl a0)) kR (R7 hPY hQZ _) rfl ?_
  rintro rn16 Mn16 Jn16 ⟨rfl, rfl, kn16⟩
  have hn16 := kn16
  obtain ⟨an16, bn16, cn16, dn16, en16, rfl, -⟩ := kn16
  refine A2J rfl rfl rfl rfl (aS rfl (aS rfl a0)) kR (R7 hQY hPZ _) rfl ?_
  rintro rn21 Mn21 Jn21 ⟨rfl, rfl, kn21⟩
  have hn21 := kn21
  obtain ⟨an21, bn21, cn21, dn21, en21, rfl, -⟩ := kn21
  refine A3g rfl rfl rfl rfl (aS rfl (aS rfl a0)) kR (A0l _ _ _ _ hn16 hn21 _) rfl ?_
  refine D1 hs rfl (H4 rfl rfl) rfl ?_
  refine fa_ hs ?_
  refine E3 (D8 4) (C2 ?_)
  exact ⟨_, [], [], I4 rfl rfl, List.nil_sublist _, by simp, by unfold A7o; rw [decide_eq_true hx]; rfl, rfl, rfl⟩
 ·
  have hx : ¬ fM P.X Q.Z = fM Q.X P.Z := of_decide_eq_false hb
  refine L4 hs ?_
  refine T9 hs ?_
  refine L4 hs ?_
  refine T9 hs ?_
  refine L4 hs ?_
  refine T9 hs ?_
  refine L4 hs ?_
  refine T9 hs ?_
  refine A63 hs rfl rfl rfl rfl rfl rfl ?_
  refine A63 hs rfl rfl rfl rfl rfl rfl ?_
  refine A63 hs rfl rfl rfl rfl rfl rfl ?_
  refine D1 hs rfl (E9 rfl rfl) rfl ?_
  refine fa_ hs ?_
  refine E3 (D8 4) (C2 ?_)
  exact ⟨_, [], [], I4 rfl rfl, List.nil_sublist _, by simp, by unfold A7o; rw [decide_eq_false hx]; rfl, rfl, rfl⟩
theorem B1m (v : Value) (ws : List Nat) (A : Mem) (hv : By A v ws) : FnX Tryz.prog 145 [v] [] A fun r M J => M = [] ∧ J = [] ∧ RdR r ws := by
 haveI := hv.cel
 have hvl := hv.len
 refine FnX.enter (N := 32) Tryz.func145 rfl rfl rfl fun w => ?_
 refine C4 (D8 0) (A3 ?_)
 refine A6 rfl (C5 (cs := [A7, A7, A7, A7, A7, A7, A7, A7, A7, A7, A7, A7, A7, A7, A7, A7, A7, A7, A7, A7]) kR rfl fun b2 => ?_)
 refine as_ (A0 (D5 0 2) (A5 (A3 (mv_ ?_))))
 refine A4 (I3 (sz := 1) rfl kR hv.rd) rfl ?_
 refine A4 (F1 rfl rfl rfl) rfl ?_
 refine A0 (E1 0 2 8) ?_
 refine C8 rfl (fun hc => ?_) (fun hc => ?_)
 ·
  have h32 : ¬ ws.length = 32 := by simp at hc; omega
  refine A3 ?_
  refine A4 (F3 (place := fun x => #[(0, 5), (5, 5), (10, 5), (15, 5)][x]?) (z := [A7, A7, A7, A7, A7, A7, A7, A7, A7, A7, A7, A7, A7, A7, A7, A7, A7, A7, A7, A7]) (fun _ => by kernel_rfl) e0 bd0) rfl ?_
  refine A6 rfl (A8 rfl rfl Cel.cel kR A2L A2M UpC.upd ?_)
  refine as_ (A0 (D5 2 3) (C2 (tr ?_)))
  exact ⟨_, [], [], A1a rfl rfl rfl kR At.mem (by rfl), List.nil_sublist _, by simp, rfl, rfl, ⟨_, _, rfl, .inr ⟨B1l h32, rfl, ⟨_, rfl, _, _, _, _, _, _, _, _, _, _, _, _, _, _, _, _, _, _, _, _, rfl, K4, K4, K4, K4⟩⟩⟩⟩
 ·
  have h32 : ws.length = 32 := by simp at hc; omega
  refine A9 (nx (D5 0 2) ?_)
  refine H5 ([]) (_) true [0, 1, 2, 3, 4, 5, 6, 7, 8, 9, 10, 12] [(0, 0), (2, 0), (3, 0), (4, 1), (5, 0), (1, 8), (6, 8), (7, 8), (8, 8), (10, 8), (9, 10), (11, 2), (12, 0)] kR kR PickC.perm fun hs K n0 hKm hKs hKn => ?_
  refine km_ hs ?_
  refine km_ hs ?_
  refine I0 hs rfl (I7 (sz := 1) (a := 31) rfl rfl kR rfl hv.rd (by omega)) rfl ?_
  refine P0 hs rfl hKs (A1b (j := 31) (u := .int .u8 ((ws.getD 31 0 : Nat) : Int)) (hv.rd.mono SubC.sub) rfl kR (Z4 (by omega))) ?_
  refine I0 hs rfl (F9 (decide (128 ≤ ws.getD 31 0)) rfl rfl (B66 _ 128)) rfl ?_
  refine A1W [⟨1, 12, none, [], fun v B _ => B = [] ∧ Fe v (rdN ws)⟩, ⟨6, 17, none, [], fun v B _ => B = [] ∧ AtR v (rdN ws) (decide (128 ≤ ws.getD 31 0))⟩, ⟨7, 10, none, [], fun v B _ => B = [] ∧ AtR v (rdN ws) (decide (128 ≤ ws.getD 31 0))⟩, ⟨8, 18, none, [], fun v B _ => B = [] ∧ ∃ P, FeP v P ∧ ∀ x, atN (rdN ws) (decide (128 ≤ ws.getD 31 0)) = some x → P = pAt x (rdN ws)⟩, ⟨10, 4, none, [], fun v B _ => ∃ b, v = .pointer (some ⟨b, 0, none⟩) ∧ B = [(b, blk [.int .u64 0, .int .u64 0, .int .u64 0, .int .u64 0, .int .u64 0, .int .u64 0, .int .u64 0, .int .u64 0, .int .u64 0, .int .u64 0, .int .u64 0, .int .u64 0, .int .u64 0, .int .u64 0, .int .u64 0, .int .u64 0, .int .u64 0, .int .u64 0, .int .u64 0, .int .u64 0] 218)]⟩] [⟨9, 19, none, [], fun v B _ => B = [] ∧ v = .bool (atN (rdN ws) (decide (128 ≤ ws.getD 31 0))).isSome⟩] (_) (fun bs => [bs 1, bs 6, bs 7, bs 8, bs 10, bs 9]) (hKn rfl) (List.Perm.refl _) (show ∀ m ∈ ([[], [], [], [], [], []] : List Mem), ∀ x ∈ m, K x.1 from C1 (fun _ h => by cases h) (C1 (fun _ h => by cases h) (C1 (fun _ h => by cases h) (C1 (fun _ h => by cases h) (C1 (fun _ h => by cases h) (C1 (fun _ h => by cases h) (K3))))))) kR (fun _ => by first | rfl | kernel_rfl)
   (C1 (fun _ _ _ _ _ h => h) (C1 (fun _ _ _ _ _ h => h) (C1 (fun _ _ _ _ _ h => h) (C1 (fun _ _ _ _ _ h => h) (C1 (fun _ _ _ _ _ h => h) (C1 (fun _ _ _ _ _ h => h) (K3))))))) (show List.Nodup [12, 17, 10, 18, 4, 19] by decide) (show List.Nodup [1, 6, 7, 8, 10, 9] by decide) (C1 (C7 rfl) (C1 (C7 rfl) (C1 (C7 rfl) (C1 (C7 rfl) (C1 (C7 rfl) (C1 (C7 rfl) (K3)))))))
   hs (List.cons_ne_nil _ _) (C1 ⟨_, rfl, fun vs bs R Rj wG hb hj hjr ha => ⟨.inl rfl, ?_⟩⟩ (C1 ⟨_, rfl, fun vs bs R Rj wG hb hj hjr ha => ⟨.inl rfl, ?_⟩⟩ (C1 ⟨_, rfl, fun vs bs R Rj wG hb hj hjr ha => ⟨.inl rfl, ?_⟩⟩ (C1 ⟨_, rfl, fun vs bs R Rj wG hb hj hjr ha => ⟨.inl rfl, ?_⟩⟩ (C1 ⟨_, rfl, fun vs bs R Rj wG hb hj hjr ha => ⟨.inl rfl, ?_⟩⟩ (K3)))))) (C1 ⟨rfl, rfl, _, _, _, _, rfl, fun vs bs Rj hj ha => ?_⟩ (K3)) ?_
  ·
   dsimp only [Gc.inp]
   refine D7 (aS rfl a0) kR (A4m v ws _ (hv.rd.mono (fun x hx => by have := hb x (by simp [hx]); simp [this])) hv.lt (by omega)) rfl ?_
   rintro r M1 J1 ⟨rfl, rfl, hh⟩
   exact ⟨_, rfl, rfl, hh⟩
  ·
   dsimp only [Gc.inp]
   have g1 := ha _ (List.mem_of_getElem? (i := 0) rfl) kR
   replace g1 : (fun v B _ => B = [] ∧ Fe v (rdN ws)) (vs 1) (bs 1) Rj := g1
   dsimp only at g1
   obtain ⟨-, k1⟩ := g1
   refine D7 (aS rfl (aS rfl a0)) kR (at_f _ _ _ k1 _) rfl ?_
   rintro r M1 J1 ⟨rfl, rfl, hh⟩
   exact ⟨_, rfl, rfl, hh⟩
  ·
   dsimp only [Gc.inp]
   have g6 := ha _ (List.mem_of_getElem? (i := 1) rfl) kR
   replace g6 : (fun v B _ => B = [] ∧ AtR v (rdN ws) (decide (128 ≤ ws.getD 31 0))) (vs 6) (bs 6) Rj := g6
   dsimp only at g6
   obtain ⟨-, k6⟩ := g6
   exact OpQ.opL qm_ rfl ⟨_, rfl, rfl, k6⟩
  ·
   dsimp only [Gc.inp]
   have g7 := ha _ (List.mem_of_getElem? (i := 2) rfl) kR
   replace g7 : (fun v B _ => B = [] ∧ AtR v (rdN ws) (decide (128 ≤ ws.getD 31 0))) (vs 7) (bs 7) Rj := g7
   dsimp only at g7
   obtain ⟨-, k7⟩ := g7
   obtain ⟨V, b, hw, hr⟩ := k7
   refine OpQ.opL (L8 (vs := #[V, .bool b]) (by rw [← hw]; rfl) rfl) rfl ⟨_, rfl, rfl, ?_⟩
   rcases hr with ⟨x, h1, -, h2⟩ | ⟨h1, -, h2⟩
   · exact ⟨_, h2, fun y hy => by rw [h1] at hy; cases hy; rfl⟩
   · exact ⟨_, h2, fun y hy => by rw [h1] at hy; cases hy⟩
  ·
   dsimp only [Gc.inp]
   exact C5 (cs := [A7, A7, A7, A7, A7, A7, A7, A7, A7, A7, A7, A7, A7, A7, A7, A7, A7, A7, A7, A7]) kR rfl fun b => ⟨_, rfl, b, rfl, rfl⟩
  ·
   have g7 := ha _ (List.mem_of_getElem? (i := 2) rfl) kR
   replace g7 : (fun v B _ => B = [] ∧ AtR v (rdN ws) (decide (128 ≤ ws.getD 31 0))) (vs 7) (bs 7) Rj := g7
   dsimp only at g7
   obtain ⟨-, k7⟩ := g7
   obtain ⟨V, b, hw, hr⟩ := k7
   refine ⟨.bool b, L8 (vs := #[V, .bool b]) (by rw [← hw]; rfl) rfl, rfl, ?_⟩
   rcases hr with ⟨x, h1, rfl, -⟩ | ⟨h1, rfl, -⟩ <;> rw [h1] <;> rfl
  intro vs bs Jn0 hφ hKK
  have kk1 := hKK _ (List.mem_of_getElem? (i := 0) rfl)
  dsimp only at kk1
  have kk6 := hKK _ (List.mem_of_getElem? (i := 1) rfl)
  dsimp only at kk6
  have kk7 := hKK _ (List.mem_of_getElem? (i := 2) rfl)
  dsimp only at kk7
  have kk8 := hKK _ (List.mem_of_getElem? (i := 3) rfl)
  dsimp only at kk8
  have kk10 := hKK _ (List.mem_of_getElem? (i := 4) rfl)
  dsimp only at kk10
  have kk9 := hKK _ (List.mem_of_getElem? (i := 5) rfl)
  dsimp only at kk9
  clear hKK
  have g1 := ofH hφ
  dsimp only at g1
  replace hφ := ofT hφ
  have g6 := ofH hφ
  dsimp only at g6
  replace hφ := ofT hφ
  have g7 := ofH hφ
  dsimp only at g7
  replace hφ := ofT hφ
  have g8 := ofH hφ
  dsimp only at g8
  replace hφ := ofT hφ
  have g10 := ofH hφ
  dsimp only at g10
  replace hφ := ofT hφ
  have g9 := ofH hφ
  dsimp only at g9
  clear hφ
  dsimp only [S7, A0y, List.foldr, List.map, List.cons_append, List.nil_append]
  generalize bs 1 = B12 at *
  generalize bs 6 = B17 at *
  generalize bs 7 = B10 at *
  generalize bs 8 = B18 at *
  generalize bs 10 = B4 at *
  generalize bs 9 = B19 at *
  generalize vs 1 = u12 at *
  generalize vs 6 = u17 at *
  generalize vs 7 = u10 at *
  generalize vs 8 = u18 at *
  generalize vs 10 = u4 at *
  generalize vs 9 = u19 at *
  obtain ⟨rfl, -⟩ := g1
  obtain ⟨rfl, -⟩ := g6
  obtain ⟨rfl, -⟩ := g7
  obtain ⟨rfl, P, hP, hPx⟩ := g8
  obtain ⟨rfl, h9⟩ := g9
  obtain ⟨b10, rfl, rfl⟩ := g10
  obtain ⟨o, ho⟩ : ∃ o, atN (rdN ws) (decide (128 ≤ ws.getD 31 0)) = o := ⟨_, rfl⟩
  rw [ho] at hPx h9
  subst h9
  have hP0 := hP
  obtain ⟨xsp, rfl, p0, p1, p2, p3, p4, p5, p6, p7, p8, p9, p10, p11, p12, p13, p14, p15, p16, p17, p18, p19, rfl, hpX, hpY, hpZ, hpT⟩ := hP
  dsimp only [nums, List.map]
  dsimp only [List.append_eq, List.nil_append, List.cons_append]
  refine N5 rfl rfl rfl (A8 rfl rfl Cel.cel kR A2L A2M UpC.upd ?_)
  refine I0 hs rfl (H8 rfl) rfl ?_
  refine N6 (E7 0 2 4 5) (A5 ?_)
  rcases o with _ | xo
  ·
   refine D2 (.range 10) [(0, 0), (1, 0), (2, 0), (3, 1), (6, 0), (7, 1), (4, 2), (5, 1), (8, 0), (9, 0)] kR kR fun hs => ?_
   refine fm_ hs ?_
   refine D1 hs rfl (A0e rfl) rfl ?_
   refine fm_ hs ?_
   refine T9 hs ?_
   refine L4 hs ?_
   refine T9 hs ?_
   refine A63 hs rfl rfl rfl rfl rfl rfl ?_
   refine T9 hs ?_
   refine L4 hs ?_
   refine D1 hs rfl (H4 rfl rfl) rfl ?_
   refine E3 (E1 2 4 29) ?_
   refine E2 rfl ?_
   refine A3 ?_
   refine A4 (F3 (place := fun x => #[(0, 5), (5, 5), (10, 5), (15, 5)][x]?) (z := [A7, A7, A7, A7, A7, A7, A7, A7, A7, A7, A7, A7, A7, A7, A7, A7, A7, A7, A7, A7]) (fun _ => by kernel_rfl) e0 bd0) rfl ?_
   refine A6 rfl (A8 rfl rfl Cel.cel kR A2L A2M UpC.upd ?_)
   refine as_ (A0 (D5 2 3) (C2 (tr ?_)))
   exact ⟨_, [], [], A1a rfl rfl rfl kR At.mem (by rfl), List.nil_sublist _, by simp, rfl, rfl, ⟨_, _, rfl, .inr ⟨A9s ho, rfl, ⟨_, rfl, _, _, _, _, _, _, _, _, _, _, _, _, _, _, _, _, _, _, _, _, rfl, K4, K4, K4, K4⟩⟩⟩⟩
  ·
   refine D2 (.range 10) [(0, 0), (1, 0), (2, 0), (3, 1), (6, 0), (4, 3), (5, 3), (7, 4), (8, 0), (9, 0)] kR kR fun hs => ?_
   refine fm_ hs ?_
   refine D1 hs rfl (A0e rfl) rfl ?_
   refine fm_ hs ?_
   refine A0d hs rfl rfl rfl rfl (qw_ 20) rfl ?_
   refine N3 hs rfl rfl rfl rfl qm_ rfl ?_
   refine N0 [⟨4, 24, fun v B R => Sl 1 v 32 (nums .u8 (pB P)) B ∧ ∀ x ∈ B, x ∈ R⟩, ⟨5, 25, fun v B _ => B = [] ∧ v = .string (txt (pB P))⟩, ⟨7, 27, fun v B _ => B = [] ∧ v = .string (txt ws)⟩]
    (C1 (fun _ _ _ _ hR h => ⟨h.1, fun x hx => hR x (h.2 x hx)⟩) (C1 (fun _ _ _ _ _ h => h) (C1 (fun _ _ _ _ _ h => h) (K3)))) (show List.Nodup [24, 25, 27] by decide) (show List.Nodup [4, 5, 7] by decide) (C1 (C7 rfl) (C1 (C7 rfl) (C1 (C7 rfl) (K3))))
    (C1 ⟨_, rfl, fun vs bs R w hb ha => ⟨.inr ⟨_, _, _, _, rfl, rfl, rfl, rfl⟩, ?_⟩⟩ (C1 ⟨_, rfl, fun vs bs R w hb ha => ⟨.inr ⟨_, _, _, _, rfl, rfl, rfl, rfl⟩, ?_⟩⟩ (C1 ⟨_, rfl, fun vs bs R w hb ha => ⟨.inr ⟨_, _, _, _, rfl, rfl, rfl, rfl⟩, ?_⟩⟩ (K3)))) ?_
   ·
    refine D7 (aS rfl a0) kR (A5e _ P hP0 _) rfl ?_
    rintro r M1 J1 ⟨rfl, hh⟩
    exact ⟨_, rfl, by simpa using hh, fun x hx => List.mem_append_left _ hx⟩
   ·
    have g4 := ha _ (List.mem_of_getElem? (i := 0) rfl) kR
    replace g4 : (fun v B R => Sl 1 v 32 (nums .u8 (pB P)) B ∧ ∀ x ∈ B, x ∈ R) (vs 4) (bs 4) R := g4
    dsimp only at g4
    obtain ⟨k4, k4s⟩ := g4
    exact OpQ.opL (Q6 rfl kR (k4.rd fun x hx => k4s x hx)) rfl ⟨_, rfl, rfl, rfl⟩
   ·
    exact OpQ.opL (Q6 rfl kR (hv.rd.mono fun x hx => hb _ (SubC.sub x hx))) rfl ⟨_, rfl, rfl, rfl⟩
   intro vs bs Jn0 hφ
   have g4 := ofH hφ
   dsimp only at g4
   replace hφ := ofT hφ
   have g5 := ofH hφ
   dsimp only at g5
   replace hφ := ofT hφ
   have g7 := ofH hφ
   dsimp only at g7
   clear hφ
   dsimp only [U0, P5, List.map, List.flatten, List.cons_append, List.nil_append]
   generalize bs 4 = B24 at *
   generalize bs 5 = B25 at *
   generalize bs 7 = B27 at *
   generalize vs 4 = u24 at *
   generalize vs 5 = u25 at *
   generalize vs 7 = u27 at *
   obtain ⟨k4, -⟩ := g4
   obtain ⟨rfl, rfl⟩ := g5
   obtain ⟨rfl, rfl⟩ := g7
   obtain rfl := hPx _ rfl
   dsimp only [List.append_eq, List.nil_append, List.cons_append]
   refine N3 hs rfl rfl rfl rfl (B2I rfl rfl rfl rfl (B3x _) hv.lt) rfl ?_
   refine D1 hs rfl (E9 rfl rfl) rfl ?_
   refine E3 (E1 2 4 29) ?_
   refine C8 rfl (fun hc => ?_) (fun hc => ?_)
   ·
    have hne : ¬ pB (pAt xo (rdN ws)) = ws := by simpa using hc
    refine A3 ?_
    refine A4 (F3 (place := fun x => #[(0, 5), (5, 5), (10, 5), (15, 5)][x]?) (z := [A7, A7, A7, A7, A7, A7, A7, A7, A7, A7, A7, A7, A7, A7, A7, A7, A7, A7, A7, A7]) (fun _ => by kernel_rfl) e0 bd0) rfl ?_
    refine A6 rfl (A8 rfl rfl Cel.cel kR A2L A2M UpC.upd ?_)
    refine as_ (A0 (D5 2 3) (C2 (tr ?_)))
    exact ⟨_, [], [], A1a rfl rfl rfl kR At.mem (by rfl), List.nil_sublist _, by simp, rfl, rfl, ⟨_, _, rfl, .inr ⟨B3M h32 ho hne, rfl, ⟨_, rfl, _, _, _, _, _, _, _, _, _, _, _, _, _, _, _, _, _, _, _, _, rfl, K4, K4, K4, K4⟩⟩⟩⟩
   ·
    have hne : pB (pAt xo (rdN ws)) = ws := by simpa using hc
    refine A9 (nx (D5 2 4) (A3 ?_))
    refine A4 (qw_ 20) rfl ?_
    refine A6 rfl (A8 rfl rfl Cel.cel kR A2L A2M UpC.upd ?_)
    refine as_ (A0 (D5 2 3) (C2 ?_))
    exact ⟨_, [], [], A1a rfl rfl rfl kR At.mem (by rfl), List.nil_sublist _, by simp, rfl, rfl, ⟨_, _, rfl, .inl ⟨_, B3N h32 ho hne, rfl, hP0⟩⟩⟩

def G8 (w : List Nat) : List Nat := (fun e : List Nat => (e.set 0 (e.getD 0 0 &&& 248)).set 31 ((e.set 0 (e.getD 0 0 &&& 248)).getD 31 0 % 128 ||| 64)) (P6 w 32)
theorem B1n (w : List Nat) : P6 w 32 = w.take 32 ++ (List.replicate 32 0).drop w.length := by unfold P6; rw [List.drop_replicate]
theorem A2h (w : List Nat) : (G8 w).length = 32 := by simp [G8, T7]
structure Lad where
  a : Nat
  b : Nat
  c : Nat
  d : Nat
def A31 (u : Nat) (s : Lad) : Lad :=
  let p := fA s.a s.b
  let q := fS s.a s.b
  let ss := fM p p
  let tt := fM q q
  let e := fS ss tt
  let da := fM (fS s.c s.d) p
  let cb := fM (fA s.c s.d) q
  ⟨fM ss tt, fM e (fA ss (fM 121665 e)), fM (fA da cb) (fA da cb), fM u (fM (fS da cb) (fS da cb))⟩
def swL (b : Bool) (s : Lad) : Lad := if b then ⟨s.c, s.d, s.a, s.b⟩ else s
def A0b (u n : Nat) : Nat → Lad
  | 0 => ⟨1, 0, u, 1⟩
  | k + 1 => (fun bt => swL bt (A31 u (swL bt (A0b u n k)))) (decide (n / 2 ^ (254 - k) % 2 = 1))
theorem A6w {u n i : Nat} (h : i < 255) : A0b u n (255 - i) = swL (decide (n / 2 ^ i % 2 = 1)) (A31 u (swL (decide (n / 2 ^ i % 2 = 1)) (A0b u n (255 - (i + 1))))) := by
  obtain ⟨k, hk⟩ : ∃ k, 255 - i = k + 1 := ⟨254 - i, by omega⟩
  have e1 : 255 - (i + 1) = k := by omega
  have e2 : i = 254 - k := by omega
  rw [hk, e1, e2]; rfl
noncomputable def x25 (s p : List Nat) : List Nat := W3 8 32 (fM (A0b (rdN p) (bv (G8 s)) 255).a (fI (A0b (rdN p) (bv (G8 s)) 255).b)) 255
def B3O : List Nat := 9 :: List.replicate 31 0
noncomputable def V3 (s : List Nat) : List Nat := x25 s B3O
theorem A5l (s p : List Nat) : (x25 s p).length = 32 := by simp [x25, L1]
theorem B5m (s p : List Nat) : ∀ x ∈ x25 s p, x < 256 := A0w _ _
theorem B5n {x : Nat} (h : x < 256) : (x &&& 248) < 256 := Nat.lt_of_le_of_lt Nat.and_le_left h
theorem or64 {x : Nat} (h : x < 128) : (x ||| 64) < 256 := Nat.lt_of_lt_of_le (Nat.or_lt_two_pow (n := 7) h (by decide)) (by decide)
theorem A6x {w : List Nat} (h : ∀ x ∈ w, x < 256) : ∀ x ∈ G8 w, x < 256 := by
  intro x hx
  have hf := A2f h 32
  unfold G8 at hx
  rcases List.mem_or_eq_of_mem_set hx with h1 | rfl
  · rcases List.mem_or_eq_of_mem_set h1 with h1 | rfl
    · exact hf x h1
    · exact B5n (Go.Px.getD_lt hf (by decide))
  · exact or64 (Nat.mod_lt _ (by decide))
theorem B7b (v : Value) (wc : List Nat) (A : Mem) (hv : By A v wc) : FnV Tryz.prog 130 [v] A (.agg (nums .u8 (G8 wc)).toArray) := by
 haveI := hv.cel
 have hvl := hv.len
 refine FnX.enter (N := 17) Tryz.func130 rfl rfl rfl fun w => ?_
 refine C4 (D8 0) (A3 ?_)
 refine A6 rfl (C5 (cs := [zu8, zu8, zu8, zu8, zu8, zu8, zu8, zu8, zu8, zu8, zu8, zu8, zu8, zu8, zu8, zu8, zu8, zu8, zu8, zu8, zu8, zu8, zu8, zu8, zu8, zu8, zu8, zu8, zu8, zu8, zu8, zu8]) kR rfl fun b2 => ?_)
 refine A0 (D5 0 2) (A3 ?_)
 refine A6 rfl (C5 (cs := [zu8, zu8, zu8, zu8, zu8, zu8, zu8, zu8, zu8, zu8, zu8, zu8, zu8, zu8, zu8, zu8, zu8, zu8, zu8, zu8, zu8, zu8, zu8, zu8, zu8, zu8, zu8, zu8, zu8, zu8, zu8, zu8]) kR rfl fun b3 => ?_)
 refine A0 (E1 0 2 3) ?_
 refine A0B (M' := [(b3, blk (nums .u8 (List.replicate 32 0)) 202), (b2, blk [.int .u8 0, .int .u8 0, .int .u8 0, .int .u8 0, .int .u8 0, .int .u8 0, .int .u8 0, .int .u8 0, .int .u8 0, .int .u8 0, .int .u8 0, .int .u8 0, .int .u8 0, .int .u8 0, .int .u8 0, .int .u8 0, .int .u8 0, .int .u8 0, .int .u8 0, .int .u8 0, .int .u8 0, .int .u8 0, .int .u8 0, .int .u8 0, .int .u8 0, .int .u8 0, .int .u8 0, .int .u8 0, .int .u8 0, .int .u8 0, .int .u8 0, .int .u8 0] 202)]) (Fit.eq rfl) (fun _ h => h) ?_
 refine A3 ?_
 refine A4 (A92 (sz := 1) (e := 5) (n := 32) rfl kR kR) rfl ?_
 refine mv_ ?_
 refine A6 rfl (B0u (e := 5) (us := wc) (ws := List.replicate 32 0) (ws' := P6 wc 32) (by_ := 1) rfl rfl kR (hv.rd.mono SubC.sub) (by simp) (B1n wc) UpC.upd rfl ?_)
 have hfl := T7 wc 32
 have hflt := A2f hv.lt 32
 have hcl : G8 wc = ((P6 wc 32).set 0 ((P6 wc 32).getD 0 0 &&& 248)).set 31 (((P6 wc 32).set 0 ((P6 wc 32).getD 0 0 &&& 248)).getD 31 0 % 128 ||| 64) := rfl
 generalize P6 wc 32 = e at *
 have he0 : e.getD 0 0 < 256 := Go.Px.getD_lt hflt (by decide)
 have he1 : (e.set 0 (e.getD 0 0 &&& 248)).getD 31 0 < 256 := Go.Px.getD_lt (fun x hx => by rcases List.mem_or_eq_of_mem_set hx with h | rfl; exact hflt x h; exact B5n he0) (by decide)
 refine A0 (D5 2 3) (A3 ?_)
 refine A4 (E5 (e := 5) (n := 32) (sz := 1) (i := 0) rfl rfl kR kR rfl (by omega)) rfl ?_
 refine A4 (Q0 0 rfl kR At.mem rfl (by omega)) rfl ?_
 refine A4 (B5J (b := 248) rfl rfl rfl (by show _ < 256; exact he0) (by decide)) rfl ?_
 refine A4 (E5 (e := 5) (n := 32) (sz := 1) (i := 0) rfl rfl kR kR rfl (by omega)) rfl ?_
 refine A6 rfl (S0 0 rfl rfl kR rfl (by omega) UpC.upd ?_)
 refine A0 (D5 2 3) (A3 ?_)
 refine A4 (E5 (e := 5) (n := 32) (sz := 1) (i := 31) rfl rfl kR kR rfl (by omega)) rfl ?_
 refine A4 (Q0 31 rfl kR At.mem rfl (by rw [List.length_set]; omega)) rfl ?_
 refine A4 (L9 7 128 rfl rfl rfl rfl rfl (by show _ < 256; exact he1) (by decide)) rfl ?_
 refine A4 (B4y (b := 64) rfl rfl rfl (by show _ < 256; exact Nat.lt_trans (Nat.mod_lt _ (by decide)) (by decide)) (by decide)) rfl ?_
 refine A4 (E5 (e := 5) (n := 32) (sz := 1) (i := 31) rfl rfl kR kR rfl (by omega)) rfl ?_
 refine A6 rfl (S0 31 rfl rfl kR rfl (by rw [List.length_set]; omega) UpC.upd ?_)
 rw [← hcl]
 have hcn := A2h wc
 refine A0 (D5 2 3) (A3 ?_)
 refine A4 (H7 (n := 32) (cs := nums .u8 (G8 wc)) rfl kR At.mem (by rw [nums_len]; omega)) rfl ?_
 refine A6 rfl (A8 (vs := nums .u8 (G8 wc)) rfl rfl rfl (by rw [nums_len, hcn]; kernel_rfl) (by rw [nums_len, hcn]; rfl) E8 UpC.upd ?_)
 refine A0 (D8 2) (C2 ?_)
 exact ⟨_, [], [], A1k (n := 32) rfl rfl kR At.mem (by rw [nums_len, hcn]), List.nil_sublist _, by simp, rfl, rfl, rfl⟩
def LadR (r : Value) (s : Lad) : Prop := ∃ v0 v1 v2 v3, r = .tuple #[v0, v1, v2, v3] ∧ Fe v0 s.a ∧ Fe v1 s.b ∧ Fe v2 s.c ∧ Fe v3 s.d
theorem A5m {xs : List Nat} {n : Nat} (h : Fe (.agg (nums .u64 xs).toArray) n) : ∃ a b c d e, xs = [a, b, c, d, e] := by
  obtain ⟨a, b, c, d, e, h1, -⟩ := h
  refine ⟨a, b, c, d, e, ?_⟩
  have h2 := congrArg Array.toList (Value.agg.inj h1)
  exact A6r (k := .u64) (b := [a, b, c, d, e]) h2
theorem B5o (vu va vb vc vd : Value) (xu xa xb xc xd : Nat) (A : Mem) (hU : Fe vu xu) (hA : Fe va xa) (hB : Fe vb xb) (hC : Fe vc xc) (hD : Fe vd xd) : FnX Tryz.prog 133 [vu, va, vb, vc, vd] [] A fun r M J => M = [] ∧ J = [] ∧ LadR r (A31 xu ⟨xa, xb, xc, xd⟩) := by
 have hU0 := hU
 obtain ⟨pu0, pu1, pu2, pu3, pu4, rfl, -⟩ := hU
 have hA0 := hA
 obtain ⟨pa0, pa1, pa2, pa3, pa4, rfl, -⟩ := hA
 have hB0 := hB
 obtain ⟨pb0, pb1, pb2, pb3, pb4, rfl, -⟩ := hB
 have hC0 := hC
 obtain ⟨pc0, pc1, pc2, pc3, pc4, rfl, -⟩ := hC
 have hD0 := hD
 obtain ⟨pd0, pd1, pd2, pd3, pd4, rfl, -⟩ := hD
 refine FnX.enter (N := 68) Tryz.func133 rfl rfl rfl fun w => ?_
 refine C4 (F7 0 1 2 3 4) (A3 ?_)
 refine A6 rfl (bx_ fun b5 => ?_)
 refine A6 rfl (bx_ fun b6 => ?_)
 refine A6 rfl (bx_ fun b7 => ?_)
 refine A6 rfl (bx_ fun b8 => ?_)
 refine A6 rfl (bx_ fun b9 => ?_)
 refine A6 rfl (C5 (cs := [A7, A7, A7, A7, A7]) kR rfl fun b10 => ?_)
 refine A6 rfl (C5 (cs := [A7, A7, A7, A7, A7]) kR rfl fun b11 => ?_)
 refine A6 rfl (C5 (cs := [A7, A7, A7, A7, A7]) kR rfl fun b12 => ?_)
 refine A6 rfl (C5 (cs := [A7, A7, A7, A7, A7]) kR rfl fun b13 => ?_)
 refine A0 (A6U 5 6 7 8 9 10 11 12 13) ?_
 refine D2 (.range 8) [(0, 1), (1, 1), (3, 1), (4, 1), (2, 3), (5, 3), (6, 3), (7, 4), (8, 2), (9, 2)] kR kR fun hs => ?_
 refine F6 hs rfl (qw_ 5) rfl ?_
 refine F6 hs rfl (qw_ 5) rfl ?_
 refine F6 hs rfl (qw_ 5) rfl ?_
 refine F6 hs rfl (qw_ 5) rfl ?_
 refine N0 [⟨2, 25, fun v B _ => B = [] ∧ Fe v (fA xa xb)⟩, ⟨5, 28, fun v B _ => B = [] ∧ Fe v (fS xa xb)⟩, ⟨6, 14, fun v B _ => ∃ b, v = .pointer (some ⟨b, 0, none⟩) ∧ B = [(b, blk [.int .u64 0, .int .u64 0, .int .u64 0, .int .u64 0, .int .u64 0] 205)]⟩, ⟨7, 15, fun v B _ => ∃ b, v = .pointer (some ⟨b, 0, none⟩) ∧ B = [(b, blk [.int .u64 0, .int .u64 0, .int .u64 0, .int .u64 0, .int .u64 0] 205)]⟩]
  (C1 (fun _ _ _ _ _ h => h) (C1 (fun _ _ _ _ _ h => h) (C1 (fun _ _ _ _ _ h => h) (C1 (fun _ _ _ _ _ h => h) (K3))))) (show List.Nodup [25, 28, 14, 15] by decide) (show List.Nodup [2, 5, 6, 7] by decide) (C1 (C7 rfl) (C1 (C7 rfl) (C1 (C7 rfl) (C1 (C7 rfl) (K3)))))
  (C1 ⟨_, rfl, fun vs bs R w hb ha => ⟨.inl rfl, ?_⟩⟩ (C1 ⟨_, rfl, fun vs bs R w hb ha => ⟨.inl rfl, ?_⟩⟩ (C1 ⟨_, rfl, fun vs bs R w hb ha => ⟨.inl rfl, ?_⟩⟩ (C1 ⟨_, rfl, fun vs bs R w hb ha => ⟨.inl rfl, ?_⟩⟩ (K3))))) ?_
 ·
  refine D7 (aS rfl (aS rfl (a0))) kR (A3Z hA0 hB0 _) rfl ?_
  rintro r M1 J1 ⟨rfl, rfl, hh⟩
  exact ⟨_, rfl, rfl, hh⟩
 ·
  refine D7 (aS rfl (aS rfl (a0))) kR (A5a hA0 hB0 _) rfl ?_
  rintro r M1 J1 ⟨rfl, rfl, hh⟩
  exact ⟨_, rfl, rfl, hh⟩
 ·
  exact C5 (cs := [A7, A7, A7, A7, A7]) kR rfl fun b => ⟨_, rfl, b, rfl, rfl⟩
 ·
  exact C5 (cs := [A7, A7, A7, A7, A7]) kR rfl fun b => ⟨_, rfl, b, rfl, rfl⟩
 intro vs bs Jn0 hφ
 have g2 := ofH hφ
 dsimp only at g2
 replace hφ := ofT hφ
 have g5 := ofH hφ
 dsimp only at g5
 replace hφ := ofT hφ
 have g6 := ofH hφ
 dsimp only at g6
 replace hφ := ofT hφ
 have g7 := ofH hφ
 dsimp only at g7
 clear hφ
 dsimp only [U0, P5, List.map, List.flatten, List.cons_append, List.nil_append]
 generalize bs 2 = B25 at *
 generalize bs 5 = B28 at *
 generalize bs 6 = B14 at *
 generalize bs 7 = B15 at *
 generalize vs 2 = u25 at *
 generalize vs 5 = u28 at *
 generalize vs 6 = u14 at *
 generalize vs 7 = u15 at *
 obtain ⟨rfl, k2⟩ := g2
 have h2 := k2
 obtain ⟨a2, b2, c2, d2, e2, rfl, -⟩ := k2
 obtain ⟨rfl, k5⟩ := g5
 have h5 := k5
 obtain ⟨a5, b5, c5, d5, e5, rfl, -⟩ := k5
 obtain ⟨b6, rfl, rfl⟩ := g6
 obtain ⟨b7, rfl, rfl⟩ := g7
 dsimp only [List.append_eq, List.nil_append, List.cons_append]
 have hp := h2
 have hq := h5
 clear h2 h5
 refine G2 rfl rfl rfl (A8 rfl rfl Cel.cel kR ln5 al5 UpC.upd ?_)
 refine G2 rfl rfl rfl (A8 rfl rfl Cel.cel kR ln5 al5 UpC.upd ?_)
 refine E3 (A6U 5 8 9 10 11 12 13 14 15) ?_
 refine D2 [0, 1, 2, 3, 4, 5] [(0, 1), (2, 1), (1, 3), (3, 3), (4, 3), (5, 4), (6, 2), (7, 2)] kR kR fun hs => ?_
 refine F6 hs rfl (qw_ 5) rfl ?_
 refine F6 hs rfl (qw_ 5) rfl ?_
 refine N0 [⟨1, 30, fun v B _ => B = [] ∧ Fe v (fM (fA xa xb) (fA xa xb))⟩, ⟨3, 32, fun v B _ => B = [] ∧ Fe v (fM (fS xa xb) (fS xa xb))⟩, ⟨4, 16, fun v B _ => ∃ b, v = .pointer (some ⟨b, 0, none⟩) ∧ B = [(b, blk [.int .u64 0, .int .u64 0, .int .u64 0, .int .u64 0, .int .u64 0] 205)]⟩, ⟨5, 17, fun v B _ => ∃ b, v = .pointer (some ⟨b, 0, none⟩) ∧ B = [(b, blk [.int .u64 0, .int .u64 0, .int .u64 0, .int .u64 0, .int .u64 0] 205)]⟩]
  (C1 (fun _ _ _ _ _ h => h) (C1 (fun _ _ _ _ _ h => h) (C1 (fun _ _ _ _ _ h => h) (C1 (fun _ _ _ _ _ h => h) (K3))))) (show List.Nodup [30, 32, 16, 17] by decide) (show List.Nodup [1, 3, 4, 5] by decide) (C1 (C7 rfl) (C1 (C7 rfl) (C1 (C7 rfl) (C1 (C7 rfl) (K3)))))
  (C1 ⟨_, rfl, fun vs bs R w hb ha => ⟨.inl rfl, ?_⟩⟩ (C1 ⟨_, rfl, fun vs bs R w hb ha => ⟨.inl rfl, ?_⟩⟩ (C1 ⟨_, rfl, fun vs bs R w hb ha => ⟨.inl rfl, ?_⟩⟩ (C1 ⟨_, rfl, fun vs bs R w hb ha => ⟨.inl rfl, ?_⟩⟩ (K3))))) ?_
 ·
  refine D7 (aS rfl (a0)) kR (B8L hp _) rfl ?_
  rintro r M1 J1 ⟨rfl, rfl, hh⟩
  exact ⟨_, rfl, rfl, hh⟩
 ·
  refine D7 (aS rfl (a0)) kR (B8L hq _) rfl ?_
  rintro r M1 J1 ⟨rfl, rfl, hh⟩
  exact ⟨_, rfl, rfl, hh⟩
 ·
  exact C5 (cs := [A7, A7, A7, A7, A7]) kR rfl fun b => ⟨_, rfl, b, rfl, rfl⟩
 ·
  exact C5 (cs := [A7, A7, A7, A7, A7]) kR rfl fun b => ⟨_, rfl, b, rfl, rfl⟩
 intro vs bs Jn0 hφ
 have g1 := ofH hφ
 dsimp only at g1
 replace hφ := ofT hφ
 have g3 := ofH hφ
 dsimp only at g3
 replace hφ := ofT hφ
 have g4 := ofH hφ
 dsimp only at g4
 replace hφ := ofT hφ
 have g5 := ofH hφ
 dsimp only at g5
 clear hφ
 dsimp only [U0, P5, List.map, List.flatten, List.cons_append, List.nil_append]
 generalize bs 1 = B30 at *
 generalize bs 3 = B32 at *
 generalize bs 4 = B16 at *
 generalize bs 5 = B17 at *
 generalize vs 1 = u30 at *
 generalize vs 3 = u32 at *
 generalize vs 4 = u16 at *
 generalize vs 5 = u17 at *
 obtain ⟨rfl, k1⟩ := g1
 have h1 := k1
 obtain ⟨a1, b1, c1, d1, e1, rfl, -⟩ := k1
 obtain ⟨rfl, k3⟩ := g3
 have h3 := k3
 obtain ⟨a3, b3, c3, d3, e3, rfl, -⟩ := k3
 obtain ⟨b4, rfl, rfl⟩ := g4
 obtain ⟨b5, rfl, rfl⟩ := g5
 dsimp only [List.append_eq, List.nil_append, List.cons_append]
 have hss := h1
 have htt := h3
 clear h1 h3
 refine G2 rfl rfl rfl (A8 rfl rfl Cel.cel kR ln5 al5 UpC.upd ?_)
 refine G2 rfl rfl rfl (A8 rfl rfl Cel.cel kR ln5 al5 UpC.upd ?_)
 refine E3 (kq 5 (kq 8 (A6U 9 10 11 12 13 14 15 16 17))) ?_
 refine A3 ?_
 refine A4 (qw_ 5) rfl ?_
 refine A4 (qw_ 5) rfl ?_
 refine C9 (aS rfl (aS rfl a0)) kR (A5a hss htt _) rfl ?_
 rintro r35 M35 J35 ⟨rfl, rfl, k35⟩
 have h35 := k35
 obtain ⟨a35, b35, c35, d35, e35, rfl, -⟩ := k35
 refine A6 rfl (C5 (cs := [A7, A7, A7, A7, A7]) kR rfl fun b18 => ?_)
 refine A6 rfl (A8 rfl rfl Cel.cel kR ln5 al5 UpC.upd ?_)
 refine A0 (kq 5 (kq 8 (kq 9 (A6U 10 11 12 13 14 15 16 17 18)))) ?_
 refine D2 [0, 1, 2, 3, 4, 5] [(0, 1), (1, 1), (3, 1), (2, 3), (4, 3), (5, 4), (6, 2)] kR kR fun hs => ?_
 refine F6 hs rfl (qw_ 5) rfl ?_
 refine F6 hs rfl (qw_ 5) rfl ?_
 refine F6 hs rfl (qw_ 5) rfl ?_
 refine N0 [⟨2, 38, fun v B _ => B = [] ∧ Fe v (fS xc xd)⟩, ⟨4, 40, fun v B _ => B = [] ∧ Fe v (fM (fS xc xd) (fA xa xb))⟩, ⟨5, 19, fun v B _ => ∃ b, v = .pointer (some ⟨b, 0, none⟩) ∧ B = [(b, blk [.int .u64 0, .int .u64 0, .int .u64 0, .int .u64 0, .int .u64 0] 205)]⟩]
  (C1 (fun _ _ _ _ _ h => h) (C1 (fun _ _ _ _ _ h => h) (C1 (fun _ _ _ _ _ h => h) (K3)))) (show List.Nodup [38, 40, 19] by decide) (show List.Nodup [2, 4, 5] by decide) (C1 (C7 rfl) (C1 (C7 rfl) (C1 (C7 rfl) (K3))))
  (C1 ⟨_, rfl, fun vs bs R w hb ha => ⟨.inl rfl, ?_⟩⟩ (C1 ⟨_, rfl, fun vs bs R w hb ha => ⟨.inl rfl, ?_⟩⟩ (C1 ⟨_, rfl, fun vs bs R w hb ha => ⟨.inl rfl, ?_⟩⟩ (K3)))) ?_
 ·
  refine D7 (aS rfl (aS rfl (a0))) kR (A5a hC0 hD0 _) rfl ?_
  rintro r M1 J1 ⟨rfl, rfl, hh⟩
  exact ⟨_, rfl, rfl, hh⟩
 ·
  have g2 := ha _ (List.mem_of_getElem? (i := 0) rfl) kR
  replace g2 : (fun v B _ => B = [] ∧ Fe v (fS xc xd)) (vs 2) (bs 2) R := g2
  dsimp only at g2
  obtain ⟨-, k2⟩ := g2
  refine D7 (aS rfl (aS rfl (a0))) kR (R7 k2 hp _) rfl ?_
  rintro r M1 J1 ⟨rfl, rfl, hh⟩
  exact ⟨_, rfl, rfl, hh⟩
 ·
  exact C5 (cs := [A7, A7, A7, A7, A7]) kR rfl fun b => ⟨_, rfl, b, rfl, rfl⟩
 intro vs bs Jn0 hφ
 have g2 := ofH hφ
 dsimp only at g2
 replace hφ := ofT hφ
 have g4 := ofH hφ
 dsimp only at g4
 replace hφ := ofT hφ
 have g5 := ofH hφ
 dsimp only at g5
 clear hφ
 dsimp only [U0, P5, List.map, List.flatten, List.cons_append, List.nil_append]
 generalize bs 2 = B38 at *
 generalize bs 4 = B40 at *
 generalize bs 5 = B19 at *
 generalize vs 2 = u38 at *
 generalize vs 4 = u40 at *
 generalize vs 5 = u19 at *
 obtain ⟨rfl, k2⟩ := g2
 have h2 := k2
 obtain ⟨a2, b2, c2, d2, e2, rfl, -⟩ := k2
 obtain ⟨rfl, k4⟩ := g4
 have h4 := k4
 obtain ⟨a4, b4, c4, d4, e4, rfl, -⟩ := k4
 obtain ⟨b5, rfl, rfl⟩ := g5
 dsimp only [List.append_eq, List.nil_append, List.cons_append]
 have hda := h4
 clear h2 h4
 refine G2 rfl rfl rfl (A8 rfl rfl Cel.cel kR ln5 al5 UpC.upd ?_)
 refine E3 (kq 5 (kq 8 (kq 9 (A6U 10 11 12 13 15 16 17 18 19)))) ?_
 refine D2 [0, 1, 2, 3, 4, 5] [(0, 1), (1, 1), (3, 1), (2, 3), (4, 3), (5, 4), (6, 2)] kR kR fun hs => ?_
 refine F6 hs rfl (qw_ 5) rfl ?_
 refine F6 hs rfl (qw_ 5) rfl ?_
 refine F6 hs rfl (qw_ 5) rfl ?_
 refine N0 [⟨2, 43, fun v B _ => B = [] ∧ Fe v (fA xc xd)⟩, ⟨4, 45, fun v B _ => B = [] ∧ Fe v (fM (fA xc xd) (fS xa xb))⟩, ⟨5, 20, fun v B _ => ∃ b, v = .pointer (some ⟨b, 0, none⟩) ∧ B = [(b, blk [.int .u64 0, .int .u64 0, .int .u64 0, .int .u64 0, .int .u64 0] 205)]⟩]
  (C1 (fun _ _ _ _ _ h => h) (C1 (fun _ _ _ _ _ h => h) (C1 (fun _ _ _ _ _ h => h) (K3)))) (show List.Nodup [43, 45, 20] by decide) (show List.Nodup [2, 4, 5] by decide) (C1 (C7 rfl) (C1 (C7 rfl) (C1 (C7 rfl) (K3))))
  (C1 ⟨_, rfl, fun vs bs R w hb ha => ⟨.inl rfl, ?_⟩⟩ (C1 ⟨_, rfl, fun vs bs R w hb ha => ⟨.inl rfl, ?_⟩⟩ (C1 ⟨_, rfl, fun vs bs R w hb ha => ⟨.inl rfl, ?_⟩⟩ (K3)))) ?_
 ·
  refine D7 (aS rfl (aS rfl (a0))) kR (A3Z hC0 hD0 _) rfl ?_
  rintro r M1 J1 ⟨rfl, rfl, hh⟩
  exact ⟨_, rfl, rfl, hh⟩
 ·
  have g2 := ha _ (List.mem_of_getElem? (i := 0) rfl) kR
  replace g2 : (fun v B _ => B = [] ∧ Fe v (fA xc xd)) (vs 2) (bs 2) R := g2
  dsimp only at g2
  obtain ⟨-, k2⟩ := g2
  refine D7 (aS rfl (aS rfl (a0))) kR (R7 k2 hq _) rfl ?_
  rintro r M1 J1 ⟨rfl, rfl, hh⟩
  exact ⟨_, rfl, rfl, hh⟩
 ·
  exact C5 (cs := [A7, A7, A7, A7, A7]) kR rfl fun b => ⟨_, rfl, b, rfl, rfl⟩
 intro vs bs Jn0 hφ
 have g2 := ofH hφ
 dsimp only at g2
 replace hφ := ofT hφ
 have g4 := ofH hφ
 dsimp only at g4
 replace hφ := ofT hφ
 have g5 := ofH hφ
 dsimp only at g5
 clear hφ
 dsimp only [U0, P5, List.map, List.flatten, List.cons_append, List.nil_append]
 generalize bs 2 = B43 at *
 generalize bs 4 = B45 at *
 generalize bs 5 = B20 at *
 generalize vs 2 = u43 at *
 generalize vs 4 = u45 at *
 generalize vs 5 = u20 at *
 obtain ⟨rfl, k2⟩ := g2
 have h2 := k2
 obtain ⟨a2, b2, c2, d2, e2, rfl, -⟩ := k2
 obtain ⟨rfl, k4⟩ := g4
 have h4 := k4
 obtain ⟨a4, b4, c4, d4, e4, rfl, -⟩ := k4
 obtain ⟨b5, rfl, rfl⟩ := g5
 dsimp only [List.append_eq, List.nil_append, List.cons_append]
 have hcb := h4
 clear h2 h4
 refine G2 rfl rfl rfl (A8 rfl rfl Cel.cel kR ln5 al5 UpC.upd ?_)
 refine E3 (kq 5 (A6U 10 11 12 13 16 17 18 19 20)) (A3 ?_)
 refine A4 (qw_ 5) rfl ?_
 refine A4 (qw_ 5) rfl ?_
 refine C9 (aS rfl (aS rfl a0)) kR (A3Z hda hcb _) rfl ?_
 rintro r48 M48 J48 ⟨rfl, rfl, k48⟩
 have h48 := k48
 obtain ⟨a48, b48, c48, d48, e48, rfl, -⟩ := k48
 refine C9 (aS rfl a0) kR (B8L h48 _) rfl ?_
 rintro r49 M49 J49 ⟨rfl, rfl, k49⟩
 have h49 := k49
 obtain ⟨a49, b49, c49, d49, e49, rfl, -⟩ := k49
 refine A6 rfl (C5 (cs := [A7, A7, A7, A7, A7]) kR rfl fun b21 => ?_)
 refine A6 rfl (A8 rfl rfl Cel.cel kR ln5 al5 UpC.upd ?_)
 refine A0 (kq 5 (kq 10 (A6U 11 12 13 16 17 18 19 20 21))) ?_
 refine D2 (.range 7) (zp 0 [1, 1, 1, 3, 3, 3, 4, 2]) kR kR fun hs => ?_
 refine F6 hs rfl (qw_ 5) rfl ?_
 refine F6 hs rfl (qw_ 5) rfl ?_
 refine F6 hs rfl (qw_ 5) rfl ?_
 refine N0 [⟨3, 53, fun v B _ => B = [] ∧ Fe v (fS (fM (fS xc xd) (fA xa xb)) (fM (fA xc xd) (fS xa xb)))⟩, ⟨4, 54, fun v B _ => B = [] ∧ Fe v (fM (fS (fM (fS xc xd) (fA xa xb)) (fM (fA xc xd) (fS xa xb))) (fS (fM (fS xc xd) (fA xa xb)) (fM (fA xc xd) (fS xa xb))))⟩, ⟨5, 55, fun v B _ => B = [] ∧ Fe v (fM xu (fM (fS (fM (fS xc xd) (fA xa xb)) (fM (fA xc xd) (fS xa xb))) (fS (fM (fS xc xd) (fA xa xb)) (fM (fA xc xd) (fS xa xb)))))⟩, ⟨6, 22, fun v B _ => ∃ b, v = .pointer (some ⟨b, 0, none⟩) ∧ B = [(b, blk [.int .u64 0, .int .u64 0, .int .u64 0, .int .u64 0, .int .u64 0] 205)]⟩]
  (C1 (fun _ _ _ _ _ h => h) (C1 (fun _ _ _ _ _ h => h) (C1 (fun _ _ _ _ _ h => h) (C1 (fun _ _ _ _ _ h => h) (K3))))) (show List.Nodup [53, 54, 55, 22] by decide) (show List.Nodup [3, 4, 5, 6] by decide) (C1 (C7 rfl) (C1 (C7 rfl) (C1 (C7 rfl) (C1 (C7 rfl) (K3)))))
  (C1 ⟨_, rfl, fun vs bs R w hb ha => ⟨.inl rfl, ?_⟩⟩ (C1 ⟨_, rfl, fun vs bs R w hb ha => ⟨.inl rfl, ?_⟩⟩ (C1 ⟨_, rfl, fun vs bs R w hb ha => ⟨.inl rfl, ?_⟩⟩ (C1 ⟨_, rfl, fun vs bs R w hb ha => ⟨.inl rfl, ?_⟩⟩ (K3))))) ?_
 ·
  refine D7 (aS rfl (aS rfl (a0))) kR (A5a hda hcb _) rfl ?_
  rintro r M1 J1 ⟨rfl, rfl, hh⟩
  exact ⟨_, rfl, rfl, hh⟩
 ·
  have g3 := ha _ (List.mem_of_getElem? (i := 0) rfl) kR
  replace g3 : (fun v B _ => B = [] ∧ Fe v (fS (fM (fS xc xd) (fA xa xb)) (fM (fA xc xd) (fS xa xb)))) (vs 3) (bs 3) R := g3
  dsimp only at g3
  obtain ⟨-, k3⟩ := g3
  refine D7 (aS rfl (a0)) kR (B8L k3 _) rfl ?_
  rintro r M1 J1 ⟨rfl, rfl, hh⟩
  exact ⟨_, rfl, rfl, hh⟩
 ·
  have g4 := ha _ (List.mem_of_getElem? (i := 1) rfl) kR
  replace g4 : (fun v B _ => B = [] ∧ Fe v (fM (fS (fM (fS xc xd) (fA xa xb)) (fM (fA xc xd) (fS xa xb))) (fS (fM (fS xc xd) (fA xa xb)) (fM (fA xc xd) (fS xa xb))))) (vs 4) (bs 4) R := g4
  dsimp only at g4
  obtain ⟨-, k4⟩ := g4
  refine D7 (aS rfl (aS rfl (a0))) kR (R7 hU0 k4 _) rfl ?_
  rintro r M1 J1 ⟨rfl, rfl, hh⟩
  exact ⟨_, rfl, rfl, hh⟩
 ·
  exact C5 (cs := [A7, A7, A7, A7, A7]) kR rfl fun b => ⟨_, rfl, b, rfl, rfl⟩
 intro vs bs Jn0 hφ
 have g3 := ofH hφ
 dsimp only at g3
 replace hφ := ofT hφ
 have g4 := ofH hφ
 dsimp only at g4
 replace hφ := ofT hφ
 have g5 := ofH hφ
 dsimp only at g5
 replace hφ := ofT hφ
 have g6 := ofH hφ
 dsimp only at g6
 clear hφ
 dsimp only [U0, P5, List.map, List.flatten, List.cons_append, List.nil_append]
 generalize bs 3 = B53 at *
 generalize bs 4 = B54 at *
 generalize bs 5 = B55 at *
 generalize bs 6 = B22 at *
 generalize vs 3 = u53 at *
 generalize vs 4 = u54 at *
 generalize vs 5 = u55 at *
 generalize vs 6 = u22 at *
 obtain ⟨rfl, k3⟩ := g3
 have h3 := k3
 obtain ⟨a3, b3, c3, d3, e3, rfl, -⟩ := k3
 obtain ⟨rfl, k4⟩ := g4
 have h4 := k4
 obtain ⟨a4, b4, c4, d4, e4, rfl, -⟩ := k4
 obtain ⟨rfl, k5⟩ := g5
 have h5 := k5
 obtain ⟨a5, b5, c5, d5, e5, rfl, -⟩ := k5
 obtain ⟨b6, rfl, rfl⟩ := g6
 dsimp only [List.append_eq, List.nil_append, List.cons_append]
 have hzz := h5
 clear h3 h4 h5
 refine G2 rfl rfl rfl (A8 rfl rfl Cel.cel kR ln5 al5 UpC.upd ?_)
 refine E3 (A6U 10 11 12 13 16 17 18 21 22) ?_
 refine H5 ([(b10, blk [.int .u64 0, .int .u64 0, .int .u64 0, .int .u64 0, .int .u64 0] 205), (b11, blk [.int .u64 0, .int .u64 0, .int .u64 0, .int .u64 0, .int .u64 0] 205), (b12, blk [.int .u64 0, .int .u64 0, .int .u64 0, .int .u64 0, .int .u64 0] 205), (b13, blk [.int .u64 0, .int .u64 0, .int .u64 0, .int .u64 0, .int .u64 0] 205)]) (_) true (.range 15) [(0, 1), (1, 1), (3, 1), (4, 1), (6, 1), (10, 1), (11, 1), (2, 2), (5, 2), (7, 2), (8, 2), (9, 2), (12, 2), (13, 2), (14, 2), (15, 2)] kR kR PickC.perm fun hs K n0 hKm hKs hKn => ?_
 refine P0 hs rfl hKs (qw_ 5) ?_
 refine P0 hs rfl hKs (qw_ 5) ?_
 refine P0 hs rfl hKs (qw_ 5) ?_
 refine P0 hs rfl hKs (qw_ 5) ?_
 refine P0 hs rfl hKs (qw_ 5) ?_
 refine P0 hs rfl hKs (qw_ 5) ?_
 refine P0 hs rfl hKs (qw_ 5) ?_
 refine K0 [] _ rfl rfl (List.Perm.refl _) (fun _ h => by cases h) fun w0 => (D7 (aS rfl (aS rfl a0)) kR (R7 hss htt _) rfl ?_)
 rintro r58 M58 J58 ⟨rfl, rfl, k58⟩ _
 have h58 := k58
 obtain ⟨a58, b58, c58, d58, e58, rfl, -⟩ := k58
 dsimp only [List.nil_append, List.append_eq]
 refine K0 [] _ rfl rfl (List.Perm.refl _) (fun _ h => by cases h) fun w0 => (D7 (aS rfl a0) kR (A0I 121665 (by decide) _) rfl ?_)
 rintro r61 M61 J61 ⟨rfl, rfl, k61⟩ _
 have h61 := k61
 obtain ⟨a61, b61, c61, d61, e61, rfl, -⟩ := k61
 dsimp only [List.nil_append, List.append_eq]
 refine K0 [] _ rfl rfl (List.Perm.refl _) (fun _ h => by cases h) fun w0 => (D7 (aS rfl (aS rfl a0)) kR (R7 h61 h35 _) rfl ?_)
 rintro r63 M63 J63 ⟨rfl, rfl, k63⟩ _
 have h63 := k63
 obtain ⟨a63, b63, c63, d63, e63, rfl, -⟩ := k63
 dsimp only [List.nil_append, List.append_eq]
 refine K0 [] _ rfl rfl (List.Perm.refl _) (fun _ h => by cases h) fun w0 => (D7 (aS rfl (aS rfl a0)) kR (A3Z hss h63 _) rfl ?_)
 rintro r64 M64 J64 ⟨rfl, rfl, k64⟩ _
 have h64 := k64
 obtain ⟨a64, b64, c64, d64, e64, rfl, -⟩ := k64
 dsimp only [List.nil_append, List.append_eq]
 refine K0 [] _ rfl rfl (List.Perm.refl _) (fun _ h => by cases h) fun w0 => (D7 (aS rfl (aS rfl a0)) kR (R7 h35 h64 _) rfl ?_)
 rintro r65 M65 J65 ⟨rfl, rfl, k65⟩ _
 have h65 := k65
 obtain ⟨a65, b65, c65, d65, e65, rfl, -⟩ := k65
 dsimp only [List.nil_append, List.append_eq]
 refine K0 _ _ rfl rfl (List.Perm.refl _) hKm fun w0 => (A8 (vs := [.int .u64 (a58 : Int), .int .u64 (b58 : Int), .int .u64 (c58 : Int), .int .u64 (d58 : Int), .int .u64 (e58 : Int)]) rfl rfl rfl kR (by rfl) al5 UpC.upd ?_)
 intro hK12
 refine K0 _ _ rfl rfl (List.Perm.refl _) (hK12 (hKn rfl)) fun w0 => (A8 (vs := [.int .u64 (a65 : Int), .int .u64 (b65 : Int), .int .u64 (c65 : Int), .int .u64 (d65 : Int), .int .u64 (e65 : Int)]) rfl rfl rfl kR (by rfl) al5 UpC.upd ?_)
 intro hK13
 refine K0 _ _ rfl rfl (List.Perm.refl _) (hK13 (hKn rfl)) fun w0 => (A8 (vs := [.int .u64 (a49 : Int), .int .u64 (b49 : Int), .int .u64 (c49 : Int), .int .u64 (d49 : Int), .int .u64 (e49 : Int)]) rfl rfl rfl kR (by rfl) al5 UpC.upd ?_)
 intro hK14
 refine N5 rfl rfl rfl (A8 rfl rfl Cel.cel kR ln5 al5 UpC.upd ?_)
 refine N6 (E7 10 11 12 13) (C2 ?_)
 exact ⟨_, [], [], C0n (n := 5) rfl rfl rfl rfl rfl kR At.mem At.mem At.mem At.mem rfl rfl rfl rfl, List.nil_sublist _, by simp, rfl, rfl, _, _, _, _, rfl, h58, h65, h49, hzz⟩
theorem B5p (v vp : Value) (wu wp : List Nat) (A : Mem) (hv : By A v wu) (hp : By A vp wp) : FnX Tryz.prog 98 [v, vp] [] A fun r M J => M = [] ∧ By J r (x25 wu wp) := by
 haveI := hv.cel
 haveI := hp.cel
 have hvl := hv.len
 have hpl := hp.len
 refine FnX.enter (N := 60) Tryz.func98 rfl rfl rfl fun w => ?_
 refine C4 (D5 0 1) (A3 (as_ (A0 (D5 0 1) (A3 (mv_ ?_)))))
 refine F8 (aS rfl a0) kR (B7b _ wu _ (hv.mono SubC.sub)) rfl ?_
 have hcn := A2h wu
 have hc256 := A6x hv.lt
 refine A6 rfl (C5 (cs := [zu8, zu8, zu8, zu8, zu8, zu8, zu8, zu8, zu8, zu8, zu8, zu8, zu8, zu8, zu8, zu8, zu8, zu8, zu8, zu8, zu8, zu8, zu8, zu8, zu8, zu8, zu8, zu8, zu8, zu8, zu8, zu8]) kR rfl fun b5 => ?_)
 refine A6 rfl (A8 (vs := nums .u8 (G8 wu)) rfl rfl rfl (by rw [nums_len, hcn]; kernel_rfl) (by rw [nums_len, hcn]; rfl) E8 UpC.upd ?_)
 refine A0 (D5 1 5) (A3 (mv_ ?_))
 refine C9 (aS rfl a0) kR (A4m vp wp _ (hp.rd.mono SubC.sub) hp.lt (by omega)) rfl ?_
 rintro r16 M16 J16 ⟨rfl, rfl, hU⟩
 have hUz := hU
 obtain ⟨ux0, ux1, ux2, ux3, ux4, rfl, -⟩ := hU
 refine A6 rfl (C5 (cs := [A7, A7, A7, A7, A7]) kR rfl fun b6 => ?_)
 refine A6 rfl (A8 (vs := [.int .u64 (ux0 : Int), .int .u64 (ux1 : Int), .int .u64 (ux2 : Int), .int .u64 (ux3 : Int), .int .u64 (ux4 : Int)]) rfl rfl rfl kR (by rfl) al5 UpC.upd ?_)
 refine A0 (D5 5 6) ?_
 refine H5 ([]) (_) true (.range 10) [(2, 1), (0, 3), (1, 3), (3, 3), (4, 3), (5, 3), (6, 3), (7, 4), (8, 2), (9, 2), (10, 2), (11, 2)] kR kR PickC.perm fun hs K n0 hKm hKs hKn => ?_
 refine P0 hs rfl hKs (qw_ 5) ?_
 refine A5Y [⟨0, 17, fun v B _ => B = [] ∧ Fe v (1)⟩, ⟨1, 18, fun v B _ => B = [] ∧ Fe v (0)⟩, ⟨3, 20, fun v B _ => B = [] ∧ Fe v (1)⟩, ⟨4, 7, fun v B _ => ∃ b, v = .pointer (some ⟨b, 0, none⟩) ∧ B = [(b, blk [.int .u64 0, .int .u64 0, .int .u64 0, .int .u64 0, .int .u64 0] 205)]⟩, ⟨5, 8, fun v B _ => ∃ b, v = .pointer (some ⟨b, 0, none⟩) ∧ B = [(b, blk [.int .u64 0, .int .u64 0, .int .u64 0, .int .u64 0, .int .u64 0] 205)]⟩, ⟨6, 9, fun v B _ => ∃ b, v = .pointer (some ⟨b, 0, none⟩) ∧ B = [(b, blk [.int .u64 0, .int .u64 0, .int .u64 0, .int .u64 0, .int .u64 0] 205)]⟩, ⟨7, 10, fun v B _ => ∃ b, v = .pointer (some ⟨b, 0, none⟩) ∧ B = [(b, blk [.int .u64 0, .int .u64 0, .int .u64 0, .int .u64 0, .int .u64 0] 205)]⟩]
  (C1 (fun _ _ _ _ _ h => h) (C1 (fun _ _ _ _ _ h => h) (C1 (fun _ _ _ _ _ h => h) (C1 (fun _ _ _ _ _ h => h) (C1 (fun _ _ _ _ _ h => h) (C1 (fun _ _ _ _ _ h => h) (C1 (fun _ _ _ _ _ h => h) (K3)))))))) (show List.Nodup [17, 18, 20, 7, 8, 9, 10] by decide) (show List.Nodup [0, 1, 3, 4, 5, 6, 7] by decide) (C1 (C7 rfl) (C1 (C7 rfl) (C1 (C7 rfl) (C1 (C7 rfl) (C1 (C7 rfl) (C1 (C7 rfl) (C1 (C7 rfl) (K3))))))))
  (C1 ⟨_, rfl, fun vs bs R w hb ha => ⟨.inl rfl, ?_⟩⟩ (C1 ⟨_, rfl, fun vs bs R w hb ha => ⟨.inl rfl, ?_⟩⟩ (C1 ⟨_, rfl, fun vs bs R w hb ha => ⟨.inl rfl, ?_⟩⟩ (C1 ⟨_, rfl, fun vs bs R w hb ha => ⟨.inl rfl, ?_⟩⟩ (C1 ⟨_, rfl, fun vs bs R w hb ha => ⟨.inl rfl, ?_⟩⟩ (C1 ⟨_, rfl, fun vs bs R w hb ha => ⟨.inl rfl, ?_⟩⟩ (C1 ⟨_, rfl, fun vs bs R w hb ha => ⟨.inl rfl, ?_⟩⟩ (K3)))))))) ?_
 ·
  refine D7 (aS rfl a0) kR (A0I 1 (by decide) _) rfl ?_
  rintro r M1 J1 ⟨rfl, rfl, hh⟩
  exact ⟨_, rfl, rfl, hh⟩
 ·
  refine D7 (aS rfl a0) kR (A0I 0 (by decide) _) rfl ?_
  rintro r M1 J1 ⟨rfl, rfl, hh⟩
  exact ⟨_, rfl, rfl, hh⟩
 ·
  refine D7 (aS rfl a0) kR (A0I 1 (by decide) _) rfl ?_
  rintro r M1 J1 ⟨rfl, rfl, hh⟩
  exact ⟨_, rfl, rfl, hh⟩
 ·
  exact C5 (cs := [A7, A7, A7, A7, A7]) kR rfl fun b => ⟨_, rfl, b, rfl, rfl⟩
 ·
  exact C5 (cs := [A7, A7, A7, A7, A7]) kR rfl fun b => ⟨_, rfl, b, rfl, rfl⟩
 ·
  exact C5 (cs := [A7, A7, A7, A7, A7]) kR rfl fun b => ⟨_, rfl, b, rfl, rfl⟩
 ·
  exact C5 (cs := [A7, A7, A7, A7, A7]) kR rfl fun b => ⟨_, rfl, b, rfl, rfl⟩
 intro vs bs Jn0 hφ hNN
 have n4 := hNN _ (List.mem_of_getElem? (i := 3) rfl)
 dsimp only at n4
 have n5 := hNN _ (List.mem_of_getElem? (i := 4) rfl)
 dsimp only at n5
 clear hNN
 have g0 := ofH hφ
 dsimp only at g0
 replace hφ := ofT hφ
 have g1 := ofH hφ
 dsimp only at g1
 replace hφ := ofT hφ
 have g3 := ofH hφ
 dsimp only at g3
 replace hφ := ofT hφ
 have g4 := ofH hφ
 dsimp only at g4
 replace hφ := ofT hφ
 have g5 := ofH hφ
 dsimp only at g5
 replace hφ := ofT hφ
 have g6 := ofH hφ
 dsimp only at g6
 replace hφ := ofT hφ
 have g7 := ofH hφ
 dsimp only at g7
 clear hφ
 dsimp only [U0, P5, List.map, List.flatten, List.cons_append, List.nil_append]
 generalize bs 0 = B17 at *
 generalize bs 1 = B18 at *
 generalize bs 3 = B20 at *
 generalize bs 4 = B7 at *
 generalize bs 5 = B8 at *
 generalize bs 6 = B9 at *
 generalize bs 7 = B10 at *
 generalize vs 0 = u17 at *
 generalize vs 1 = u18 at *
 generalize vs 3 = u20 at *
 generalize vs 4 = u7 at *
 generalize vs 5 = u8 at *
 generalize vs 6 = u9 at *
 generalize vs 7 = u10 at *
 obtain ⟨rfl, k0⟩ := g0
 obtain ⟨rfl, k1⟩ := g1
 obtain ⟨rfl, k3⟩ := g3
 have k0z := k0
 obtain ⟨pw0, pw1, pw2, pw3, pw4, rfl, -⟩ := k0
 have k1z := k1
 obtain ⟨px0, px1, px2, px3, px4, rfl, -⟩ := k1
 have k3z := k3
 obtain ⟨pq0, pq1, pq2, pq3, pq4, rfl, -⟩ := k3
 obtain ⟨b7, rfl, rfl⟩ := g4
 obtain ⟨b8, rfl, rfl⟩ := g5
 obtain ⟨b9, rfl, rfl⟩ := g6
 obtain ⟨b10, rfl, rfl⟩ := g7
 dsimp only [List.append_eq, List.nil_append, List.cons_append]
 refine K0 [(b7, blk [.int .u64 0, .int .u64 0, .int .u64 0, .int .u64 0, .int .u64 0] 205)] _ rfl rfl PickC.perm (fun x hx => by rw [List.mem_singleton.1 hx]; exact hKn rfl _ (n4 _ List.mem_cons_self)) fun w0 => (A8 (vs := [.int .u64 (pw0 : Int), .int .u64 (pw1 : Int), .int .u64 (pw2 : Int), .int .u64 (pw3 : Int), .int .u64 (pw4 : Int)]) rfl rfl rfl kR (by rfl) al5 UpC.upd ?_)
 intro hK8
 refine K0 [(b8, blk [.int .u64 0, .int .u64 0, .int .u64 0, .int .u64 0, .int .u64 0] 205)] _ rfl rfl PickC.perm (fun x hx => by rw [List.mem_singleton.1 hx]; exact hKn rfl _ (n5 _ List.mem_cons_self)) fun w0 => (A8 (vs := [.int .u64 (px0 : Int), .int .u64 (px1 : Int), .int .u64 (px2 : Int), .int .u64 (px3 : Int), .int .u64 (px4 : Int)]) rfl rfl rfl kR (by rfl) al5 UpC.upd ?_)
 intro hK9
 refine N5 rfl rfl rfl (A8 (vs := [.int .u64 (ux0 : Int), .int .u64 (ux1 : Int), .int .u64 (ux2 : Int), .int .u64 (ux3 : Int), .int .u64 (ux4 : Int)]) rfl rfl rfl kR (by rfl) al5 UpC.upd ?_)
 refine N5 rfl rfl rfl (A8 (vs := [.int .u64 (pq0 : Int), .int .u64 (pq1 : Int), .int .u64 (pq2 : Int), .int .u64 (pq3 : Int), .int .u64 (pq4 : Int)]) rfl rfl rfl kR (by rfl) al5 UpC.upd ?_)
 refine N6 (I5 5 6 7 8 9 10) (A5 (A3 (as_ (A0 (X3 5 6 7 8 9 10 11) (C0 ?_)))))
 refine A0B (M' := [(b10, blk [.int .u64 (pq0 : Int), .int .u64 (pq1 : Int), .int .u64 (pq2 : Int), .int .u64 (pq3 : Int), .int .u64 (pq4 : Int)] 205), (b9, blk [.int .u64 (ux0 : Int), .int .u64 (ux1 : Int), .int .u64 (ux2 : Int), .int .u64 (ux3 : Int), .int .u64 (ux4 : Int)] 205), (b8, blk [.int .u64 (px0 : Int), .int .u64 (px1 : Int), .int .u64 (px2 : Int), .int .u64 (px3 : Int), .int .u64 (px4 : Int)] 205), (b7, blk [.int .u64 (pw0 : Int), .int .u64 (pw1 : Int), .int .u64 (pw2 : Int), .int .u64 (pw3 : Int), .int .u64 (pw4 : Int)] 205), (b6, blk [.int .u64 (ux0 : Int), .int .u64 (ux1 : Int), .int .u64 (ux2 : Int), .int .u64 (ux3 : Int), .int .u64 (ux4 : Int)] 205), (b5, blk (nums .u8 (G8 wu)) 202)]) (Fit.pick (B := [_]) PickC.perm (Fit.pick (B := [_]) PickC.perm (Fit.pick (B := [_]) PickC.perm (Fit.pick (B := [_]) PickC.perm (Fit.pick (B := [_]) PickC.perm (Fit.eq rfl)))))) (fun _ h => h) ?_
 refine F2 (α := Nat × List Nat × List Nat × List Nat × List Nat) (fun y => [(5, .pointer (some ⟨b5, 0, none⟩)), (6, .pointer (some ⟨b6, 0, none⟩)), (7, .pointer (some ⟨b7, 0, none⟩)), (8, .pointer (some ⟨b8, 0, none⟩)), (9, .pointer (some ⟨b9, 0, none⟩)), (10, .pointer (some ⟨b10, 0, none⟩)), (11, .int .i64 ((y.1 : Int) - 1))]) (fun y => [(b10, blk (nums .u64 y.2.2.2.2) 205), (b9, blk (nums .u64 y.2.2.2.1) 205), (b8, blk (nums .u64 y.2.2.1) 205), (b7, blk (nums .u64 y.2.1) 205), (b6, blk (nums .u64 [ux0, ux1, ux2, ux3, ux4]) 205), (b5, blk (nums .u8 (G8 wu)) 202)]) (fun _ => []) (fun y => y.1 ≤ 255 ∧ Fe (.agg (nums .u64 y.2.1).toArray) (A0b (rdN wp) (bv (G8 wu)) (255 - y.1)).a ∧ Fe (.agg (nums .u64 y.2.2.1).toArray) (A0b (rdN wp) (bv (G8 wu)) (255 - y.1)).b ∧ Fe (.agg (nums .u64 y.2.2.2.1).toArray) (A0b (rdN wp) (bv (G8 wu)) (255 - y.1)).c ∧ Fe (.agg (nums .u64 y.2.2.2.2).toArray) (A0b (rdN wp) (bv (G8 wu)) (255 - y.1)).d) (fun y => y.1) (255, [pw0, pw1, pw2, pw3, pw4], [px0, px1, px2, px3, px4], [ux0, ux1, ux2, ux3, ux4], [pq0, pq1, pq2, pq3, pq4]) ⟨Nat.le_refl _, by dsimp only; rw [Nat.sub_self]; exact k0z, by dsimp only; rw [Nat.sub_self]; exact k1z, by dsimp only; rw [Nat.sub_self]; exact hUz, by dsimp only; rw [Nat.sub_self]; exact k3z⟩ (X3 5 6 7 8 9 10 11) (Fit.eq rfl) (fun _ h => by cases h) ?_
 clear k0z k1z k3z
 rintro ⟨j, la, lb, lc, ld⟩ ⟨hj, haz, hbz, hcz, hdz⟩
 dsimp only at hj haz hbz hcz hdz ⊢
 obtain ⟨za0, za1, za2, za3, za4, rfl⟩ := A5m haz
 obtain ⟨zb0, zb1, zb2, zb3, zb4, rfl⟩ := A5m hbz
 obtain ⟨zc0, zc1, zc2, zc3, zc4, rfl⟩ := A5m hcz
 obtain ⟨zd0, zd1, zd2, zd3, zd4, rfl⟩ := A5m hdz
 dsimp only [nums, List.map]
 refine A5 (A3 (mv_ ?_))
 refine A4 (F1 rfl rfl rfl) rfl ?_
 refine A0 (A14 5 6 7 8 9 10 11 22) ?_
 refine C8 rfl (fun hc => ?_) (fun hc => ?_)
 ·
  have hj0 : 0 < j := by simp at hc; omega
  obtain ⟨i, rfl⟩ : ∃ i, j = i + 1 := ⟨j - 1, by omega⟩
  rw [show (((i + 1 : Nat) : Int) - 1) = (i : Int) by omega]
  have hts := A6w (u := rdN wp) (n := bv (G8 wu)) (show i < 255 by omega)
  have hbit := A6j hc256 i
  have hpb : (G8 wu).getD (i / 8) 0 < 256 := Go.Px.getD_lt hc256 (by decide)
  have hz2 : bv (G8 wu) / 2 ^ i % 2 < 2 := Nat.mod_lt _ (by decide)
  generalize A0b (rdN wp) (bv (G8 wu)) (255 - (i + 1)) = S at *
  generalize bv (G8 wu) / 2 ^ i % 2 = zb at *
  obtain ⟨bt, hbt⟩ : ∃ bt, decide (zb = 1) = bt := ⟨_, rfl⟩
  rw [hbt] at hts
  refine A9 (nx (X3 5 6 7 8 9 10 11) (A5 (C0 (A3 (mv_ ?_)))))
  refine A4 (A0P 8 rfl rfl rfl (by decide) (A19 (by omega))) rfl ?_
  refine A4 (E5 (e := 5) (n := 32) (sz := 1) (i := i / 8) rfl rfl kR kR rfl (by omega)) rfl ?_
  refine A4 (Q0 (i / 8) rfl kR At.mem (by omega) (by omega)) rfl ?_
  refine mv_ ?_
  refine A4 (A0Q 8 rfl rfl rfl (by decide)) rfl ?_
  refine A4 (A2t (a := (G8 wu).getD (i / 8) 0) (b := i % 8) rfl rfl rfl rfl (by show _ ≤ 8; omega)) rfl ?_
  refine A4 (hbit ▸ L9 1 2 rfl rfl rfl rfl rfl (by show _ < 256; exact Nat.lt_of_le_of_lt (Nat.div_le_self _ _) hpb) (by decide)) rfl ?_
  refine A4 (hbt ▸ F9 (decide (zb = 1)) rfl rfl (by rcases (show zb = 0 ∨ zb = 1 by omega) with h | h <;> subst h <;> rfl)) rfl ?_
  refine as_ (A0 (A14 5 6 7 8 9 10 11 12) (A5 ?_))
  cases bt
  ·
   refine A3 (mv_ (A0 (A6U 5 6 7 8 9 10 11 12 34) ?_))
   refine D4 rfl ?_
   refine A9 (nx (A14 5 6 7 8 9 10 11 12) (A3 ?_))
   refine A4 (qw_ 5) rfl ?_
   refine A4 (qw_ 5) rfl ?_
   refine A4 (qw_ 5) rfl ?_
   refine A4 (qw_ 5) rfl ?_
   refine A4 (qw_ 5) rfl ?_
   refine C9 (aS rfl (aS rfl (aS rfl (aS rfl (aS rfl a0))))) kR (B5o _ _ _ _ _ (rdN wp) _ _ _ _ _ hUz haz hbz hcz hdz) rfl ?_
   rintro r45 M45 J45 ⟨rfl, rfl, v0, v1, v2, v3, rfl, k0, k1, k2, k3⟩
   have k0z := k0
   obtain ⟨pw0, pw1, pw2, pw3, pw4, rfl, -⟩ := k0
   have k1z := k1
   obtain ⟨px0, px1, px2, px3, px4, rfl, -⟩ := k1
   have k2z := k2
   obtain ⟨py0, py1, py2, py3, py4, rfl, -⟩ := k2
   have k3z := k3
   obtain ⟨pq0, pq1, pq2, pq3, pq4, rfl, -⟩ := k3
   refine mv_ ?_
   refine A4 (A2O rfl) rfl ?_
   refine A4 (A2z rfl) rfl ?_
   refine A4 (B7R rfl) rfl ?_
   refine A4 (q_x3 rfl) rfl ?_
   refine A6 rfl (A8 (vs := [.int .u64 (pw0 : Int), .int .u64 (pw1 : Int), .int .u64 (pw2 : Int), .int .u64 (pw3 : Int), .int .u64 (pw4 : Int)]) rfl rfl rfl kR (by rfl) al5 UpC.upd ?_)
   refine A6 rfl (A8 (vs := [.int .u64 (px0 : Int), .int .u64 (px1 : Int), .int .u64 (px2 : Int), .int .u64 (px3 : Int), .int .u64 (px4 : Int)]) rfl rfl rfl kR (by rfl) al5 UpC.upd ?_)
   refine A6 rfl (A8 (vs := [.int .u64 (py0 : Int), .int .u64 (py1 : Int), .int .u64 (py2 : Int), .int .u64 (py3 : Int), .int .u64 (py4 : Int)]) rfl rfl rfl kR (by rfl) al5 UpC.upd ?_)
   refine A6 rfl (A8 (vs := [.int .u64 (pq0 : Int), .int .u64 (pq1 : Int), .int .u64 (pq2 : Int), .int .u64 (pq3 : Int), .int .u64 (pq4 : Int)]) rfl rfl rfl kR (by rfl) al5 UpC.upd ?_)
   refine A0 (A14 5 6 7 8 9 10 11 12) (A3 (mv_ (A0 (A14 5 6 7 8 9 10 11 50) ?_)))
   refine D4 rfl ?_
   refine A9 (nb (nx (X3 5 6 7 8 9 10 11) (C3 (mv_ ?_))))
   refine A4 (E4 ((i : Int) - 1) rfl rfl (Y8 rfl (by omega) (by omega))) rfl ?_
   refine as_ (D0 ?_)
   exact rn (i, [pw0, pw1, pw2, pw3, pw4], [px0, px1, px2, px3, px4], [py0, py1, py2, py3, py4], [pq0, pq1, pq2, pq3, pq4]) ⟨by dsimp only; omega, by dsimp only; rw [hts]; exact k0z, by dsimp only; rw [hts]; exact k1z, by dsimp only; rw [hts]; exact k2z, by dsimp only; rw [hts]; exact k3z⟩ (by dsimp only; omega) (X3 5 6 7 8 9 10 11) (show Fit _ ([(b10, blk [.int .u64 (pq0 : Int), .int .u64 (pq1 : Int), .int .u64 (pq2 : Int), .int .u64 (pq3 : Int), .int .u64 (pq4 : Int)] 205), (b9, blk [.int .u64 (py0 : Int), .int .u64 (py1 : Int), .int .u64 (py2 : Int), .int .u64 (py3 : Int), .int .u64 (py4 : Int)] 205), (b8, blk [.int .u64 (px0 : Int), .int .u64 (px1 : Int), .int .u64 (px2 : Int), .int .u64 (px3 : Int), .int .u64 (px4 : Int)] 205), (b7, blk [.int .u64 (pw0 : Int), .int .u64 (pw1 : Int), .int .u64 (pw2 : Int), .int .u64 (pw3 : Int), .int .u64 (pw4 : Int)] 205), (b6, blk [.int .u64 (ux0 : Int), .int .u64 (ux1 : Int), .int .u64 (ux2 : Int), .int .u64 (ux3 : Int), .int .u64 (ux4 : Int)] 205), (b5, blk (nums .u8 (G8 wu)) 202)]) from (Fit.pick (B := [_]) PickC.perm (Fit.pick (B := [_]) PickC.perm (Fit.pick (B := [_]) PickC.perm (Fit.pick (B := [_]) PickC.perm (Fit.pick (B := [_]) PickC.perm (Fit.eq rfl))))))) (fun _ h => by cases h)
  ·
   refine A3 (mv_ (A0 (A6U 5 6 7 8 9 10 11 12 34) ?_))
   refine E2 rfl ?_
   refine X6 ([(b7, blk [.int .u64 (za0 : Int), .int .u64 (za1 : Int), .int .u64 (za2 : Int), .int .u64 (za3 : Int), .int .u64 (za4 : Int)] 205)]) (_) true [0, 1, 2, 3, 4] [(0, 1), (1, 1), (3, 1), (2, 2), (4, 2), (5, 2), (6, 2), (7, 2)] kR kR PickC.perm fun hs K n0 hKm hKs hKn => ?_
   refine P0 hs rfl hKs (qw_ 5) ?_
   refine P0 hs rfl hKs (qw_ 5) ?_
   refine P0 hs rfl hKs (qw_ 5) ?_
   refine K0 _ _ rfl rfl (List.Perm.refl _) hKm fun w0 => (OpQ.opL (H7 (n := 5) rfl kR At.mem (by rfl)) rfl ?_)
   intro hK2
   refine K0 _ _ rfl rfl (List.Perm.refl _) (hK2 (hKn rfl)) fun w0 => (A8 (vs := [.int .u64 (zc0 : Int), .int .u64 (zc1 : Int), .int .u64 (zc2 : Int), .int .u64 (zc3 : Int), .int .u64 (zc4 : Int)]) rfl rfl rfl kR (by rfl) al5 UpC.upd ?_)
   intro hK4
   refine N5 rfl rfl rfl (A8 (vs := [.int .u64 (zd0 : Int), .int .u64 (zd1 : Int), .int .u64 (zd2 : Int), .int .u64 (zd3 : Int), .int .u64 (zd4 : Int)]) rfl rfl rfl kR (by rfl) al5 UpC.upd ?_)
   refine N5 rfl rfl rfl (A8 (vs := [.int .u64 (za0 : Int), .int .u64 (za1 : Int), .int .u64 (za2 : Int), .int .u64 (za3 : Int), .int .u64 (za4 : Int)]) rfl rfl rfl kR (by rfl) al5 UpC.upd ?_)
   refine N5 rfl rfl rfl (A8 (vs := [.int .u64 (zb0 : Int), .int .u64 (zb1 : Int), .int .u64 (zb2 : Int), .int .u64 (zb3 : Int), .int .u64 (zb4 : Int)]) rfl rfl rfl kR (by rfl) al5 UpC.upd ?_)
   refine N6 (A14 5 6 7 8 9 10 11 12) (A3 ?_)
   refine A4 (qw_ 5) rfl ?_
   refine A4 (qw_ 5) rfl ?_
   refine A4 (qw_ 5) rfl ?_
   refine A4 (qw_ 5) rfl ?_
   refine A4 (qw_ 5) rfl ?_
   refine C9 (aS rfl (aS rfl (aS rfl (aS rfl (aS rfl a0))))) kR (B5o _ _ _ _ _ (rdN wp) _ _ _ _ _ hUz hcz hdz haz hbz) rfl ?_
   rintro r45 M45 J45 ⟨rfl, rfl, v0, v1, v2, v3, rfl, k0, k1, k2, k3⟩
   have k0z := k0
   obtain ⟨pw0, pw1, pw2, pw3, pw4, rfl, -⟩ := k0
   have k1z := k1
   obtain ⟨px0, px1, px2, px3, px4, rfl, -⟩ := k1
   have k2z := k2
   obtain ⟨py0, py1, py2, py3, py4, rfl, -⟩ := k2
   have k3z := k3
   obtain ⟨pq0, pq1, pq2, pq3, pq4, rfl, -⟩ := k3
   refine mv_ ?_
   refine A4 (A2O rfl) rfl ?_
   refine A4 (A2z rfl) rfl ?_
   refine A4 (B7R rfl) rfl ?_
   refine A4 (q_x3 rfl) rfl ?_
   refine A6 rfl (A8 (vs := [.int .u64 (pw0 : Int), .int .u64 (pw1 : Int), .int .u64 (pw2 : Int), .int .u64 (pw3 : Int), .int .u64 (pw4 : Int)]) rfl rfl rfl kR (by rfl) al5 UpC.upd ?_)
   refine A6 rfl (A8 (vs := [.int .u64 (px0 : Int), .int .u64 (px1 : Int), .int .u64 (px2 : Int), .int .u64 (px3 : Int), .int .u64 (px4 : Int)]) rfl rfl rfl kR (by rfl) al5 UpC.upd ?_)
   refine A6 rfl (A8 (vs := [.int .u64 (py0 : Int), .int .u64 (py1 : Int), .int .u64 (py2 : Int), .int .u64 (py3 : Int), .int .u64 (py4 : Int)]) rfl rfl rfl kR (by rfl) al5 UpC.upd ?_)
   refine A6 rfl (A8 (vs := [.int .u64 (pq0 : Int), .int .u64 (pq1 : Int), .int .u64 (pq2 : Int), .int .u64 (pq3 : Int), .int .u64 (pq4 : Int)]) rfl rfl rfl kR (by rfl) al5 UpC.upd ?_)
   refine A0 (A14 5 6 7 8 9 10 11 12) (A3 (mv_ (A0 (A14 5 6 7 8 9 10 11 50) ?_)))
   refine E2 rfl ?_
   refine X6 ([(b7, blk [.int .u64 (pw0 : Int), .int .u64 (pw1 : Int), .int .u64 (pw2 : Int), .int .u64 (pw3 : Int), .int .u64 (pw4 : Int)] 205)]) (_) true [0, 1, 2, 3, 4] [(0, 1), (1, 1), (3, 1), (2, 2), (4, 2), (5, 2), (6, 2), (7, 2)] kR kR PickC.perm fun hs K n0 hKm hKs hKn => ?_
   refine P0 hs rfl hKs (qw_ 5) ?_
   refine P0 hs rfl hKs (qw_ 5) ?_
   refine P0 hs rfl hKs (qw_ 5) ?_
   refine K0 _ _ rfl rfl (List.Perm.refl _) hKm fun w0 => (OpQ.opL (H7 (n := 5) rfl kR At.mem (by rfl)) rfl ?_)
   intro hK2
   refine K0 _ _ rfl rfl (List.Perm.refl _) (hK2 (hKn rfl)) fun w0 => (A8 (vs := [.int .u64 (py0 : Int), .int .u64 (py1 : Int), .int .u64 (py2 : Int), .int .u64 (py3 : Int), .int .u64 (py4 : Int)]) rfl rfl rfl kR (by rfl) al5 UpC.upd ?_)
   intro hK4
   refine N5 rfl rfl rfl (A8 (vs := [.int .u64 (pq0 : Int), .int .u64 (pq1 : Int), .int .u64 (pq2 : Int), .int .u64 (pq3 : Int), .int .u64 (pq4 : Int)]) rfl rfl rfl kR (by rfl) al5 UpC.upd ?_)
   refine N5 rfl rfl rfl (A8 (vs := [.int .u64 (pw0 : Int), .int .u64 (pw1 : Int), .int .u64 (pw2 : Int), .int .u64 (pw3 : Int), .int .u64 (pw4 : Int)]) rfl rfl rfl kR (by rfl) al5 UpC.upd ?_)
   refine N5 rfl rfl rfl (A8 (vs := [.int .u64 (px0 : Int), .int .u64 (px1 : Int), .int .u64 (px2 : Int), .int .u64 (px3 : Int), .int .u64 (px4 : Int)]) rfl rfl rfl kR (by rfl) al5 UpC.upd ?_)
   refine A3f (nb (nx (X3 5 6 7 8 9 10 11) (C3 (mv_ ?_))))
   refine A4 (E4 ((i : Int) - 1) rfl rfl (Y8 rfl (by omega) (by omega))) rfl ?_
   refine as_ (D0 ?_)
   exact rn (i, [py0, py1, py2, py3, py4], [pq0, pq1, pq2, pq3, pq4], [pw0, pw1, pw2, pw3, pw4], [px0, px1, px2, px3, px4]) ⟨by dsimp only; omega, by dsimp only; rw [hts]; exact k2z, by dsimp only; rw [hts]; exact k3z, by dsimp only; rw [hts]; exact k0z, by dsimp only; rw [hts]; exact k1z⟩ (by dsimp only; omega) (X3 5 6 7 8 9 10 11) (show Fit _ ([(b10, blk [.int .u64 (px0 : Int), .int .u64 (px1 : Int), .int .u64 (px2 : Int), .int .u64 (px3 : Int), .int .u64 (px4 : Int)] 205), (b9, blk [.int .u64 (pw0 : Int), .int .u64 (pw1 : Int), .int .u64 (pw2 : Int), .int .u64 (pw3 : Int), .int .u64 (pw4 : Int)] 205), (b8, blk [.int .u64 (pq0 : Int), .int .u64 (pq1 : Int), .int .u64 (pq2 : Int), .int .u64 (pq3 : Int), .int .u64 (pq4 : Int)] 205), (b7, blk [.int .u64 (py0 : Int), .int .u64 (py1 : Int), .int .u64 (py2 : Int), .int .u64 (py3 : Int), .int .u64 (py4 : Int)] 205), (b6, blk [.int .u64 (ux0 : Int), .int .u64 (ux1 : Int), .int .u64 (ux2 : Int), .int .u64 (ux3 : Int), .int .u64 (ux4 : Int)] 205), (b5, blk (nums .u8 (G8 wu)) 202)]) from (Fit.pick (B := [_]) PickC.perm (Fit.pick (B := [_]) PickC.perm (Fit.pick (B := [_]) PickC.perm (Fit.pick (B := [_]) PickC.perm (Fit.pick (B := [_]) PickC.perm (Fit.eq rfl))))))) (fun _ h => by cases h)
 ·
  have hj0 : j = 0 := by simp at hc; omega
  subst hj0
  refine E6 (te (re (be rfl (nx (D5 7 8) ?_))))
  refine D2 [0, 1, 2, 3, 4, 5] (zp 0 [1, 1, 2, 2, 2, 0]) kR kR fun hs => ?_
  refine F6 hs rfl (qw_ 5) rfl ?_
  refine F6 hs rfl (qw_ 5) rfl ?_
  refine G1 rfl (aS rfl a0) kR (B0T hbz _) rfl ?_
  rintro r57 M57 J57 ⟨rfl, rfl, k57⟩
  have h57 := k57
  obtain ⟨a57, b57, c57, d57, e57, rfl, -⟩ := k57
  refine G1 rfl (aS rfl (aS rfl a0)) kR (R7 haz h57 _) rfl ?_
  rintro r58 M58 J58 ⟨rfl, rfl, k58⟩
  have h58 := k58
  obtain ⟨a58, b58, c58, d58, e58, rfl, -⟩ := k58
  refine G1 rfl (aS rfl a0) kR ((Y4 _ _ h58 _).frz0) rfl ?_
  rintro r59 M59 J59 ⟨rfl, hs59⟩
  haveI := hs59.cel
  refine fa_ hs ?_
  refine E3 (D8 4) (C2 ?_)
  exact ⟨_, [], J59, I4 rfl rfl, List.nil_sublist _, fun x hx => by simp [hx], rfl, B3L hs59 (A5l _ _).symm (B5m _ _) (by rw [A5l]; decide) fun _ h => h⟩
theorem B85 (v : Value) (wu : List Nat) (A : Mem) (hv : By A v wu) : FnX Tryz.prog 52 [v] [] A fun r M J => M = [] ∧ By J r (V3 wu) := by
 haveI := hv.cel
 refine FnX.enterZ (N := 10) Tryz.func52 rfl rfl rfl fun w_ => ?_
 refine C4 (D8 0) (A3 (as_ (A0 (D8 0) (A3 ?_))))
 refine A6 rfl (A3b (by_ := 1) (k := .u8) (e := 5) 32 rfl rfl kR rfl rfl (by omega) (by omega) rfl fun b4 => ?_)
 refine as_ (A0 (D5 0 3) (A3 (mv_ ?_)))
 refine A4 (P7 (e := 5) (sz := 1) (i := 0) rfl rfl kR kR (by omega) (by omega)) rfl ?_
 refine A6 rfl (S0 0 (ws := List.replicate 32 0) rfl rfl kR rfl (by simp) UpC.upd ?_)
 refine A0 (D5 0 3) (A3 (mv_ (mv_ ?_)))
 refine C9 (aS rfl (aS rfl a0)) kR (B5p v _ wu B3O _ (hv.mono SubC.sub) ⟨Rd.whole (n := 32) (cs := nums .u8 B3O) At.mem (by rfl), by decide, by decide⟩) rfl ?_
 rintro r9 M9 J9 ⟨rfl, h9⟩
 haveI := h9.cel
 refine as_ (A0 (D8 2) (C2 ?_))
 exact ⟨_, [], [], I4 rfl rfl, Fit.sub (List.nil_sublist _), rfl, h9.mono SubC.sub⟩

end Go.Proofs.YthbhpfefdnffaaaGreatDoor
