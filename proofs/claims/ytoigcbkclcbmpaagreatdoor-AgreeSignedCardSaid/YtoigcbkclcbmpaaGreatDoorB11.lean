/- Part 11 of the texts of this claim, one behind the other. -/
import Derived.Test.YtoigcbkclcbmpaaGreatDoorB10
import Derived.Test.YtoigcbkclcbmpaaGreatDoorRows
set_option linter.unusedVariables false
set_option linter.unusedSimpArgs false
set_option maxRecDepth 100000
namespace Go.Proofs.YtoigcbkclcbmpaaGreatDoor
open Go.Px
def B7B (x : Nat) : Option Nat := if rt1 x * rt1 x % p25 = x then some (rt1 x) else if rt2 x * rt2 x % p25 = x then some (rt2 x) else none
theorem B5Y (x : Nat) : ∃ y, y = B7B x := ⟨_, rfl⟩
noncomputable def rtN (x : Nat) : Option Nat := Classical.choose (B5Y x)
theorem A6T (x : Nat) : rtN x = B7B x := Classical.choose_spec (B5Y x)
theorem A8S {r : Value} {x : Nat} (h : Rt r x) : ∃ u b n, r = .tuple #[u, .bool b] ∧ Fe u n ∧ ((rtN x = some n ∧ b = true) ∨ (rtN x = none ∧ b = false)) := by
  obtain ⟨u, b, rfl, h⟩ := h
  rw [A6T]
  unfold B7B
  rcases h with ⟨h1, rfl, h2⟩ | ⟨h1, h2, rfl, h3⟩ | ⟨h1, h2, rfl, h3⟩
  · exact ⟨_, _, _, rfl, h2, .inl ⟨by rw [if_pos h1], rfl⟩⟩
  · exact ⟨_, _, _, rfl, h3, .inl ⟨by rw [if_neg h1, if_pos h2], rfl⟩⟩
  · exact ⟨_, _, _, rfl, h3, .inr ⟨by rw [if_neg h1, if_neg h2], rfl⟩⟩
noncomputable def xxN (y : Nat) : Nat := fM (fS (fM y y) 1) (fI (fA (fM dN (fM y y)) 1))
def atO (o : Option Nat) (odd : Bool) : Option Nat := match o with
  | none => none
  | some x => if odd && decide (x = 0) then none else some (if !(decide (x % 2 = 1) == odd) then fN x else x)
noncomputable def atN (y : Nat) (odd : Bool) : Option Nat := atO (rtN (xxN y)) odd
theorem B4k {y : Nat} {odd : Bool} {o : Option Nat} (h : rtN (xxN y) = o) : atN y odd = atO o odd := congrArg (fun o => atO o odd) h
theorem B7C {y : Nat} {odd : Bool} (h : rtN (xxN y) = none) : atN y odd = none := B4k h
theorem B7D {x : Nat} (hx : x = 0) : atO (some x) true = none := by subst hx; rfl
theorem B7E {y x : Nat} (h : rtN (xxN y) = some x) (hx : x = 0) : atN y true = none := (B4k h).trans (B7D hx)
theorem B7F {x : Nat} {odd : Bool} (hx : (odd && decide (x = 0)) = false) {b : Bool} (hb : (!(decide (x % 2 = 1) == odd)) = b) : atO (some x) odd = some (if b then fN x else x) := by unfold atO; simp only [hx, hb]; rfl
theorem A5y {y x : Nat} {odd : Bool} (h : rtN (xxN y) = some x) (hx : (odd && decide (x = 0)) = false) {b : Bool} (hb : (!(decide (x % 2 = 1) == odd)) = b) : atN y odd = some (if b then fN x else x) := (B4k h).trans (B7F hx hb)
def pZ : Pt := ⟨0, 0, 0, 0⟩
def pAt (x y : Nat) : Pt := ⟨x, y, 1, fM x y⟩
def AtR (r : Value) (y : Nat) (odd : Bool) : Prop := ∃ V b, r = .tuple #[V, .bool b] ∧ ((∃ x, atN y odd = some x ∧ b = true ∧ FeP V (pAt x y)) ∨ (atN y odd = none ∧ b = false ∧ FeP V pZ))
def s45 : Nat := 46316835694926478169428394003475163141307993866256225615783033603165251855960
theorem B9P : fM 4 (fI 5) = s45 := by
  rw [A5w, A2a qD]
  decide +kernel
def bxN : Nat := 15112221349535400772501151409588531511454012693041857206046113283949847762202
def pS : Pt := pAt bxN s45
theorem C1L {y : Nat} : xxN y = fM (fS (fM y y) 1) (pm p25 256 (fA (fM dN (fM y y)) 1) (p25 - 2) 1) := by
  unfold xxN
  rw [A5w, A2a qD]
theorem B5Z {x : Nat} : rt1 x = pm p25 256 x (2 ^ 252 - 2) 1 := by
  unfold rt1
  rw [A2a qD]
theorem i_pm : rtp 2 (2 ^ 253 - 5) = pm p25 256 2 (2 ^ 253 - 5) 1 := A2a qD
theorem B9Q {x : Nat} : rt2 x = pm p25 256 x (2 ^ 252 - 2) 1 * pm p25 256 2 (2 ^ 253 - 5) 1 % p25 := by
  unfold rt2
  rw [B5Z, i_pm]
def rtK (x : Nat) : Option Nat := if pm p25 256 x (2 ^ 252 - 2) 1 * pm p25 256 x (2 ^ 252 - 2) 1 % p25 = x then some (pm p25 256 x (2 ^ 252 - 2) 1) else if (pm p25 256 x (2 ^ 252 - 2) 1 * pm p25 256 2 (2 ^ 253 - 5) 1 % p25) * (pm p25 256 x (2 ^ 252 - 2) 1 * pm p25 256 2 (2 ^ 253 - 5) 1 % p25) % p25 = x then some (pm p25 256 x (2 ^ 252 - 2) 1 * pm p25 256 2 (2 ^ 253 - 5) 1 % p25) else none
theorem rt_K {x : Nat} : rtN x = rtK x := by
  rw [A6T]
  unfold B7B rtK
  rw [B9Q, B5Z]
theorem xx45 : xxN s45 = 26187595835145689230469591415084376402084551887632582719101735842039498021991 := by
  rw [C1L]
  decide +kernel
theorem at45 : atN s45 false = some bxN := by
  refine (B4k ((congrArg rtN xx45).trans (rt_K.trans (Eq.refl (rtK 26187595835145689230469591415084376402084551887632582719101735842039498021991))))).trans ?_
  decide +kernel
theorem at_f (v : Value) (y : Nat) (odd : Bool) (hv : Fe v y) (A : Mem) : FnX Tryz.prog 99 [v, .bool odd] [] A fun r M J => M = [] ∧ J = [] ∧ AtR r y odd := by
 have hy := hv
 obtain ⟨y0, y1, y2, y3, y4, rfl, -⟩ := hv
 refine FnX.enter (N := 48) Tryz.func99 rfl rfl rfl fun w => ?_
 refine C4 (D5 0 1) (A3 ?_)
 refine A6 rfl (bx_ fun b2 => ?_)
 refine A6 rfl (C5 (cs := [A7, A7, A7, A7, A7, A7, A7, A7, A7, A7, A7, A7, A7, A7, A7, A7, A7, A7, A7, A7]) kR rfl fun b4 => ?_)
 refine as_ (A0 (E2 1 2 4) (A3 ?_))
 refine A4 (qw_ 5) rfl ?_
 refine C9 (aS rfl a0) kR (B9O hy _) rfl ?_
 rintro r10 M10 J10 ⟨rfl, rfl, k10⟩
 have h10 := k10
 obtain ⟨a10, b10, c10, d10, e10, rfl, -⟩ := k10
 refine A6 rfl (C5 (cs := [A7, A7, A7, A7, A7]) kR rfl fun b6 => ?_)
 refine A6 rfl (A8 rfl rfl Cel.cel kR ln5 al5 UpC.upd ?_)
 refine A0 (E7 1 2 4 6) ?_
 refine I0 ([]) (_) true [0, 1, 2, 3, 4, 5, 6, 7, 8, 9, 10, 11, 12, 13, 14, 16] [(0, 1), (4, 1), (1, 8), (2, 8), (3, 8), (5, 8), (6, 8), (7, 8), (8, 8), (9, 8), (10, 8), (11, 8), (12, 8), (14, 8), (13, 10), (15, 2), (16, 0)] kR kR qP fun hs K n0 hKm hKs hKn => ?_
 refine Q0 hs rfl hKs (qw_ 5) ?_
 refine Q0 hs rfl hKs (qw_ 5) ?_
 refine A2c [⟨1, 13, none, [], fun v B _ => B = [] ∧ Fe v (1)⟩, ⟨2, 14, none, [], fun v B _ => B = [] ∧ Fe v (fS (fM y y) 1)⟩, ⟨3, 15, none, [], fun v B _ => B = [] ∧ Fe v (dN)⟩, ⟨5, 17, none, [], fun v B _ => B = [] ∧ Fe v (fM dN (fM y y))⟩, ⟨6, 18, none, [], fun v B _ => B = [] ∧ Fe v (1)⟩, ⟨7, 19, none, [], fun v B _ => B = [] ∧ Fe v (fA (fM dN (fM y y)) 1)⟩, ⟨8, 20, none, [], fun v B _ => B = [] ∧ Fe v (fI (fA (fM dN (fM y y)) 1))⟩, ⟨9, 21, none, [], fun v B _ => B = [] ∧ Fe v (xxN y)⟩, ⟨10, 22, none, [], fun v B _ => B = [] ∧ Rt v (xxN y)⟩, ⟨11, 11, none, [], fun v B _ => B = [] ∧ Rt v (xxN y)⟩, ⟨12, 23, none, [], fun v B _ => B = [] ∧ ∃ n, Fe v n ∧ ∀ m, rtN (xxN y) = some m → n = m⟩, ⟨14, 7, none, [], fun v B _ => ∃ b, v = (vP b) ∧ B = [(b, blk [.int .u64 0, .int .u64 0, .int .u64 0, .int .u64 0, .int .u64 0] 113)]⟩] [⟨13, 24, none, [], fun v B _ => B = [] ∧ v = .bool (rtN (xxN y)).isSome⟩] (_) (fun bs => [bs 1, bs 2, bs 3, bs 5, bs 6, bs 7, bs 8, bs 9, bs 10, bs 11, bs 12, bs 14, bs 13]) (hKn rfl) (List.Perm.refl _) (show ∀ m ∈ ([[], [], [], [], [], [], [], [], [], [], [], [], []] : List Mem), ∀ x ∈ m, K x.1 from C1 (fun _ h => by cases h) (C1 (fun _ h => by cases h) (C1 (fun _ h => by cases h) (C1 (fun _ h => by cases h) (C1 (fun _ h => by cases h) (C1 (fun _ h => by cases h) (C1 (fun _ h => by cases h) (C1 (fun _ h => by cases h) (C1 (fun _ h => by cases h) (C1 (fun _ h => by cases h) (C1 (fun _ h => by cases h) (C1 (fun _ h => by cases h) (C1 (fun _ h => by cases h) (K7)))))))))))))) kR (fun _ => by first | rfl | kernel_rfl)
  (C1 (fun _ _ _ _ _ h => h) (C1 (fun _ _ _ _ _ h => h) (C1 (fun _ _ _ _ _ h => h) (C1 (fun _ _ _ _ _ h => h) (C1 (fun _ _ _ _ _ h => h) (C1 (fun _ _ _ _ _ h => h) (C1 (fun _ _ _ _ _ h => h) (C1 (fun _ _ _ _ _ h => h) (C1 (fun _ _ _ _ _ h => h) (C1 (fun _ _ _ _ _ h => h) (C1 (fun _ _ _ _ _ h => h) (C1 (fun _ _ _ _ _ h => h) (C1 (fun _ _ _ _ _ h => h) (K7)))))))))))))) (show List.Nodup [13, 14, 15, 17, 18, 19, 20, 21, 22, 11, 23, 7, 24] by decide) (show List.Nodup [1, 2, 3, 5, 6, 7, 8, 9, 10, 11, 12, 14, 13] by decide) (C1 (C8 rfl) (C1 (C8 rfl) (C1 (C8 rfl) (C1 (C8 rfl) (C1 (C8 rfl) (C1 (C8 rfl) (C1 (C8 rfl) (C1 (C8 rfl) (C1 (C8 rfl) (C1 (C8 rfl) (C1 (C8 rfl) (C1 (C8 rfl) (C1 (C8 rfl) (K7))))))))))))))
  hs (List.cons_ne_nil _ _) (C1 ⟨_, rfl, fun vs bs R Rj wG hb hj hjr ha => ⟨.inl rfl, ?_⟩⟩ (C1 ⟨_, rfl, fun vs bs R Rj wG hb hj hjr ha => ⟨.inl rfl, ?_⟩⟩ (C1 ⟨_, rfl, fun vs bs R Rj wG hb hj hjr ha => ⟨.inl rfl, ?_⟩⟩ (C1 ⟨_, rfl, fun vs bs R Rj wG hb hj hjr ha => ⟨.inl rfl, ?_⟩⟩ (C1 ⟨_, rfl, fun vs bs R Rj wG hb hj hjr ha => ⟨.inl rfl, ?_⟩⟩ (C1 ⟨_, rfl, fun vs bs R Rj wG hb hj hjr ha => ⟨.inl rfl, ?_⟩⟩ (C1 ⟨_, rfl, fun vs bs R Rj wG hb hj hjr ha => ⟨.inl rfl, ?_⟩⟩ (C1 ⟨_, rfl, fun vs bs R Rj wG hb hj hjr ha => ⟨.inl rfl, ?_⟩⟩ (C1 ⟨_, rfl, fun vs bs R Rj wG hb hj hjr ha => ⟨.inl rfl, ?_⟩⟩ (C1 ⟨_, rfl, fun vs bs R Rj wG hb hj hjr ha => ⟨.inl rfl, ?_⟩⟩ (C1 ⟨_, rfl, fun vs bs R Rj wG hb hj hjr ha => ⟨.inl rfl, ?_⟩⟩ (C1 ⟨_, rfl, fun vs bs R Rj wG hb hj hjr ha => ⟨.inl rfl, ?_⟩⟩ (K7))))))))))))) (C1 ⟨rfl, rfl, _, _, _, _, rfl, fun vs bs Rj hj ha => ?_⟩ (K7)) ?_
 ·
  dsimp only [Gc.inp]
  refine D7 (aS rfl (a0)) kR (A0T 1 qD _) rfl ?_
  rintro r M1 J1 ⟨rfl, rfl, hh⟩
  exact ⟨_, rfl, rfl, hh⟩
 ·
  dsimp only [Gc.inp]
  have g1 := ha _ (List.mem_of_getElem? (i := 0) rfl) kR
  replace g1 : (fun v B _ => B = [] ∧ Fe v (1)) (vs 1) (bs 1) Rj := g1
  dsimp only at g1
  obtain ⟨-, k1⟩ := g1
  refine D7 (aS rfl (aS rfl (a0))) kR (A5x h10 k1 _) rfl ?_
  rintro r M1 J1 ⟨rfl, rfl, hh⟩
  exact ⟨_, rfl, rfl, hh⟩
 ·
  dsimp only [Gc.inp]
  refine D7 (a0) kR (A7N _) rfl ?_
  rintro r M1 J1 ⟨rfl, rfl, hh⟩
  exact ⟨_, rfl, rfl, hh⟩
 ·
  dsimp only [Gc.inp]
  have g3 := ha _ (List.mem_of_getElem? (i := 2) rfl) kR
  replace g3 : (fun v B _ => B = [] ∧ Fe v (dN)) (vs 3) (bs 3) Rj := g3
  dsimp only at g3
  obtain ⟨-, k3⟩ := g3
  refine D7 (aS rfl (aS rfl (a0))) kR (T4 k3 h10 _) rfl ?_
  rintro r M1 J1 ⟨rfl, rfl, hh⟩
  exact ⟨_, rfl, rfl, hh⟩
 ·
  dsimp only [Gc.inp]
  refine D7 (aS rfl (a0)) kR (A0T 1 qD _) rfl ?_
  rintro r M1 J1 ⟨rfl, rfl, hh⟩
  exact ⟨_, rfl, rfl, hh⟩
 ·
  dsimp only [Gc.inp]
  have g5 := ha _ (List.mem_of_getElem? (i := 3) rfl) kR
  replace g5 : (fun v B _ => B = [] ∧ Fe v (fM dN (fM y y))) (vs 5) (bs 5) Rj := g5
  dsimp only at g5
  have g6 := ha _ (List.mem_of_getElem? (i := 4) rfl) kR
  replace g6 : (fun v B _ => B = [] ∧ Fe v (1)) (vs 6) (bs 6) Rj := g6
  dsimp only at g6
  obtain ⟨-, k5⟩ := g5
  obtain ⟨-, k6⟩ := g6
  refine D7 (aS rfl (aS rfl (a0))) kR (A4h k5 k6 _) rfl ?_
  rintro r M1 J1 ⟨rfl, rfl, hh⟩
  exact ⟨_, rfl, rfl, hh⟩
 ·
  dsimp only [Gc.inp]
  have g7 := ha _ (List.mem_of_getElem? (i := 5) rfl) kR
  replace g7 : (fun v B _ => B = [] ∧ Fe v (fA (fM dN (fM y y)) 1)) (vs 7) (bs 7) Rj := g7
  dsimp only at g7
  obtain ⟨-, k7⟩ := g7
  refine D7 (aS rfl (a0)) kR (B1v k7 _) rfl ?_
  rintro r M1 J1 ⟨rfl, rfl, hh⟩
  exact ⟨_, rfl, rfl, hh⟩
 ·
  dsimp only [Gc.inp]
  have g2 := ha _ (List.mem_of_getElem? (i := 1) rfl) kR
  replace g2 : (fun v B _ => B = [] ∧ Fe v (fS (fM y y) 1)) (vs 2) (bs 2) Rj := g2
  dsimp only at g2
  have g8 := ha _ (List.mem_of_getElem? (i := 6) rfl) kR
  replace g8 : (fun v B _ => B = [] ∧ Fe v (fI (fA (fM dN (fM y y)) 1))) (vs 8) (bs 8) Rj := g8
  dsimp only at g8
  obtain ⟨-, k2⟩ := g2
  obtain ⟨-, k8⟩ := g8
  refine D7 (aS rfl (aS rfl (a0))) kR (T4 k2 k8 _) rfl ?_
  rintro r M1 J1 ⟨rfl, rfl, hh⟩
  exact ⟨_, rfl, rfl, hh⟩
 ·
  dsimp only [Gc.inp]
  have g9 := ha _ (List.mem_of_getElem? (i := 7) rfl) kR
  replace g9 : (fun v B _ => B = [] ∧ Fe v (xxN y)) (vs 9) (bs 9) Rj := g9
  dsimp only at g9
  obtain ⟨-, k9⟩ := g9
  refine D7 (aS rfl a0) kR (A9Q _ _ k9 _) rfl ?_
  rintro r M1 J1 ⟨rfl, rfl, hh⟩
  exact ⟨_, rfl, rfl, hh⟩
 ·
  dsimp only [Gc.inp]
  have g10 := ha _ (List.mem_of_getElem? (i := 8) rfl) kR
  replace g10 : (fun v B _ => B = [] ∧ Rt v (xxN y)) (vs 10) (bs 10) Rj := g10
  dsimp only at g10
  obtain ⟨-, k10⟩ := g10
  exact OpQ.opL qm_ rfl ⟨_, rfl, rfl, k10⟩
 ·
  dsimp only [Gc.inp]
  have g11 := ha _ (List.mem_of_getElem? (i := 9) rfl) kR
  replace g11 : (fun v B _ => B = [] ∧ Rt v (xxN y)) (vs 11) (bs 11) Rj := g11
  dsimp only at g11
  obtain ⟨-, k11⟩ := g11
  obtain ⟨w, ok, n, hw, hn, hrt⟩ := A8S k11
  exact OpQ.opL (N2 (vs := #[w, .bool ok]) (by rw [← hw]; rfl) rfl) rfl ⟨_, rfl, rfl, n, hn, fun m hm => by rcases hrt with ⟨h1, -⟩ | ⟨h1, -⟩ <;> rw [hm] at h1 <;> cases h1; rfl⟩
 ·
  dsimp only [Gc.inp]
  exact C5 (cs := [A7, A7, A7, A7, A7]) kR rfl fun b => ⟨_, rfl, b, rfl, rfl⟩
 ·
  have g11 := ha _ (List.mem_of_getElem? (i := 9) rfl) kR
  replace g11 : (fun v B _ => B = [] ∧ Rt v (xxN y)) (vs 11) (bs 11) Rj := g11
  dsimp only at g11
  obtain ⟨-, k11⟩ := g11
  obtain ⟨w, ok, n, hw, hn, hrt⟩ := A8S k11
  exact ⟨.bool ok, N2 (vs := #[w, .bool ok]) (by rw [← hw]; rfl) rfl, rfl, by rcases hrt with ⟨h1, rfl⟩ | ⟨h1, rfl⟩ <;> rw [h1] <;> rfl⟩
 intro vs bs Jn0 hφ hKK
 have kk1 := hKK _ (List.mem_of_getElem? (i := 0) rfl)
 dsimp only at kk1
 have kk2 := hKK _ (List.mem_of_getElem? (i := 1) rfl)
 dsimp only at kk2
 have kk3 := hKK _ (List.mem_of_getElem? (i := 2) rfl)
 dsimp only at kk3
 have kk5 := hKK _ (List.mem_of_getElem? (i := 3) rfl)
 dsimp only at kk5
 have kk6 := hKK _ (List.mem_of_getElem? (i := 4) rfl)
 dsimp only at kk6
 have kk7 := hKK _ (List.mem_of_getElem? (i := 5) rfl)
 dsimp only at kk7
 have kk8 := hKK _ (List.mem_of_getElem? (i := 6) rfl)
 dsimp only at kk8
 have kk9 := hKK _ (List.mem_of_getElem? (i := 7) rfl)
 dsimp only at kk9
 have kk10 := hKK _ (List.mem_of_getElem? (i := 8) rfl)
 dsimp only at kk10
 have kk11 := hKK _ (List.mem_of_getElem? (i := 9) rfl)
 dsimp only at kk11
 have kk12 := hKK _ (List.mem_of_getElem? (i := 10) rfl)
 dsimp only at kk12
 have kk14 := hKK _ (List.mem_of_getElem? (i := 11) rfl)
 dsimp only at kk14
 have kk13 := hKK _ (List.mem_of_getElem? (i := 12) rfl)
 dsimp only at kk13
 clear hKK
 have g1 := ofH hφ
 dsimp only at g1
 replace hφ := ofT hφ
 have g2 := ofH hφ
 dsimp only at g2
 replace hφ := ofT hφ
 have g3 := ofH hφ
 dsimp only at g3
 replace hφ := ofT hφ
 have g5 := ofH hφ
 dsimp only at g5
 replace hφ := ofT hφ
 have g6 := ofH hφ
 dsimp only at g6
 replace hφ := ofT hφ
 have g7 := ofH hφ
 dsimp only at g7
 replace hφ := ofT hφ
 have g8 := ofH hφ
 dsimp only at g8
 replace hφ := ofT hφ
 have g9 := ofH hφ
 dsimp only at g9
 replace hφ := ofT hφ
 have g10 := ofH hφ
 dsimp only at g10
 replace hφ := ofT hφ
 have g11 := ofH hφ
 dsimp only at g11
 replace hφ := ofT hφ
 have g12 := ofH hφ
 dsimp only at g12
 replace hφ := ofT hφ
 have g14 := ofH hφ
 dsimp only at g14
 replace hφ := ofT hφ
 have g13 := ofH hφ
 dsimp only at g13
 clear hφ
 dsimp only [U0, A0H, List.foldr, List.map, List.cons_append, List.nil_append]
 generalize bs 1 = B13 at *
 generalize bs 2 = B14 at *
 generalize bs 3 = B15 at *
 generalize bs 5 = B17 at *
 generalize bs 6 = B18 at *
 generalize bs 7 = B19 at *
 generalize bs 8 = B20 at *
 generalize bs 9 = B21 at *
 generalize bs 10 = B22 at *
 generalize bs 11 = B11 at *
 generalize bs 12 = B23 at *
 generalize bs 14 = B7 at *
 generalize bs 13 = B24 at *
 generalize vs 1 = u13 at *
 generalize vs 2 = u14 at *
 generalize vs 3 = u15 at *
 generalize vs 5 = u17 at *
 generalize vs 6 = u18 at *
 generalize vs 7 = u19 at *
 generalize vs 8 = u20 at *
 generalize vs 9 = u21 at *
 generalize vs 10 = u22 at *
 generalize vs 11 = u11 at *
 generalize vs 12 = u23 at *
 generalize vs 14 = u7 at *
 generalize vs 13 = u24 at *
 obtain ⟨rfl, -⟩ := g10
 obtain ⟨rfl, -⟩ := g11
 obtain ⟨rfl, n, hn, hnm⟩ := g12
 have hn0 := hn
 obtain ⟨n0, n1, n2, n3, n4, rfl, -⟩ := hn
 obtain ⟨ok, hrt, hok⟩ : ∃ ok, ((rtN (xxN y) = some n ∧ ok = true) ∨ (rtN (xxN y) = none ∧ ok = false)) ∧ (rtN (xxN y)).isSome = ok := by
  cases hq : rtN (xxN y) with
  | none => exact ⟨false, .inr ⟨rfl, rfl⟩, rfl⟩
  | some m => exact ⟨true, .inl ⟨by rw [hnm m hq], rfl⟩, rfl⟩
 obtain ⟨rfl, h13⟩ := g13
 rw [hok] at h13
 subst h13
 obtain ⟨b14, rfl, rfl⟩ := g14
 obtain ⟨rfl, -⟩ := g1
 obtain ⟨rfl, -⟩ := g2
 obtain ⟨rfl, -⟩ := g3
 obtain ⟨rfl, -⟩ := g5
 obtain ⟨rfl, -⟩ := g6
 obtain ⟨rfl, -⟩ := g7
 obtain ⟨rfl, -⟩ := g8
 obtain ⟨rfl, -⟩ := g9
 dsimp only [List.append_eq, List.nil_append, List.cons_append]
 refine P0 rfl rfl rfl (A8 rfl rfl Cel.cel kR ln5 al5 UpC.upd ?_)
 refine I8 hs rfl (I4 rfl) rfl ?_
 refine P4 (F5 1 2 4 7 8) (A5 ?_)
 rcases hrt with ⟨hrt, rfl⟩ | ⟨hrt, rfl⟩
 ·
  refine A3 (mv_ ?_)
  refine A4 (A0o rfl) rfl ?_
  refine mv_ ?_
  refine G2 rfl rfl (OpQ.opL qm_ rfl ?_)
  refine G2 rfl rfl (OpQ.opL qm_ rfl ?_)
  refine A0d (t := 29) rfl (fun hb => ?_) (fun hb => ?_)
  ·
   have ho : odd = true := hb
   refine G2 rfl rfl (OpQ.opL (qw_ 5) rfl ?_)
   refine B0D rfl rfl (aS rfl a0) kR (A9P _ n hn0 _) rfl ?_
   refine G2 rfl rfl (OpQ.opL (I5 rfl rfl) rfl ?_)
   refine A4 (E9 rfl rfl) rfl ?_
   refine A0 (F5 1 2 4 7 33) ?_
   refine C7 rfl ?_ ?_ <;> intro hc
   ·
    have hz : n = 0 := by simpa using hc
    refine A3 ?_
    refine A4 (F3 (place := fun x => #[(0, 5), (5, 5), (10, 5), (15, 5)][x]?) (z := [A7, A7, A7, A7, A7, A7, A7, A7, A7, A7, A7, A7, A7, A7, A7, A7, A7, A7, A7, A7]) (fun _ => by kernel_rfl) e0 bd0) rfl ?_
    refine A6 rfl (A8 rfl rfl Cel.cel kR A26 A27 UpC.upd ?_)
    refine as_ (A0 (D5 4 5) (C3 (tr ?_)))
    refine ⟨_, [], [], A1m rfl rfl rfl kR At.mem qR, List.nil_sublist _, by simp, rfl, rfl, _, _, rfl, .inr ⟨?_, rfl, ⟨_, rfl, _, _, _, _, _, _, _, _, _, _, _, _, _, _, _, _, _, _, _, _, rfl, K8, K8, K8, K8⟩⟩⟩
    rw [ho]; exact B7E hrt hz
   ·
    have hz : ¬ n = 0 := by simpa using hc
    refine A9 (nx (E7 1 2 4 7) (A5 (A3 ?_)))
    refine A4 (qw_ 5) rfl ?_
    refine F6 (aS rfl a0) kR (A3R _ n hn0 _) rfl ?_
    refine mv_ ?_
    refine A4 (A8h rfl rfl kR) rfl ?_
    refine A0 (E7 2 4 7 38) ?_
    refine C7 rfl ?_ ?_ <;> intro hc
    ·
     have hodd := hc
     refine C2 ?_
     refine A4 (qw_ 5) rfl ?_
     refine C9 (aS rfl a0) kR (B7w hn0 _) rfl ?_
     rintro r40 M40 J40 ⟨rfl, rfl, k40⟩
     have h40 := k40
     obtain ⟨a40, b40, c40, d40, e40, rfl, -⟩ := k40
     refine A6 rfl (A8 rfl rfl Cel.cel kR ln5 al5 UpC.upd ?_)
     refine A0 (E2 2 4 7) ?_
     refine D2 [0, 1, 2, 3, 4, 5, 6, 8] [(0, 1), (1, 1), (3, 1), (4, 1), (2, 2), (5, 2), (6, 0), (7, 2), (8, 0)] kR kR fun hs => ?_
     refine F7 hs rfl (qw_ 5) rfl ?_
     refine F7 hs rfl (qw_ 5) rfl ?_
     refine F7 hs rfl (qw_ 5) rfl ?_
     refine F7 hs rfl (qw_ 5) rfl ?_
     refine G1 rfl (aS rfl a0) kR (A0T 1 qD _) rfl ?_
     rintro r43 M43 J43 ⟨rfl, rfl, k43⟩
     have h43 := k43
     obtain ⟨a43, b43, c43, d43, e43, rfl, -⟩ := k43
     refine G1 rfl (aS rfl (aS rfl a0)) kR (T4 h40 hy _) rfl ?_
     rintro r46 M46 J46 ⟨rfl, rfl, k46⟩
     have h46 := k46
     obtain ⟨a46, b46, c46, d46, e46, rfl, -⟩ := k46
     refine D1 hs rfl (F3 (place := fun x => #[(0, 5), (5, 5), (10, 5), (15, 5)][x]?) (z := [A7, A7, A7, A7, A7, A7, A7, A7, A7, A7, A7, A7, A7, A7, A7, A7, A7, A7, A7, A7]) (fun _ => by kernel_rfl) (eS rfl (eS rfl (eS rfl (eS rfl e0)))) (bdS 0 5 rfl qR (bdS 5 5 rfl qR (bdS 10 5 rfl qR (bdS 15 5 rfl qR bd0))))) rfl ?_
     refine G5 rfl rfl rfl (A8 rfl rfl Cel.cel kR A26 A27 UpC.upd ?_)
     refine fa_ hs ?_
     refine E4 (D5 4 5) (C3 ?_)
     refine ⟨_, [], [], A1m rfl rfl rfl kR At.mem qR, List.nil_sublist _, by simp, rfl, rfl, _, _, rfl, .inl ⟨fN n, ?_, rfl, ⟨_, rfl, _, _, _, _, _, _, _, _, _, _, _, _, _, _, _, _, _, _, _, _, rfl, h40, hy, h43, h46⟩⟩⟩
     exact A5y hrt (by rw [ho, decide_eq_false hz]; rfl) hodd
    ·
     have hodd := hc
     refine A9 (nx (E2 2 4 7) ?_)
     refine D2 [0, 1, 2, 3, 4, 5, 6, 8] [(0, 1), (1, 1), (3, 1), (4, 1), (2, 2), (5, 2), (6, 0), (7, 2), (8, 0)] kR kR fun hs => ?_
     refine F7 hs rfl (qw_ 5) rfl ?_
     refine F7 hs rfl (qw_ 5) rfl ?_
     refine F7 hs rfl (qw_ 5) rfl ?_
     refine F7 hs rfl (qw_ 5) rfl ?_
     refine G1 rfl (aS rfl a0) kR (A0T 1 qD _) rfl ?_
     rintro r43 M43 J43 ⟨rfl, rfl, k43⟩
     have h43 := k43
     obtain ⟨a43, b43, c43, d43, e43, rfl, -⟩ := k43
     refine G1 rfl (aS rfl (aS rfl a0)) kR (T4 hn0 hy _) rfl ?_
     rintro r46 M46 J46 ⟨rfl, rfl, k46⟩
     have h46 := k46
     obtain ⟨a46, b46, c46, d46, e46, rfl, -⟩ := k46
     refine D1 hs rfl (F3 (place := fun x => #[(0, 5), (5, 5), (10, 5), (15, 5)][x]?) (z := [A7, A7, A7, A7, A7, A7, A7, A7, A7, A7, A7, A7, A7, A7, A7, A7, A7, A7, A7, A7]) (fun _ => by kernel_rfl) (eS rfl (eS rfl (eS rfl (eS rfl e0)))) (bdS 0 5 rfl qR (bdS 5 5 rfl qR (bdS 10 5 rfl qR (bdS 15 5 rfl qR bd0))))) rfl ?_
     refine G5 rfl rfl rfl (A8 rfl rfl Cel.cel kR A26 A27 UpC.upd ?_)
     refine fa_ hs ?_
     refine E4 (D5 4 5) (C3 ?_)
     refine ⟨_, [], [], A1m rfl rfl rfl kR At.mem qR, List.nil_sublist _, by simp, rfl, rfl, _, _, rfl, .inl ⟨n, ?_, rfl, ⟨_, rfl, _, _, _, _, _, _, _, _, _, _, _, _, _, _, _, _, _, _, _, _, rfl, hn0, hy, h43, h46⟩⟩⟩
     exact A5y hrt (by rw [ho, decide_eq_false hz]; rfl) hodd
  ·
   have ho : odd = false := hb
   refine L9 rfl rfl rfl rfl ?_
   refine L9 rfl rfl rfl rfl ?_
   refine G2 rfl rfl (OpQ.opL (E9 rfl rfl) rfl ?_)
   refine A4 (E9 rfl rfl) rfl ?_
   refine A0 (F5 1 2 4 7 33) ?_
   refine D3 rfl ?_
   refine A9 (nx (E7 1 2 4 7) (A5 (A3 ?_)))
   refine A4 (qw_ 5) rfl ?_
   refine F6 (aS rfl a0) kR (A3R _ n hn0 _) rfl ?_
   refine mv_ ?_
   refine A4 (A8h rfl rfl kR) rfl ?_
   refine A0 (E7 2 4 7 38) ?_
   refine C7 rfl ?_ ?_ <;> intro hc
   ·
    have hodd := hc
    refine C2 ?_
    refine A4 (qw_ 5) rfl ?_
    refine C9 (aS rfl a0) kR (B7w hn0 _) rfl ?_
    rintro r40 M40 J40 ⟨rfl, rfl, k40⟩
    have h40 := k40
    obtain ⟨a40, b40, c40, d40, e40, rfl, -⟩ := k40
    refine A6 rfl (A8 rfl rfl Cel.cel kR ln5 al5 UpC.upd ?_)
    refine A0 (E2 2 4 7) ?_
    refine D2 [0, 1, 2, 3, 4, 5, 6, 8] [(0, 1), (1, 1), (3, 1), (4, 1), (2, 2), (5, 2), (6, 0), (7, 2), (8, 0)] kR kR fun hs => ?_
    refine F7 hs rfl (qw_ 5) rfl ?_
    refine F7 hs rfl (qw_ 5) rfl ?_
    refine F7 hs rfl (qw_ 5) rfl ?_
    refine F7 hs rfl (qw_ 5) rfl ?_
    refine G1 rfl (aS rfl a0) kR (A0T 1 qD _) rfl ?_
    rintro r43 M43 J43 ⟨rfl, rfl, k43⟩
    have h43 := k43
    obtain ⟨a43, b43, c43, d43, e43, rfl, -⟩ := k43
    refine G1 rfl (aS rfl (aS rfl a0)) kR (T4 h40 hy _) rfl ?_
    rintro r46 M46 J46 ⟨rfl, rfl, k46⟩
    have h46 := k46
    obtain ⟨a46, b46, c46, d46, e46, rfl, -⟩ := k46
    refine D1 hs rfl (F3 (place := fun x => #[(0, 5), (5, 5), (10, 5), (15, 5)][x]?) (z := [A7, A7, A7, A7, A7, A7, A7, A7, A7, A7, A7, A7, A7, A7, A7, A7, A7, A7, A7, A7]) (fun _ => by kernel_rfl) (eS rfl (eS rfl (eS rfl (eS rfl e0)))) (bdS 0 5 rfl qR (bdS 5 5 rfl qR (bdS 10 5 rfl qR (bdS 15 5 rfl qR bd0))))) rfl ?_
    refine G5 rfl rfl rfl (A8 rfl rfl Cel.cel kR A26 A27 UpC.upd ?_)
    refine fa_ hs ?_
    refine E4 (D5 4 5) (C3 ?_)
    refine ⟨_, [], [], A1m rfl rfl rfl kR At.mem qR, List.nil_sublist _, by simp, rfl, rfl, _, _, rfl, .inl ⟨fN n, ?_, rfl, ⟨_, rfl, _, _, _, _, _, _, _, _, _, _, _, _, _, _, _, _, _, _, _, _, rfl, h40, hy, h43, h46⟩⟩⟩
    exact A5y hrt (by rw [ho]; rfl) hodd
   ·
    have hodd := hc
    refine A9 (nx (E2 2 4 7) ?_)
    refine D2 [0, 1, 2, 3, 4, 5, 6, 8] [(0, 1), (1, 1), (3, 1), (4, 1), (2, 2), (5, 2), (6, 0), (7, 2), (8, 0)] kR kR fun hs => ?_
    refine F7 hs rfl (qw_ 5) rfl ?_
    refine F7 hs rfl (qw_ 5) rfl ?_
    refine F7 hs rfl (qw_ 5) rfl ?_
    refine F7 hs rfl (qw_ 5) rfl ?_
    refine G1 rfl (aS rfl a0) kR (A0T 1 qD _) rfl ?_
    rintro r43 M43 J43 ⟨rfl, rfl, k43⟩
    have h43 := k43
    obtain ⟨a43, b43, c43, d43, e43, rfl, -⟩ := k43
    refine G1 rfl (aS rfl (aS rfl a0)) kR (T4 hn0 hy _) rfl ?_
    rintro r46 M46 J46 ⟨rfl, rfl, k46⟩
    have h46 := k46
    obtain ⟨a46, b46, c46, d46, e46, rfl, -⟩ := k46
    refine D1 hs rfl (F3 (place := fun x => #[(0, 5), (5, 5), (10, 5), (15, 5)][x]?) (z := [A7, A7, A7, A7, A7, A7, A7, A7, A7, A7, A7, A7, A7, A7, A7, A7, A7, A7, A7, A7]) (fun _ => by kernel_rfl) (eS rfl (eS rfl (eS rfl (eS rfl e0)))) (bdS 0 5 rfl qR (bdS 5 5 rfl qR (bdS 10 5 rfl qR (bdS 15 5 rfl qR bd0))))) rfl ?_
    refine G5 rfl rfl rfl (A8 rfl rfl Cel.cel kR A26 A27 UpC.upd ?_)
    refine fa_ hs ?_
    refine E4 (D5 4 5) (C3 ?_)
    refine ⟨_, [], [], A1m rfl rfl rfl kR At.mem qR, List.nil_sublist _, by simp, rfl, rfl, _, _, rfl, .inl ⟨n, ?_, rfl, ⟨_, rfl, _, _, _, _, _, _, _, _, _, _, _, _, _, _, _, _, _, _, _, _, rfl, hn0, hy, h43, h46⟩⟩⟩
    exact A5y hrt (by rw [ho]; rfl) hodd
 ·
  refine A3 (mv_ ?_)
  refine A4 (A0o rfl) rfl ?_
  refine mv_ ?_
  refine L9 rfl rfl rfl rfl ?_
  refine L9 rfl rfl rfl rfl ?_
  refine B8V rfl rfl rfl ?_
  refine B8V rfl rfl rfl ?_
  refine L9 rfl rfl rfl rfl ?_
  refine A4 (I5 rfl rfl) rfl ?_
  refine A0 (F5 1 2 4 7 33) ?_
  refine E0 rfl ?_
  refine A3 ?_
  refine A4 (F3 (place := fun x => #[(0, 5), (5, 5), (10, 5), (15, 5)][x]?) (z := [A7, A7, A7, A7, A7, A7, A7, A7, A7, A7, A7, A7, A7, A7, A7, A7, A7, A7, A7, A7]) (fun _ => by kernel_rfl) e0 bd0) rfl ?_
  refine A6 rfl (A8 rfl rfl Cel.cel kR A26 A27 UpC.upd ?_)
  refine as_ (A0 (D5 4 5) (C3 (tr ?_)))
  exact ⟨_, [], [], A1m rfl rfl rfl kR At.mem qR, List.nil_sublist _, by simp, rfl, rfl, _, _, rfl, .inr ⟨B7C hrt, rfl, ⟨_, rfl, _, _, _, _, _, _, _, _, _, _, _, _, _, _, _, _, _, _, _, _, rfl, K8, K8, K8, K8⟩⟩⟩
theorem A7S (A : Mem) : FnX Tryz.prog 69 [] [] A fun r M J => M = [] ∧ J = [] ∧ FeP r pS := by
 refine FnX.enter (N := 12) Tryz.func69 rfl rfl rfl fun w => ?_
 refine C4 kn (A3 ?_)
 refine A6 rfl (C5 (cs := [A7, A7, A7, A7, A7, A7, A7, A7, A7, A7, A7, A7, A7, A7, A7, A7, A7, A7, A7, A7]) kR rfl fun b0 => ?_)
 refine A0 (D8 0) (A3 ?_)
 refine C9 (aS rfl a0) kR (A0T 4 qD _) rfl ?_
 rintro r4 M4 J4 ⟨rfl, rfl, k4⟩
 have h4 := k4
 obtain ⟨a4, b4, c4, d4, e4, rfl, -⟩ := k4
 refine C9 (aS rfl a0) kR (A0T 5 qD _) rfl ?_
 rintro r5 M5 J5 ⟨rfl, rfl, k5⟩
 have h5 := k5
 obtain ⟨a5, b5, c5, d5, e5, rfl, -⟩ := k5
 refine C9 (aS rfl a0) kR (B1v h5 _) rfl ?_
 rintro r6 M6 J6 ⟨rfl, rfl, k6⟩
 have h6 := k6
 obtain ⟨a6, b6, c6, d6, e6, rfl, -⟩ := k6
 refine C9 (aS rfl (aS rfl a0)) kR (T4 h4 h6 _) rfl ?_
 rintro r7 M7 J7 ⟨rfl, rfl, k7⟩
 rw [B9P] at k7
 have h7 := k7
 obtain ⟨a7, b7, c7, d7, e7, rfl, -⟩ := k7
 refine C9 (aS rfl (aS rfl a0)) kR (at_f _ s45 false h7 _) rfl ?_
 rintro r8 M8 J8 ⟨rfl, rfl, V, ok, rfl, hat⟩
 have hP : FeP V pS := by
  rw [at45] at hat
  rcases hat with ⟨x, h1, _, h2⟩ | ⟨h1, _, h2⟩
  · obtain rfl := Option.some.inj h1; exact h2
  · cases h1
 have hP0 := hP
 obtain ⟨xsp, rfl, p0, p1, p2, p3, p4, p5, p6, p7, p8, p9, p10, p11, p12, p13, p14, p15, p16, p17, p18, p19, rfl, hpX, hpY, hpZ, hpT⟩ := hP
 dsimp only [nums, List.map]
 refine mv_ ?_
 refine A4 (A4e rfl) rfl ?_
 refine A4 (A38 rfl) rfl ?_
 refine A6 rfl (C5 (cs := [A7, A7, A7, A7, A7, A7, A7, A7, A7, A7, A7, A7, A7, A7, A7, A7, A7, A7, A7, A7]) kR rfl fun b1 => ?_)
 refine A6 rfl (A8 rfl rfl Cel.cel kR A26 A27 UpC.upd ?_)
 refine as_ (A0 (D5 0 1) (A3 ?_))
 refine A4 (qw_ 20) rfl ?_
 refine A6 rfl (A8 rfl rfl Cel.cel kR A26 A27 UpC.upd ?_)
 refine A0 (D8 0) (C3 ?_)
 exact ⟨_, [], [], A1x rfl rfl kR At.mem qR, List.nil_sublist _, by simp, rfl, rfl, hP0⟩

end Go.Proofs.YtoigcbkclcbmpaaGreatDoor
namespace Go.Px
theorem A5z {P : Program} {R : Mem} {l : Env} {d : Option Nat} {ty : TypeId} {pos : String} {af : Array Edge} {g : Option (Nat × Bool)} {fn : Fn} {xs : List Operand} {vs : List Value} (hx : Evs l xs vs) :
    OpQ P R ⟨d, .makeFunc fn #[] xs.toArray, ty, pos, af, g⟩ l (.func fn #[] vs.toArray) := fun N a w ha hw => by
  have e : xs.toArray.map a.eval = vs.toArray := by simp [hx.map ha]
  simp only [execOp, e]
  simp [Instr.makeFunc]
section call
variable {C : Cx} {l : Env} {M J : Mem} {K : Env → Mem → Mem → Prop} {d : Nat} {ty : TypeId} {pos : String} {af : Array Edge} {g : Option (Nat × Bool)} {x : Operand} {f : FuncId} {xs : List Operand} {vs cs : List Value} {ts : Array TypeId}
theorem B7G {Mc R : Mem} {post : Value → Mem → Mem → Prop} (h0 : ev l x = some (.func (.func f) #[] cs.toArray)) (hx : Evs l xs vs) (hc : K5 C.P f = true)
    (hM : M.Perm (Mc ++ R)) (hf : FnX C.P f (vs ++ cs) Mc (R ++ (J ++ C.A)) post) (hd : Nat.blt d C.N = true) (k : ∀ v M' J', post v M' J' → K ((d, v) :: l) (M' ++ R) (J' ++ J)) :
    OpL C ⟨some d, .call { callee := .value x, args := xs.toArray, argTypes := ts }, ty, pos, af, g⟩ l M J K := by
  intro Qp a w ha hw
  have hrun : (execOp a.eval ⟨some d, .call { callee := .value x, args := xs.toArray, argTypes := ts }, ty, pos, af, g⟩).run C.P w = .ok (.enter f (vs ++ cs).toArray) w := by
    have e : xs.toArray.map a.eval = vs.toArray := by simp [hx.map ha]
    simp only [execOp, resolve, e, Sem.run_bind, ha.ev h0]
    simp [Deferred.ofValue, invoke, A8i hc]
  unfold Oper.wp
  rw [hrun]
  refine Calls.mono (hf w (hw.callee hM)) ?_
  rintro e w' ⟨v, M', J', rfl, hp, hs⟩
  exact ⟨_, _, _, ha.put (C8 hd) v, hw.back hM hs, k v M' J' hp⟩
theorem A2d {v : Value} (h0 : ev l x = some (.func (.func f) #[] cs.toArray)) (hx : Evs l xs vs) (hc : K5 C.P f = true) (hf : FnV C.P f (vs ++ cs) (M ++ (J ++ C.A)) v) (hd : Nat.blt d C.N = true) (k : K ((d, v) :: l) M J) :
    OpL C ⟨some d, .call { callee := .value x, args := xs.toArray, argTypes := ts }, ty, pos, af, g⟩ l M J K :=
  B7G (Mc := []) (R := M) h0 hx hc (.refl _) hf hd fun r M' J' ⟨e, h1, h2⟩ => by subst e; subst h1; subst h2; exact k
end call
def A7j (p : Nat → Bool) (n : Nat) : Int := match (List.range n).find? p with
  | some i => (i : Int)
  | none => -1
theorem A2e {p : Nat → Bool} {n i : Nat} (hi : i < n) (h0 : ∀ j, j < i → p j = false) (h : p i = true) : A7j p n = (i : Int) := by
  unfold A7j
  have : (List.range n).find? p = some i := by
    rw [List.find?_range_eq_some]
    exact ⟨h, List.mem_range.2 hi, fun j hj => by rw [h0 j hj]; rfl⟩
  rw [this]
theorem A2f {p : Nat → Bool} {n : Nat} (h0 : ∀ j, j < n → p j = false) : A7j p n = -1 := by
  unfold A7j
  have : (List.range n).find? p = none := by
    rw [List.find?_eq_none]
    intro j hj
    rw [h0 j (List.mem_range.1 hj)]; decide
  rw [this]
theorem A2z (p : Nat → Bool) (n : Nat) : (A7j p n = -1 ∧ ∀ j, j < n → p j = false) ∨ ∃ i, i < n ∧ A7j p n = (i : Int) ∧ p i = true ∧ ∀ j, j < i → p j = false := by
  cases h : (List.range n).find? p with
  | none =>
    have h1 : ∀ j, j < n → p j = false := fun j hj => by
      have := List.find?_eq_none.1 h j (List.mem_range.2 hj)
      simpa using this
    exact .inl ⟨A2f h1, h1⟩
  | some i =>
    obtain ⟨h1, h2, h3⟩ := List.find?_range_eq_some.1 h
    have h4 : ∀ j, j < i → p j = false := fun j hj => by simpa using h3 j hj
    exact .inr ⟨i, List.mem_range.1 h2, A2e (List.mem_range.1 h2) h4 h1, h1, h4⟩
structure RowT {α : Type} (sz : Nat) (φ : Mem → α → List Value → Prop) : Prop where
  mono : ∀ R R' x r, (∀ q, q ∈ R → q ∈ R') → φ R x r → φ R' x r
  len : ∀ R x r, φ R x r → r.length = sz
  one : ∀ R x r, φ R x r → ∀ c ∈ r, c.oneCell' = true
structure RwL {α : Type} (φ : Mem → α → List Value → Prop) (R : Mem) (rows : List (List Value)) (xs : List α) : Prop where
  len : rows.length = xs.length
  get : ∀ (j : Nat) (x : α), xs[j]? = some x → ∃ r, rows[j]? = some r ∧ φ R x r
section rows
variable {α : Type} {sz : Nat} {φ : Mem → α → List Value → Prop} {R R' : Mem} {rows : List (List Value)} {xs : List α} {x : α} {r : List Value}
theorem RwL.mono (hφ : RowT sz φ) (h : RwL φ R rows xs) (hR : ∀ q, q ∈ R → q ∈ R') : RwL φ R' rows xs := ⟨h.len, fun j x hj => by
  obtain ⟨r, h1, h2⟩ := h.get j x hj
  exact ⟨r, h1, hφ.mono _ _ _ _ hR h2⟩⟩
theorem RwL.nil : RwL φ R [] [] := ⟨rfl, fun j x h => by simp at h⟩
theorem RwL.of (h : RwL φ R rows xs) {j : Nat} (hr : rows[j]? = some r) : ∃ x, xs[j]? = some x ∧ φ R x r := by
  have hj : j < xs.length := by rw [← h.len]; exact (List.getElem?_eq_some_iff.1 hr).1
  obtain ⟨r', h1, h2⟩ := h.get j xs[j] (List.getElem?_eq_getElem hj)
  rw [hr] at h1
  cases h1
  exact ⟨_, List.getElem?_eq_getElem hj, h2⟩
theorem RwL.lens (hφ : RowT sz φ) (h : RwL φ R rows xs) : ∀ r ∈ rows, r.length = sz := by
  intro r hr
  obtain ⟨j, hj⟩ := List.getElem?_of_mem hr
  obtain ⟨x, _, h2⟩ := h.of hj
  exact hφ.len _ _ _ h2
theorem RwL.ones (hφ : RowT sz φ) (h : RwL φ R rows xs) : ∀ c ∈ rows.flatten, c.oneCell' = true := by
  intro c hc
  obtain ⟨r, hr, hc⟩ := List.mem_flatten.1 hc
  obtain ⟨j, hj⟩ := List.getElem?_of_mem hr
  obtain ⟨x, _, h2⟩ := h.of hj
  exact hφ.one _ _ _ h2 c hc
theorem RwL.snoc (h : RwL φ R rows xs) (hx : φ R x r) : RwL φ R (rows ++ [r]) (xs ++ [x]) := ⟨by simp [h.len], fun j y hj => by
  by_cases hlt : j < xs.length
  · rw [List.getElem?_append_left hlt] at hj
    obtain ⟨r', h1, h2⟩ := h.get j y hj
    exact ⟨r', by rw [List.getElem?_append_left (List.getElem?_eq_some_iff.1 h1).1]; exact h1, h2⟩
  · rw [List.getElem?_append_right (by omega)] at hj
    have hj0 : j = xs.length := by
      have := (List.getElem?_eq_some_iff.1 hj).1
      simp at this; omega
    subst hj0
    simp at hj
    subst hj
    exact ⟨r, by rw [List.getElem?_append_right (by rw [h.len]; omega), h.len]; simp, hx⟩⟩
theorem RwL.app {rows' : List (List Value)} {xs' : List α} (h : RwL φ R rows xs) (h' : RwL φ R rows' xs') : RwL φ R (rows ++ rows') (xs ++ xs') := ⟨by simp [h.len, h'.len], fun j y hj => by
  by_cases hlt : j < xs.length
  · rw [List.getElem?_append_left hlt] at hj
    obtain ⟨r', h1, h2⟩ := h.get j y hj
    exact ⟨r', by rw [List.getElem?_append_left (List.getElem?_eq_some_iff.1 h1).1]; exact h1, h2⟩
  · rw [List.getElem?_append_right (by omega)] at hj
    obtain ⟨r', h1, h2⟩ := h'.get _ y hj
    exact ⟨r', by rw [List.getElem?_append_right (by rw [h.len]; omega), h.len]; exact h1, h2⟩⟩
theorem RwL.cons (hx : φ R x r) (h : RwL φ R rows xs) : RwL φ R (r :: rows) (x :: xs) := ⟨by simp [h.len], fun j y hj => by
  cases j with
  | zero => simp at hj; subst hj; exact ⟨r, rfl, hx⟩
  | succ j => exact h.get j y hj⟩
theorem RwL.take (h : RwL φ R rows xs) (k : Nat) : RwL φ R (rows.take k) (xs.take k) := ⟨by simp [h.len], fun j y hj => by
  have hk : j < k := by
    rcases Nat.lt_or_ge j k with h | h
    · exact h
    · rw [List.getElem?_eq_none (by simp; omega)] at hj; cases hj
  rw [List.getElem?_take_of_lt hk] at hj ⊢
  exact h.get j y hj⟩
theorem RwL.drop (h : RwL φ R rows xs) (k : Nat) : RwL φ R (rows.drop k) (xs.drop k) := ⟨by simp [h.len], fun j y hj => by
  rw [List.getElem?_drop] at hj ⊢
  exact h.get _ y hj⟩
end rows
def A1H {α : Type} (q : α → Bool) (xs : List α) : Int := A7j (fun j => (xs[j]?.map q).getD false) xs.length
theorem A0I {α : Type} (q : α → Bool) (xs : List α) : (A1H q xs = -1 ∧ ∀ x ∈ xs, q x = false) ∨ ∃ (i : Nat) (x : α), A1H q xs = (i : Int) ∧ xs[i]? = some x ∧ q x = true ∧ ∀ (j : Nat) (y : α), j < i → xs[j]? = some y → q y = false := by
  rcases A2z (fun j => (xs[j]?.map q).getD false) xs.length with ⟨h1, h2⟩ | ⟨i, h1, h2, h3, h4⟩
  · refine .inl ⟨h1, fun x hx => ?_⟩
    obtain ⟨j, hj⟩ := List.getElem?_of_mem hx
    have := h2 j (List.getElem?_eq_some_iff.1 hj).1
    rw [hj] at this
    exact this
  · refine .inr ⟨i, xs[i], h2, List.getElem?_eq_getElem h1, ?_, fun j y hj hy => ?_⟩
    · rw [List.getElem?_eq_getElem h1] at h3
      exact h3
    · have := h4 j hj
      rw [hy] at this
      exact this
end Go.Px

namespace Go.Px
def mkB (P : Program) (t : TypeId) : Option (TypeId × Nat) :=
  match P.underlying t with
  | some (.slice e) => match P.info? e with
    | some i => match i.zero with
      | some (.bool false) => if i.size = 1 then some (e, i.bytes) else none
      | _ => none
    | none => none
  | _ => none
def B9R (h : List Bool) : List Value := h.map .bool
@[simp] theorem bools_len (h : List Bool) : (B9R h).length = h.length := by simp [B9R]
def appB (P : Program) (t tn : TypeId) : Option (TypeId × Nat) :=
  match P.underlying tn with
  | some (.int _) => mkB P t
  | _ => none
section zb
variable {C : Cx} {l : Env} {M J : Mem} {K : Env → Mem → Mem → Prop} {d : Nat} {ty t tn e : TypeId} {pos : String} {af : Array Edge} {g : Option (Nat × Bool)} {x y : Operand}
end zb
theorem C1M {C : Cx} {l : Env} {M J : Mem} {K : Env → Mem → Mem → Prop} {ty t : TypeId} {pos : String} {af : Array Edge} {g : Option (Nat × Bool)} {x y : Operand} {v u : Value} {xs : List Value} {n j : Nat} {B M0 : Mem} (h : Sl 1 v n xs B) (hx : ev l x = some (vAt 1 j v)) (hy : ev l y = some u) (h1 : u.oneCell' = true)
    (ht : P7 C.P t = some 1) (hj : j < n) (hM : M.Perm (B ++ M0)) (h2 : ∀ B', Sl 1 v n (xs.set j u) B' → K l (B' ++ M0) J) :
    OpL C ⟨none, .store t x y, ty, pos, af, g⟩ l M J K := by
  suffices hh : OpL C ⟨none, .store t x y, ty, pos, af, g⟩ l (B ++ M0) J K from fun Qp a w ha hw => hh Qp a w ha (hw.fit (Fit.perm hM) fun _ h => h)
  clear hM
  rcases h with ⟨p, rfl, rfl, hx2, rfl⟩ | ⟨b, o, cap, cs, e, rfl, rfl, h3, h4, h5, h6, h7⟩
  · omega
  · simp only [vAt, Addr.add_mid, Nat.mul_one] at hx
    refine D6 hx hy h1 ht (A20 (by omega)) .hd (h2 [_] (.inr ⟨b, o, cap, _, e, rfl, rfl, h3, h4, by simpa using h5, by simpa using h6, ?_⟩))
    intro i w hi
    rw [List.getElem?_set] at hi ⊢
    by_cases hij : j = i
    · subst hij
      simp only [if_true] at hi ⊢
      simp at hi h6
      rw [if_pos (by omega)]
      rw [← hi.2]
    · rw [if_neg hij] at hi
      rw [if_neg (by omega)]
      exact h7 i w hi
section call
variable {C : Cx} {l : Env} {M J : Mem} {K : Env → Mem → Mem → Prop} {d : Nat} {ty : TypeId} {pos : String} {af : Array Edge} {g : Option (Nat × Bool)} {x : Operand} {f : FuncId} {xs : List Operand} {us vs cs : List Value} {ts : Array TypeId}
end call
end Go.Px

namespace Go.Proofs.YtoigcbkclcbmpaaGreatDoor
open Go.Px
def pSt (P : Pt) (n i : Nat) (Q : Pt) : Pt := if n / 2 ^ i % 2 = 1 then A56 d2N (A56 d2N Q Q) P else A56 d2N Q Q
def itr (f : Nat → Pt → Pt) (z : Pt) : Nat → Pt
  | 0 => z
  | k + 1 => f k (itr f z k)
theorem B4l (f : Nat → Pt → Pt) (z : Pt) (k : Nat) : itr f z (k + 1) = f k (itr f z k) := rfl
def pTk (P : Pt) (n : Nat) (k : Nat) : Pt := itr (fun k Q => pSt P n (255 - k) Q) pO k
theorem B4m (P : Pt) (n : Nat) : pTk P n 0 = pO := rfl
theorem A8T (P : Pt) (n k : Nat) : pTk P n (k + 1) = pSt P n (255 - k) (pTk P n k) := B4l _ _ _
def V9 (P : Pt) (n : Nat) : Pt := pTk P n 256
theorem A7T {P Q : Pt} {n i : Nat} (h : n / 2 ^ i % 2 = 1) : pSt P n i Q = A56 d2N (A56 d2N Q Q) P := if_pos h
theorem A7U {P Q : Pt} {n i : Nat} (h : ¬ n / 2 ^ i % 2 = 1) : pSt P n i Q = A56 d2N Q Q := if_neg h
theorem tk1 {i : Nat} (h : i < 256) : 256 - i = (256 - (i + 1)) + 1 := by omega
theorem tk2 {i : Nat} (h : i < 256) : 255 - (256 - (i + 1)) = i := by omega
theorem tk3 {P : Pt} {n i : Nat} (h : i < 256) : pTk P n (256 - i) = pTk P n ((256 - (i + 1)) + 1) := congrArg (pTk P n) (tk1 h)
theorem tk4 {P : Pt} {n i : Nat} : pTk P n ((256 - (i + 1)) + 1) = pSt P n (255 - (256 - (i + 1))) (pTk P n (256 - (i + 1))) := A8T P n _
theorem tk5 {P : Pt} {n i : Nat} (h : i < 256) : pSt P n (255 - (256 - (i + 1))) (pTk P n (256 - (i + 1))) = pSt P n i (pTk P n (256 - (i + 1))) := congrArg (fun j => pSt P n j (pTk P n (256 - (i + 1)))) (tk2 h)
theorem A8U {P : Pt} {n i : Nat} (h : i < 256) : pTk P n (256 - i) = pSt P n i (pTk P n (256 - (i + 1))) := (tk3 h).trans (tk4.trans (tk5 h))
noncomputable def pB (P : Pt) : LN :=
  if fM P.X (fI P.Z) % 2 = 1 then (X3 8 32 (fM P.Y (fI P.Z)) 255).set 31 ((X3 8 32 (fM P.Y (fI P.Z)) 255).getD 31 0 ||| 128) else X3 8 32 (fM P.Y (fI P.Z)) 255
theorem B51 (P : Pt) : (pB P).length = 32 := by unfold pB; split <;> simp [L4]
theorem C1N {x : Nat} (h : x < 256) : (x ||| 128) < 256 := Nat.or_lt_two_pow (n := 8) h qD
theorem B4n (P : Pt) : ∀ x ∈ pB P, x < 256 := by
  intro x hx
  unfold pB at hx
  split at hx
  · rcases List.mem_or_eq_of_mem_set hx with h | rfl
    · exact A0F _ _ x h
    · exact C1N (getD_lt (A0F _ _) qD)
  · exact A0F _ _ x hx
theorem A6U {k : IntKind} {a b : LN} (h : nums k a = nums k b) : a = b := by
  unfold nums at h
  induction a generalizing b with
  | nil => cases b with
    | nil => rfl
    | cons y b => simp at h
  | cons x a ih => cases b with
    | nil => simp at h
    | cons y b =>
      simp only [List.map_cons, List.cons.injEq, Value.int.injEq, true_and] at h
      rw [ih h.2, Int.ofNat.inj h.1]
theorem A9T {a b : LN} (h : Value.agg (nums .u64 a).toArray = .agg (nums .u64 b).toArray) : b = a := by
  have h1 : nums .u64 a = nums .u64 b := by simpa using h
  exact (A6U h1).symm
theorem A5A (V : Value) (P : Pt) (es : LN) (hP : FeP V P) (hes : es.length = 32) (he256 : ∀ y ∈ es, y < 256) (A : Mem) : FnX Tryz.prog 68 [V, .agg (nums .u8 es).toArray] [] A fun r M J => M = [] ∧ J = [] ∧ FeP r (V9 P (bv es)) := by
 have hP0 := hP
 obtain ⟨xsp, rfl, p0, p1, p2, p3, p4, p5, p6, p7, p8, p9, p10, p11, p12, p13, p14, p15, p16, p17, p18, p19, rfl, hpX, hpY, hpZ, hpT⟩ := hP
 dsimp only [nums, List.map]
 refine FnX.enter (N := 34) Tryz.func68 rfl rfl rfl fun w => ?_
 refine C4 (D5 0 1) (A3 ?_)
 refine A6 rfl (bx_ fun b2 => ?_)
 refine A6 rfl (bx_ fun b3 => ?_)
 refine A6 rfl (C5 (cs := [A7, A7, A7, A7, A7, A7, A7, A7, A7, A7, A7, A7, A7, A7, A7, A7, A7, A7, A7, A7]) kR rfl fun b4 => ?_)
 refine A0 (E2 2 3 4) (A3 ?_)
 refine C9 a0 kR (B4i _) rfl ?_
 rintro r1 M1 J1 ⟨rfl, rfl, hO⟩
 have hO0 := hO
 obtain ⟨xso, rfl, o0, o1, o2, o3, o4, o5, o6, o7, o8, o9, o10, o11, o12, o13, o14, o15, o16, o17, o18, o19, rfl, hoX, hoY, hoZ, hoT⟩ := hO
 dsimp only [nums, List.map]
 refine C9 (aS rfl a0) kR (A0T 2 qD _) rfl ?_
 rintro rw2 Mw2 Jw2 ⟨rfl, rfl, kw2⟩
 have hw2 := kw2
 obtain ⟨aw2, bw2, cw2, dw2, ew2, rfl, -⟩ := kw2
 refine C9 a0 kR (A7N _) rfl ?_
 rintro rw3 Mw3 Jw3 ⟨rfl, rfl, kw3⟩
 have hw3 := kw3
 obtain ⟨aw3, bw3, cw3, dw3, ew3, rfl, -⟩ := kw3
 refine C9 (aS rfl (aS rfl a0)) kR (T4 hw2 hw3 _) rfl ?_
 rintro rd Md Jd ⟨rfl, rfl, kd⟩
 rw [B7x] at kd
 have hd := kd
 obtain ⟨ad, bd, cd, dd, ed, rfl, -⟩ := kd
 refine A6 rfl (C5 (cs := [A7, A7, A7, A7, A7, A7, A7, A7, A7, A7, A7, A7, A7, A7, A7, A7, A7, A7, A7, A7]) kR rfl fun b5 => ?_)
 refine A6 rfl (C5 (cs := [A7, A7, A7, A7, A7]) kR rfl fun b6 => ?_)
 refine A6 rfl (A8 rfl rfl Cel.cel kR A26 A27 UpC.upd ?_)
 refine A6 rfl (A8 rfl rfl Cel.cel kR ln5 al5 UpC.upd ?_)
 refine A0 (F5 2 3 4 5 6) (A5 (A3 (as_ (A0 (I1 2 3 4 5 6 7) (C0 ?_)))))
 refine A0p (M' := [(b6, blk [.int .u64 (ad : Int), .int .u64 (bd : Int), .int .u64 (cd : Int), .int .u64 (dd : Int), .int .u64 (ed : Int)] 113), (b5, blk (nums .u64 [o0, o1, o2, o3, o4, o5, o6, o7, o8, o9, o10, o11, o12, o13, o14, o15, o16, o17, o18, o19]) 126), (b4, blk [.int .u64 0, .int .u64 0, .int .u64 0, .int .u64 0, .int .u64 0, .int .u64 0, .int .u64 0, .int .u64 0, .int .u64 0, .int .u64 0, .int .u64 0, .int .u64 0, .int .u64 0, .int .u64 0, .int .u64 0, .int .u64 0, .int .u64 0, .int .u64 0, .int .u64 0, .int .u64 0] 126), (b3, blk (nums .u8 es) 110), (b2, blk [.int .u64 (p0 : Int), .int .u64 (p1 : Int), .int .u64 (p2 : Int), .int .u64 (p3 : Int), .int .u64 (p4 : Int), .int .u64 (p5 : Int), .int .u64 (p6 : Int), .int .u64 (p7 : Int), .int .u64 (p8 : Int), .int .u64 (p9 : Int), .int .u64 (p10 : Int), .int .u64 (p11 : Int), .int .u64 (p12 : Int), .int .u64 (p13 : Int), .int .u64 (p14 : Int), .int .u64 (p15 : Int), .int .u64 (p16 : Int), .int .u64 (p17 : Int), .int .u64 (p18 : Int), .int .u64 (p19 : Int)] 126)]) (Fit.eq rfl) qI ?_
 refine F2 (α := Nat × LN) (fun y => [(2, (vP b2)), (3, (vP b3)), (4, (vP b4)), (5, (vP b5)), (6, (vP b6)), (7, .int .i64 ((y.1 : Int) - 1))]) (fun y => [(b6, blk [.int .u64 (ad : Int), .int .u64 (bd : Int), .int .u64 (cd : Int), .int .u64 (dd : Int), .int .u64 (ed : Int)] 113), (b5, blk (nums .u64 y.2) 126), (b4, blk [.int .u64 0, .int .u64 0, .int .u64 0, .int .u64 0, .int .u64 0, .int .u64 0, .int .u64 0, .int .u64 0, .int .u64 0, .int .u64 0, .int .u64 0, .int .u64 0, .int .u64 0, .int .u64 0, .int .u64 0, .int .u64 0, .int .u64 0, .int .u64 0, .int .u64 0, .int .u64 0] 126), (b3, blk (nums .u8 es) 110), (b2, blk [.int .u64 (p0 : Int), .int .u64 (p1 : Int), .int .u64 (p2 : Int), .int .u64 (p3 : Int), .int .u64 (p4 : Int), .int .u64 (p5 : Int), .int .u64 (p6 : Int), .int .u64 (p7 : Int), .int .u64 (p8 : Int), .int .u64 (p9 : Int), .int .u64 (p10 : Int), .int .u64 (p11 : Int), .int .u64 (p12 : Int), .int .u64 (p13 : Int), .int .u64 (p14 : Int), .int .u64 (p15 : Int), .int .u64 (p16 : Int), .int .u64 (p17 : Int), .int .u64 (p18 : Int), .int .u64 (p19 : Int)] 126)]) (fun _ => []) (fun y => y.1 ≤ 256 ∧ FeP (.agg (nums .u64 y.2).toArray) (pTk P (bv es) (256 - y.1))) (fun y => y.1) (256, [o0, o1, o2, o3, o4, o5, o6, o7, o8, o9, o10, o11, o12, o13, o14, o15, o16, o17, o18, o19]) ⟨Nat.le_refl _, by show FeP _ (pTk P (bv es) (256 - 256)); rw [Nat.sub_self, B4m]; exact hO0⟩ (I1 2 3 4 5 6 7) .rfl qI ?_
 clear hO0 hoX hoY hoZ hoT
 rintro ⟨j, zs⟩ ⟨hj, ho⟩
 dsimp only at hj ho ⊢
 have ho0 := ho
 obtain ⟨zs_, e_, z0, z1, z2, z3, z4, z5, z6, z7, z8, z9, z10, z11, z12, z13, z14, z15, z16, z17, z18, z19, rfl, hzX, hzY, hzZ, hzT⟩ := ho
 obtain rfl := A9T e_
 refine A5 (A3 (mv_ ?_))
 refine A4 (F1 rfl rfl rfl) rfl ?_
 refine A0 (Y0 2 3 4 5 6 7 13) ?_
 refine C7 rfl ?_ ?_ <;> intro hc
 ·
  have hj0 : 0 < j := by simp at hc; omega
  obtain ⟨i, rfl⟩ : ∃ i, j = i + 1 := ⟨j - 1, by omega⟩
  rw [show (((i + 1 : Nat) : Int) - 1) = (i : Int) by omega]
  have hts := A8U (P := P) (n := bv es) (show i < 256 by omega)
  have hbit := A6L he256 i
  have hpb : es.getD (i / 8) 0 < 256 := getD_lt he256 qD
  refine A9 (nx (I1 2 3 4 5 6 7) (A5 (C0 (A3 ?_))))
  refine A4 (qw_ 20) rfl ?_
  refine A4 (qw_ 20) rfl ?_
  refine A4 (qw_ 5) rfl ?_
  refine C9 (aS rfl (aS rfl (aS rfl a0))) kR (B1w _ _ _ _ _ d2N ho0 ho0 hd _) rfl ?_
  rintro r5 M5 J5 ⟨rfl, rfl, k5⟩
  have h5 := k5
  obtain ⟨xss, rfl, s0, s1, s2, s3, s4, s5, s6, s7, s8, s9, s10, s11, s12, s13, s14, s15, s16, s17, s18, s19, rfl, hsX, hsY, hsZ, hsT⟩ := k5
  dsimp only [nums, List.map]
  refine A6 rfl (A8 rfl rfl Cel.cel kR A26 A27 UpC.upd ?_)
  refine A0 (I1 2 3 4 5 6 7) (A3 (mv_ ?_))
  refine A4 (A04 8 rfl rfl rfl qD (A2r qO)) rfl ?_
  refine A4 (E5 (e := 5) (n := 32) (sz := 1) (i := i / 8) rfl rfl kR kR rfl qO) rfl ?_
  refine A4 (Q9 (i / 8) rfl kR At.mem qO qO) rfl ?_
  refine mv_ ?_
  refine A4 (A05 8 rfl rfl rfl qD) rfl ?_
  refine A4 (A2K (a := es.getD (i / 8) 0) (b := i % 8) rfl rfl rfl rfl (by show _ ≤ 8; omega)) rfl ?_
  refine A4 (hbit ▸ N4 1 2 rfl rfl rfl rfl rfl (by show _ < 256; exact Nat.lt_of_le_of_lt (Nat.div_le_self _ _) hpb) qD) rfl ?_
  refine A4 (F1 rfl rfl rfl) rfl ?_
  refine A0 (Y0 2 3 4 5 6 7 28) ?_
  refine C7 rfl ?_ ?_ <;> intro hc
  ·
   have hb1 : bv es / 2 ^ i % 2 = 1 := by revert hc; generalize bv es / 2 ^ i % 2 = z; intro hc; simp at hc; omega
   rw [A7T hb1] at hts
   refine C2 ?_
   refine A4 (qw_ 20) rfl ?_
   refine A4 (qw_ 20) rfl ?_
   refine A4 (qw_ 5) rfl ?_
   refine C9 (aS rfl (aS rfl (aS rfl a0))) kR (B1w _ _ _ _ _ d2N h5 hP0 hd _) rfl ?_
   rintro r7 M7 J7 ⟨rfl, rfl, k7⟩
   rw [← hts] at k7
   have h7 := k7
   obtain ⟨xst, rfl, t0, t1, t2, t3, t4, t5, t6, t7, t8, t9, t10, t11, t12, t13, t14, t15, t16, t17, t18, t19, rfl, htX, htY, htZ, htT⟩ := k7
   dsimp only [nums, List.map]
   refine A6 rfl (A8 rfl rfl Cel.cel kR A26 A27 UpC.upd ?_)
   refine D0 (nb (nx (I1 2 3 4 5 6 7) (C2 (mv_ ?_))))
   refine A4 (E3 ((i : Int) - 1) rfl rfl (Z9 rfl qO qO)) rfl ?_
   refine as_ (D0 ?_)
   exact rn (i, [t0, t1, t2, t3, t4, t5, t6, t7, t8, t9, t10, t11, t12, t13, t14, t15, t16, t17, t18, t19]) ⟨by dsimp only; omega, h7⟩ (by dsimp only; omega) (I1 2 3 4 5 6 7) (Fit.eq rfl) qI
  ·
   have hb1 : ¬ bv es / 2 ^ i % 2 = 1 := by revert hc; generalize bv es / 2 ^ i % 2 = z; intro hc; simp at hc; omega
   rw [A7U hb1] at hts
   refine A9 (nb (nx (I1 2 3 4 5 6 7) (C2 (mv_ ?_))))
   refine A4 (E3 ((i : Int) - 1) rfl rfl (Z9 rfl qO qO)) rfl ?_
   refine as_ (D0 ?_)
   exact rn (i, [s0, s1, s2, s3, s4, s5, s6, s7, s8, s9, s10, s11, s12, s13, s14, s15, s16, s17, s18, s19]) ⟨by dsimp only; omega, by dsimp only; rw [hts]; exact h5⟩ (by dsimp only; omega) (I1 2 3 4 5 6 7) (Fit.eq rfl) qI
 ·
  have hj0 : j = 0 := by simp at hc; omega
  subst hj0
  refine E6 (te (re (be rfl (nx (D5 4 5) (A3 ?_)))))
  refine A4 (qw_ 20) rfl ?_
  refine A6 rfl (A8 rfl rfl Cel.cel kR A26 A27 UpC.upd ?_)
  refine A0 (D8 4) (C3 ?_)
  exact ⟨_, [], [], A1x rfl rfl kR At.mem qR, List.nil_sublist _, by simp, rfl, rfl, ho0⟩
theorem A5B (V : Value) (P : Pt) (hP : FeP V P) (A : Mem) : FnX Tryz.prog 67 [V] [] A fun r M J => J = [] ∧ Sl 1 r 32 (nums .u8 (pB P)) M := by
 obtain ⟨xsp, rfl, p0, p1, p2, p3, p4, p5, p6, p7, p8, p9, p10, p11, p12, p13, p14, p15, p16, p17, p18, p19, rfl, hpX, hpY, hpZ, hpT⟩ := hP
 dsimp only [nums, List.map]
 refine FnX.enter (N := 24) Tryz.func67 rfl rfl rfl fun w => ?_
 refine C4 (D8 0) (A3 ?_)
 refine A6 rfl (bx_ fun b1 => ?_)
 refine as_ (A0 (D8 1) (A3 ?_))
 refine A4 (qf_ 10 10) rfl ?_
 refine A4 (H2 (n := 5) rfl kR (by first | exact At.mem | exact mA (by assumption)) TakeC.take) rfl ?_
 refine C9 (aS rfl a0) kR (B1v hpZ _) rfl ?_
 rintro r3 M3 J3 ⟨rfl, rfl, k3⟩
 have h3 := k3
 obtain ⟨a3, b3, c3, d3, e3, rfl, -⟩ := k3
 refine A6 rfl (C5 (cs := [A7, A7, A7, A7, A7]) kR rfl fun b3 => ?_)
 refine A6 rfl (A8 rfl rfl Cel.cel kR ln5 al5 UpC.upd ?_)
 refine A0 (D5 1 3) (A3 ?_)
 refine A4 (qf_ 5 5) rfl ?_
 refine A4 (H2 (n := 5) rfl kR (by first | exact At.mem | exact mA (by assumption)) TakeC.take) rfl ?_
 refine A4 (qw_ 5) rfl ?_
 refine C9 (aS rfl (aS rfl a0)) kR (T4 hpY h3 _) rfl ?_
 rintro r4 M4 J4 ⟨rfl, rfl, k4⟩
 have h4 := k4
 obtain ⟨a4, b4, c4, d4, e4, rfl, -⟩ := k4
 refine C9 (aS rfl a0) kR (Z0 _ _ h4 _) rfl ?_
 rintro v12 M12 J12 ⟨rfl, hs12⟩
 haveI := hs12.cel
 have hpl := L4 8 32 (fM P.Y (fI P.Z)) 255
 have hpt := A0F (fM P.Y (fI P.Z)) 255
 refine as_ (A0 (E2 1 3 4) (A5 (A3 ?_)))
 refine A4 (qf_ 0 0) rfl ?_
 refine A4 (H2 (n := 5) rfl kR (by first | exact At.mem | exact mA (by assumption)) TakeC.take) rfl ?_
 refine A4 (qw_ 5) rfl ?_
 refine C9 (aS rfl (aS rfl a0)) kR (T4 hpX h3 _) rfl ?_
 rintro r5 M5 J5 ⟨rfl, rfl, k5⟩
 have h5 := k5
 obtain ⟨a5, b5, c5, d5, e5, rfl, -⟩ := k5
 refine F6 (aS rfl a0) kR (A3R _ _ h5 _) rfl ?_
 refine A0 (D5 4 17) ?_
 refine C7 rfl ?_ ?_ <;> intro hc
 ·
  have ho : fM P.X (fI P.Z) % 2 = 1 := by simpa using hc
  refine C2 (mv_ ?_)
  refine A4 (K0 (sz := 1) (a := 31) rfl rfl kR rfl (hs12.rd (R := M12) fun _ h => h) qD) rfl ?_
  refine A4 (A00 (j := 31) (u := .int .u8 (((X3 8 32 (fM P.Y (fI P.Z)) 255).getD 31 0 : Nat) : Int)) (hs12.rd qS) rfl kR (W6 (by rw [hpl]; decide))) rfl ?_
  refine A4 (B5A (b := 128) rfl rfl rfl (by show _ < 256; exact getD_lt hpt qD) qD) rfl ?_
  refine A4 (K0 (sz := 1) (a := 31) rfl rfl kR rfl (hs12.rd (R := M12) fun _ h => h) qD) rfl ?_
  refine A6 rfl (C1M hs12 rfl rfl rfl kR qD qP fun B9 hs9 => ?_)
  refine A0 (D8 4) (A3 (mv_ (as_ (A0 (D8 2) (C3 ?_)))))
  exact ⟨_, B9, [], K2 rfl rfl, List.sublist_append_left _ _, by simp, rfl, by unfold pB; rw [if_pos ho]; show Sl 1 v12 32 (nums .u8 _) B9; rw [A42]; exact hs9⟩
 ·
  have ho : ¬ fM P.X (fI P.Z) % 2 = 1 := by simpa using hc
  refine A9 (nx (D8 4) (A3 (mv_ (as_ (A0 (D8 2) (C3 ?_))))))
  exact ⟨_, M12, [], K2 rfl rfl, List.sublist_append_left _ _, by simp, rfl, by unfold pB; rw [if_neg ho]; exact hs12⟩

end Go.Proofs.YtoigcbkclcbmpaaGreatDoor
namespace Go.Px
open Go Go.ChangeShapes Go.WideShapes Go.RowKit
section results
variable {P : Program} {fn : Func} {l : Env} {R : Mem}
theorem C1O {t0 t1 t2 t3 b0 b1 b2 b3 n : Nat} {ty : TypeId} {c0 c1 c2 c3 : List Value} {e0 e1 e2 e3 : TypeId} {f0 f1 f2 f3 : Nat × Nat} (h : fn.results = #[.cell t0 ty, .cell t1 ty, .cell t2 ty, .cell t3 ty])
    (h0 : lk l t0 = some (.pointer (some ⟨b0, 0, none⟩))) (h1 : lk l t1 = some (.pointer (some ⟨b1, 0, none⟩))) (h2 : lk l t2 = some (.pointer (some ⟨b2, 0, none⟩))) (h3 : lk l t3 = some (.pointer (some ⟨b3, 0, none⟩))) (ht : A9q P ty = some n)
    (m0 : (b0, Obj.cells c0.toArray e0 f0) ∈ R) (m1 : (b1, Obj.cells c1.toArray e1 f1) ∈ R) (m2 : (b2, Obj.cells c2.toArray e2 f2) ∈ R) (m3 : (b3, Obj.cells c3.toArray e3 f3) ∈ R) (n0 : c0.length = n) (n1 : c1.length = n) (n2 : c2.length = n) (n3 : c3.length = n) : Res P fn l R (.tuple #[.agg c0.toArray, .agg c1.toArray, .agg c2.toArray, .agg c3.toArray]) := fun N a w ha hw => by
  obtain ⟨dsc, g1, g2, g3⟩ := A0X ht
  have hk : ∀ (b : Nat) (cs : List Value) (e : TypeId) (fr : Nat × Nat), (b, Obj.cells cs.toArray e fr) ∈ R → cs.length = n → _ := fun b cs e fr hb hn => run_loadVar_row (P := P) w b e ty cs.toArray fr dsc (hw b _ hb) g1 (by cases dsc <;> simp_all [TypeDesc.isRow]) (by rw [g3, ← hn]; simp)
  have k0 := hk _ _ _ _ m0 n0
  have k1 := hk _ _ _ _ m1 n1
  have k2 := hk _ _ _ _ m2 n2
  have k3 := hk _ _ _ _ m3 n3
  simp [results, h, ha.slot t0 _ h0, ha.slot t1 _ h1, ha.slot t2 _ h2, ha.slot t3 _ h3, asAddr, k0, k1, k2, k3]
end results
end Go.Px

namespace Go.Px
theorem B52 (n : Nat) : xp n = 2 ^ (32 * n) := by rw [xp, Nat.pow_mul]
theorem B1E {ws : List Nat} (h : w32 ws) (i : Nat) : nv ws / xp i % 4294967296 = ws.getD i 0 := by
  induction ws generalizing i with
  | nil => simp [nv]
  | cons b r ih =>
    have h1 := h b (by simp)
    cases i with
    | zero => simp only [nv, xp0, Nat.div_one, List.getD_cons_zero]; omega
    | succ i =>
      rw [List.getD_cons_succ, ← ih (fun x hx => h x (by simp [hx])) i, xpS, Nat.mul_comm, ← Nat.div_div_eq_div_mul]
      congr 2
      simp only [nv]; omega
def N9 (x n : Nat) : List Nat := (List.range n).map fun i => x / 256 ^ i % 256
theorem L8 (x n : Nat) : (N9 x n).length = n := by simp [N9]
theorem A5C (x n : Nat) : ∀ y ∈ N9 x n, y < 256 := fun y hy => by
  simp only [N9, List.mem_map] at hy
  obtain ⟨i, _, rfl⟩ := hy
  exact Nat.mod_lt _ (by decide)
theorem B1F (x n : Nat) : N9 x (n + 1) = N9 x n ++ [x / 256 ^ n % 256] := by simp [N9, List.range_succ]
theorem B1G (x n : Nat) : bv (N9 x n) = x % 256 ^ n := by
  have := A18 x n
  rw [show (256 : Nat) ^ n = 2 ^ (8 * n) by rw [Nat.pow_mul], ← this]
  congr 1
  unfold N9
  apply List.map_congr_left
  intro j _
  rw [Nat.pow_mul]
theorem B1H {ws : List Nat} (h : w32 ws) (i : Nat) : ws.getD (i / 4) 0 / 2 ^ (8 * (i % 4)) % 256 = nv ws / 256 ^ i % 256 := by
  rw [← B1E h, show (256 : Nat) ^ i = 2 ^ (8 * i) by rw [Nat.pow_mul], B52, show (4294967296 : Nat) = 2 ^ (8 * (i % 4)) * 2 ^ (32 - 8 * (i % 4)) by rw [← Nat.pow_add, show 8 * (i % 4) + (32 - 8 * (i % 4)) = 32 by omega], Nat.mod_mul_right_div_self,
    show (2 : Nat) ^ (32 - 8 * (i % 4)) = 256 * 2 ^ (24 - 8 * (i % 4)) by rw [show (256 : Nat) = 2 ^ 8 from rfl, ← Nat.pow_add]; congr 1; omega, Nat.mod_mul_right_mod, Nat.div_div_eq_div_mul, ← Nat.pow_add]
  congr 3; omega
theorem B4o {ws : List Nat} (h : w32 ws) (i : Nat) : ws.getD (i / 32) 0 / 2 ^ (i % 32) % 2 = nv ws / 2 ^ i % 2 := by
  rw [← B1E h, B52, show (4294967296 : Nat) = 2 ^ (i % 32) * 2 ^ (32 - i % 32) by rw [← Nat.pow_add, show i % 32 + (32 - i % 32) = 32 by omega], Nat.mod_mul_right_div_self,
    show (2 : Nat) ^ (32 - i % 32) = 2 * 2 ^ (31 - i % 32) by rw [← Nat.pow_succ']; congr 1; omega, Nat.mod_mul_right_mod, Nat.div_div_eq_div_mul, ← Nat.pow_add]
  congr 3; omega
theorem B1I {ws : List Nat} {i : Nat} (h : ws.length ≤ i) : ws.getD i 0 = 0 := by simp [List.getD, List.getElem?_eq_none h]
theorem X4 (ws : List Nat) (j : Nat) : nv (ws.take (j + 1)) = nv (ws.take j) + xp j * ws.getD j 0 := by
  by_cases h : j < ws.length
  · exact A01 h
  · rw [B1I (by omega), List.take_of_length_le (by omega), List.take_of_length_le (by omega), Nat.mul_zero, Nat.add_zero]
theorem B1J {o a b : List Nat} {i c x : Nat} (hl : o.length = i) (h : nv o + xp i * c = nv (a.take i) + nv (b.take i)) (hx : x = c + a.getD i 0 + b.getD i 0) :
    nv (o ++ [x % 4294967296]) + xp (i + 1) * (x / 4294967296) = nv (a.take (i + 1)) + nv (b.take (i + 1)) := by
  rw [A1Y, hl, X4, X4, xpS]
  have e : xp i * (x % 4294967296) + xp i * 4294967296 * (x / 4294967296) = xp i * x := by
    rw [Nat.mul_assoc, ← Nat.mul_add, Nat.mod_add_div]
  have e2 : xp i * x = xp i * c + xp i * a.getD i 0 + xp i * b.getD i 0 := by rw [hx, Nat.mul_add, Nat.mul_add]
  simp only [nv, Nat.mul_zero, Nat.add_zero]
  omega
theorem A9U (ws : List Nat) (n : Nat) : nv (ws.take n) ≤ nv ws := by
  by_cases h : n ≤ ws.length
  · rw [A23 ws n h]; omega
  · rw [List.take_of_length_le (by omega)]; exact Nat.le_refl _
theorem B1K {o a b : List Nat} {i c c' d : Nat} (hl : o.length = i) (h : nv o + nv (b.take i) = nv (a.take i) + xp i * c) (hd : d + b.getD i 0 + c = a.getD i 0 + 4294967296 * c') :
    nv (o ++ [d]) + nv (b.take (i + 1)) = nv (a.take (i + 1)) + xp (i + 1) * c' := by
  rw [A1Y, hl, X4, X4, xpS]
  have e : xp i * d + xp i * b.getD i 0 + xp i * c = xp i * a.getD i 0 + xp i * 4294967296 * c' := by
    rw [← Nat.mul_add, ← Nat.mul_add, hd, Nat.mul_add, Nat.mul_assoc]
  simp only [nv, Nat.mul_zero, Nat.add_zero]
  omega
theorem B4p {o a b : List Nat} {c : Nat} (hl : o.length = a.length) (ho : w32 o) (ha : w32 a) (h : nv o + nv (b.take a.length) = nv (a.take a.length) + xp a.length * c) (hle : nv b ≤ nv a) : nv o = nv a - nv b := by
  have h1 := B3u ho
  have h2 := B3u ha
  have h3 := A9U b a.length
  rw [List.take_length] at h
  rw [hl] at h1
  have hc : c = 0 := by
    rcases Nat.eq_zero_or_pos c with h0 | h0
    · exact h0
    · have := Nat.le_mul_of_pos_right (xp a.length) h0
      omega
  subst hc
  have h4 : nv (b.take a.length) = nv b := by
    by_cases hb : a.length ≤ b.length
    · have h5 := A23 b a.length hb
      have h6 : nv (b.drop a.length) = 0 := by
        rcases Nat.eq_zero_or_pos (nv (b.drop a.length)) with h0 | h0
        · exact h0
        · have := Nat.le_mul_of_pos_right (xp a.length) h0
          omega
      rw [h6] at h5; omega
    · rw [List.take_of_length_le (by omega)]
  omega
def wrds (x n : Nat) : List Nat := (List.range n).map fun i => x / xp i % 4294967296
end Go.Px

namespace Go.Proofs.YtoigcbkclcbmpaaGreatDoor
open Go.Px
def B6a : LN := [1559614445, 1477600026, 2734136534, 350157278, 0, 0, 0, 268435456]
def lN : Nat := 7237005577332262213973186563042994240857116359379907606001950938285454250989
theorem B1L : nv B6a = lN := by decide +kernel
theorem B9S : w32 B6a := by unfold w32 B6a; decide
def Sc (v : Value) (n : Nat) : Prop := ∃ ws, v = .agg (nums .u32 ws).toArray ∧ ws.length = 8 ∧ w32 ws ∧ nv ws = n
theorem xp8 : xp 8 = 115792089237316195423570985008687907853269984665640564039457584007913129639936 := by decide +kernel
theorem B9T {a b : LN} {i : Nat} (h1 : a.drop (i + 1) = b.drop (i + 1)) (hi : i < a.length) (hj : i < b.length) (h2 : a.getD i 0 = b.getD i 0) : a.drop i = b.drop i := by
  rw [List.getD_eq_getElem?_getD, List.getElem?_eq_getElem hi, List.getD_eq_getElem?_getD, List.getElem?_eq_getElem hj] at h2
  rw [List.drop_eq_getElem_cons hi, List.drop_eq_getElem_cons hj, h1]
  exact congrArg (· :: _) h2
theorem A8V {o a : LN} {i : Nat} (hl : o.length = i) : (o ++ a.drop i).getD i 0 = a.getD i 0 := by
  rw [List.getD_eq_getElem?_getD, List.getElem?_append_right qO, List.getElem?_drop, List.getD_eq_getElem?_getD]
  congr 2; omega
theorem A5D {o a : LN} {i x : Nat} (hl : o.length = i) (hi : i < a.length) : (o ++ a.drop i).set i x = (o ++ [x]) ++ a.drop (i + 1) := by
  rw [List.set_append_right _ _ qO, hl, Nat.sub_self, List.drop_eq_getElem_cons hi, List.set_cons_zero, List.append_assoc]; rfl
theorem A5E {o a : LN} {i n : Nat} (hl : o.length = i) (ha : a.length = n) (hi : i ≤ n) : (o ++ a.drop i).length = n := by
  rw [List.length_append, List.length_drop]; omega
theorem B7H {a b c : Nat} (ha : a < lN) (hb : b < lN) (h : c * xp 8 ≤ a + b) : c = 0 := by
  rcases Nat.eq_zero_or_pos c with h0 | h0
  · exact h0
  · have h1 := Nat.le_mul_of_pos_left (xp 8) h0
    rw [xp8] at h1 h
    unfold lN at ha hb
    omega
theorem A9V {x y c d e : Nat} (hx : x < 4294967296) (hy : y < 4294967296) (hc : c ≤ 1) (hd : d = (x + (18446744073709551616 - y)) % 18446744073709551616) (he : e = (d + (18446744073709551616 - c)) % 18446744073709551616) :
    e % 4294967296 + y + c = x + 4294967296 * (e / 9223372036854775808) ∧ e / 9223372036854775808 ≤ 1 := by
  by_cases h : y + c ≤ x
  · have e1 : e = x - y - c := by omega
    have e2 : e < 4294967296 := by omega
    rw [Nat.mod_eq_of_lt e2, Nat.div_eq_of_lt qO]
    omega
  · have e1 : e = 18446744073709551616 - (y + c - x) := by omega
    omega
theorem B7I {k : IntKind} (x y : Nat) : K4 .lss k (x : Int) (y : Int) = some (.bool (decide (x < y))) := by
  by_cases h : x < y
  · rw [decide_eq_true h]; exact ltT qO
  · rw [decide_eq_false h]; exact ltF qO
theorem B7J {a b : LN} (ha : w32 a) (hb : w32 b) {i : Nat} (hi : i < a.length) (hl : a.length = b.length) (hd : a.drop (i + 1) = b.drop (i + 1)) (hne : a.getD i 0 ≠ b.getD i 0) : nv a < nv b ↔ a.getD i 0 < b.getD i 0 := by
  constructor
  · intro h
    rcases Nat.lt_or_gt_of_ne hne with h1 | h1
    · exact h1
    · have := A8q hb qO hl.symm h1 hd.symm; omega
  · intro h; exact A8q ha hi hl h hd
theorem A5F {n : Nat} (h : n < 18446744073709551616) : IntKind.u64.wrap (n : Int) = (n : Int) := A4Z qO qO
theorem B7K (A : Mem) : FnV Tryz.prog 124 [] A (.agg (nums .u32 B6a).toArray) := by
 refine FnX.enter (N := 2) Tryz.func124 rfl rfl rfl fun w => ?_
 refine C4 kn (A3 ?_)
 refine A6 rfl (C5 (cs := [G4, G4, G4, G4, G4, G4, G4, G4]) kR rfl fun b0 => ?_)
 refine A0 (D8 0) (A3 ?_)
 refine A4 (F3 (place := fun i => some (i * 1, 1)) (z := [G4, G4, G4, G4, G4, G4, G4, G4]) (fun _ => by kernel_rfl) (eS rfl (eS rfl (eS rfl (eS rfl (eS rfl (eS rfl (eS rfl (eS rfl e0)))))))) (bdS 0 1 rfl qR (bdS 1 1 rfl qR (bdS 2 1 rfl qR (bdS 3 1 rfl qR (bdS 4 1 rfl qR (bdS 5 1 rfl qR (bdS 6 1 rfl qR (bdS 7 1 rfl qR bd0))))))))) rfl ?_
 refine A6 rfl (A8 rfl rfl Cel.cel kR ln8 al8 UpC.upd ?_)
 refine A0 (D8 0) (C3 ?_)
 exact ⟨_, [], [], A1x rfl rfl kR At.mem qR, List.nil_sublist _, by simp, rfl, rfl, rfl⟩
theorem B9U (v u : Value) (x y : Nat) (hv : Sc v x) (hu : Sc u y) (A : Mem) : FnV Tryz.prog 125 [v, u] A (.bool (decide (x < y))) := by
 obtain ⟨a, rfl, a8, a32, rfl⟩ := hv
 obtain ⟨b, rfl, b8, b32, rfl⟩ := hu
 refine FnX.enter (N := 24) Tryz.func125 rfl rfl rfl fun w => ?_
 refine C4 (D5 0 1) (A3 ?_)
 refine A6 rfl (bx_ fun b2 => ?_)
 refine A6 rfl (bx_ fun b3 => ?_)
 refine as_ (A0 (D5 2 3) (A5 (A3 (as_ (A0 (E2 2 3 5) (C0 ?_))))))
 refine F2 (α := Nat) (fun j => [(2, (vP b2)), (3, (vP b3)), (5, .int .i64 ((j : Int) - 1))]) (fun _ => [(b3, blk (nums .u32 b) 131), (b2, blk (nums .u32 a) 131)]) (fun _ => []) (fun j => j ≤ 8 ∧ a.drop j = b.drop j) (fun j => j) 8 ⟨Nat.le_refl _, by rw [List.drop_of_length_le qO, List.drop_of_length_le qO]⟩ (E2 2 3 5) .rfl qI ?_
 rintro j ⟨hj, hd⟩
 refine A5 (A3 (mv_ ?_))
 refine A4 (F1 rfl rfl rfl) rfl ?_
 refine A0 (E7 2 3 5 7) ?_
 refine C7 rfl ?_ ?_ <;> intro hc
 ·
  have hj0 : 0 < j := by simp at hc; omega
  obtain ⟨i, rfl⟩ : ∃ i, j = i + 1 := ⟨j - 1, by omega⟩
  rw [show (((i + 1 : Nat) : Int) - 1) = (i : Int) by omega]
  refine A9 (nx (E2 2 3 5) (A5 (C0 ?_)))
  refine D2 (.range 7) (zp 0 [0, 0, 1, 0, 0, 1, 0]) kR kR fun hs => ?_
  refine fm_ hs ?_
  refine D1 hs rfl (E5 (e := 30) (n := 8) (sz := 1) (i := i) rfl rfl kR kR rfl qO) rfl ?_
  refine F7 hs rfl (Q9 (i) rfl kR At.mem qO (by first | omega | (rw [a8]; omega))) rfl ?_
  refine fm_ hs ?_
  refine D1 hs rfl (E5 (e := 30) (n := 8) (sz := 1) (i := i) rfl rfl kR kR rfl qO) rfl ?_
  refine F7 hs rfl (Q9 (i) rfl kR At.mem qO (by first | omega | (rw [b8]; omega))) rfl ?_
  refine D1 hs rfl (F1 rfl rfl rfl) rfl ?_
  refine E4 (E7 2 3 5 16) ?_
  refine C7 rfl ?_ ?_ <;> intro hc
  ·
   have hne : a.getD i 0 ≠ b.getD i 0 := by simp at hc ⊢; omega
   refine D2 (.range 8) (zp 0 [0, 0, 1, 0, 0, 1, 0, 0]) kR kR fun hs => ?_
   refine fm_ hs ?_
   refine D1 hs rfl (E5 (e := 30) (n := 8) (sz := 1) (i := i) rfl rfl kR kR rfl qO) rfl ?_
   refine F7 hs rfl (Q9 (i) rfl kR At.mem qO (by first | omega | (rw [a8]; omega))) rfl ?_
   refine fm_ hs ?_
   refine D1 hs rfl (E5 (e := 30) (n := 8) (sz := 1) (i := i) rfl rfl kR kR rfl qO) rfl ?_
   refine F7 hs rfl (Q9 (i) rfl kR At.mem qO (by first | omega | (rw [b8]; omega))) rfl ?_
   refine D1 hs rfl (F4 (decide (a.getD i 0 < b.getD i 0)) rfl rfl (B7I _ _)) rfl ?_
   refine fa_ hs ?_
   refine E4 (D8 4) (C3 (br (tr (rr (br (tr ?_))))))
   exact ⟨_, [], [], K2 rfl rfl, List.nil_sublist _, by simp, by rw [show decide (nv a < nv b) = decide (a.getD i 0 < b.getD i 0) from decide_eq_decide.2 (B7J a32 b32 qO qO hd hne)], rfl, rfl⟩
  ·
   have hne : a.getD i 0 = b.getD i 0 := by simp at hc ⊢; omega
   refine A9 (nb (nx (E2 2 3 5) (C2 (mv_ ?_))))
   refine A4 (E3 ((i : Int) - 1) rfl rfl (Z9 rfl qO qO)) rfl ?_
   refine as_ (D0 ?_)
   exact rn i ⟨by omega, B9T hd qO qO hne⟩ qO (E2 2 3 5) .rfl qI
 ·
  have hj0 : j = 0 := by simp at hc; omega
  subst hj0
  rw [List.drop_zero, List.drop_zero] at hd
  refine E6 (te (re (be rfl (nx kn (A3 (as_ (A0 (D8 4) ?_)))))))
  refine C3 ?_
  exact ⟨_, [], [], K2 rfl rfl, List.nil_sublist _, by simp, by rw [hd, decide_eq_false (Nat.lt_irrefl _)], rfl, rfl⟩
theorem A6V (v u : Value) (x y : Nat) (hv : Sc v x) (hu : Sc u y) (hx : x < lN) (hy : y < lN) (A : Mem) : FnX Tryz.prog 103 [v, u] [] A fun r M J => M = [] ∧ J = [] ∧ Sc r ((x + y) % lN) := by
 obtain ⟨a, rfl, a8, a32, rfl⟩ := hv
 obtain ⟨b, rfl, b8, b32, rfl⟩ := hu
 refine FnX.enter (N := 58) Tryz.func103 rfl rfl rfl fun w => ?_
 refine C4 (D5 0 1) (A3 ?_)
 refine A6 rfl (bx_ fun b2 => ?_)
 refine A6 rfl (bx_ fun b3 => ?_)
 refine A6 rfl (C5 (cs := [G4, G4, G4, G4, G4, G4, G4, G4]) kR rfl fun b4 => ?_)
 refine A0 (E2 2 3 4) (A3 (as_ (A0 (E7 2 3 4 5) (A5 (A3 (mv_ (A0 (F5 2 3 4 5 10) ?_)))))))
 refine C0 ?_
 refine F2 (α := Nat × LN × Nat) (fun x => [(2, (vP b2)), (3, (vP b3)), (4, (vP b4)), (5, .int .u64 (x.2.2 : Int)), (10, .int .i64 (x.1 : Int))]) (fun x => [(b4, blk [.int .u32 0, .int .u32 0, .int .u32 0, .int .u32 0, .int .u32 0, .int .u32 0, .int .u32 0, .int .u32 0] 131), (b3, blk (nums .u32 b) 131), (b2, blk (nums .u32 (x.2.1 ++ a.drop x.1)) 131)]) (fun _ => []) (fun x => x.1 ≤ 8 ∧ x.2.1.length = x.1 ∧ w32 x.2.1 ∧ x.2.2 ≤ 1 ∧ nv x.2.1 + xp x.1 * x.2.2 = nv (a.take x.1) + nv (b.take x.1)) (fun x => 8 - x.1) ⟨0, [], 0⟩ ⟨Nat.zero_le _, rfl, (fun x hx => by cases hx), by decide, rfl⟩ (F5 2 3 4 5 10) .rfl qI ?_
 rintro ⟨i, o, c⟩ ⟨hi, hol, ho32, hc1, hnv⟩
 dsimp only at hi hol ho32 hc1 hnv ⊢
 refine A3 ?_
 refine A4 (F1 rfl rfl rfl) rfl ?_
 refine A0 (I1 2 3 4 5 10 11) (A5 ?_)
 refine C7 rfl ?_ ?_ <;> intro hc
 ·
  have hlt : i < 8 := by simp at hc; omega
  have hpl := A5E (o := o) (a := a) hol a8 hi
  have hpg := A8V (a := a) hol
  have hps := fun x => A5D (x := x) hol (show i < a.length by omega)
  have hst := B1J (x := c + (a.getD i 0 + b.getD i 0)) hol hnv qO
  have ha0 := a32.get i
  have hb0 := b32.get i
  refine A9 (nx (F5 2 3 4 5 10) (A5 (C0 (A3 (mv_ (as_ (A0 (I1 2 3 4 5 6 10) ?_)))))))
  refine D2 (.range 12) (zp 0 [0, 0, 0, 1, 0, 0, 0, 1, 0, 0, 0, 0]) kR kR fun hs => ?_
  refine fm_ hs ?_
  refine fm_ hs ?_
  refine D1 hs rfl (E5 (e := 30) (n := 8) (sz := 1) (i := i) rfl rfl kR kR rfl qO) rfl ?_
  refine F7 hs rfl (hpg ▸ Q9 i rfl kR At.mem qO qO) rfl ?_
  refine D1 hs rfl (Q3 (k' := .u64) (a.getD i 0) rfl kR (A5F qO)) rfl ?_
  refine fm_ hs ?_
  refine D1 hs rfl (E5 (e := 30) (n := 8) (sz := 1) (i := i) rfl rfl kR kR rfl qO) rfl ?_
  refine F7 hs rfl (Q9 (i) rfl kR At.mem qO (by first | omega | (rw [b8]; omega))) rfl ?_
  refine D1 hs rfl (Q3 (k' := .u64) (b.getD i 0) rfl kR (A5F qO)) rfl ?_
  refine D1 hs rfl (A6k 18446744073709551616 (a := a.getD i 0) (b := b.getD i 0) rfl rfl rfl rfl rfl rfl qO) rfl ?_
  refine D1 hs rfl (A6k 18446744073709551616 (a := c) (b := a.getD i 0 + b.getD i 0) rfl rfl rfl rfl rfl rfl qO) rfl ?_
  refine fa_ hs ?_
  refine E4 (I1 2 3 4 5 6 10) (A3 (mv_ (mv_ ?_)))
  refine A4 (A8n rfl kR) rfl ?_
  refine A4 (E5 (e := 30) (n := 8) (sz := 1) (i := i) rfl rfl kR kR rfl qO) rfl ?_
  refine A6 rfl (T7 i rfl rfl kR qO qO UpC.upd ?_)
  refine A0 (F5 2 3 4 5 10) (C2 (mv_ ?_))
  refine A4 (P5 32 4294967296 rfl rfl rfl rfl qD) rfl ?_
  refine as_ (D0 (nb (nx (F5 2 3 4 5 10) (C2 ?_))))
  refine A4 (E3 ((i + 1 : Nat) : Int) rfl rfl (G3 qO qO qO)) rfl ?_
  refine mv_ (D0 ?_)
  exact rn ⟨i + 1, o ++ [(c + (a.getD i 0 + b.getD i 0)) % 4294967296], (c + (a.getD i 0 + b.getD i 0)) / 4294967296⟩ ⟨by dsimp only; omega, by simp [hol], ho32.app (fun x hx => by rw [List.mem_singleton.1 hx]; exact Nat.mod_lt _ qD), by dsimp only; omega, hst⟩ (by dsimp only; omega) (F5 2 3 4 5 10) (Fit.eq (by rw [hps])) qI
 ·
  have hge : i = 8 := by simp at hc; omega
  subst hge
  rw [List.take_of_length_le qO, List.take_of_length_le qO] at hnv
  have hc0 := B7H hx hy (c := c) (by rw [Nat.mul_comm]; omega)
  subst hc0
  rw [Nat.mul_zero, Nat.add_zero] at hnv
  rw [List.drop_of_length_le qO, List.append_nil]
  refine E6 (te (re (be rfl (nx (D5 2 4) (A3 ?_)))))
  refine F6 a0 kR (B7K _) rfl ?_
  refine A6 rfl (C5 (cs := [G4, G4, G4, G4, G4, G4, G4, G4]) kR rfl fun b7 => ?_)
  refine A6 rfl (A8 rfl rfl Cel.cel kR ln8 al8 UpC.upd ?_)
  refine A0 (E2 2 4 7) (A5 (A3 ?_))
  refine A4 (H6 (n := 8) (cs := nums .u32 o) rfl kR At.mem (by rw [nums_len]; omega)) rfl ?_
  refine A4 (H6 (n := 8) (cs := nums .u32 B6a) rfl kR At.mem qR) rfl ?_
  refine F6 (aS rfl (aS rfl a0)) kR (B9U _ _ (nv o) lN ⟨o, rfl, hol, ho32, rfl⟩ ⟨B6a, rfl, rfl, B9S, B1L⟩ _) rfl ?_
  refine A0 (E7 2 4 7 34) ?_
  refine C7 rfl ?_ ?_ <;> intro hc
  ·
   have hlt : nv o < lN := by simpa using hc
   refine A3 ?_
   refine A4 (H6 (n := 8) (cs := nums .u32 o) rfl kR At.mem (by rw [nums_len]; omega)) rfl ?_
   refine A6 rfl (A8 (vs := nums .u32 o) rfl rfl rfl (by rw [nums_len, hol]; kernel_rfl) (by rw [nums_len, hol]; rfl) E8 UpC.upd ?_)
   refine A0 (D8 4) (C3 (tr ?_))
   exact ⟨_, [], [], A1x (n := 8) rfl rfl kR At.mem (by rw [nums_len]; omega), List.nil_sublist _, by simp, rfl, rfl, o, rfl, hol, ho32, by rw [hnv, Nat.mod_eq_of_lt qO]⟩
  ·
   have hge : lN ≤ nv o := by simpa using hc
   refine A9 (nx (E2 2 4 7) (A3 (as_ (A0 (E7 2 4 5 7) (A5 (A3 (mv_ ?_)))))))
   refine A0 (F5 2 4 5 7 36) (C0 ?_)
   refine F2 (α := Nat × LN × Nat) (fun x => [(2, (vP b2)), (4, (vP b4)), (5, .int .u64 (x.2.2 : Int)), (7, (vP b7)), (36, .int .i64 (x.1 : Int))]) (fun x => (b7, blk (nums .u32 B6a) 131) :: [(b4, blk [.int .u32 0, .int .u32 0, .int .u32 0, .int .u32 0, .int .u32 0, .int .u32 0, .int .u32 0, .int .u32 0] 131), (b3, blk (nums .u32 b) 131), (b2, blk (nums .u32 (x.2.1 ++ o.drop x.1)) 131)]) (fun _ => []) (fun x => x.1 ≤ 8 ∧ x.2.1.length = x.1 ∧ w32 x.2.1 ∧ x.2.2 ≤ 1 ∧ nv x.2.1 + nv (B6a.take x.1) = nv (o.take x.1) + xp x.1 * x.2.2) (fun x => 8 - x.1) ⟨0, [], 0⟩ ⟨Nat.zero_le _, rfl, (fun x hx => by cases hx), by decide, rfl⟩ (F5 2 4 5 7 36) .rfl qI ?_
   rintro ⟨i, q, c⟩ ⟨hi, hql, hq32, hc1, hnw⟩
   dsimp only at hi hql hq32 hc1 hnw ⊢
   refine A3 ?_
   refine A4 (F1 rfl rfl rfl) rfl ?_
   refine A0 (I1 2 4 5 7 36 37) (A5 ?_)
   refine C7 rfl ?_ ?_ <;> intro hc
   ·
    have hlt : i < 8 := by simp at hc; omega
    have hpl := A5E (o := q) (a := o) hql hol hi
    have hpg := A8V (a := o) hql
    have hps := fun x => A5D (x := x) hql (show i < o.length by omega)
    have ha0 := ho32.get i
    have hb0 := B9S.get i
    have ho8 : B6a.length = 8 := rfl
    have hsb := A9V (c := c) ha0 hb0 hc1 rfl rfl
    generalize hdd : (o.getD i 0 + (18446744073709551616 - B6a.getD i 0)) % 18446744073709551616 = dd at *
    generalize hee : (dd + (18446744073709551616 - c)) % 18446744073709551616 = ee at *
    have hst := B1K hql hnw hsb.1
    refine A9 (nx (F5 2 4 5 7 36) (A5 (C0 (A3 (mv_ (as_ (A0 (I1 2 4 5 7 8 36) ?_)))))))
    refine D2 (.range 12) (zp 0 [0, 0, 1, 0, 0, 0, 1, 0, 0, 0, 0, 0]) kR kR fun hs => ?_
    refine fm_ hs ?_
    refine D1 hs rfl (E5 (e := 30) (n := 8) (sz := 1) (i := i) rfl rfl kR kR rfl qO) rfl ?_
    refine F7 hs rfl (hpg ▸ Q9 i rfl kR At.mem qO qO) rfl ?_
    refine D1 hs rfl (Q3 (k' := .u64) (o.getD i 0) rfl kR (A5F qO)) rfl ?_
    refine fm_ hs ?_
    refine D1 hs rfl (E5 (e := 30) (n := 8) (sz := 1) (i := i) rfl rfl kR kR rfl qO) rfl ?_
    refine F7 hs rfl (Q9 i rfl kR At.mem qO qO) rfl ?_
    refine D1 hs rfl (Q3 (k' := .u64) (B6a.getD i 0) rfl kR (A5F qO)) rfl ?_
    refine D1 hs rfl (hdd ▸ A2J 18446744073709551616 (a := o.getD i 0) (b := B6a.getD i 0) rfl rfl rfl rfl rfl rfl qO) rfl ?_
    refine fm_ hs ?_
    refine D1 hs rfl (hee ▸ A2J 18446744073709551616 (a := dd) (b := c) rfl rfl rfl rfl rfl rfl qO) rfl ?_
    refine fa_ hs ?_
    refine E4 (I1 2 4 7 8 9 36) (A3 (mv_ (mv_ ?_)))
    refine A4 (A8n rfl kR) rfl ?_
    refine A4 (E5 (e := 30) (n := 8) (sz := 1) (i := i) rfl rfl kR kR rfl qO) rfl ?_
    refine A6 rfl (T7 i rfl rfl kR qO qO UpC.upd ?_)
    refine A0 (F5 2 4 7 9 36) (C2 (mv_ ?_))
    refine A4 (P5 63 9223372036854775808 rfl rfl rfl rfl qD) rfl ?_
    refine as_ (D0 (nb (nx (F5 2 4 5 7 36) (C2 ?_))))
    refine A4 (E3 ((i + 1 : Nat) : Int) rfl rfl (G3 qO qO qO)) rfl ?_
    refine mv_ (D0 ?_)
    exact rn ⟨i + 1, q ++ [ee % 4294967296], ee / 9223372036854775808⟩ ⟨by dsimp only; omega, by simp [hql], hq32.app (fun x hx => by rw [List.mem_singleton.1 hx]; exact Nat.mod_lt _ qD), hsb.2, hst⟩ (by dsimp only; omega) (F5 2 4 5 7 36) (Fit.eq (by rw [hps])) qI
   ·
    have hge8 : i = 8 := by simp at hc; omega
    subst hge8
    have hfin := B4p (o := q) (a := o) (b := B6a) (c := c) qO hq32 ho32 (by rw [hol]; exact hnw) (by rw [B1L]; exact hge)
    rw [List.drop_of_length_le qO, List.append_nil]
    refine E6 (te (re (be rfl (nx (D5 2 4) (A3 ?_)))))
    refine A4 (H6 (n := 8) (cs := nums .u32 q) rfl kR At.mem (by rw [nums_len]; omega)) rfl ?_
    refine A6 rfl (A8 (vs := nums .u32 q) rfl rfl rfl (by rw [nums_len, hql]; kernel_rfl) (by rw [nums_len, hql]; rfl) E8 UpC.upd ?_)
    refine A0 (D8 4) (C3 ?_)
    exact ⟨_, [], [], A1x (n := 8) rfl rfl kR At.mem (by rw [nums_len]; omega), List.nil_sublist _, by simp, rfl, rfl, q, rfl, hql, hq32, by rw [hfin, hnv, B1L, Nat.mod_eq_sub_mod qO, Nat.mod_eq_of_lt qO]⟩

end Go.Proofs.YtoigcbkclcbmpaaGreatDoor
