/- Part 11 of the texts of this claim, one behind the other. -/
import Derived.Test.YtphcaiplgpmnnaaGreatDoorB10
set_option linter.unusedVariables false
set_option linter.unusedSimpArgs false
set_option maxRecDepth 100000
namespace Go.Proofs.YtphcaiplgpmnnaaGreatDoor
open Go.Px
def rtN0 (x : Nat) : Option Nat := if rt1 x * rt1 x % p25 = x then some (rt1 x) else if rt2 x * rt2 x % p25 = x then some (rt2 x) else none
theorem rtN_ex (x : Nat) : ∃ y, y = rtN0 x := ⟨_, rfl⟩
noncomputable def rtN (x : Nat) : Option Nat := Classical.choose (rtN_ex x)
theorem rtN_eq (x : Nat) : rtN x = rtN0 x := Classical.choose_spec (rtN_ex x)
theorem rt_cases {r : Value} {x : Nat} (h : Rt r x) : ∃ u b n, r = .tuple #[u, .bool b] ∧ Fe u n ∧ ((rtN x = some n ∧ b = true) ∨ (rtN x = none ∧ b = false)) := by
  obtain ⟨u, b, rfl, h⟩ := h
  rw [rtN_eq]
  unfold rtN0
  rcases h with ⟨h1, rfl, h2⟩ | ⟨h1, h2, rfl, h3⟩ | ⟨h1, h2, rfl, h3⟩
  · exact ⟨_, _, _, rfl, h2, .inl ⟨by rw [if_pos h1], rfl⟩⟩
  · exact ⟨_, _, _, rfl, h3, .inl ⟨by rw [if_neg h1, if_pos h2], rfl⟩⟩
  · exact ⟨_, _, _, rfl, h3, .inr ⟨by rw [if_neg h1, if_neg h2], rfl⟩⟩
/-- What the square of the x of a y is. -/
noncomputable def xxN (y : Nat) : Nat := fM (fS (fM y y) 1) (fI (fA (fM dN (fM y y)) 1))
def atO (o : Option Nat) (odd : Bool) : Option Nat := match o with
  | none => none
  | some x => if odd && decide (x = 0) then none else some (if !(decide (x % 2 = 1) == odd) then fN x else x)
noncomputable def atN (y : Nat) (odd : Bool) : Option Nat := atO (rtN (xxN y)) odd
theorem at_of {y : Nat} {odd : Bool} {o : Option Nat} (h : rtN (xxN y) = o) : atN y odd = atO o odd := congrArg (fun o => atO o odd) h
theorem at_none {y : Nat} {odd : Bool} (h : rtN (xxN y) = none) : atN y odd = none := at_of h
theorem ao_zero {x : Nat} (hx : x = 0) : atO (some x) true = none := by subst hx; rfl
theorem at_zero {y x : Nat} (h : rtN (xxN y) = some x) (hx : x = 0) : atN y true = none := (at_of h).trans (ao_zero hx)
theorem ao_some {x : Nat} {odd : Bool} (hx : (odd && decide (x = 0)) = false) {b : Bool} (hb : (!(decide (x % 2 = 1) == odd)) = b) : atO (some x) odd = some (if b then fN x else x) := by unfold atO; simp only [hx, hb]; rfl
theorem at_some {y x : Nat} {odd : Bool} (h : rtN (xxN y) = some x) (hx : (odd && decide (x = 0)) = false) {b : Bool} (hb : (!(decide (x % 2 = 1) == odd)) = b) : atN y odd = some (if b then fN x else x) := (at_of h).trans (ao_some hx hb)
def pZ : Pt := ⟨0, 0, 0, 0⟩
def pAt (x y : Nat) : Pt := ⟨x, y, 1, fM x y⟩
def AtR (r : Value) (y : Nat) (odd : Bool) : Prop := ∃ V b, r = .tuple #[V, .bool b] ∧ ((∃ x, atN y odd = some x ∧ b = true ∧ FeP V (pAt x y)) ∨ (atN y odd = none ∧ b = false ∧ FeP V pZ))
def s45 : Nat := 46316835694926478169428394003475163141307993866256225615783033603165251855960
theorem s45_eq : fM 4 (fI 5) = s45 := by
  rw [fI_eq, rtp_pm (by decide)]
  decide +kernel
def bxN : Nat := 15112221349535400772501151409588531511454012693041857206046113283949847762202
def pS : Pt := pAt bxN s45
theorem xx_pm {y : Nat} : xxN y = fM (fS (fM y y) 1) (pm p25 256 (fA (fM dN (fM y y)) 1) (p25 - 2) 1) := by
  unfold xxN
  rw [fI_eq, rtp_pm (by decide)]
theorem rt1_pm {x : Nat} : rt1 x = pm p25 256 x (2 ^ 252 - 2) 1 := by
  unfold rt1
  rw [rtp_pm (by decide)]
theorem i_pm : rtp 2 (2 ^ 253 - 5) = pm p25 256 2 (2 ^ 253 - 5) 1 := rtp_pm (by decide)
theorem rt2_pm {x : Nat} : rt2 x = pm p25 256 x (2 ^ 252 - 2) 1 * pm p25 256 2 (2 ^ 253 - 5) 1 % p25 := by
  unfold rt2
  rw [rt1_pm, i_pm]
def rtK (x : Nat) : Option Nat := if pm p25 256 x (2 ^ 252 - 2) 1 * pm p25 256 x (2 ^ 252 - 2) 1 % p25 = x then some (pm p25 256 x (2 ^ 252 - 2) 1) else if (pm p25 256 x (2 ^ 252 - 2) 1 * pm p25 256 2 (2 ^ 253 - 5) 1 % p25) * (pm p25 256 x (2 ^ 252 - 2) 1 * pm p25 256 2 (2 ^ 253 - 5) 1 % p25) % p25 = x then some (pm p25 256 x (2 ^ 252 - 2) 1 * pm p25 256 2 (2 ^ 253 - 5) 1 % p25) else none
theorem rt_K {x : Nat} : rtN x = rtK x := by
  rw [rtN_eq]
  unfold rtN0 rtK
  rw [rt2_pm, rt1_pm]
theorem xx45 : xxN s45 = 26187595835145689230469591415084376402084551887632582719101735842039498021991 := by
  rw [xx_pm]
  decide +kernel
theorem at45 : atN s45 false = some bxN := by
  refine (at_of ((congrArg rtN xx45).trans (rt_K.trans (Eq.refl (rtK 26187595835145689230469591415084376402084551887632582719101735842039498021991))))).trans ?_
  decide +kernel

theorem at_f (v : Value) (y : Nat) (odd : Bool) (hv : Fe v y) (A : Mem) : FnX Tryz.prog 140 [v, .bool odd] [] A fun r M J => M = [] ∧ J = [] ∧ AtR r y odd := by
 have hy := hv
 obtain ⟨y0, y1, y2, y3, y4, rfl, -⟩ := hv
 refine FnX.enter (N := 48) Tryz.func140 rfl rfl rfl fun w => ?_
 refine XC.keep (kq 0 (kq 1 kn)) ?_
 refine XC.reg ?_
 refine XL.lo rfl (bx_ fun b2 => ?_)
 refine XL.lo rfl (l_alloc (cs := [.int .u64 0, .int .u64 0, .int .u64 0, .int .u64 0, .int .u64 0, .int .u64 0, .int .u64 0, .int .u64 0, .int .u64 0, .int .u64 0, .int .u64 0, .int .u64 0, .int .u64 0, .int .u64 0, .int .u64 0, .int .u64 0, .int .u64 0, .int .u64 0, .int .u64 0, .int .u64 0]) (by kernel_rfl) rfl fun b4 => ?_)
 refine as_ ?_
 refine XL.fin (kq 1 (kq 2 (kq 4 kn))) ?_
 refine XC.reg ?_
 refine XL.q (qw_ 5) rfl ?_
 refine XL.call (aS rfl a0) (by kernel_rfl) (sq_f hy _) rfl ?_
 rintro r10 M10 J10 ⟨rfl, rfl, k10⟩
 have h10 := k10
 obtain ⟨a10, b10, c10, d10, e10, rfl, -⟩ := k10
 refine XL.lo rfl (l_alloc (cs := [.int .u64 0, .int .u64 0, .int .u64 0, .int .u64 0, .int .u64 0]) (by kernel_rfl) rfl fun b6 => ?_)
 refine XL.lo rfl (l_storeW rfl rfl Cel.cel (by kernel_rfl) (lnS (lnS (lnS (lnS (lnS (ln0)))))) (allS rfl (allS rfl (allS rfl (allS rfl (allS rfl (all0)))))) UpC.upd ?_)
 refine XL.fin (kq 1 (kq 2 (kq 4 (kq 6 kn)))) ?_
 refine XC.drawF [0, 1, 2, 3, 4, 5, 6, 7, 8, 9, 10, 11, 12, 13, 14, 16] [(0, 1), (4, 1), (1, 6), (2, 6), (3, 6), (5, 6), (6, 6), (7, 6), (8, 6), (9, 6), (10, 6), (11, 6), (12, 6), (14, 6), (13, 7), (15, 2), (16, 0)] (by kernel_rfl) (by kernel_rfl) fun hs => ?_
 refine XF.r hs rfl (qw_ 5) rfl ?_
 refine XF.r hs rfl (qw_ 5) rfl ?_
 refine XF.groupQ [⟨1, 13, fun v B _ => B = [] ∧ Fe v (1)⟩, ⟨2, 14, fun v B _ => B = [] ∧ Fe v (fS (fM y y) 1)⟩, ⟨3, 15, fun v B _ => B = [] ∧ Fe v (dN)⟩, ⟨5, 17, fun v B _ => B = [] ∧ Fe v (fM dN (fM y y))⟩, ⟨6, 18, fun v B _ => B = [] ∧ Fe v (1)⟩, ⟨7, 19, fun v B _ => B = [] ∧ Fe v (fA (fM dN (fM y y)) 1)⟩, ⟨8, 20, fun v B _ => B = [] ∧ Fe v (fI (fA (fM dN (fM y y)) 1))⟩, ⟨9, 21, fun v B _ => B = [] ∧ Fe v (xxN y)⟩, ⟨10, 22, fun v B _ => B = [] ∧ Rt v (xxN y)⟩, ⟨11, 11, fun v B _ => B = [] ∧ Rt v (xxN y)⟩, ⟨12, 23, fun v B _ => B = [] ∧ ∃ n, Fe v n ∧ ∀ m, rtN (xxN y) = some m → n = m⟩, ⟨14, 7, fun v B _ => ∃ b, v = .pointer (some ⟨b, 0, none⟩) ∧ B = [(b, blk [.int .u64 0, .int .u64 0, .int .u64 0, .int .u64 0, .int .u64 0] 152)]⟩] ⟨13, 24, fun v B _ => B = [] ∧ v = .bool (rtN (xxN y)).isSome⟩ hs
  (allS (fun _ _ _ _ _ h => h) (allS (fun _ _ _ _ _ h => h) (allS (fun _ _ _ _ _ h => h) (allS (fun _ _ _ _ _ h => h) (allS (fun _ _ _ _ _ h => h) (allS (fun _ _ _ _ _ h => h) (allS (fun _ _ _ _ _ h => h) (allS (fun _ _ _ _ _ h => h) (allS (fun _ _ _ _ _ h => h) (allS (fun _ _ _ _ _ h => h) (allS (fun _ _ _ _ _ h => h) (allS (fun _ _ _ _ _ h => h) (allS (fun _ _ _ _ _ h => h) (all0)))))))))))))) (show List.Nodup [13, 14, 15, 17, 18, 19, 20, 21, 22, 11, 23, 7, 24] by decide) (show List.Nodup [1, 2, 3, 5, 6, 7, 8, 9, 10, 11, 12, 14, 13] by decide) (allS (blt_lt rfl) (allS (blt_lt rfl) (allS (blt_lt rfl) (allS (blt_lt rfl) (allS (blt_lt rfl) (allS (blt_lt rfl) (allS (blt_lt rfl) (allS (blt_lt rfl) (allS (blt_lt rfl) (allS (blt_lt rfl) (allS (blt_lt rfl) (allS (blt_lt rfl) (allS (blt_lt rfl) (all0))))))))))))))
  (allS ⟨_, rfl, fun vs bs R w hb ha => ⟨.inl rfl, ?_⟩⟩ (allS ⟨_, rfl, fun vs bs R w hb ha => ⟨.inl rfl, ?_⟩⟩ (allS ⟨_, rfl, fun vs bs R w hb ha => ⟨.inl rfl, ?_⟩⟩ (allS ⟨_, rfl, fun vs bs R w hb ha => ⟨.inl rfl, ?_⟩⟩ (allS ⟨_, rfl, fun vs bs R w hb ha => ⟨.inl rfl, ?_⟩⟩ (allS ⟨_, rfl, fun vs bs R w hb ha => ⟨.inl rfl, ?_⟩⟩ (allS ⟨_, rfl, fun vs bs R w hb ha => ⟨.inl rfl, ?_⟩⟩ (allS ⟨_, rfl, fun vs bs R w hb ha => ⟨.inl rfl, ?_⟩⟩ (allS ⟨_, rfl, fun vs bs R w hb ha => ⟨.inl rfl, ?_⟩⟩ (allS ⟨_, rfl, fun vs bs R w hb ha => ⟨.inl rfl, ?_⟩⟩ (allS ⟨_, rfl, fun vs bs R w hb ha => ⟨.inl rfl, ?_⟩⟩ (allS ⟨_, rfl, fun vs bs R w hb ha => ⟨.inl rfl, ?_⟩⟩ (all0))))))))))))) ⟨_, _, _, _, rfl, fun vs bs R hb ha => ?_⟩ ?_
 ·
  refine l_call0 (aS rfl (a0)) (by kernel_rfl) (num_f 1 (by decide) _) rfl ?_
  rintro r M1 J1 ⟨rfl, rfl, hh⟩
  exact ⟨_, rfl, rfl, hh⟩
 ·
  have g1 := ha _ (List.mem_of_getElem? (i := 0) rfl) (by kernel_rfl)
  replace g1 : (fun v B _ => B = [] ∧ Fe v (1)) (vs 1) (bs 1) R := g1
  dsimp only at g1
  obtain ⟨-, k1⟩ := g1
  refine l_call0 (aS rfl (aS rfl (a0))) (by kernel_rfl) (sub_f h10 k1 _) rfl ?_
  rintro r M1 J1 ⟨rfl, rfl, hh⟩
  exact ⟨_, rfl, rfl, hh⟩
 ·
  have g1 := ha _ (List.mem_of_getElem? (i := 0) rfl) (by kernel_rfl)
  replace g1 : (fun v B _ => B = [] ∧ Fe v (1)) (vs 1) (bs 1) R := g1
  dsimp only at g1
  have g2 := ha _ (List.mem_of_getElem? (i := 1) rfl) (by kernel_rfl)
  replace g2 : (fun v B _ => B = [] ∧ Fe v (fS (fM y y) 1)) (vs 2) (bs 2) R := g2
  dsimp only at g2
  refine l_call0 (a0) (by kernel_rfl) (curve_f _) rfl ?_
  rintro r M1 J1 ⟨rfl, rfl, hh⟩
  exact ⟨_, rfl, rfl, hh⟩
 ·
  have g1 := ha _ (List.mem_of_getElem? (i := 0) rfl) (by kernel_rfl)
  replace g1 : (fun v B _ => B = [] ∧ Fe v (1)) (vs 1) (bs 1) R := g1
  dsimp only at g1
  have g2 := ha _ (List.mem_of_getElem? (i := 1) rfl) (by kernel_rfl)
  replace g2 : (fun v B _ => B = [] ∧ Fe v (fS (fM y y) 1)) (vs 2) (bs 2) R := g2
  dsimp only at g2
  have g3 := ha _ (List.mem_of_getElem? (i := 2) rfl) (by kernel_rfl)
  replace g3 : (fun v B _ => B = [] ∧ Fe v (dN)) (vs 3) (bs 3) R := g3
  dsimp only at g3
  obtain ⟨-, k3⟩ := g3
  refine l_call0 (aS rfl (aS rfl (a0))) (by kernel_rfl) (mul_f k3 h10 _) rfl ?_
  rintro r M1 J1 ⟨rfl, rfl, hh⟩
  exact ⟨_, rfl, rfl, hh⟩
 ·
  have g1 := ha _ (List.mem_of_getElem? (i := 0) rfl) (by kernel_rfl)
  replace g1 : (fun v B _ => B = [] ∧ Fe v (1)) (vs 1) (bs 1) R := g1
  dsimp only at g1
  have g2 := ha _ (List.mem_of_getElem? (i := 1) rfl) (by kernel_rfl)
  replace g2 : (fun v B _ => B = [] ∧ Fe v (fS (fM y y) 1)) (vs 2) (bs 2) R := g2
  dsimp only at g2
  have g3 := ha _ (List.mem_of_getElem? (i := 2) rfl) (by kernel_rfl)
  replace g3 : (fun v B _ => B = [] ∧ Fe v (dN)) (vs 3) (bs 3) R := g3
  dsimp only at g3
  have g5 := ha _ (List.mem_of_getElem? (i := 3) rfl) (by kernel_rfl)
  replace g5 : (fun v B _ => B = [] ∧ Fe v (fM dN (fM y y))) (vs 5) (bs 5) R := g5
  dsimp only at g5
  refine l_call0 (aS rfl (a0)) (by kernel_rfl) (num_f 1 (by decide) _) rfl ?_
  rintro r M1 J1 ⟨rfl, rfl, hh⟩
  exact ⟨_, rfl, rfl, hh⟩
 ·
  have g1 := ha _ (List.mem_of_getElem? (i := 0) rfl) (by kernel_rfl)
  replace g1 : (fun v B _ => B = [] ∧ Fe v (1)) (vs 1) (bs 1) R := g1
  dsimp only at g1
  have g2 := ha _ (List.mem_of_getElem? (i := 1) rfl) (by kernel_rfl)
  replace g2 : (fun v B _ => B = [] ∧ Fe v (fS (fM y y) 1)) (vs 2) (bs 2) R := g2
  dsimp only at g2
  have g3 := ha _ (List.mem_of_getElem? (i := 2) rfl) (by kernel_rfl)
  replace g3 : (fun v B _ => B = [] ∧ Fe v (dN)) (vs 3) (bs 3) R := g3
  dsimp only at g3
  have g5 := ha _ (List.mem_of_getElem? (i := 3) rfl) (by kernel_rfl)
  replace g5 : (fun v B _ => B = [] ∧ Fe v (fM dN (fM y y))) (vs 5) (bs 5) R := g5
  dsimp only at g5
  have g6 := ha _ (List.mem_of_getElem? (i := 4) rfl) (by kernel_rfl)
  replace g6 : (fun v B _ => B = [] ∧ Fe v (1)) (vs 6) (bs 6) R := g6
  dsimp only at g6
  obtain ⟨-, k5⟩ := g5
  obtain ⟨-, k6⟩ := g6
  refine l_call0 (aS rfl (aS rfl (a0))) (by kernel_rfl) (add_f k5 k6 _) rfl ?_
  rintro r M1 J1 ⟨rfl, rfl, hh⟩
  exact ⟨_, rfl, rfl, hh⟩
 ·
  have g1 := ha _ (List.mem_of_getElem? (i := 0) rfl) (by kernel_rfl)
  replace g1 : (fun v B _ => B = [] ∧ Fe v (1)) (vs 1) (bs 1) R := g1
  dsimp only at g1
  have g2 := ha _ (List.mem_of_getElem? (i := 1) rfl) (by kernel_rfl)
  replace g2 : (fun v B _ => B = [] ∧ Fe v (fS (fM y y) 1)) (vs 2) (bs 2) R := g2
  dsimp only at g2
  have g3 := ha _ (List.mem_of_getElem? (i := 2) rfl) (by kernel_rfl)
  replace g3 : (fun v B _ => B = [] ∧ Fe v (dN)) (vs 3) (bs 3) R := g3
  dsimp only at g3
  have g5 := ha _ (List.mem_of_getElem? (i := 3) rfl) (by kernel_rfl)
  replace g5 : (fun v B _ => B = [] ∧ Fe v (fM dN (fM y y))) (vs 5) (bs 5) R := g5
  dsimp only at g5
  have g6 := ha _ (List.mem_of_getElem? (i := 4) rfl) (by kernel_rfl)
  replace g6 : (fun v B _ => B = [] ∧ Fe v (1)) (vs 6) (bs 6) R := g6
  dsimp only at g6
  have g7 := ha _ (List.mem_of_getElem? (i := 5) rfl) (by kernel_rfl)
  replace g7 : (fun v B _ => B = [] ∧ Fe v (fA (fM dN (fM y y)) 1)) (vs 7) (bs 7) R := g7
  dsimp only at g7
  obtain ⟨-, k7⟩ := g7
  refine l_call0 (aS rfl (a0)) (by kernel_rfl) (inv_f k7 _) rfl ?_
  rintro r M1 J1 ⟨rfl, rfl, hh⟩
  exact ⟨_, rfl, rfl, hh⟩
 ·
  have g1 := ha _ (List.mem_of_getElem? (i := 0) rfl) (by kernel_rfl)
  replace g1 : (fun v B _ => B = [] ∧ Fe v (1)) (vs 1) (bs 1) R := g1
  dsimp only at g1
  have g2 := ha _ (List.mem_of_getElem? (i := 1) rfl) (by kernel_rfl)
  replace g2 : (fun v B _ => B = [] ∧ Fe v (fS (fM y y) 1)) (vs 2) (bs 2) R := g2
  dsimp only at g2
  have g3 := ha _ (List.mem_of_getElem? (i := 2) rfl) (by kernel_rfl)
  replace g3 : (fun v B _ => B = [] ∧ Fe v (dN)) (vs 3) (bs 3) R := g3
  dsimp only at g3
  have g5 := ha _ (List.mem_of_getElem? (i := 3) rfl) (by kernel_rfl)
  replace g5 : (fun v B _ => B = [] ∧ Fe v (fM dN (fM y y))) (vs 5) (bs 5) R := g5
  dsimp only at g5
  have g6 := ha _ (List.mem_of_getElem? (i := 4) rfl) (by kernel_rfl)
  replace g6 : (fun v B _ => B = [] ∧ Fe v (1)) (vs 6) (bs 6) R := g6
  dsimp only at g6
  have g7 := ha _ (List.mem_of_getElem? (i := 5) rfl) (by kernel_rfl)
  replace g7 : (fun v B _ => B = [] ∧ Fe v (fA (fM dN (fM y y)) 1)) (vs 7) (bs 7) R := g7
  dsimp only at g7
  have g8 := ha _ (List.mem_of_getElem? (i := 6) rfl) (by kernel_rfl)
  replace g8 : (fun v B _ => B = [] ∧ Fe v (fI (fA (fM dN (fM y y)) 1))) (vs 8) (bs 8) R := g8
  dsimp only at g8
  obtain ⟨-, k2⟩ := g2
  obtain ⟨-, k8⟩ := g8
  refine l_call0 (aS rfl (aS rfl (a0))) (by kernel_rfl) (mul_f k2 k8 _) rfl ?_
  rintro r M1 J1 ⟨rfl, rfl, hh⟩
  exact ⟨_, rfl, rfl, hh⟩
 ·
  have g1 := ha _ (List.mem_of_getElem? (i := 0) rfl) (by kernel_rfl)
  replace g1 : (fun v B _ => B = [] ∧ Fe v (1)) (vs 1) (bs 1) R := g1
  dsimp only at g1
  have g2 := ha _ (List.mem_of_getElem? (i := 1) rfl) (by kernel_rfl)
  replace g2 : (fun v B _ => B = [] ∧ Fe v (fS (fM y y) 1)) (vs 2) (bs 2) R := g2
  dsimp only at g2
  have g3 := ha _ (List.mem_of_getElem? (i := 2) rfl) (by kernel_rfl)
  replace g3 : (fun v B _ => B = [] ∧ Fe v (dN)) (vs 3) (bs 3) R := g3
  dsimp only at g3
  have g5 := ha _ (List.mem_of_getElem? (i := 3) rfl) (by kernel_rfl)
  replace g5 : (fun v B _ => B = [] ∧ Fe v (fM dN (fM y y))) (vs 5) (bs 5) R := g5
  dsimp only at g5
  have g6 := ha _ (List.mem_of_getElem? (i := 4) rfl) (by kernel_rfl)
  replace g6 : (fun v B _ => B = [] ∧ Fe v (1)) (vs 6) (bs 6) R := g6
  dsimp only at g6
  have g7 := ha _ (List.mem_of_getElem? (i := 5) rfl) (by kernel_rfl)
  replace g7 : (fun v B _ => B = [] ∧ Fe v (fA (fM dN (fM y y)) 1)) (vs 7) (bs 7) R := g7
  dsimp only at g7
  have g8 := ha _ (List.mem_of_getElem? (i := 6) rfl) (by kernel_rfl)
  replace g8 : (fun v B _ => B = [] ∧ Fe v (fI (fA (fM dN (fM y y)) 1))) (vs 8) (bs 8) R := g8
  dsimp only at g8
  have g9 := ha _ (List.mem_of_getElem? (i := 7) rfl) (by kernel_rfl)
  replace g9 : (fun v B _ => B = [] ∧ Fe v (xxN y)) (vs 9) (bs 9) R := g9
  dsimp only at g9
  obtain ⟨-, k9⟩ := g9
  refine l_call0 (aS rfl a0) (by kernel_rfl) (froot_spec _ _ k9 _) rfl ?_
  rintro r M1 J1 ⟨rfl, rfl, hh⟩
  exact ⟨_, rfl, rfl, hh⟩
 ·
  have g1 := ha _ (List.mem_of_getElem? (i := 0) rfl) (by kernel_rfl)
  replace g1 : (fun v B _ => B = [] ∧ Fe v (1)) (vs 1) (bs 1) R := g1
  dsimp only at g1
  have g2 := ha _ (List.mem_of_getElem? (i := 1) rfl) (by kernel_rfl)
  replace g2 : (fun v B _ => B = [] ∧ Fe v (fS (fM y y) 1)) (vs 2) (bs 2) R := g2
  dsimp only at g2
  have g3 := ha _ (List.mem_of_getElem? (i := 2) rfl) (by kernel_rfl)
  replace g3 : (fun v B _ => B = [] ∧ Fe v (dN)) (vs 3) (bs 3) R := g3
  dsimp only at g3
  have g5 := ha _ (List.mem_of_getElem? (i := 3) rfl) (by kernel_rfl)
  replace g5 : (fun v B _ => B = [] ∧ Fe v (fM dN (fM y y))) (vs 5) (bs 5) R := g5
  dsimp only at g5
  have g6 := ha _ (List.mem_of_getElem? (i := 4) rfl) (by kernel_rfl)
  replace g6 : (fun v B _ => B = [] ∧ Fe v (1)) (vs 6) (bs 6) R := g6
  dsimp only at g6
  have g7 := ha _ (List.mem_of_getElem? (i := 5) rfl) (by kernel_rfl)
  replace g7 : (fun v B _ => B = [] ∧ Fe v (fA (fM dN (fM y y)) 1)) (vs 7) (bs 7) R := g7
  dsimp only at g7
  have g8 := ha _ (List.mem_of_getElem? (i := 6) rfl) (by kernel_rfl)
  replace g8 : (fun v B _ => B = [] ∧ Fe v (fI (fA (fM dN (fM y y)) 1))) (vs 8) (bs 8) R := g8
  dsimp only at g8
  have g9 := ha _ (List.mem_of_getElem? (i := 7) rfl) (by kernel_rfl)
  replace g9 : (fun v B _ => B = [] ∧ Fe v (xxN y)) (vs 9) (bs 9) R := g9
  dsimp only at g9
  have g10 := ha _ (List.mem_of_getElem? (i := 8) rfl) (by kernel_rfl)
  replace g10 : (fun v B _ => B = [] ∧ Rt v (xxN y)) (vs 10) (bs 10) R := g10
  dsimp only at g10
  obtain ⟨-, k10⟩ := g10
  exact OpQ.opL qm_ rfl ⟨_, rfl, rfl, k10⟩
 ·
  have g1 := ha _ (List.mem_of_getElem? (i := 0) rfl) (by kernel_rfl)
  replace g1 : (fun v B _ => B = [] ∧ Fe v (1)) (vs 1) (bs 1) R := g1
  dsimp only at g1
  have g2 := ha _ (List.mem_of_getElem? (i := 1) rfl) (by kernel_rfl)
  replace g2 : (fun v B _ => B = [] ∧ Fe v (fS (fM y y) 1)) (vs 2) (bs 2) R := g2
  dsimp only at g2
  have g3 := ha _ (List.mem_of_getElem? (i := 2) rfl) (by kernel_rfl)
  replace g3 : (fun v B _ => B = [] ∧ Fe v (dN)) (vs 3) (bs 3) R := g3
  dsimp only at g3
  have g5 := ha _ (List.mem_of_getElem? (i := 3) rfl) (by kernel_rfl)
  replace g5 : (fun v B _ => B = [] ∧ Fe v (fM dN (fM y y))) (vs 5) (bs 5) R := g5
  dsimp only at g5
  have g6 := ha _ (List.mem_of_getElem? (i := 4) rfl) (by kernel_rfl)
  replace g6 : (fun v B _ => B = [] ∧ Fe v (1)) (vs 6) (bs 6) R := g6
  dsimp only at g6
  have g7 := ha _ (List.mem_of_getElem? (i := 5) rfl) (by kernel_rfl)
  replace g7 : (fun v B _ => B = [] ∧ Fe v (fA (fM dN (fM y y)) 1)) (vs 7) (bs 7) R := g7
  dsimp only at g7
  have g8 := ha _ (List.mem_of_getElem? (i := 6) rfl) (by kernel_rfl)
  replace g8 : (fun v B _ => B = [] ∧ Fe v (fI (fA (fM dN (fM y y)) 1))) (vs 8) (bs 8) R := g8
  dsimp only at g8
  have g9 := ha _ (List.mem_of_getElem? (i := 7) rfl) (by kernel_rfl)
  replace g9 : (fun v B _ => B = [] ∧ Fe v (xxN y)) (vs 9) (bs 9) R := g9
  dsimp only at g9
  have g10 := ha _ (List.mem_of_getElem? (i := 8) rfl) (by kernel_rfl)
  replace g10 : (fun v B _ => B = [] ∧ Rt v (xxN y)) (vs 10) (bs 10) R := g10
  dsimp only at g10
  have g11 := ha _ (List.mem_of_getElem? (i := 9) rfl) (by kernel_rfl)
  replace g11 : (fun v B _ => B = [] ∧ Rt v (xxN y)) (vs 11) (bs 11) R := g11
  dsimp only at g11
  obtain ⟨-, k11⟩ := g11
  obtain ⟨w, ok, n, hw, hn, hrt⟩ := rt_cases k11
  exact OpQ.opL (q_extract (vs := #[w, .bool ok]) (by rw [← hw]; rfl) rfl) rfl ⟨_, rfl, rfl, n, hn, fun m hm => by rcases hrt with ⟨h1, -⟩ | ⟨h1, -⟩ <;> rw [hm] at h1 <;> cases h1; rfl⟩
 ·
  exact l_alloc (cs := [.int .u64 0, .int .u64 0, .int .u64 0, .int .u64 0, .int .u64 0]) (by kernel_rfl) rfl fun b => ⟨_, rfl, b, rfl, rfl⟩
 ·
  have g1 := ha _ (List.mem_of_getElem? (i := 0) rfl) (by kernel_rfl)
  replace g1 : (fun v B _ => B = [] ∧ Fe v (1)) (vs 1) (bs 1) R := g1
  dsimp only at g1
  have g2 := ha _ (List.mem_of_getElem? (i := 1) rfl) (by kernel_rfl)
  replace g2 : (fun v B _ => B = [] ∧ Fe v (fS (fM y y) 1)) (vs 2) (bs 2) R := g2
  dsimp only at g2
  have g3 := ha _ (List.mem_of_getElem? (i := 2) rfl) (by kernel_rfl)
  replace g3 : (fun v B _ => B = [] ∧ Fe v (dN)) (vs 3) (bs 3) R := g3
  dsimp only at g3
  have g5 := ha _ (List.mem_of_getElem? (i := 3) rfl) (by kernel_rfl)
  replace g5 : (fun v B _ => B = [] ∧ Fe v (fM dN (fM y y))) (vs 5) (bs 5) R := g5
  dsimp only at g5
  have g6 := ha _ (List.mem_of_getElem? (i := 4) rfl) (by kernel_rfl)
  replace g6 : (fun v B _ => B = [] ∧ Fe v (1)) (vs 6) (bs 6) R := g6
  dsimp only at g6
  have g7 := ha _ (List.mem_of_getElem? (i := 5) rfl) (by kernel_rfl)
  replace g7 : (fun v B _ => B = [] ∧ Fe v (fA (fM dN (fM y y)) 1)) (vs 7) (bs 7) R := g7
  dsimp only at g7
  have g8 := ha _ (List.mem_of_getElem? (i := 6) rfl) (by kernel_rfl)
  replace g8 : (fun v B _ => B = [] ∧ Fe v (fI (fA (fM dN (fM y y)) 1))) (vs 8) (bs 8) R := g8
  dsimp only at g8
  have g9 := ha _ (List.mem_of_getElem? (i := 7) rfl) (by kernel_rfl)
  replace g9 : (fun v B _ => B = [] ∧ Fe v (xxN y)) (vs 9) (bs 9) R := g9
  dsimp only at g9
  have g10 := ha _ (List.mem_of_getElem? (i := 8) rfl) (by kernel_rfl)
  replace g10 : (fun v B _ => B = [] ∧ Rt v (xxN y)) (vs 10) (bs 10) R := g10
  dsimp only at g10
  have g11 := ha _ (List.mem_of_getElem? (i := 9) rfl) (by kernel_rfl)
  replace g11 : (fun v B _ => B = [] ∧ Rt v (xxN y)) (vs 11) (bs 11) R := g11
  dsimp only at g11
  obtain ⟨-, k11⟩ := g11
  obtain ⟨w, ok, n, hw, hn, hrt⟩ := rt_cases k11
  exact ⟨.bool ok, q_extract (vs := #[w, .bool ok]) (by rw [← hw]; rfl) rfl, rfl, by rcases hrt with ⟨h1, rfl⟩ | ⟨h1, rfl⟩ <;> rw [h1] <;> rfl⟩
 intro vs bs Jn0 hφ
 have g1 := ofH hφ
 dsimp only at g1
 replace hφ := ofT hφ
 have g2 := ofH hφ
 dsimp only at g2
 replace hφ := ofT hφ
 have g3 := ofH hφ
 dsimp only at g3
 replace hφ := ofT hφ
 have g5 := ofH hφ
 dsimp only at g5
 replace hφ := ofT hφ
 have g6 := ofH hφ
 dsimp only at g6
 replace hφ := ofT hφ
 have g7 := ofH hφ
 dsimp only at g7
 replace hφ := ofT hφ
 have g8 := ofH hφ
 dsimp only at g8
 replace hφ := ofT hφ
 have g9 := ofH hφ
 dsimp only at g9
 replace hφ := ofT hφ
 have g10 := ofH hφ
 dsimp only at g10
 replace hφ := ofT hφ
 have g11 := ofH hφ
 dsimp only at g11
 replace hφ := ofT hφ
 have g12 := ofH hφ
 dsimp only at g12
 replace hφ := ofT hφ
 have g14 := ofH hφ
 dsimp only at g14
 replace hφ := ofT hφ
 have g13 := ofH hφ
 dsimp only at g13
 clear hφ
 dsimp only [gEnvO, ownOf, List.map, List.flatten, List.cons_append, List.nil_append]
 generalize bs 1 = B13 at *
 generalize bs 2 = B14 at *
 generalize bs 3 = B15 at *
 generalize bs 5 = B17 at *
 generalize bs 6 = B18 at *
 generalize bs 7 = B19 at *
 generalize bs 8 = B20 at *
 generalize bs 9 = B21 at *
 generalize bs 10 = B22 at *
 generalize bs 11 = B11 at *
 generalize bs 12 = B23 at *
 generalize bs 14 = B7 at *
 generalize bs 13 = B24 at *
 generalize vs 1 = u13 at *
 generalize vs 2 = u14 at *
 generalize vs 3 = u15 at *
 generalize vs 5 = u17 at *
 generalize vs 6 = u18 at *
 generalize vs 7 = u19 at *
 generalize vs 8 = u20 at *
 generalize vs 9 = u21 at *
 generalize vs 10 = u22 at *
 generalize vs 11 = u11 at *
 generalize vs 12 = u23 at *
 generalize vs 14 = u7 at *
 generalize vs 13 = u24 at *
 obtain ⟨rfl, -⟩ := g10
 obtain ⟨rfl, -⟩ := g11
 obtain ⟨rfl, n, hn, hnm⟩ := g12
 have hn0 := hn
 obtain ⟨n0, n1, n2, n3, n4, rfl, -⟩ := hn
 obtain ⟨ok, hrt, hok⟩ : ∃ ok, ((rtN (xxN y) = some n ∧ ok = true) ∨ (rtN (xxN y) = none ∧ ok = false)) ∧ (rtN (xxN y)).isSome = ok := by
  cases hq : rtN (xxN y) with
  | none => exact ⟨false, .inr ⟨rfl, rfl⟩, rfl⟩
  | some m => exact ⟨true, .inl ⟨by rw [hnm m hq], rfl⟩, rfl⟩
 obtain ⟨rfl, h13⟩ := g13
 rw [hok] at h13
 subst h13
 obtain ⟨b14, rfl, rfl⟩ := g14
 obtain ⟨rfl, -⟩ := g1
 obtain ⟨rfl, -⟩ := g2
 obtain ⟨rfl, -⟩ := g3
 obtain ⟨rfl, -⟩ := g5
 obtain ⟨rfl, -⟩ := g6
 obtain ⟨rfl, -⟩ := g7
 obtain ⟨rfl, -⟩ := g8
 obtain ⟨rfl, -⟩ := g9
 dsimp only [List.append_eq, List.nil_append, List.cons_append]
 refine XF.tl rfl rfl rfl (l_storeW rfl rfl Cel.cel (by kernel_rfl) (lnS (lnS (lnS (lnS (lnS (ln0)))))) (allS rfl (allS rfl (allS rfl (allS rfl (allS rfl (all0)))))) UpC.upd ?_)
 refine XF.q hs rfl (q_assign rfl) rfl ?_
 refine XF.fin (kq 1 (kq 2 (kq 4 (kq 7 (kq 8 kn))))) ?_
 refine XC.seq ?_
 rcases hrt with ⟨hrt, rfl⟩ | ⟨hrt, rfl⟩
 ·
  refine XC.reg ?_
  refine mv_ ?_
  refine XL.q (q_not rfl) rfl ?_
  refine mv_ ?_
  refine XL.gy rfl rfl (OpQ.opL qm_ rfl ?_)
  refine XL.gy rfl rfl (OpQ.opL qm_ rfl ?_)
  refine XL.split (t := 29) rfl (fun hb => ?_) (fun hb => ?_)
  ·
   have ho : odd = true := hb
   refine XL.gy rfl rfl (OpQ.opL (qw_ 5) rfl ?_)
   refine XL.callVg rfl rfl (aS rfl a0) (by kernel_rfl) (fzero_spec _ n hn0 _) rfl ?_
   refine XL.gy rfl rfl (OpQ.opL (q_pickT rfl rfl) rfl ?_)
   refine XL.q (q_pickF rfl rfl) rfl ?_
   refine XL.fin (kq 1 (kq 2 (kq 4 (kq 7 (kq 33 kn))))) ?_
   refine XC.cond rfl (fun hc => ?_) (fun hc => ?_)
   ·
    have hz : n = 0 := by simpa using hc
    refine XC.reg ?_
    refine XL.q (q_build (place := fun x => #[(0, 5), (5, 5), (10, 5), (15, 5)][x]?) (z := [.int .u64 0, .int .u64 0, .int .u64 0, .int .u64 0, .int .u64 0, .int .u64 0, .int .u64 0, .int .u64 0, .int .u64 0, .int .u64 0, .int .u64 0, .int .u64 0, .int .u64 0, .int .u64 0, .int .u64 0, .int .u64 0, .int .u64 0, .int .u64 0, .int .u64 0, .int .u64 0]) (fun _ => by kernel_rfl) e0 bd0) rfl ?_
    refine XL.lo rfl (l_storeW rfl rfl Cel.cel (by kernel_rfl) (lnS (lnS (lnS (lnS (lnS (lnS (lnS (lnS (lnS (lnS (lnS (lnS (lnS (lnS (lnS (lnS (lnS (lnS (lnS (lnS (ln0))))))))))))))))))))) (allS rfl (allS rfl (allS rfl (allS rfl (allS rfl (allS rfl (allS rfl (allS rfl (allS rfl (allS rfl (allS rfl (allS rfl (allS rfl (allS rfl (allS rfl (allS rfl (allS rfl (allS rfl (allS rfl (allS rfl (all0))))))))))))))))))))) UpC.upd ?_)
    refine as_ ?_
    refine XL.fin (kq 4 (kq 5 kn)) ?_
    refine XC.ret ?_
    refine tr ?_
    refine ⟨_, [], [], resC1 rfl rfl rfl (by kernel_rfl) At.mem (by rfl), List.nil_sublist _, by simp, rfl, rfl, _, _, rfl, .inr ⟨?_, rfl, ⟨_, rfl, _, _, _, _, _, _, _, _, _, _, _, _, _, _, _, _, _, _, _, _, rfl, fe_zero, fe_zero, fe_zero, fe_zero⟩⟩⟩
    rw [ho]; exact at_zero hrt hz
   ·
    have hz : ¬ n = 0 := by simpa using hc
    refine XC.skip ?_
    refine nx (kq 1 (kq 2 (kq 4 (kq 7 kn)))) ?_
    refine XC.seq ?_
    refine XC.reg ?_
    refine XL.q (qw_ 5) rfl ?_
    refine XL.callV (aS rfl a0) (by kernel_rfl) (fodd_spec _ n hn0 _) rfl ?_
    refine mv_ ?_
    refine XL.q (q_boolNe rfl rfl (by kernel_rfl)) rfl ?_
    refine XL.fin (kq 2 (kq 4 (kq 7 (kq 38 kn)))) ?_
    refine XC.cond rfl (fun hc => ?_) (fun hc => ?_)
    ·
     have hodd := hc
     refine XC.reg1 ?_
     refine XL.q (qw_ 5) rfl ?_
     refine XL.call (aS rfl a0) (by kernel_rfl) (neg_f hn0 _) rfl ?_
     rintro r40 M40 J40 ⟨rfl, rfl, k40⟩
     have h40 := k40
     obtain ⟨a40, b40, c40, d40, e40, rfl, -⟩ := k40
     refine XL.lo rfl (l_storeW rfl rfl Cel.cel (by kernel_rfl) (lnS (lnS (lnS (lnS (lnS (ln0)))))) (allS rfl (allS rfl (allS rfl (allS rfl (allS rfl (all0)))))) UpC.upd ?_)
     refine XL.fin (kq 2 (kq 4 (kq 7 kn))) ?_
     refine XC.drawF [0, 1, 2, 3, 4, 5, 6, 8] [(0, 1), (1, 1), (3, 1), (4, 1), (2, 2), (5, 2), (6, 0), (7, 2), (8, 0)] (by kernel_rfl) (by kernel_rfl) fun hs => ?_
     refine XF.r hs rfl (qw_ 5) rfl ?_
     refine XF.r hs rfl (qw_ 5) rfl ?_
     refine XF.r hs rfl (qw_ 5) rfl ?_
     refine XF.r hs rfl (qw_ 5) rfl ?_
     refine XF.call rfl (aS rfl a0) (by kernel_rfl) (num_f 1 (by decide) _) rfl ?_
     rintro r43 M43 J43 ⟨rfl, rfl, k43⟩
     have h43 := k43
     obtain ⟨a43, b43, c43, d43, e43, rfl, -⟩ := k43
     refine XF.call rfl (aS rfl (aS rfl a0)) (by kernel_rfl) (mul_f h40 hy _) rfl ?_
     rintro r46 M46 J46 ⟨rfl, rfl, k46⟩
     have h46 := k46
     obtain ⟨a46, b46, c46, d46, e46, rfl, -⟩ := k46
     refine XF.q hs rfl (q_build (place := fun x => #[(0, 5), (5, 5), (10, 5), (15, 5)][x]?) (z := [.int .u64 0, .int .u64 0, .int .u64 0, .int .u64 0, .int .u64 0, .int .u64 0, .int .u64 0, .int .u64 0, .int .u64 0, .int .u64 0, .int .u64 0, .int .u64 0, .int .u64 0, .int .u64 0, .int .u64 0, .int .u64 0, .int .u64 0, .int .u64 0, .int .u64 0, .int .u64 0]) (fun _ => by kernel_rfl) (eS rfl (eS rfl (eS rfl (eS rfl e0)))) (bdS 0 5 rfl (by rfl) (bdS 5 5 rfl (by rfl) (bdS 10 5 rfl (by rfl) (bdS 15 5 rfl (by rfl) bd0))))) rfl ?_
     refine XF.tl rfl rfl rfl (l_storeW rfl rfl Cel.cel (by kernel_rfl) (lnS (lnS (lnS (lnS (lnS (lnS (lnS (lnS (lnS (lnS (lnS (lnS (lnS (lnS (lnS (lnS (lnS (lnS (lnS (lnS (ln0))))))))))))))))))))) (allS rfl (allS rfl (allS rfl (allS rfl (allS rfl (allS rfl (allS rfl (allS rfl (allS rfl (allS rfl (allS rfl (allS rfl (allS rfl (allS rfl (allS rfl (allS rfl (allS rfl (allS rfl (allS rfl (allS rfl (all0))))))))))))))))))))) UpC.upd ?_)
     refine XF.q hs rfl (q_assign rfl) rfl ?_
     refine XF.fin (kq 4 (kq 5 kn)) ?_
     refine XC.ret ?_
     refine ⟨_, [], [], resC1 rfl rfl rfl (by kernel_rfl) At.mem (by rfl), List.nil_sublist _, by simp, rfl, rfl, _, _, rfl, .inl ⟨fN n, ?_, rfl, ⟨_, rfl, _, _, _, _, _, _, _, _, _, _, _, _, _, _, _, _, _, _, _, _, rfl, h40, hy, h43, h46⟩⟩⟩
     exact at_some hrt (by rw [ho, decide_eq_false hz]; rfl) hodd
    ·
     have hodd := hc
     refine XC.skip ?_
     refine nx (kq 2 (kq 4 (kq 7 kn))) ?_
     refine XC.drawF [0, 1, 2, 3, 4, 5, 6, 8] [(0, 1), (1, 1), (3, 1), (4, 1), (2, 2), (5, 2), (6, 0), (7, 2), (8, 0)] (by kernel_rfl) (by kernel_rfl) fun hs => ?_
     refine XF.r hs rfl (qw_ 5) rfl ?_
     refine XF.r hs rfl (qw_ 5) rfl ?_
     refine XF.r hs rfl (qw_ 5) rfl ?_
     refine XF.r hs rfl (qw_ 5) rfl ?_
     refine XF.call rfl (aS rfl a0) (by kernel_rfl) (num_f 1 (by decide) _) rfl ?_
     rintro r43 M43 J43 ⟨rfl, rfl, k43⟩
     have h43 := k43
     obtain ⟨a43, b43, c43, d43, e43, rfl, -⟩ := k43
     refine XF.call rfl (aS rfl (aS rfl a0)) (by kernel_rfl) (mul_f hn0 hy _) rfl ?_
     rintro r46 M46 J46 ⟨rfl, rfl, k46⟩
     have h46 := k46
     obtain ⟨a46, b46, c46, d46, e46, rfl, -⟩ := k46
     refine XF.q hs rfl (q_build (place := fun x => #[(0, 5), (5, 5), (10, 5), (15, 5)][x]?) (z := [.int .u64 0, .int .u64 0, .int .u64 0, .int .u64 0, .int .u64 0, .int .u64 0, .int .u64 0, .int .u64 0, .int .u64 0, .int .u64 0, .int .u64 0, .int .u64 0, .int .u64 0, .int .u64 0, .int .u64 0, .int .u64 0, .int .u64 0, .int .u64 0, .int .u64 0, .int .u64 0]) (fun _ => by kernel_rfl) (eS rfl (eS rfl (eS rfl (eS rfl e0)))) (bdS 0 5 rfl (by rfl) (bdS 5 5 rfl (by rfl) (bdS 10 5 rfl (by rfl) (bdS 15 5 rfl (by rfl) bd0))))) rfl ?_
     refine XF.tl rfl rfl rfl (l_storeW rfl rfl Cel.cel (by kernel_rfl) (lnS (lnS (lnS (lnS (lnS (lnS (lnS (lnS (lnS (lnS (lnS (lnS (lnS (lnS (lnS (lnS (lnS (lnS (lnS (lnS (ln0))))))))))))))))))))) (allS rfl (allS rfl (allS rfl (allS rfl (allS rfl (allS rfl (allS rfl (allS rfl (allS rfl (allS rfl (allS rfl (allS rfl (allS rfl (allS rfl (allS rfl (allS rfl (allS rfl (allS rfl (allS rfl (allS rfl (all0))))))))))))))))))))) UpC.upd ?_)
     refine XF.q hs rfl (q_assign rfl) rfl ?_
     refine XF.fin (kq 4 (kq 5 kn)) ?_
     refine XC.ret ?_
     refine ⟨_, [], [], resC1 rfl rfl rfl (by kernel_rfl) At.mem (by rfl), List.nil_sublist _, by simp, rfl, rfl, _, _, rfl, .inl ⟨n, ?_, rfl, ⟨_, rfl, _, _, _, _, _, _, _, _, _, _, _, _, _, _, _, _, _, _, _, _, rfl, hn0, hy, h43, h46⟩⟩⟩
     exact at_some hrt (by rw [ho, decide_eq_false hz]; rfl) hodd
  ·
   have ho : odd = false := hb
   refine XL.gn rfl rfl rfl rfl ?_
   refine XL.gn rfl rfl rfl rfl ?_
   refine XL.gy rfl rfl (OpQ.opL (q_pickF rfl rfl) rfl ?_)
   refine XL.q (q_pickF rfl rfl) rfl ?_
   refine XL.fin (kq 1 (kq 2 (kq 4 (kq 7 (kq 33 kn))))) ?_
   refine XC.condF rfl ?_
   refine XC.skip ?_
   refine nx (kq 1 (kq 2 (kq 4 (kq 7 kn)))) ?_
   refine XC.seq ?_
   refine XC.reg ?_
   refine XL.q (qw_ 5) rfl ?_
   refine XL.callV (aS rfl a0) (by kernel_rfl) (fodd_spec _ n hn0 _) rfl ?_
   refine mv_ ?_
   refine XL.q (q_boolNe rfl rfl (by kernel_rfl)) rfl ?_
   refine XL.fin (kq 2 (kq 4 (kq 7 (kq 38 kn)))) ?_
   refine XC.cond rfl (fun hc => ?_) (fun hc => ?_)
   ·
    have hodd := hc
    refine XC.reg1 ?_
    refine XL.q (qw_ 5) rfl ?_
    refine XL.call (aS rfl a0) (by kernel_rfl) (neg_f hn0 _) rfl ?_
    rintro r40 M40 J40 ⟨rfl, rfl, k40⟩
    have h40 := k40
    obtain ⟨a40, b40, c40, d40, e40, rfl, -⟩ := k40
    refine XL.lo rfl (l_storeW rfl rfl Cel.cel (by kernel_rfl) (lnS (lnS (lnS (lnS (lnS (ln0)))))) (allS rfl (allS rfl (allS rfl (allS rfl (allS rfl (all0)))))) UpC.upd ?_)
    refine XL.fin (kq 2 (kq 4 (kq 7 kn))) ?_
    refine XC.drawF [0, 1, 2, 3, 4, 5, 6, 8] [(0, 1), (1, 1), (3, 1), (4, 1), (2, 2), (5, 2), (6, 0), (7, 2), (8, 0)] (by kernel_rfl) (by kernel_rfl) fun hs => ?_
    refine XF.r hs rfl (qw_ 5) rfl ?_
    refine XF.r hs rfl (qw_ 5) rfl ?_
    refine XF.r hs rfl (qw_ 5) rfl ?_
    refine XF.r hs rfl (qw_ 5) rfl ?_
    refine XF.call rfl (aS rfl a0) (by kernel_rfl) (num_f 1 (by decide) _) rfl ?_
    rintro r43 M43 J43 ⟨rfl, rfl, k43⟩
    have h43 := k43
    obtain ⟨a43, b43, c43, d43, e43, rfl, -⟩ := k43
    refine XF.call rfl (aS rfl (aS rfl a0)) (by kernel_rfl) (mul_f h40 hy _) rfl ?_
    rintro r46 M46 J46 ⟨rfl, rfl, k46⟩
    have h46 := k46
    obtain ⟨a46, b46, c46, d46, e46, rfl, -⟩ := k46
    refine XF.q hs rfl (q_build (place := fun x => #[(0, 5), (5, 5), (10, 5), (15, 5)][x]?) (z := [.int .u64 0, .int .u64 0, .int .u64 0, .int .u64 0, .int .u64 0, .int .u64 0, .int .u64 0, .int .u64 0, .int .u64 0, .int .u64 0, .int .u64 0, .int .u64 0, .int .u64 0, .int .u64 0, .int .u64 0, .int .u64 0, .int .u64 0, .int .u64 0, .int .u64 0, .int .u64 0]) (fun _ => by kernel_rfl) (eS rfl (eS rfl (eS rfl (eS rfl e0)))) (bdS 0 5 rfl (by rfl) (bdS 5 5 rfl (by rfl) (bdS 10 5 rfl (by rfl) (bdS 15 5 rfl (by rfl) bd0))))) rfl ?_
    refine XF.tl rfl rfl rfl (l_storeW rfl rfl Cel.cel (by kernel_rfl) (lnS (lnS (lnS (lnS (lnS (lnS (lnS (lnS (lnS (lnS (lnS (lnS (lnS (lnS (lnS (lnS (lnS (lnS (lnS (lnS (ln0))))))))))))))))))))) (allS rfl (allS rfl (allS rfl (allS rfl (allS rfl (allS rfl (allS rfl (allS rfl (allS rfl (allS rfl (allS rfl (allS rfl (allS rfl (allS rfl (allS rfl (allS rfl (allS rfl (allS rfl (allS rfl (allS rfl (all0))))))))))))))))))))) UpC.upd ?_)
    refine XF.q hs rfl (q_assign rfl) rfl ?_
    refine XF.fin (kq 4 (kq 5 kn)) ?_
    refine XC.ret ?_
    refine ⟨_, [], [], resC1 rfl rfl rfl (by kernel_rfl) At.mem (by rfl), List.nil_sublist _, by simp, rfl, rfl, _, _, rfl, .inl ⟨fN n, ?_, rfl, ⟨_, rfl, _, _, _, _, _, _, _, _, _, _, _, _, _, _, _, _, _, _, _, _, rfl, h40, hy, h43, h46⟩⟩⟩
    exact at_some hrt (by rw [ho]; rfl) hodd
   ·
    have hodd := hc
    refine XC.skip ?_
    refine nx (kq 2 (kq 4 (kq 7 kn))) ?_
    refine XC.drawF [0, 1, 2, 3, 4, 5, 6, 8] [(0, 1), (1, 1), (3, 1), (4, 1), (2, 2), (5, 2), (6, 0), (7, 2), (8, 0)] (by kernel_rfl) (by kernel_rfl) fun hs => ?_
    refine XF.r hs rfl (qw_ 5) rfl ?_
    refine XF.r hs rfl (qw_ 5) rfl ?_
    refine XF.r hs rfl (qw_ 5) rfl ?_
    refine XF.r hs rfl (qw_ 5) rfl ?_
    refine XF.call rfl (aS rfl a0) (by kernel_rfl) (num_f 1 (by decide) _) rfl ?_
    rintro r43 M43 J43 ⟨rfl, rfl, k43⟩
    have h43 := k43
    obtain ⟨a43, b43, c43, d43, e43, rfl, -⟩ := k43
    refine XF.call rfl (aS rfl (aS rfl a0)) (by kernel_rfl) (mul_f hn0 hy _) rfl ?_
    rintro r46 M46 J46 ⟨rfl, rfl, k46⟩
    have h46 := k46
    obtain ⟨a46, b46, c46, d46, e46, rfl, -⟩ := k46
    refine XF.q hs rfl (q_build (place := fun x => #[(0, 5), (5, 5), (10, 5), (15, 5)][x]?) (z := [.int .u64 0, .int .u64 0, .int .u64 0, .int .u64 0, .int .u64 0, .int .u64 0, .int .u64 0, .int .u64 0, .int .u64 0, .int .u64 0, .int .u64 0, .int .u64 0, .int .u64 0, .int .u64 0, .int .u64 0, .int .u64 0, .int .u64 0, .int .u64 0, .int .u64 0, .int .u64 0]) (fun _ => by kernel_rfl) (eS rfl (eS rfl (eS rfl (eS rfl e0)))) (bdS 0 5 rfl (by rfl) (bdS 5 5 rfl (by rfl) (bdS 10 5 rfl (by rfl) (bdS 15 5 rfl (by rfl) bd0))))) rfl ?_
    refine XF.tl rfl rfl rfl (l_storeW rfl rfl Cel.cel (by kernel_rfl) (lnS (lnS (lnS (lnS (lnS (lnS (lnS (lnS (lnS (lnS (lnS (lnS (lnS (lnS (lnS (lnS (lnS (lnS (lnS (lnS (ln0))))))))))))))))))))) (allS rfl (allS rfl (allS rfl (allS rfl (allS rfl (allS rfl (allS rfl (allS rfl (allS rfl (allS rfl (allS rfl (allS rfl (allS rfl (allS rfl (allS rfl (allS rfl (allS rfl (allS rfl (allS rfl (allS rfl (all0))))))))))))))))))))) UpC.upd ?_)
    refine XF.q hs rfl (q_assign rfl) rfl ?_
    refine XF.fin (kq 4 (kq 5 kn)) ?_
    refine XC.ret ?_
    refine ⟨_, [], [], resC1 rfl rfl rfl (by kernel_rfl) At.mem (by rfl), List.nil_sublist _, by simp, rfl, rfl, _, _, rfl, .inl ⟨n, ?_, rfl, ⟨_, rfl, _, _, _, _, _, _, _, _, _, _, _, _, _, _, _, _, _, _, _, _, rfl, hn0, hy, h43, h46⟩⟩⟩
    exact at_some hrt (by rw [ho]; rfl) hodd
 ·
  refine XC.reg ?_
  refine mv_ ?_
  refine XL.q (q_not rfl) rfl ?_
  refine mv_ ?_
  refine XL.gn rfl rfl rfl rfl ?_
  refine XL.gn rfl rfl rfl rfl ?_
  refine XL.gu rfl rfl rfl ?_
  refine XL.gu rfl rfl rfl ?_
  refine XL.gn rfl rfl rfl rfl ?_
  refine XL.q (q_pickT rfl rfl) rfl ?_
  refine XL.fin (kq 1 (kq 2 (kq 4 (kq 7 (kq 33 kn))))) ?_
  refine XC.condT rfl ?_
  refine XC.reg ?_
  refine XL.q (q_build (place := fun x => #[(0, 5), (5, 5), (10, 5), (15, 5)][x]?) (z := [.int .u64 0, .int .u64 0, .int .u64 0, .int .u64 0, .int .u64 0, .int .u64 0, .int .u64 0, .int .u64 0, .int .u64 0, .int .u64 0, .int .u64 0, .int .u64 0, .int .u64 0, .int .u64 0, .int .u64 0, .int .u64 0, .int .u64 0, .int .u64 0, .int .u64 0, .int .u64 0]) (fun _ => by kernel_rfl) e0 bd0) rfl ?_
  refine XL.lo rfl (l_storeW rfl rfl Cel.cel (by kernel_rfl) (lnS (lnS (lnS (lnS (lnS (lnS (lnS (lnS (lnS (lnS (lnS (lnS (lnS (lnS (lnS (lnS (lnS (lnS (lnS (lnS (ln0))))))))))))))))))))) (allS rfl (allS rfl (allS rfl (allS rfl (allS rfl (allS rfl (allS rfl (allS rfl (allS rfl (allS rfl (allS rfl (allS rfl (allS rfl (allS rfl (allS rfl (allS rfl (allS rfl (allS rfl (allS rfl (allS rfl (all0))))))))))))))))))))) UpC.upd ?_)
  refine as_ ?_
  refine XL.fin (kq 4 (kq 5 kn)) ?_
  refine XC.ret ?_
  refine tr ?_
  exact ⟨_, [], [], resC1 rfl rfl rfl (by kernel_rfl) At.mem (by rfl), List.nil_sublist _, by simp, rfl, rfl, _, _, rfl, .inr ⟨at_none hrt, rfl, ⟨_, rfl, _, _, _, _, _, _, _, _, _, _, _, _, _, _, _, _, _, _, _, _, rfl, fe_zero, fe_zero, fe_zero, fe_zero⟩⟩⟩

theorem start_f (A : Mem) : FnX Tryz.prog 110 [] [] A fun r M J => M = [] ∧ J = [] ∧ FeP r pS := by
 refine FnX.enter (N := 12) Tryz.func110 rfl rfl rfl fun w => ?_
 refine XC.keep kn ?_
 refine XC.reg ?_
 refine XL.lo rfl (l_alloc (cs := [.int .u64 0, .int .u64 0, .int .u64 0, .int .u64 0, .int .u64 0, .int .u64 0, .int .u64 0, .int .u64 0, .int .u64 0, .int .u64 0, .int .u64 0, .int .u64 0, .int .u64 0, .int .u64 0, .int .u64 0, .int .u64 0, .int .u64 0, .int .u64 0, .int .u64 0, .int .u64 0]) (by kernel_rfl) rfl fun b0 => ?_)
 refine XL.fin (kq 0 kn) ?_
 refine XC.reg ?_
 refine XL.call (aS rfl a0) (by kernel_rfl) (num_f 4 (by decide) _) rfl ?_
 rintro r4 M4 J4 ⟨rfl, rfl, k4⟩
 have h4 := k4
 obtain ⟨a4, b4, c4, d4, e4, rfl, -⟩ := k4
 refine XL.call (aS rfl a0) (by kernel_rfl) (num_f 5 (by decide) _) rfl ?_
 rintro r5 M5 J5 ⟨rfl, rfl, k5⟩
 have h5 := k5
 obtain ⟨a5, b5, c5, d5, e5, rfl, -⟩ := k5
 refine XL.call (aS rfl a0) (by kernel_rfl) (inv_f h5 _) rfl ?_
 rintro r6 M6 J6 ⟨rfl, rfl, k6⟩
 have h6 := k6
 obtain ⟨a6, b6, c6, d6, e6, rfl, -⟩ := k6
 refine XL.call (aS rfl (aS rfl a0)) (by kernel_rfl) (mul_f h4 h6 _) rfl ?_
 rintro r7 M7 J7 ⟨rfl, rfl, k7⟩
 rw [s45_eq] at k7
 have h7 := k7
 obtain ⟨a7, b7, c7, d7, e7, rfl, -⟩ := k7
 refine XL.call (aS rfl (aS rfl a0)) (by kernel_rfl) (at_f _ s45 false h7 _) rfl ?_
 rintro r8 M8 J8 ⟨rfl, rfl, V, ok, rfl, hat⟩
 have hP : FeP V pS := by
  rw [at45] at hat
  rcases hat with ⟨x, h1, _, h2⟩ | ⟨h1, _, h2⟩
  · obtain rfl := Option.some.inj h1; exact h2
  · cases h1
 have hP0 := hP
 obtain ⟨xsp, rfl, p0, p1, p2, p3, p4, p5, p6, p7, p8, p9, p10, p11, p12, p13, p14, p15, p16, p17, p18, p19, rfl, hpX, hpY, hpZ, hpT⟩ := hP
 dsimp only [nums, List.map]
 refine mv_ ?_
 refine XL.q (q_x0 rfl) rfl ?_
 refine XL.q (q_x1 rfl) rfl ?_
 refine XL.lo rfl (l_alloc (cs := [.int .u64 0, .int .u64 0, .int .u64 0, .int .u64 0, .int .u64 0, .int .u64 0, .int .u64 0, .int .u64 0, .int .u64 0, .int .u64 0, .int .u64 0, .int .u64 0, .int .u64 0, .int .u64 0, .int .u64 0, .int .u64 0, .int .u64 0, .int .u64 0, .int .u64 0, .int .u64 0]) (by kernel_rfl) rfl fun b1 => ?_)
 refine XL.lo rfl (l_storeW rfl rfl Cel.cel (by kernel_rfl) (lnS (lnS (lnS (lnS (lnS (lnS (lnS (lnS (lnS (lnS (lnS (lnS (lnS (lnS (lnS (lnS (lnS (lnS (lnS (lnS (ln0))))))))))))))))))))) (allS rfl (allS rfl (allS rfl (allS rfl (allS rfl (allS rfl (allS rfl (allS rfl (allS rfl (allS rfl (allS rfl (allS rfl (allS rfl (allS rfl (allS rfl (allS rfl (allS rfl (allS rfl (allS rfl (allS rfl (all0))))))))))))))))))))) UpC.upd ?_)
 refine as_ ?_
 refine XL.fin (kq 0 (kq 1 kn)) ?_
 refine XC.reg ?_
 refine XL.q (qw_ 20) rfl ?_
 refine XL.lo rfl (l_storeW rfl rfl Cel.cel (by kernel_rfl) (lnS (lnS (lnS (lnS (lnS (lnS (lnS (lnS (lnS (lnS (lnS (lnS (lnS (lnS (lnS (lnS (lnS (lnS (lnS (lnS (ln0))))))))))))))))))))) (allS rfl (allS rfl (allS rfl (allS rfl (allS rfl (allS rfl (allS rfl (allS rfl (allS rfl (allS rfl (allS rfl (allS rfl (allS rfl (allS rfl (allS rfl (allS rfl (allS rfl (allS rfl (allS rfl (allS rfl (all0))))))))))))))))))))) UpC.upd ?_)
 refine XL.fin (kq 0 kn) ?_
 refine XC.ret ?_
 exact ⟨_, [], [], resC rfl rfl (by kernel_rfl) At.mem (by rfl), List.nil_sublist _, by simp, rfl, rfl, hP0⟩

end Go.Proofs.YtphcaiplgpmnnaaGreatDoor
/-
  Function values: a closure is made, called. The first index of a predicate.
-/
namespace Go.Px
theorem q_mkFunc {P : Program} {R : Mem} {l : Env} {d : Option Nat} {ty : TypeId} {pos : String} {af : Array Edge} {g : Option (Nat × Bool)} {fn : Fn} {xs : List Operand} {vs : List Value} (hx : Evs l xs vs) :
    OpQ P R ⟨d, .makeFunc fn #[] xs.toArray, ty, pos, af, g⟩ l (.func fn #[] vs.toArray) := fun N a w ha hw => by
  have e : xs.toArray.map a.eval = vs.toArray := by simp [hx.map ha]
  simp only [execOp, e]
  simp [Instr.makeFunc]
section call
variable {C : Cx} {l : Env} {M J : Mem} {K : Env → Mem → Mem → Prop} {d : Nat} {ty : TypeId} {pos : String} {af : Array Edge} {g : Option (Nat × Bool)} {x : Operand} {f : FuncId} {xs : List Operand} {vs cs : List Value} {ts : Array TypeId}
theorem l_callF {Mc R : Mem} {post : Value → Mem → Mem → Prop} (h0 : ev l x = some (.func (.func f) #[] cs.toArray)) (hx : Evs l xs vs) (hc : callable C.P f = true)
    (hM : M.Perm (Mc ++ R)) (hf : FnX C.P f (vs ++ cs) Mc (R ++ (J ++ C.A)) post) (hd : Nat.blt d C.N = true) (k : ∀ v M' J', post v M' J' → K ((d, v) :: l) (M' ++ R) (J' ++ J)) :
    OpL C ⟨some d, .call { callee := .value x, args := xs.toArray, argTypes := ts }, ty, pos, af, g⟩ l M J K := by
  intro Qp a w ha hw
  have hrun : (execOp a.eval ⟨some d, .call { callee := .value x, args := xs.toArray, argTypes := ts }, ty, pos, af, g⟩).run C.P w = .ok (.enter f (vs ++ cs).toArray) w := by
    have e : xs.toArray.map a.eval = vs.toArray := by simp [hx.map ha]
    simp only [execOp, resolve, e, Sem.run_bind, ha.ev h0]
    simp [Deferred.ofValue, invoke, run_call hc]
  unfold Oper.wp
  rw [hrun]
  refine Calls.mono (hf w (hw.callee hM)) ?_
  rintro e w' ⟨v, M', J', rfl, hp, hs⟩
  exact ⟨_, _, _, ha.put (blt_lt hd) v, hw.back hM hs, k v M' J' hp⟩
theorem l_callFV {v : Value} (h0 : ev l x = some (.func (.func f) #[] cs.toArray)) (hx : Evs l xs vs) (hc : callable C.P f = true) (hf : FnV C.P f (vs ++ cs) (M ++ (J ++ C.A)) v) (hd : Nat.blt d C.N = true) (k : K ((d, v) :: l) M J) :
    OpL C ⟨some d, .call { callee := .value x, args := xs.toArray, argTypes := ts }, ty, pos, af, g⟩ l M J K :=
  l_callF (Mc := []) (R := M) h0 hx hc (.refl _) hf hd fun r M' J' ⟨e, h1, h2⟩ => by subst e; subst h1; subst h2; exact k
end call
/-- The first index for which something holds; -1: there is none. -/
def fidx (p : Nat → Bool) (n : Nat) : Int := match (List.range n).find? p with
  | some i => (i : Int)
  | none => -1
theorem fidx_some {p : Nat → Bool} {n i : Nat} (hi : i < n) (h0 : ∀ j, j < i → p j = false) (h : p i = true) : fidx p n = (i : Int) := by
  unfold fidx
  have : (List.range n).find? p = some i := by
    rw [List.find?_range_eq_some]
    exact ⟨h, List.mem_range.2 hi, fun j hj => by rw [h0 j hj]; rfl⟩
  rw [this]
theorem fidx_none {p : Nat → Bool} {n : Nat} (h0 : ∀ j, j < n → p j = false) : fidx p n = -1 := by
  unfold fidx
  have : (List.range n).find? p = none := by
    rw [List.find?_eq_none]
    intro j hj
    rw [h0 j (List.mem_range.1 hj)]; decide
  rw [this]
theorem fidx_cases (p : Nat → Bool) (n : Nat) : (fidx p n = -1 ∧ ∀ j, j < n → p j = false) ∨ ∃ i, i < n ∧ fidx p n = (i : Int) ∧ p i = true ∧ ∀ j, j < i → p j = false := by
  cases h : (List.range n).find? p with
  | none =>
    have h1 : ∀ j, j < n → p j = false := fun j hj => by
      have := List.find?_eq_none.1 h j (List.mem_range.2 hj)
      simpa using this
    exact .inl ⟨fidx_none h1, h1⟩
  | some i =>
    obtain ⟨h1, h2, h3⟩ := List.find?_range_eq_some.1 h
    have h4 : ∀ j, j < i → p j = false := fun j hj => by simpa using h3 j hj
    exact .inr ⟨i, List.mem_range.1 h2, fidx_some (List.mem_range.1 h2) h4 h1, h1, h4⟩
/-! ### Slices of structs -/
/-- What a kind of rows is: so many cells, each one value, told of facts that stay. -/
structure RowT {α : Type} (sz : Nat) (φ : Mem → α → List Value → Prop) : Prop where
  mono : ∀ R R' x r, (∀ q, q ∈ R → q ∈ R') → φ R x r → φ R' x r
  len : ∀ R x r, φ R x r → r.length = sz
  one : ∀ R x r, φ R x r → ∀ c ∈ r, c.oneCell' = true
structure RwL {α : Type} (φ : Mem → α → List Value → Prop) (R : Mem) (rows : List (List Value)) (xs : List α) : Prop where
  len : rows.length = xs.length
  get : ∀ (j : Nat) (x : α), xs[j]? = some x → ∃ r, rows[j]? = some r ∧ φ R x r
section rows
variable {α : Type} {sz : Nat} {φ : Mem → α → List Value → Prop} {R R' : Mem} {rows : List (List Value)} {xs : List α} {x : α} {r : List Value}
theorem RwL.mono (hφ : RowT sz φ) (h : RwL φ R rows xs) (hR : ∀ q, q ∈ R → q ∈ R') : RwL φ R' rows xs := ⟨h.len, fun j x hj => by
  obtain ⟨r, h1, h2⟩ := h.get j x hj
  exact ⟨r, h1, hφ.mono _ _ _ _ hR h2⟩⟩
theorem RwL.nil : RwL φ R [] [] := ⟨rfl, fun j x h => by simp at h⟩
theorem RwL.of (h : RwL φ R rows xs) {j : Nat} (hr : rows[j]? = some r) : ∃ x, xs[j]? = some x ∧ φ R x r := by
  have hj : j < xs.length := by rw [← h.len]; exact (List.getElem?_eq_some_iff.1 hr).1
  obtain ⟨r', h1, h2⟩ := h.get j xs[j] (List.getElem?_eq_getElem hj)
  rw [hr] at h1
  cases h1
  exact ⟨_, List.getElem?_eq_getElem hj, h2⟩
theorem RwL.lens (hφ : RowT sz φ) (h : RwL φ R rows xs) : ∀ r ∈ rows, r.length = sz := by
  intro r hr
  obtain ⟨j, hj⟩ := List.getElem?_of_mem hr
  obtain ⟨x, _, h2⟩ := h.of hj
  exact hφ.len _ _ _ h2
theorem RwL.ones (hφ : RowT sz φ) (h : RwL φ R rows xs) : ∀ c ∈ rows.flatten, c.oneCell' = true := by
  intro c hc
  obtain ⟨r, hr, hc⟩ := List.mem_flatten.1 hc
  obtain ⟨j, hj⟩ := List.getElem?_of_mem hr
  obtain ⟨x, _, h2⟩ := h.of hj
  exact hφ.one _ _ _ h2 c hc
theorem RwL.snoc (h : RwL φ R rows xs) (hx : φ R x r) : RwL φ R (rows ++ [r]) (xs ++ [x]) := ⟨by simp [h.len], fun j y hj => by
  by_cases hlt : j < xs.length
  · rw [List.getElem?_append_left hlt] at hj
    obtain ⟨r', h1, h2⟩ := h.get j y hj
    exact ⟨r', by rw [List.getElem?_append_left (List.getElem?_eq_some_iff.1 h1).1]; exact h1, h2⟩
  · rw [List.getElem?_append_right (by omega)] at hj
    have hj0 : j = xs.length := by
      have := (List.getElem?_eq_some_iff.1 hj).1
      simp at this; omega
    subst hj0
    simp at hj
    subst hj
    exact ⟨r, by rw [List.getElem?_append_right (by rw [h.len]; omega), h.len]; simp, hx⟩⟩
theorem RwL.app {rows' : List (List Value)} {xs' : List α} (h : RwL φ R rows xs) (h' : RwL φ R rows' xs') : RwL φ R (rows ++ rows') (xs ++ xs') := ⟨by simp [h.len, h'.len], fun j y hj => by
  by_cases hlt : j < xs.length
  · rw [List.getElem?_append_left hlt] at hj
    obtain ⟨r', h1, h2⟩ := h.get j y hj
    exact ⟨r', by rw [List.getElem?_append_left (List.getElem?_eq_some_iff.1 h1).1]; exact h1, h2⟩
  · rw [List.getElem?_append_right (by omega)] at hj
    obtain ⟨r', h1, h2⟩ := h'.get _ y hj
    exact ⟨r', by rw [List.getElem?_append_right (by rw [h.len]; omega), h.len]; exact h1, h2⟩⟩
theorem RwL.cons (hx : φ R x r) (h : RwL φ R rows xs) : RwL φ R (r :: rows) (x :: xs) := ⟨by simp [h.len], fun j y hj => by
  cases j with
  | zero => simp at hj; subst hj; exact ⟨r, rfl, hx⟩
  | succ j => exact h.get j y hj⟩
theorem RwL.take (h : RwL φ R rows xs) (k : Nat) : RwL φ R (rows.take k) (xs.take k) := ⟨by simp [h.len], fun j y hj => by
  have hk : j < k := by
    rcases Nat.lt_or_ge j k with h | h
    · exact h
    · rw [List.getElem?_eq_none (by simp; omega)] at hj; cases hj
  rw [List.getElem?_take_of_lt hk] at hj ⊢
  exact h.get j y hj⟩
theorem RwL.drop (h : RwL φ R rows xs) (k : Nat) : RwL φ R (rows.drop k) (xs.drop k) := ⟨by simp [h.len], fun j y hj => by
  rw [List.getElem?_drop] at hj ⊢
  exact h.get _ y hj⟩
end rows
/-- The first index of a list's element with a property. -/
def fidxL {α : Type} (q : α → Bool) (xs : List α) : Int := fidx (fun j => (xs[j]?.map q).getD false) xs.length
end Go.Px

/-
  Slices of one-cell values, as bools: make, a store into an element; a call with values ahead; the index of a predicate over one-cell elements.
-/
namespace Go.Px
/-- What make of a row of bools asks of the type. -/
def mkB (P : Program) (t : TypeId) : Option (TypeId × Nat) :=
  match P.underlying t with
  | some (.slice e) => match P.info? e with
    | some i => match i.zero with
      | some (.bool false) => if i.size = 1 then some (e, i.bytes) else none
      | _ => none
    | none => none
  | _ => none
def bools (h : List Bool) : List Value := h.map .bool
@[simp] theorem bools_len (h : List Bool) : (bools h).length = h.length := by simp [bools]
/-- What an append of a row of noughts, of which the translation hands over the number alone, asks of the types. -/
def appB (P : Program) (t tn : TypeId) : Option (TypeId × Nat) :=
  match P.underlying tn with
  | some (.int _) => mkB P t
  | _ => none
section zb
variable {C : Cx} {l : Env} {M J : Mem} {K : Env → Mem → Mem → Prop} {d : Nat} {ty t tn e : TypeId} {pos : String} {af : Array Edge} {g : Option (Nat × Bool)} {x y : Operand}
end zb
/-- A store into an element of an owned slice of one-cell values. -/
theorem l_stE {C : Cx} {l : Env} {M J : Mem} {K : Env → Mem → Mem → Prop} {ty t : TypeId} {pos : String} {af : Array Edge} {g : Option (Nat × Bool)} {x y : Operand} {v u : Value} {xs : List Value} {n j : Nat} {B M0 : Mem} (h : Sl 1 v n xs B) (hx : ev l x = some (vAt 1 j v)) (hy : ev l y = some u) (h1 : u.oneCell' = true)
    (ht : sizeT C.P t = some 1) (hj : j < n) (hM : M.Perm (B ++ M0)) (h2 : ∀ B', Sl 1 v n (xs.set j u) B' → K l (B' ++ M0) J) :
    OpL C ⟨none, .store t x y, ty, pos, af, g⟩ l M J K := by
  suffices hh : OpL C ⟨none, .store t x y, ty, pos, af, g⟩ l (B ++ M0) J K from fun Qp a w ha hw => hh Qp a w ha (hw.fit (Fit.perm hM) fun _ h => h)
  clear hM
  rcases h with ⟨p, rfl, rfl, hx2, rfl⟩ | ⟨b, o, cap, cs, e, rfl, rfl, h3, h4, h5, h6, h7⟩
  · omega
  · simp only [vAt, Addr.add_mid, Nat.mul_one] at hx
    refine l_store hx hy h1 ht (setL_set (by omega)) .hd (h2 [_] (.inr ⟨b, o, cap, _, e, rfl, rfl, h3, h4, by simpa using h5, by simpa using h6, ?_⟩))
    intro i w hi
    rw [List.getElem?_set] at hi ⊢
    by_cases hij : j = i
    · subst hij
      simp only [if_true] at hi ⊢
      simp at hi h6
      rw [if_pos (by omega)]
      rw [← hi.2]
    · rw [if_neg hij] at hi
      rw [if_neg (by omega)]
      exact h7 i w hi
section call
variable {C : Cx} {l : Env} {M J : Mem} {K : Env → Mem → Mem → Prop} {d : Nat} {ty : TypeId} {pos : String} {af : Array Edge} {g : Option (Nat × Bool)} {x : Operand} {f : FuncId} {xs : List Operand} {us vs cs : List Value} {ts : Array TypeId}
end call
end Go.Px

/- The walks of package curve: Times, Bytes. -/
namespace Go.Proofs.YtphcaiplgpmnnaaGreatDoor
open Go.Px
/-- A point so many times: behind so many of a number's 256 bits, the highest first. -/
def pSt (P : Pt) (n i : Nat) (Q : Pt) : Pt := if n / 2 ^ i % 2 = 1 then pAdd d2N (pAdd d2N Q Q) P else pAdd d2N Q Q
def itr (f : Nat → Pt → Pt) (z : Pt) : Nat → Pt
  | 0 => z
  | k + 1 => f k (itr f z k)
theorem itr_succ (f : Nat → Pt → Pt) (z : Pt) (k : Nat) : itr f z (k + 1) = f k (itr f z k) := rfl
def pTk (P : Pt) (n : Nat) (k : Nat) : Pt := itr (fun k Q => pSt P n (255 - k) Q) pO k
theorem pTk_zero (P : Pt) (n : Nat) : pTk P n 0 = pO := rfl
theorem pTk_succ (P : Pt) (n k : Nat) : pTk P n (k + 1) = pSt P n (255 - k) (pTk P n k) := itr_succ _ _ _
def pTimes (P : Pt) (n : Nat) : Pt := pTk P n 256
theorem pSt_pos {P Q : Pt} {n i : Nat} (h : n / 2 ^ i % 2 = 1) : pSt P n i Q = pAdd d2N (pAdd d2N Q Q) P := if_pos h
theorem pSt_neg {P Q : Pt} {n i : Nat} (h : ¬ n / 2 ^ i % 2 = 1) : pSt P n i Q = pAdd d2N Q Q := if_neg h
theorem tk1 {i : Nat} (h : i < 256) : 256 - i = (256 - (i + 1)) + 1 := by omega
theorem tk2 {i : Nat} (h : i < 256) : 255 - (256 - (i + 1)) = i := by omega
theorem tk3 {P : Pt} {n i : Nat} (h : i < 256) : pTk P n (256 - i) = pTk P n ((256 - (i + 1)) + 1) := congrArg (pTk P n) (tk1 h)
theorem tk4 {P : Pt} {n i : Nat} : pTk P n ((256 - (i + 1)) + 1) = pSt P n (255 - (256 - (i + 1))) (pTk P n (256 - (i + 1))) := pTk_succ P n _
theorem tk5 {P : Pt} {n i : Nat} (h : i < 256) : pSt P n (255 - (256 - (i + 1))) (pTk P n (256 - (i + 1))) = pSt P n i (pTk P n (256 - (i + 1))) := congrArg (fun j => pSt P n j (pTk P n (256 - (i + 1)))) (tk2 h)
theorem pTk_step {P : Pt} {n i : Nat} (h : i < 256) : pTk P n (256 - i) = pSt P n i (pTk P n (256 - (i + 1))) := (tk3 h).trans (tk4.trans (tk5 h))
/-- A point's bytes. -/
noncomputable def pB (P : Pt) : List Nat :=
  if fM P.X (fI P.Z) % 2 = 1 then (prts 8 32 (fM P.Y (fI P.Z)) 255).set 31 ((prts 8 32 (fM P.Y (fI P.Z)) 255).getD 31 0 ||| 128) else prts 8 32 (fM P.Y (fI P.Z)) 255
theorem pB_len (P : Pt) : (pB P).length = 32 := by unfold pB; split <;> simp [prts_len]
theorem or128 {x : Nat} (h : x < 256) : (x ||| 128) < 256 := Nat.or_lt_two_pow (n := 8) h (by decide)
theorem pB_lt (P : Pt) : ∀ x ∈ pB P, x < 256 := by
  intro x hx
  unfold pB at hx
  split at hx
  · rcases List.mem_or_eq_of_mem_set hx with h | rfl
    · exact prts_lt _ _ x h
    · exact or128 (getD_lt (prts_lt _ _) (by decide))
  · exact prts_lt _ _ x hx

theorem nums_inj' {k : IntKind} {a b : List Nat} (h : nums k a = nums k b) : a = b := by
  unfold nums at h
  induction a generalizing b with
  | nil => cases b with
    | nil => rfl
    | cons y b => simp at h
  | cons x a ih => cases b with
    | nil => simp at h
    | cons y b =>
      simp only [List.map_cons, List.cons.injEq, Value.int.injEq, true_and] at h
      rw [ih h.2, Int.ofNat.inj h.1]

theorem nums_inj20 {a b : List Nat} (h : Value.agg (nums .u64 a).toArray = .agg (nums .u64 b).toArray) : b = a := by
  have h1 : nums .u64 a = nums .u64 b := by simpa using h
  exact (nums_inj' h1).symm

theorem ptimes_f (V : Value) (P : Pt) (es : List Nat) (hP : FeP V P) (hes : es.length = 32) (he256 : ∀ y ∈ es, y < 256) (A : Mem) : FnX Tryz.prog 109 [V, .agg (nums .u8 es).toArray] [] A fun r M J => M = [] ∧ J = [] ∧ FeP r (pTimes P (bv es)) := by
 have hP0 := hP
 obtain ⟨xsp, rfl, p0, p1, p2, p3, p4, p5, p6, p7, p8, p9, p10, p11, p12, p13, p14, p15, p16, p17, p18, p19, rfl, hpX, hpY, hpZ, hpT⟩ := hP
 dsimp only [nums, List.map]
 refine FnX.enter (N := 34) Tryz.func109 rfl rfl rfl fun w => ?_
 refine XC.keep (kq 0 (kq 1 kn)) ?_
 refine XC.reg ?_
 refine XL.lo rfl (bx_ fun b2 => ?_)
 refine XL.lo rfl (bx_ fun b3 => ?_)
 refine XL.lo rfl (l_alloc (cs := [.int .u64 0, .int .u64 0, .int .u64 0, .int .u64 0, .int .u64 0, .int .u64 0, .int .u64 0, .int .u64 0, .int .u64 0, .int .u64 0, .int .u64 0, .int .u64 0, .int .u64 0, .int .u64 0, .int .u64 0, .int .u64 0, .int .u64 0, .int .u64 0, .int .u64 0, .int .u64 0]) (by kernel_rfl) rfl fun b4 => ?_)
 refine XL.fin (kq 2 (kq 3 (kq 4 kn))) ?_
 refine XC.reg ?_
 refine XL.call a0 (by kernel_rfl) (origin_f _) rfl ?_
 rintro r1 M1 J1 ⟨rfl, rfl, hO⟩
 have hO0 := hO
 obtain ⟨xso, rfl, o0, o1, o2, o3, o4, o5, o6, o7, o8, o9, o10, o11, o12, o13, o14, o15, o16, o17, o18, o19, rfl, hoX, hoY, hoZ, hoT⟩ := hO
 dsimp only [nums, List.map]
 refine XL.call (aS rfl a0) (by kernel_rfl) (num_f 2 (by decide) _) rfl ?_
 rintro rw2 Mw2 Jw2 ⟨rfl, rfl, kw2⟩
 have hw2 := kw2
 obtain ⟨aw2, bw2, cw2, dw2, ew2, rfl, -⟩ := kw2
 refine XL.call a0 (by kernel_rfl) (curve_f _) rfl ?_
 rintro rw3 Mw3 Jw3 ⟨rfl, rfl, kw3⟩
 have hw3 := kw3
 obtain ⟨aw3, bw3, cw3, dw3, ew3, rfl, -⟩ := kw3
 refine XL.call (aS rfl (aS rfl a0)) (by kernel_rfl) (mul_f hw2 hw3 _) rfl ?_
 rintro rd Md Jd ⟨rfl, rfl, kd⟩
 rw [d2_eq] at kd
 have hd := kd
 obtain ⟨ad, bd, cd, dd, ed, rfl, -⟩ := kd
 refine XL.lo rfl (l_alloc (cs := [.int .u64 0, .int .u64 0, .int .u64 0, .int .u64 0, .int .u64 0, .int .u64 0, .int .u64 0, .int .u64 0, .int .u64 0, .int .u64 0, .int .u64 0, .int .u64 0, .int .u64 0, .int .u64 0, .int .u64 0, .int .u64 0, .int .u64 0, .int .u64 0, .int .u64 0, .int .u64 0]) (by kernel_rfl) rfl fun b5 => ?_)
 refine XL.lo rfl (l_alloc (cs := [.int .u64 0, .int .u64 0, .int .u64 0, .int .u64 0, .int .u64 0]) (by kernel_rfl) rfl fun b6 => ?_)
 refine XL.lo rfl (l_storeW rfl rfl Cel.cel (by kernel_rfl) (lnS (lnS (lnS (lnS (lnS (lnS (lnS (lnS (lnS (lnS (lnS (lnS (lnS (lnS (lnS (lnS (lnS (lnS (lnS (lnS (ln0))))))))))))))))))))) (allS rfl (allS rfl (allS rfl (allS rfl (allS rfl (allS rfl (allS rfl (allS rfl (allS rfl (allS rfl (allS rfl (allS rfl (allS rfl (allS rfl (allS rfl (allS rfl (allS rfl (allS rfl (allS rfl (allS rfl (all0))))))))))))))))))))) UpC.upd ?_)
 refine XL.lo rfl (l_storeW rfl rfl Cel.cel (by kernel_rfl) (lnS (lnS (lnS (lnS (lnS (ln0)))))) (allS rfl (allS rfl (allS rfl (allS rfl (allS rfl (all0)))))) UpC.upd ?_)
 refine XL.fin (kq 2 (kq 3 (kq 4 (kq 5 (kq 6 kn))))) ?_
 refine XC.seq ?_
 refine XC.reg ?_
 refine as_ ?_
 refine XL.fin (kq 2 (kq 3 (kq 4 (kq 5 (kq 6 (kq 7 kn)))))) ?_
 refine XC.block ?_
 refine XC.fit (M' := [(b6, blk [.int .u64 (ad : Int), .int .u64 (bd : Int), .int .u64 (cd : Int), .int .u64 (dd : Int), .int .u64 (ed : Int)] 152), (b5, blk (nums .u64 [o0, o1, o2, o3, o4, o5, o6, o7, o8, o9, o10, o11, o12, o13, o14, o15, o16, o17, o18, o19]) 154), (b4, blk [.int .u64 0, .int .u64 0, .int .u64 0, .int .u64 0, .int .u64 0, .int .u64 0, .int .u64 0, .int .u64 0, .int .u64 0, .int .u64 0, .int .u64 0, .int .u64 0, .int .u64 0, .int .u64 0, .int .u64 0, .int .u64 0, .int .u64 0, .int .u64 0, .int .u64 0, .int .u64 0] 154), (b3, blk (nums .u8 es) 157), (b2, blk [.int .u64 (p0 : Int), .int .u64 (p1 : Int), .int .u64 (p2 : Int), .int .u64 (p3 : Int), .int .u64 (p4 : Int), .int .u64 (p5 : Int), .int .u64 (p6 : Int), .int .u64 (p7 : Int), .int .u64 (p8 : Int), .int .u64 (p9 : Int), .int .u64 (p10 : Int), .int .u64 (p11 : Int), .int .u64 (p12 : Int), .int .u64 (p13 : Int), .int .u64 (p14 : Int), .int .u64 (p15 : Int), .int .u64 (p16 : Int), .int .u64 (p17 : Int), .int .u64 (p18 : Int), .int .u64 (p19 : Int)] 154)]) (Fit.eq rfl) (fun _ h => h) ?_
 refine XC.loop (α := Nat × List Nat) (fun y => [(2, .pointer (some ⟨b2, 0, none⟩)), (3, .pointer (some ⟨b3, 0, none⟩)), (4, .pointer (some ⟨b4, 0, none⟩)), (5, .pointer (some ⟨b5, 0, none⟩)), (6, .pointer (some ⟨b6, 0, none⟩)), (7, .int .i64 ((y.1 : Int) - 1))]) (fun y => [(b6, blk [.int .u64 (ad : Int), .int .u64 (bd : Int), .int .u64 (cd : Int), .int .u64 (dd : Int), .int .u64 (ed : Int)] 152), (b5, blk (nums .u64 y.2) 154), (b4, blk [.int .u64 0, .int .u64 0, .int .u64 0, .int .u64 0, .int .u64 0, .int .u64 0, .int .u64 0, .int .u64 0, .int .u64 0, .int .u64 0, .int .u64 0, .int .u64 0, .int .u64 0, .int .u64 0, .int .u64 0, .int .u64 0, .int .u64 0, .int .u64 0, .int .u64 0, .int .u64 0] 154), (b3, blk (nums .u8 es) 157), (b2, blk [.int .u64 (p0 : Int), .int .u64 (p1 : Int), .int .u64 (p2 : Int), .int .u64 (p3 : Int), .int .u64 (p4 : Int), .int .u64 (p5 : Int), .int .u64 (p6 : Int), .int .u64 (p7 : Int), .int .u64 (p8 : Int), .int .u64 (p9 : Int), .int .u64 (p10 : Int), .int .u64 (p11 : Int), .int .u64 (p12 : Int), .int .u64 (p13 : Int), .int .u64 (p14 : Int), .int .u64 (p15 : Int), .int .u64 (p16 : Int), .int .u64 (p17 : Int), .int .u64 (p18 : Int), .int .u64 (p19 : Int)] 154)]) (fun _ => []) (fun y => y.1 ≤ 256 ∧ FeP (.agg (nums .u64 y.2).toArray) (pTk P (bv es) (256 - y.1))) (fun y => y.1) (256, [o0, o1, o2, o3, o4, o5, o6, o7, o8, o9, o10, o11, o12, o13, o14, o15, o16, o17, o18, o19]) ⟨Nat.le_refl _, by show FeP _ (pTk P (bv es) (256 - 256)); rw [Nat.sub_self, pTk_zero]; exact hO0⟩ (kq 2 (kq 3 (kq 4 (kq 5 (kq 6 (kq 7 kn)))))) .rfl (fun _ h => h) ?_
 clear hO0 hoX hoY hoZ hoT
 rintro ⟨j, zs⟩ ⟨hj, ho⟩
 dsimp only at hj ho ⊢
 have ho0 := ho
 obtain ⟨zs_, e_, z0, z1, z2, z3, z4, z5, z6, z7, z8, z9, z10, z11, z12, z13, z14, z15, z16, z17, z18, z19, rfl, hzX, hzY, hzZ, hzT⟩ := ho
 obtain rfl := nums_inj20 e_
 refine XC.seq ?_
 refine XC.reg ?_
 refine mv_ ?_
 refine XL.q (q_bin rfl rfl rfl) rfl ?_
 refine XL.fin (kq 2 (kq 3 (kq 4 (kq 5 (kq 6 (kq 7 (kq 13 kn))))))) ?_
 refine XC.cond rfl (fun hc => ?_) (fun hc => ?_)
 ·
  have hj0 : 0 < j := by simp at hc; omega
  obtain ⟨i, rfl⟩ : ∃ i, j = i + 1 := ⟨j - 1, by omega⟩
  rw [show (((i + 1 : Nat) : Int) - 1) = (i : Int) by omega]
  have hts := pTk_step (P := P) (n := bv es) (show i < 256 by omega)
  have hbit := bv_bit he256 i
  have hpb : es.getD (i / 8) 0 < 256 := getD_lt he256 (by decide)
  refine XC.skip ?_
  refine nx (kq 2 (kq 3 (kq 4 (kq 5 (kq 6 (kq 7 kn)))))) ?_
  refine XC.seq ?_
  refine XC.block ?_
  refine XC.reg ?_
  refine XL.q (qw_ 20) rfl ?_
  refine XL.q (qw_ 20) rfl ?_
  refine XL.q (qw_ 5) rfl ?_
  refine XL.call (aS rfl (aS rfl (aS rfl a0))) (by kernel_rfl) (padd_f _ _ _ _ _ d2N ho0 ho0 hd _) rfl ?_
  rintro r5 M5 J5 ⟨rfl, rfl, k5⟩
  have h5 := k5
  obtain ⟨xss, rfl, s0, s1, s2, s3, s4, s5, s6, s7, s8, s9, s10, s11, s12, s13, s14, s15, s16, s17, s18, s19, rfl, hsX, hsY, hsZ, hsT⟩ := k5
  dsimp only [nums, List.map]
  refine XL.lo rfl (l_storeW rfl rfl Cel.cel (by kernel_rfl) (lnS (lnS (lnS (lnS (lnS (lnS (lnS (lnS (lnS (lnS (lnS (lnS (lnS (lnS (lnS (lnS (lnS (lnS (lnS (lnS (ln0))))))))))))))))))))) (allS rfl (allS rfl (allS rfl (allS rfl (allS rfl (allS rfl (allS rfl (allS rfl (allS rfl (allS rfl (allS rfl (allS rfl (allS rfl (allS rfl (allS rfl (allS rfl (allS rfl (allS rfl (allS rfl (allS rfl (all0))))))))))))))))))))) UpC.upd ?_)
  refine XL.fin (kq 2 (kq 3 (kq 4 (kq 5 (kq 6 (kq 7 kn)))))) ?_
  refine XC.reg ?_
  refine mv_ ?_
  refine XL.q (q_quoD 8 rfl rfl rfl (by decide) (wrapI (by omega))) rfl ?_
  refine XL.q (q_idxA (e := 5) (n := 32) (sz := 1) (i := i / 8) rfl rfl (by kernel_rfl) (by kernel_rfl) rfl (by omega)) rfl ?_
  refine XL.q (q_ldN (i / 8) rfl (by kernel_rfl) At.mem (by omega) (by omega)) rfl ?_
  refine mv_ ?_
  refine XL.q (q_remD 8 rfl rfl rfl (by decide)) rfl ?_
  refine XL.q (q_shrI (a := es.getD (i / 8) 0) (b := i % 8) rfl rfl rfl rfl (by show _ ≤ 8; omega)) rfl ?_
  refine XL.q (hbit ▸ q_andD 1 2 rfl rfl rfl rfl rfl (by show _ < 256; exact Nat.lt_of_le_of_lt (Nat.div_le_self _ _) hpb) (by decide)) rfl ?_
  refine XL.q (q_bin rfl rfl rfl) rfl ?_
  refine XL.fin (kq 2 (kq 3 (kq 4 (kq 5 (kq 6 (kq 7 (kq 28 kn))))))) ?_
  refine XC.cond rfl (fun hc => ?_) (fun hc => ?_)
  ·
   have hb1 : bv es / 2 ^ i % 2 = 1 := by revert hc; generalize bv es / 2 ^ i % 2 = z; intro hc; simp at hc; omega
   rw [pSt_pos hb1] at hts
   refine XC.reg1 ?_
   refine XL.q (qw_ 20) rfl ?_
   refine XL.q (qw_ 20) rfl ?_
   refine XL.q (qw_ 5) rfl ?_
   refine XL.call (aS rfl (aS rfl (aS rfl a0))) (by kernel_rfl) (padd_f _ _ _ _ _ d2N h5 hP0 hd _) rfl ?_
   rintro r7 M7 J7 ⟨rfl, rfl, k7⟩
   rw [← hts] at k7
   have h7 := k7
   obtain ⟨xst, rfl, t0, t1, t2, t3, t4, t5, t6, t7, t8, t9, t10, t11, t12, t13, t14, t15, t16, t17, t18, t19, rfl, htX, htY, htZ, htT⟩ := k7
   dsimp only [nums, List.map]
   refine XL.lo rfl (l_storeW rfl rfl Cel.cel (by kernel_rfl) (lnS (lnS (lnS (lnS (lnS (lnS (lnS (lnS (lnS (lnS (lnS (lnS (lnS (lnS (lnS (lnS (lnS (lnS (lnS (lnS (ln0))))))))))))))))))))) (allS rfl (allS rfl (allS rfl (allS rfl (allS rfl (allS rfl (allS rfl (allS rfl (allS rfl (allS rfl (allS rfl (allS rfl (allS rfl (allS rfl (allS rfl (allS rfl (allS rfl (allS rfl (allS rfl (allS rfl (all0))))))))))))))))))))) UpC.upd ?_)
   refine XL.nil ?_
   refine nb ?_
   refine nx (kq 2 (kq 3 (kq 4 (kq 5 (kq 6 (kq 7 kn)))))) ?_
   refine XC.reg1 ?_
   refine mv_ ?_
   refine XL.q (q_num ((i : Int) - 1) rfl rfl (sub64 rfl (by omega) (by omega))) rfl ?_
   refine as_ ?_
   refine XL.nil ?_
   exact rn (i, [t0, t1, t2, t3, t4, t5, t6, t7, t8, t9, t10, t11, t12, t13, t14, t15, t16, t17, t18, t19]) ⟨by dsimp only; omega, h7⟩ (by dsimp only; omega) (kq 2 (kq 3 (kq 4 (kq 5 (kq 6 (kq 7 kn)))))) (Fit.eq rfl) (fun _ h => h)
  ·
   have hb1 : ¬ bv es / 2 ^ i % 2 = 1 := by revert hc; generalize bv es / 2 ^ i % 2 = z; intro hc; simp at hc; omega
   rw [pSt_neg hb1] at hts
   refine XC.skip ?_
   refine nb ?_
   refine nx (kq 2 (kq 3 (kq 4 (kq 5 (kq 6 (kq 7 kn)))))) ?_
   refine XC.reg1 ?_
   refine mv_ ?_
   refine XL.q (q_num ((i : Int) - 1) rfl rfl (sub64 rfl (by omega) (by omega))) rfl ?_
   refine as_ ?_
   refine XL.nil ?_
   exact rn (i, [s0, s1, s2, s3, s4, s5, s6, s7, s8, s9, s10, s11, s12, s13, s14, s15, s16, s17, s18, s19]) ⟨by dsimp only; omega, by dsimp only; rw [hts]; exact h5⟩ (by dsimp only; omega) (kq 2 (kq 3 (kq 4 (kq 5 (kq 6 (kq 7 kn)))))) (Fit.eq rfl) (fun _ h => h)
 ·
  have hj0 : j = 0 := by simp at hc; omega
  subst hj0
  refine XC.exit ?_
  refine te ?_
  refine re ?_
  refine be rfl ?_
  refine nx (kq 4 (kq 5 kn)) ?_
  refine XC.reg ?_
  refine XL.q (qw_ 20) rfl ?_
  refine XL.lo rfl (l_storeW rfl rfl Cel.cel (by kernel_rfl) (lnS (lnS (lnS (lnS (lnS (lnS (lnS (lnS (lnS (lnS (lnS (lnS (lnS (lnS (lnS (lnS (lnS (lnS (lnS (lnS (ln0))))))))))))))))))))) (allS rfl (allS rfl (allS rfl (allS rfl (allS rfl (allS rfl (allS rfl (allS rfl (allS rfl (allS rfl (allS rfl (allS rfl (allS rfl (allS rfl (allS rfl (allS rfl (allS rfl (allS rfl (allS rfl (allS rfl (all0))))))))))))))))))))) UpC.upd ?_)
  refine XL.fin (kq 4 kn) ?_
  refine XC.ret ?_
  exact ⟨_, [], [], resC rfl rfl (by kernel_rfl) At.mem (by rfl), List.nil_sublist _, by simp, rfl, rfl, ho0⟩

theorem pbytes_f (V : Value) (P : Pt) (hP : FeP V P) (A : Mem) : FnX Tryz.prog 108 [V] [] A fun r M J => J = [] ∧ Sl 1 r 32 (nums .u8 (pB P)) M := by
 obtain ⟨xsp, rfl, p0, p1, p2, p3, p4, p5, p6, p7, p8, p9, p10, p11, p12, p13, p14, p15, p16, p17, p18, p19, rfl, hpX, hpY, hpZ, hpT⟩ := hP
 dsimp only [nums, List.map]
 refine FnX.enter (N := 24) Tryz.func108 rfl rfl rfl fun w => ?_
 refine XC.keep (kq 0 kn) ?_
 refine XC.reg ?_
 refine XL.lo rfl (bx_ fun b1 => ?_)
 refine as_ ?_
 refine XL.fin (kq 1 kn) ?_
 refine XC.reg ?_
 refine XL.q (qf_ 10 10) rfl ?_
 refine XL.q (q_loadT (n := 5) rfl (by kernel_rfl) (by first | exact At.mem | exact mA (by assumption)) TakeC.take) rfl ?_
 refine XL.call (aS rfl a0) (by kernel_rfl) (inv_f hpZ _) rfl ?_
 rintro r3 M3 J3 ⟨rfl, rfl, k3⟩
 have h3 := k3
 obtain ⟨a3, b3, c3, d3, e3, rfl, -⟩ := k3
 refine XL.lo rfl (l_alloc (cs := [.int .u64 0, .int .u64 0, .int .u64 0, .int .u64 0, .int .u64 0]) (by kernel_rfl) rfl fun b3 => ?_)
 refine XL.lo rfl (l_storeW rfl rfl Cel.cel (by kernel_rfl) (lnS (lnS (lnS (lnS (lnS (ln0)))))) (allS rfl (allS rfl (allS rfl (allS rfl (allS rfl (all0)))))) UpC.upd ?_)
 refine XL.fin (kq 1 (kq 3 kn)) ?_
 refine XC.reg ?_
 refine XL.q (qf_ 5 5) rfl ?_
 refine XL.q (q_loadT (n := 5) rfl (by kernel_rfl) (by first | exact At.mem | exact mA (by assumption)) TakeC.take) rfl ?_
 refine XL.q (qw_ 5) rfl ?_
 refine XL.call (aS rfl (aS rfl a0)) (by kernel_rfl) (mul_f hpY h3 _) rfl ?_
 rintro r4 M4 J4 ⟨rfl, rfl, k4⟩
 have h4 := k4
 obtain ⟨a4, b4, c4, d4, e4, rfl, -⟩ := k4
 refine XL.call (aS rfl a0) (by kernel_rfl) (fbytes_spec _ _ h4 _) rfl ?_
 rintro v12 M12 J12 ⟨rfl, hs12⟩
 haveI := hs12.cel
 have hpl := prts_len 8 32 (fM P.Y (fI P.Z)) 255
 have hpt := prts_lt (fM P.Y (fI P.Z)) 255
 refine as_ ?_
 refine XL.fin (kq 1 (kq 3 (kq 4 kn))) ?_
 refine XC.seq ?_
 refine XC.reg ?_
 refine XL.q (qf_ 0 0) rfl ?_
 refine XL.q (q_loadT (n := 5) rfl (by kernel_rfl) (by first | exact At.mem | exact mA (by assumption)) TakeC.take) rfl ?_
 refine XL.q (qw_ 5) rfl ?_
 refine XL.call (aS rfl (aS rfl a0)) (by kernel_rfl) (mul_f hpX h3 _) rfl ?_
 rintro r5 M5 J5 ⟨rfl, rfl, k5⟩
 have h5 := k5
 obtain ⟨a5, b5, c5, d5, e5, rfl, -⟩ := k5
 refine XL.callV (aS rfl a0) (by kernel_rfl) (fodd_spec _ _ h5 _) rfl ?_
 refine XL.fin (kq 4 (kq 17 kn)) ?_
 refine XC.cond rfl (fun hc => ?_) (fun hc => ?_)
 ·
  have ho : fM P.X (fI P.Z) % 2 = 1 := by simpa using hc
  refine XC.reg1 ?_
  refine mv_ ?_
  refine XL.q (q_atV2 (sz := 1) (a := 31) rfl rfl (by kernel_rfl) rfl (hs12.rd (R := M12) fun _ h => h) (by decide)) rfl ?_
  refine XL.q (q_ldV (j := 31) (u := .int .u8 (((prts 8 32 (fM P.Y (fI P.Z)) 255).getD 31 0 : Nat) : Int)) (hs12.rd SubC.sub) rfl (by kernel_rfl) (nums_get (by rw [hpl]; decide))) rfl ?_
  refine XL.q (q_or (b := 128) rfl rfl rfl (by show _ < 256; exact getD_lt hpt (by decide)) (by decide)) rfl ?_
  refine XL.q (q_atV2 (sz := 1) (a := 31) rfl rfl (by kernel_rfl) rfl (hs12.rd (R := M12) fun _ h => h) (by decide)) rfl ?_
  refine XL.lo rfl (l_stE hs12 rfl rfl rfl (by kernel_rfl) (by decide) PickC.perm fun B9 hs9 => ?_)
  refine XL.fin (kq 4 kn) ?_
  refine XC.reg ?_
  refine mv_ (as_ ?_)
  refine XL.fin (kq 2 kn) ?_
  refine XC.ret ?_
  exact ⟨_, B9, [], res1 rfl rfl, List.sublist_append_left _ _, by simp, rfl, by unfold pB; rw [if_pos ho]; show Sl 1 v12 32 (nums .u8 _) B9; rw [nums_set]; exact hs9⟩
 ·
  have ho : ¬ fM P.X (fI P.Z) % 2 = 1 := by simpa using hc
  refine XC.skip ?_
  refine nx (kq 4 kn) ?_
  refine XC.reg ?_
  refine mv_ (as_ ?_)
  refine XL.fin (kq 2 kn) ?_
  refine XC.ret ?_
  exact ⟨_, M12, [], res1 rfl rfl, List.sublist_append_left _ _, by simp, rfl, by unfold pB; rw [if_neg ho]; exact hs12⟩

end Go.Proofs.YtphcaiplgpmnnaaGreatDoor
/-
  Results of several cells.
-/
namespace Go.Px
open Go Go.ChangeShapes Go.WideShapes Go.RowKit
section results
variable {P : Program} {fn : Func} {l : Env} {R : Mem}
theorem resC4 {t0 t1 t2 t3 b0 b1 b2 b3 n : Nat} {ty : TypeId} {c0 c1 c2 c3 : List Value} {e0 e1 e2 e3 : TypeId} {f0 f1 f2 f3 : Nat × Nat} (h : fn.results = #[.cell t0 ty, .cell t1 ty, .cell t2 ty, .cell t3 ty])
    (h0 : lk l t0 = some (.pointer (some ⟨b0, 0, none⟩))) (h1 : lk l t1 = some (.pointer (some ⟨b1, 0, none⟩))) (h2 : lk l t2 = some (.pointer (some ⟨b2, 0, none⟩))) (h3 : lk l t3 = some (.pointer (some ⟨b3, 0, none⟩))) (ht : rowT P ty = some n)
    (m0 : (b0, Obj.cells c0.toArray e0 f0) ∈ R) (m1 : (b1, Obj.cells c1.toArray e1 f1) ∈ R) (m2 : (b2, Obj.cells c2.toArray e2 f2) ∈ R) (m3 : (b3, Obj.cells c3.toArray e3 f3) ∈ R) (n0 : c0.length = n) (n1 : c1.length = n) (n2 : c2.length = n) (n3 : c3.length = n) : Res P fn l R (.tuple #[.agg c0.toArray, .agg c1.toArray, .agg c2.toArray, .agg c3.toArray]) := fun N a w ha hw => by
  obtain ⟨dsc, g1, g2, g3⟩ := rowT_spec ht
  have hk : ∀ (b : Nat) (cs : List Value) (e : TypeId) (fr : Nat × Nat), (b, Obj.cells cs.toArray e fr) ∈ R → cs.length = n → _ := fun b cs e fr hb hn => run_loadVar_row (P := P) w b e ty cs.toArray fr dsc (hw b _ hb) g1 (by cases dsc <;> simp_all [TypeDesc.isRow]) (by rw [g3, ← hn]; simp)
  have k0 := hk _ _ _ _ m0 n0
  have k1 := hk _ _ _ _ m1 n1
  have k2 := hk _ _ _ _ m2 n2
  have k3 := hk _ _ _ _ m3 n3
  simp [results, h, ha.slot t0 _ h0, ha.slot t1 _ h1, ha.slot t2 _ h2, ha.slot t3 _ h3, asAddr, k0, k1, k2, k3]
end results
end Go.Px

