/- Part 9 of the texts of this claim, one behind the other. -/
import Derived.Test.YtcfdeohjhhpmcaaDoorB8
import Derived.WalkKit
import Derived.ProofKit
import Derived.OpenShut
import Derived.ShutString
import Derived.ChangeOld
import Derived.Below
import Derived.Lib.ConvBytes
set_option linter.unusedVariables false
set_option linter.unusedSimpArgs false
set_option linter.unusedVariables false
set_option linter.unusedSimpArgs false
namespace Go.Proofs.YtcfdeohjhhpmcaaDoor
open Go.Px
def rtN0 (x : Nat) : Option Nat := if rt1 x * rt1 x % p25 = x then some (rt1 x) else if rt2 x * rt2 x % p25 = x then some (rt2 x) else none
theorem rtN_ex (x : Nat) : ∃ y, y = rtN0 x := ⟨_, rfl⟩
noncomputable def rtN (x : Nat) : Option Nat := Classical.choose (rtN_ex x)
theorem rtN_eq (x : Nat) : rtN x = rtN0 x := Classical.choose_spec (rtN_ex x)
theorem rt_cases {r : Value} {x : Nat} (h : Rt r x) : ∃ u b n, r = .tuple #[u, .bool b] ∧ Fe u n ∧ ((rtN x = some n ∧ b = true) ∨ (rtN x = none ∧ b = false)) := by
  obtain ⟨u, b, rfl, h⟩ := h
  rw [rtN_eq]
  unfold rtN0
  rcases h with ⟨h1, rfl, h2⟩ | ⟨h1, h2, rfl, h3⟩ | ⟨h1, h2, rfl, h3⟩
  · exact ⟨_, _, _, rfl, h2, .inl ⟨by rw [if_pos h1], rfl⟩⟩
  · exact ⟨_, _, _, rfl, h3, .inl ⟨by rw [if_neg h1, if_pos h2], rfl⟩⟩
  · exact ⟨_, _, _, rfl, h3, .inr ⟨by rw [if_neg h1, if_neg h2], rfl⟩⟩
/-- What the square of the x of a y is. -/
noncomputable def xxN (y : Nat) : Nat := fM (fS (fM y y) 1) (fI (fA (fM dN (fM y y)) 1))
def atO (o : Option Nat) (odd : Bool) : Option Nat := match o with
  | none => none
  | some x => if odd && decide (x = 0) then none else some (if !(decide (x % 2 = 1) == odd) then fN x else x)
noncomputable def atN (y : Nat) (odd : Bool) : Option Nat := atO (rtN (xxN y)) odd
theorem at_of {y : Nat} {odd : Bool} {o : Option Nat} (h : rtN (xxN y) = o) : atN y odd = atO o odd := congrArg (fun o => atO o odd) h
theorem at_none {y : Nat} {odd : Bool} (h : rtN (xxN y) = none) : atN y odd = none := at_of h
theorem ao_zero {x : Nat} (hx : x = 0) : atO (some x) true = none := by subst hx; rfl
theorem at_zero {y x : Nat} (h : rtN (xxN y) = some x) (hx : x = 0) : atN y true = none := (at_of h).trans (ao_zero hx)
theorem ao_some {x : Nat} {odd : Bool} (hx : (odd && decide (x = 0)) = false) {b : Bool} (hb : (!(decide (x % 2 = 1) == odd)) = b) : atO (some x) odd = some (if b then fN x else x) := by unfold atO; simp only [hx, hb]; rfl
theorem at_some {y x : Nat} {odd : Bool} (h : rtN (xxN y) = some x) (hx : (odd && decide (x = 0)) = false) {b : Bool} (hb : (!(decide (x % 2 = 1) == odd)) = b) : atN y odd = some (if b then fN x else x) := (at_of h).trans (ao_some hx hb)
def pZ : Pt := ⟨0, 0, 0, 0⟩
def pAt (x y : Nat) : Pt := ⟨x, y, 1, fM x y⟩
def AtR (r : Value) (y : Nat) (odd : Bool) : Prop := ∃ V b, r = .tuple #[V, .bool b] ∧ ((∃ x, atN y odd = some x ∧ b = true ∧ FeP V (pAt x y)) ∨ (atN y odd = none ∧ b = false ∧ FeP V pZ))
def s45 : Nat := 46316835694926478169428394003475163141307993866256225615783033603165251855960
theorem s45_eq : fM 4 (fI 5) = s45 := by
  rw [fI_eq, rtp_pm (by decide)]
  decide +kernel
def bxN : Nat := 15112221349535400772501151409588531511454012693041857206046113283949847762202
def pS : Pt := pAt bxN s45
theorem xx_pm {y : Nat} : xxN y = fM (fS (fM y y) 1) (pm p25 256 (fA (fM dN (fM y y)) 1) (p25 - 2) 1) := by
  unfold xxN
  rw [fI_eq, rtp_pm (by decide)]
theorem rt1_pm {x : Nat} : rt1 x = pm p25 256 x (2 ^ 252 - 2) 1 := by
  unfold rt1
  rw [rtp_pm (by decide)]
theorem i_pm : rtp 2 (2 ^ 253 - 5) = pm p25 256 2 (2 ^ 253 - 5) 1 := rtp_pm (by decide)
theorem rt2_pm {x : Nat} : rt2 x = pm p25 256 x (2 ^ 252 - 2) 1 * pm p25 256 2 (2 ^ 253 - 5) 1 % p25 := by
  unfold rt2
  rw [rt1_pm, i_pm]
def rtK (x : Nat) : Option Nat := if pm p25 256 x (2 ^ 252 - 2) 1 * pm p25 256 x (2 ^ 252 - 2) 1 % p25 = x then some (pm p25 256 x (2 ^ 252 - 2) 1) else if (pm p25 256 x (2 ^ 252 - 2) 1 * pm p25 256 2 (2 ^ 253 - 5) 1 % p25) * (pm p25 256 x (2 ^ 252 - 2) 1 * pm p25 256 2 (2 ^ 253 - 5) 1 % p25) % p25 = x then some (pm p25 256 x (2 ^ 252 - 2) 1 * pm p25 256 2 (2 ^ 253 - 5) 1 % p25) else none
theorem rt_K {x : Nat} : rtN x = rtK x := by
  rw [rtN_eq]
  unfold rtN0 rtK
  rw [rt2_pm, rt1_pm]
theorem xx45 : xxN s45 = 26187595835145689230469591415084376402084551887632582719101735842039498021991 := by
  rw [xx_pm]
  decide +kernel
theorem at45 : atN s45 false = some bxN := by
  refine (at_of ((congrArg rtN xx45).trans (rt_K.trans (Eq.refl (rtK 26187595835145689230469591415084376402084551887632582719101735842039498021991))))).trans ?_
  decide +kernel

set_option maxRecDepth 100000 in
theorem at_f (v : Value) (y : Nat) (odd : Bool) (hv : Fe v y) (A : Mem) : FnX Tryd.prog 52 [v, .bool odd] [] A fun r M J => M = [] ∧ J = [] ∧ AtR r y odd := by
  have hy := hv
  obtain ⟨y0, y1, y2, y3, y4, rfl, -⟩ := hv
  refine FnX.enter (N := 48) Tryd.func52 rfl rfl rfl fun w => ?_
  refine XC.keep (kp 0 rfl (kp 1 rfl kn)) ?_
  refine XC.reg ?_
  refine XL.lo rfl (l_box rfl (by first | exact Cel.cel | rfl) rfl fun b2 => ?_)
  refine XL.lo rfl (l_alloc (cs := [.int .u64 0, .int .u64 0, .int .u64 0, .int .u64 0, .int .u64 0, .int .u64 0, .int .u64 0, .int .u64 0, .int .u64 0, .int .u64 0, .int .u64 0, .int .u64 0, .int .u64 0, .int .u64 0, .int .u64 0, .int .u64 0, .int .u64 0, .int .u64 0, .int .u64 0, .int .u64 0]) (by kernel_rfl) rfl fun b4 => ?_)
  refine XL.q (q_assign rfl) rfl ?_
  refine XL.fin (kp 1 rfl (kp 2 rfl (kp 4 rfl kn))) ?_
  refine XC.reg ?_
  refine XL.q (q_loadW (n := 5) rfl (by kernel_rfl) (by first | exact At.mem | exact mA (by assumption)) (by rfl)) rfl ?_
  refine XL.call (aS rfl a0) (by kernel_rfl) (sq_f hy _) rfl ?_
  rintro r10 M10 J10 ⟨rfl, rfl, k10⟩
  have h10 := k10
  obtain ⟨a10, b10, c10, d10, e10, rfl, -⟩ := k10
  refine XL.lo rfl (l_alloc (cs := [.int .u64 0, .int .u64 0, .int .u64 0, .int .u64 0, .int .u64 0]) (by kernel_rfl) rfl fun b6 => ?_)
  refine XL.lo rfl (l_storeW rfl rfl Cel.cel (by kernel_rfl) (lnS (lnS (lnS (lnS (lnS (ln0)))))) (allS rfl (allS rfl (allS rfl (allS rfl (allS rfl (all0)))))) UpC.upd ?_)
  refine XL.fin (kp 1 rfl (kp 2 rfl (kp 4 rfl (kp 6 rfl kn)))) ?_
  refine XC.drawF [0, 1, 2, 3, 4, 5, 6, 7, 8, 9, 10, 11, 12, 13, 14, 16] [(0, 1), (4, 1), (1, 6), (2, 6), (3, 6), (5, 6), (6, 6), (7, 6), (8, 6), (9, 6), (10, 6), (11, 6), (12, 6), (14, 6), (13, 7), (15, 2), (16, 0)] (by kernel_rfl) (by kernel_rfl) fun hs => ?_
  refine XF.r hs rfl (q_loadW (n := 5) rfl (by kernel_rfl) (by first | exact At.mem | exact mA (by assumption)) (by rfl)) rfl ?_
  refine XF.r hs rfl (q_loadW (n := 5) rfl (by kernel_rfl) (by first | exact At.mem | exact mA (by assumption)) (by rfl)) rfl ?_
  refine XF.groupQ [⟨1, 13, fun v B _ => B = [] ∧ Fe v (1)⟩, ⟨2, 14, fun v B _ => B = [] ∧ Fe v (fS (fM y y) 1)⟩, ⟨3, 15, fun v B _ => B = [] ∧ Fe v (dN)⟩, ⟨5, 17, fun v B _ => B = [] ∧ Fe v (fM dN (fM y y))⟩, ⟨6, 18, fun v B _ => B = [] ∧ Fe v (1)⟩, ⟨7, 19, fun v B _ => B = [] ∧ Fe v (fA (fM dN (fM y y)) 1)⟩, ⟨8, 20, fun v B _ => B = [] ∧ Fe v (fI (fA (fM dN (fM y y)) 1))⟩, ⟨9, 21, fun v B _ => B = [] ∧ Fe v (xxN y)⟩, ⟨10, 22, fun v B _ => B = [] ∧ Rt v (xxN y)⟩, ⟨11, 11, fun v B _ => B = [] ∧ Rt v (xxN y)⟩, ⟨12, 23, fun v B _ => B = [] ∧ ∃ n, Fe v n ∧ ∀ m, rtN (xxN y) = some m → n = m⟩, ⟨14, 7, fun v B _ => ∃ b, v = .pointer (some ⟨b, 0, none⟩) ∧ B = [(b, blk [.int .u64 0, .int .u64 0, .int .u64 0, .int .u64 0, .int .u64 0] 42)]⟩] ⟨13, 24, fun v B _ => B = [] ∧ v = .bool (rtN (xxN y)).isSome⟩ hs
    (allS (fun _ _ _ _ _ h => h) (allS (fun _ _ _ _ _ h => h) (allS (fun _ _ _ _ _ h => h) (allS (fun _ _ _ _ _ h => h) (allS (fun _ _ _ _ _ h => h) (allS (fun _ _ _ _ _ h => h) (allS (fun _ _ _ _ _ h => h) (allS (fun _ _ _ _ _ h => h) (allS (fun _ _ _ _ _ h => h) (allS (fun _ _ _ _ _ h => h) (allS (fun _ _ _ _ _ h => h) (allS (fun _ _ _ _ _ h => h) (allS (fun _ _ _ _ _ h => h) (all0)))))))))))))) (show List.Nodup [13, 14, 15, 17, 18, 19, 20, 21, 22, 11, 23, 7, 24] by decide) (show List.Nodup [1, 2, 3, 5, 6, 7, 8, 9, 10, 11, 12, 14, 13] by decide) (allS (blt_lt rfl) (allS (blt_lt rfl) (allS (blt_lt rfl) (allS (blt_lt rfl) (allS (blt_lt rfl) (allS (blt_lt rfl) (allS (blt_lt rfl) (allS (blt_lt rfl) (allS (blt_lt rfl) (allS (blt_lt rfl) (allS (blt_lt rfl) (allS (blt_lt rfl) (allS (blt_lt rfl) (all0))))))))))))))
    (allS ⟨_, rfl, fun vs bs R w hb ha => ⟨.inl rfl, ?_⟩⟩ (allS ⟨_, rfl, fun vs bs R w hb ha => ⟨.inl rfl, ?_⟩⟩ (allS ⟨_, rfl, fun vs bs R w hb ha => ⟨.inl rfl, ?_⟩⟩ (allS ⟨_, rfl, fun vs bs R w hb ha => ⟨.inl rfl, ?_⟩⟩ (allS ⟨_, rfl, fun vs bs R w hb ha => ⟨.inl rfl, ?_⟩⟩ (allS ⟨_, rfl, fun vs bs R w hb ha => ⟨.inl rfl, ?_⟩⟩ (allS ⟨_, rfl, fun vs bs R w hb ha => ⟨.inl rfl, ?_⟩⟩ (allS ⟨_, rfl, fun vs bs R w hb ha => ⟨.inl rfl, ?_⟩⟩ (allS ⟨_, rfl, fun vs bs R w hb ha => ⟨.inl rfl, ?_⟩⟩ (allS ⟨_, rfl, fun vs bs R w hb ha => ⟨.inl rfl, ?_⟩⟩ (allS ⟨_, rfl, fun vs bs R w hb ha => ⟨.inl rfl, ?_⟩⟩ (allS ⟨_, rfl, fun vs bs R w hb ha => ⟨.inl rfl, ?_⟩⟩ (all0))))))))))))) ⟨_, _, _, _, rfl, fun vs bs R hb ha => ?_⟩ ?_
  ·
    refine l_call0 (aS rfl (a0)) (by kernel_rfl) (num_f 1 (by decide) _) rfl ?_
    rintro r M1 J1 ⟨rfl, rfl, hh⟩
    exact ⟨_, rfl, rfl, hh⟩
  ·
    have g1 := ha _ (List.mem_of_getElem? (i := 0) rfl) (by kernel_rfl)
    replace g1 : (fun v B _ => B = [] ∧ Fe v (1)) (vs 1) (bs 1) R := g1
    dsimp only at g1
    obtain ⟨-, k1⟩ := g1
    refine l_call0 (aS rfl (aS rfl (a0))) (by kernel_rfl) (sub_f h10 k1 _) rfl ?_
    rintro r M1 J1 ⟨rfl, rfl, hh⟩
    exact ⟨_, rfl, rfl, hh⟩
  ·
    have g1 := ha _ (List.mem_of_getElem? (i := 0) rfl) (by kernel_rfl)
    replace g1 : (fun v B _ => B = [] ∧ Fe v (1)) (vs 1) (bs 1) R := g1
    dsimp only at g1
    have g2 := ha _ (List.mem_of_getElem? (i := 1) rfl) (by kernel_rfl)
    replace g2 : (fun v B _ => B = [] ∧ Fe v (fS (fM y y) 1)) (vs 2) (bs 2) R := g2
    dsimp only at g2
    refine l_call0 (a0) (by kernel_rfl) (curve_f _) rfl ?_
    rintro r M1 J1 ⟨rfl, rfl, hh⟩
    exact ⟨_, rfl, rfl, hh⟩
  ·
    have g1 := ha _ (List.mem_of_getElem? (i := 0) rfl) (by kernel_rfl)
    replace g1 : (fun v B _ => B = [] ∧ Fe v (1)) (vs 1) (bs 1) R := g1
    dsimp only at g1
    have g2 := ha _ (List.mem_of_getElem? (i := 1) rfl) (by kernel_rfl)
    replace g2 : (fun v B _ => B = [] ∧ Fe v (fS (fM y y) 1)) (vs 2) (bs 2) R := g2
    dsimp only at g2
    have g3 := ha _ (List.mem_of_getElem? (i := 2) rfl) (by kernel_rfl)
    replace g3 : (fun v B _ => B = [] ∧ Fe v (dN)) (vs 3) (bs 3) R := g3
    dsimp only at g3
    obtain ⟨-, k3⟩ := g3
    refine l_call0 (aS rfl (aS rfl (a0))) (by kernel_rfl) (mul_f k3 h10 _) rfl ?_
    rintro r M1 J1 ⟨rfl, rfl, hh⟩
    exact ⟨_, rfl, rfl, hh⟩
  ·
    have g1 := ha _ (List.mem_of_getElem? (i := 0) rfl) (by kernel_rfl)
    replace g1 : (fun v B _ => B = [] ∧ Fe v (1)) (vs 1) (bs 1) R := g1
    dsimp only at g1
    have g2 := ha _ (List.mem_of_getElem? (i := 1) rfl) (by kernel_rfl)
    replace g2 : (fun v B _ => B = [] ∧ Fe v (fS (fM y y) 1)) (vs 2) (bs 2) R := g2
    dsimp only at g2
    have g3 := ha _ (List.mem_of_getElem? (i := 2) rfl) (by kernel_rfl)
    replace g3 : (fun v B _ => B = [] ∧ Fe v (dN)) (vs 3) (bs 3) R := g3
    dsimp only at g3
    have g5 := ha _ (List.mem_of_getElem? (i := 3) rfl) (by kernel_rfl)
    replace g5 : (fun v B _ => B = [] ∧ Fe v (fM dN (fM y y))) (vs 5) (bs 5) R := g5
    dsimp only at g5
    refine l_call0 (aS rfl (a0)) (by kernel_rfl) (num_f 1 (by decide) _) rfl ?_
    rintro r M1 J1 ⟨rfl, rfl, hh⟩
    exact ⟨_, rfl, rfl, hh⟩
  ·
    have g1 := ha _ (List.mem_of_getElem? (i := 0) rfl) (by kernel_rfl)
    replace g1 : (fun v B _ => B = [] ∧ Fe v (1)) (vs 1) (bs 1) R := g1
    dsimp only at g1
    have g2 := ha _ (List.mem_of_getElem? (i := 1) rfl) (by kernel_rfl)
    replace g2 : (fun v B _ => B = [] ∧ Fe v (fS (fM y y) 1)) (vs 2) (bs 2) R := g2
    dsimp only at g2
    have g3 := ha _ (List.mem_of_getElem? (i := 2) rfl) (by kernel_rfl)
    replace g3 : (fun v B _ => B = [] ∧ Fe v (dN)) (vs 3) (bs 3) R := g3
    dsimp only at g3
    have g5 := ha _ (List.mem_of_getElem? (i := 3) rfl) (by kernel_rfl)
    replace g5 : (fun v B _ => B = [] ∧ Fe v (fM dN (fM y y))) (vs 5) (bs 5) R := g5
    dsimp only at g5
    have g6 := ha _ (List.mem_of_getElem? (i := 4) rfl) (by kernel_rfl)
    replace g6 : (fun v B _ => B = [] ∧ Fe v (1)) (vs 6) (bs 6) R := g6
    dsimp only at g6
    obtain ⟨-, k5⟩ := g5
    obtain ⟨-, k6⟩ := g6
    refine l_call0 (aS rfl (aS rfl (a0))) (by kernel_rfl) (add_f k5 k6 _) rfl ?_
    rintro r M1 J1 ⟨rfl, rfl, hh⟩
    exact ⟨_, rfl, rfl, hh⟩
  ·
    have g1 := ha _ (List.mem_of_getElem? (i := 0) rfl) (by kernel_rfl)
    replace g1 : (fun v B _ => B = [] ∧ Fe v (1)) (vs 1) (bs 1) R := g1
    dsimp only at g1
    have g2 := ha _ (List.mem_of_getElem? (i := 1) rfl) (by kernel_rfl)
    replace g2 : (fun v B _ => B = [] ∧ Fe v (fS (fM y y) 1)) (vs 2) (bs 2) R := g2
    dsimp only at g2
    have g3 := ha _ (List.mem_of_getElem? (i := 2) rfl) (by kernel_rfl)
    replace g3 : (fun v B _ => B = [] ∧ Fe v (dN)) (vs 3) (bs 3) R := g3
    dsimp only at g3
    have g5 := ha _ (List.mem_of_getElem? (i := 3) rfl) (by kernel_rfl)
    replace g5 : (fun v B _ => B = [] ∧ Fe v (fM dN (fM y y))) (vs 5) (bs 5) R := g5
    dsimp only at g5
    have g6 := ha _ (List.mem_of_getElem? (i := 4) rfl) (by kernel_rfl)
    replace g6 : (fun v B _ => B = [] ∧ Fe v (1)) (vs 6) (bs 6) R := g6
    dsimp only at g6
    have g7 := ha _ (List.mem_of_getElem? (i := 5) rfl) (by kernel_rfl)
    replace g7 : (fun v B _ => B = [] ∧ Fe v (fA (fM dN (fM y y)) 1)) (vs 7) (bs 7) R := g7
    dsimp only at g7
    obtain ⟨-, k7⟩ := g7
    refine l_call0 (aS rfl (a0)) (by kernel_rfl) (inv_f k7 _) rfl ?_
    rintro r M1 J1 ⟨rfl, rfl, hh⟩
    exact ⟨_, rfl, rfl, hh⟩
  ·
    have g1 := ha _ (List.mem_of_getElem? (i := 0) rfl) (by kernel_rfl)
    replace g1 : (fun v B _ => B = [] ∧ Fe v (1)) (vs 1) (bs 1) R := g1
    dsimp only at g1
    have g2 := ha _ (List.mem_of_getElem? (i := 1) rfl) (by kernel_rfl)
    replace g2 : (fun v B _ => B = [] ∧ Fe v (fS (fM y y) 1)) (vs 2) (bs 2) R := g2
    dsimp only at g2
    have g3 := ha _ (List.mem_of_getElem? (i := 2) rfl) (by kernel_rfl)
    replace g3 : (fun v B _ => B = [] ∧ Fe v (dN)) (vs 3) (bs 3) R := g3
    dsimp only at g3
    have g5 := ha _ (List.mem_of_getElem? (i := 3) rfl) (by kernel_rfl)
    replace g5 : (fun v B _ => B = [] ∧ Fe v (fM dN (fM y y))) (vs 5) (bs 5) R := g5
    dsimp only at g5
    have g6 := ha _ (List.mem_of_getElem? (i := 4) rfl) (by kernel_rfl)
    replace g6 : (fun v B _ => B = [] ∧ Fe v (1)) (vs 6) (bs 6) R := g6
    dsimp only at g6
    have g7 := ha _ (List.mem_of_getElem? (i := 5) rfl) (by kernel_rfl)
    replace g7 : (fun v B _ => B = [] ∧ Fe v (fA (fM dN (fM y y)) 1)) (vs 7) (bs 7) R := g7
    dsimp only at g7
    have g8 := ha _ (List.mem_of_getElem? (i := 6) rfl) (by kernel_rfl)
    replace g8 : (fun v B _ => B = [] ∧ Fe v (fI (fA (fM dN (fM y y)) 1))) (vs 8) (bs 8) R := g8
    dsimp only at g8
    obtain ⟨-, k2⟩ := g2
    obtain ⟨-, k8⟩ := g8
    refine l_call0 (aS rfl (aS rfl (a0))) (by kernel_rfl) (mul_f k2 k8 _) rfl ?_
    rintro r M1 J1 ⟨rfl, rfl, hh⟩
    exact ⟨_, rfl, rfl, hh⟩
  ·
    have g1 := ha _ (List.mem_of_getElem? (i := 0) rfl) (by kernel_rfl)
    replace g1 : (fun v B _ => B = [] ∧ Fe v (1)) (vs 1) (bs 1) R := g1
    dsimp only at g1
    have g2 := ha _ (List.mem_of_getElem? (i := 1) rfl) (by kernel_rfl)
    replace g2 : (fun v B _ => B = [] ∧ Fe v (fS (fM y y) 1)) (vs 2) (bs 2) R := g2
    dsimp only at g2
    have g3 := ha _ (List.mem_of_getElem? (i := 2) rfl) (by kernel_rfl)
    replace g3 : (fun v B _ => B = [] ∧ Fe v (dN)) (vs 3) (bs 3) R := g3
    dsimp only at g3
    have g5 := ha _ (List.mem_of_getElem? (i := 3) rfl) (by kernel_rfl)
    replace g5 : (fun v B _ => B = [] ∧ Fe v (fM dN (fM y y))) (vs 5) (bs 5) R := g5
    dsimp only at g5
    have g6 := ha _ (List.mem_of_getElem? (i := 4) rfl) (by kernel_rfl)
    replace g6 : (fun v B _ => B = [] ∧ Fe v (1)) (vs 6) (bs 6) R := g6
    dsimp only at g6
    have g7 := ha _ (List.mem_of_getElem? (i := 5) rfl) (by kernel_rfl)
    replace g7 : (fun v B _ => B = [] ∧ Fe v (fA (fM dN (fM y y)) 1)) (vs 7) (bs 7) R := g7
    dsimp only at g7
    have g8 := ha _ (List.mem_of_getElem? (i := 6) rfl) (by kernel_rfl)
    replace g8 : (fun v B _ => B = [] ∧ Fe v (fI (fA (fM dN (fM y y)) 1))) (vs 8) (bs 8) R := g8
    dsimp only at g8
    have g9 := ha _ (List.mem_of_getElem? (i := 7) rfl) (by kernel_rfl)
    replace g9 : (fun v B _ => B = [] ∧ Fe v (xxN y)) (vs 9) (bs 9) R := g9
    dsimp only at g9
    obtain ⟨-, k9⟩ := g9
    refine l_call0 (aS rfl a0) (by kernel_rfl) (froot_spec _ _ k9 _) rfl ?_
    rintro r M1 J1 ⟨rfl, rfl, hh⟩
    exact ⟨_, rfl, rfl, hh⟩
  ·
    have g1 := ha _ (List.mem_of_getElem? (i := 0) rfl) (by kernel_rfl)
    replace g1 : (fun v B _ => B = [] ∧ Fe v (1)) (vs 1) (bs 1) R := g1
    dsimp only at g1
    have g2 := ha _ (List.mem_of_getElem? (i := 1) rfl) (by kernel_rfl)
    replace g2 : (fun v B _ => B = [] ∧ Fe v (fS (fM y y) 1)) (vs 2) (bs 2) R := g2
    dsimp only at g2
    have g3 := ha _ (List.mem_of_getElem? (i := 2) rfl) (by kernel_rfl)
    replace g3 : (fun v B _ => B = [] ∧ Fe v (dN)) (vs 3) (bs 3) R := g3
    dsimp only at g3
    have g5 := ha _ (List.mem_of_getElem? (i := 3) rfl) (by kernel_rfl)
    replace g5 : (fun v B _ => B = [] ∧ Fe v (fM dN (fM y y))) (vs 5) (bs 5) R := g5
    dsimp only at g5
    have g6 := ha _ (List.mem_of_getElem? (i := 4) rfl) (by kernel_rfl)
    replace g6 : (fun v B _ => B = [] ∧ Fe v (1)) (vs 6) (bs 6) R := g6
    dsimp only at g6
    have g7 := ha _ (List.mem_of_getElem? (i := 5) rfl) (by kernel_rfl)
    replace g7 : (fun v B _ => B = [] ∧ Fe v (fA (fM dN (fM y y)) 1)) (vs 7) (bs 7) R := g7
    dsimp only at g7
    have g8 := ha _ (List.mem_of_getElem? (i := 6) rfl) (by kernel_rfl)
    replace g8 : (fun v B _ => B = [] ∧ Fe v (fI (fA (fM dN (fM y y)) 1))) (vs 8) (bs 8) R := g8
    dsimp only at g8
    have g9 := ha _ (List.mem_of_getElem? (i := 7) rfl) (by kernel_rfl)
    replace g9 : (fun v B _ => B = [] ∧ Fe v (xxN y)) (vs 9) (bs 9) R := g9
    dsimp only at g9
    have g10 := ha _ (List.mem_of_getElem? (i := 8) rfl) (by kernel_rfl)
    replace g10 : (fun v B _ => B = [] ∧ Rt v (xxN y)) (vs 10) (bs 10) R := g10
    dsimp only at g10
    obtain ⟨-, k10⟩ := g10
    exact OpQ.opL (q_move rfl) rfl ⟨_, rfl, rfl, k10⟩
  ·
    have g1 := ha _ (List.mem_of_getElem? (i := 0) rfl) (by kernel_rfl)
    replace g1 : (fun v B _ => B = [] ∧ Fe v (1)) (vs 1) (bs 1) R := g1
    dsimp only at g1
    have g2 := ha _ (List.mem_of_getElem? (i := 1) rfl) (by kernel_rfl)
    replace g2 : (fun v B _ => B = [] ∧ Fe v (fS (fM y y) 1)) (vs 2) (bs 2) R := g2
    dsimp only at g2
    have g3 := ha _ (List.mem_of_getElem? (i := 2) rfl) (by kernel_rfl)
    replace g3 : (fun v B _ => B = [] ∧ Fe v (dN)) (vs 3) (bs 3) R := g3
    dsimp only at g3
    have g5 := ha _ (List.mem_of_getElem? (i := 3) rfl) (by kernel_rfl)
    replace g5 : (fun v B _ => B = [] ∧ Fe v (fM dN (fM y y))) (vs 5) (bs 5) R := g5
    dsimp only at g5
    have g6 := ha _ (List.mem_of_getElem? (i := 4) rfl) (by kernel_rfl)
    replace g6 : (fun v B _ => B = [] ∧ Fe v (1)) (vs 6) (bs 6) R := g6
    dsimp only at g6
    have g7 := ha _ (List.mem_of_getElem? (i := 5) rfl) (by kernel_rfl)
    replace g7 : (fun v B _ => B = [] ∧ Fe v (fA (fM dN (fM y y)) 1)) (vs 7) (bs 7) R := g7
    dsimp only at g7
    have g8 := ha _ (List.mem_of_getElem? (i := 6) rfl) (by kernel_rfl)
    replace g8 : (fun v B _ => B = [] ∧ Fe v (fI (fA (fM dN (fM y y)) 1))) (vs 8) (bs 8) R := g8
    dsimp only at g8
    have g9 := ha _ (List.mem_of_getElem? (i := 7) rfl) (by kernel_rfl)
    replace g9 : (fun v B _ => B = [] ∧ Fe v (xxN y)) (vs 9) (bs 9) R := g9
    dsimp only at g9
    have g10 := ha _ (List.mem_of_getElem? (i := 8) rfl) (by kernel_rfl)
    replace g10 : (fun v B _ => B = [] ∧ Rt v (xxN y)) (vs 10) (bs 10) R := g10
    dsimp only at g10
    have g11 := ha _ (List.mem_of_getElem? (i := 9) rfl) (by kernel_rfl)
    replace g11 : (fun v B _ => B = [] ∧ Rt v (xxN y)) (vs 11) (bs 11) R := g11
    dsimp only at g11
    obtain ⟨-, k11⟩ := g11
    obtain ⟨w, ok, n, hw, hn, hrt⟩ := rt_cases k11
    exact OpQ.opL (q_extract (vs := #[w, .bool ok]) (by rw [← hw]; rfl) rfl) rfl ⟨_, rfl, rfl, n, hn, fun m hm => by rcases hrt with ⟨h1, -⟩ | ⟨h1, -⟩ <;> rw [hm] at h1 <;> cases h1; rfl⟩
  ·
    exact l_alloc (cs := [.int .u64 0, .int .u64 0, .int .u64 0, .int .u64 0, .int .u64 0]) (by kernel_rfl) rfl fun b => ⟨_, rfl, b, rfl, rfl⟩
  ·
    have g1 := ha _ (List.mem_of_getElem? (i := 0) rfl) (by kernel_rfl)
    replace g1 : (fun v B _ => B = [] ∧ Fe v (1)) (vs 1) (bs 1) R := g1
    dsimp only at g1
    have g2 := ha _ (List.mem_of_getElem? (i := 1) rfl) (by kernel_rfl)
    replace g2 : (fun v B _ => B = [] ∧ Fe v (fS (fM y y) 1)) (vs 2) (bs 2) R := g2
    dsimp only at g2
    have g3 := ha _ (List.mem_of_getElem? (i := 2) rfl) (by kernel_rfl)
    replace g3 : (fun v B _ => B = [] ∧ Fe v (dN)) (vs 3) (bs 3) R := g3
    dsimp only at g3
    have g5 := ha _ (List.mem_of_getElem? (i := 3) rfl) (by kernel_rfl)
    replace g5 : (fun v B _ => B = [] ∧ Fe v (fM dN (fM y y))) (vs 5) (bs 5) R := g5
    dsimp only at g5
    have g6 := ha _ (List.mem_of_getElem? (i := 4) rfl) (by kernel_rfl)
    replace g6 : (fun v B _ => B = [] ∧ Fe v (1)) (vs 6) (bs 6) R := g6
    dsimp only at g6
    have g7 := ha _ (List.mem_of_getElem? (i := 5) rfl) (by kernel_rfl)
    replace g7 : (fun v B _ => B = [] ∧ Fe v (fA (fM dN (fM y y)) 1)) (vs 7) (bs 7) R := g7
    dsimp only at g7
    have g8 := ha _ (List.mem_of_getElem? (i := 6) rfl) (by kernel_rfl)
    replace g8 : (fun v B _ => B = [] ∧ Fe v (fI (fA (fM dN (fM y y)) 1))) (vs 8) (bs 8) R := g8
    dsimp only at g8
    have g9 := ha _ (List.mem_of_getElem? (i := 7) rfl) (by kernel_rfl)
    replace g9 : (fun v B _ => B = [] ∧ Fe v (xxN y)) (vs 9) (bs 9) R := g9
    dsimp only at g9
    have g10 := ha _ (List.mem_of_getElem? (i := 8) rfl) (by kernel_rfl)
    replace g10 : (fun v B _ => B = [] ∧ Rt v (xxN y)) (vs 10) (bs 10) R := g10
    dsimp only at g10
    have g11 := ha _ (List.mem_of_getElem? (i := 9) rfl) (by kernel_rfl)
    replace g11 : (fun v B _ => B = [] ∧ Rt v (xxN y)) (vs 11) (bs 11) R := g11
    dsimp only at g11
    obtain ⟨-, k11⟩ := g11
    obtain ⟨w, ok, n, hw, hn, hrt⟩ := rt_cases k11
    exact ⟨.bool ok, q_extract (vs := #[w, .bool ok]) (by rw [← hw]; rfl) rfl, rfl, by rcases hrt with ⟨h1, rfl⟩ | ⟨h1, rfl⟩ <;> rw [h1] <;> rfl⟩
  intro vs bs Jn0 hφ
  have g1 := ofH hφ
  dsimp only at g1
  replace hφ := ofT hφ
  have g2 := ofH hφ
  dsimp only at g2
  replace hφ := ofT hφ
  have g3 := ofH hφ
  dsimp only at g3
  replace hφ := ofT hφ
  have g5 := ofH hφ
  dsimp only at g5
  replace hφ := ofT hφ
  have g6 := ofH hφ
  dsimp only at g6
  replace hφ := ofT hφ
  have g7 := ofH hφ
  dsimp only at g7
  replace hφ := ofT hφ
  have g8 := ofH hφ
  dsimp only at g8
  replace hφ := ofT hφ
  have g9 := ofH hφ
  dsimp only at g9
  replace hφ := ofT hφ
  have g10 := ofH hφ
  dsimp only at g10
  replace hφ := ofT hφ
  have g11 := ofH hφ
  dsimp only at g11
  replace hφ := ofT hφ
  have g12 := ofH hφ
  dsimp only at g12
  replace hφ := ofT hφ
  have g14 := ofH hφ
  dsimp only at g14
  replace hφ := ofT hφ
  have g13 := ofH hφ
  dsimp only at g13
  clear hφ
  dsimp only [gEnvO, ownOf, List.map, List.flatten, List.cons_append, List.nil_append]
  generalize bs 1 = B13 at *
  generalize bs 2 = B14 at *
  generalize bs 3 = B15 at *
  generalize bs 5 = B17 at *
  generalize bs 6 = B18 at *
  generalize bs 7 = B19 at *
  generalize bs 8 = B20 at *
  generalize bs 9 = B21 at *
  generalize bs 10 = B22 at *
  generalize bs 11 = B11 at *
  generalize bs 12 = B23 at *
  generalize bs 14 = B7 at *
  generalize bs 13 = B24 at *
  generalize vs 1 = u13 at *
  generalize vs 2 = u14 at *
  generalize vs 3 = u15 at *
  generalize vs 5 = u17 at *
  generalize vs 6 = u18 at *
  generalize vs 7 = u19 at *
  generalize vs 8 = u20 at *
  generalize vs 9 = u21 at *
  generalize vs 10 = u22 at *
  generalize vs 11 = u11 at *
  generalize vs 12 = u23 at *
  generalize vs 14 = u7 at *
  generalize vs 13 = u24 at *
  obtain ⟨rfl, -⟩ := g10
  obtain ⟨rfl, -⟩ := g11
  obtain ⟨rfl, n, hn, hnm⟩ := g12
  have hn0 := hn
  obtain ⟨n0, n1, n2, n3, n4, rfl, -⟩ := hn
  obtain ⟨ok, hrt, hok⟩ : ∃ ok, ((rtN (xxN y) = some n ∧ ok = true) ∨ (rtN (xxN y) = none ∧ ok = false)) ∧ (rtN (xxN y)).isSome = ok := by
    cases hq : rtN (xxN y) with
    | none => exact ⟨false, .inr ⟨rfl, rfl⟩, rfl⟩
    | some m => exact ⟨true, .inl ⟨by rw [hnm m hq], rfl⟩, rfl⟩
  obtain ⟨rfl, h13⟩ := g13
  rw [hok] at h13
  subst h13
  obtain ⟨b14, rfl, rfl⟩ := g14
  obtain ⟨rfl, -⟩ := g1
  obtain ⟨rfl, -⟩ := g2
  obtain ⟨rfl, -⟩ := g3
  obtain ⟨rfl, -⟩ := g5
  obtain ⟨rfl, -⟩ := g6
  obtain ⟨rfl, -⟩ := g7
  obtain ⟨rfl, -⟩ := g8
  obtain ⟨rfl, -⟩ := g9
  dsimp only [List.append_eq, List.nil_append, List.cons_append]
  refine XF.tl rfl rfl rfl (l_storeW rfl rfl Cel.cel (by kernel_rfl) (lnS (lnS (lnS (lnS (lnS (ln0)))))) (allS rfl (allS rfl (allS rfl (allS rfl (allS rfl (all0)))))) UpC.upd ?_)
  refine XF.q hs rfl (q_assign rfl) rfl ?_
  refine XF.fin (kp 1 rfl (kp 2 rfl (kp 4 rfl (kp 7 rfl (kp 8 rfl kn))))) ?_
  refine XC.seq ?_
  rcases hrt with ⟨hrt, rfl⟩ | ⟨hrt, rfl⟩
  ·
    refine XC.reg ?_
    refine XL.q (q_move rfl) rfl ?_
    refine XL.q (q_not rfl) rfl ?_
    refine XL.q (q_move rfl) rfl ?_
    refine XL.gy rfl rfl (OpQ.opL (q_move rfl) rfl ?_)
    refine XL.gy rfl rfl (OpQ.opL (q_move rfl) rfl ?_)
    refine XL.split (t := 29) rfl (fun hb => ?_) (fun hb => ?_)
    ·
      have ho : odd = true := hb
      refine XL.gy rfl rfl (OpQ.opL (q_loadW (n := 5) rfl (by kernel_rfl) (by first | exact At.mem | exact mA (by assumption)) (by rfl)) rfl ?_)
      refine XL.callVg rfl rfl (aS rfl a0) (by kernel_rfl) (fzero_spec _ n hn0 _) rfl ?_
      refine XL.gy rfl rfl (OpQ.opL (q_pickT rfl rfl) rfl ?_)
      refine XL.q (q_pickF rfl rfl) rfl ?_
      refine XL.fin (kp 1 rfl (kp 2 rfl (kp 4 rfl (kp 7 rfl (kp 33 rfl kn))))) ?_
      refine XC.cond rfl (fun hc => ?_) (fun hc => ?_)
      ·
        have hz : n = 0 := by simpa using hc
        refine XC.reg ?_
        refine XL.q (q_build (place := fun x => #[(0, 5), (5, 5), (10, 5), (15, 5)][x]?) (z := [.int .u64 0, .int .u64 0, .int .u64 0, .int .u64 0, .int .u64 0, .int .u64 0, .int .u64 0, .int .u64 0, .int .u64 0, .int .u64 0, .int .u64 0, .int .u64 0, .int .u64 0, .int .u64 0, .int .u64 0, .int .u64 0, .int .u64 0, .int .u64 0, .int .u64 0, .int .u64 0]) (fun _ => by kernel_rfl) e0 bd0) rfl ?_
        refine XL.lo rfl (l_storeW rfl rfl Cel.cel (by kernel_rfl) (lnS (lnS (lnS (lnS (lnS (lnS (lnS (lnS (lnS (lnS (lnS (lnS (lnS (lnS (lnS (lnS (lnS (lnS (lnS (lnS (ln0))))))))))))))))))))) (allS rfl (allS rfl (allS rfl (allS rfl (allS rfl (allS rfl (allS rfl (allS rfl (allS rfl (allS rfl (allS rfl (allS rfl (allS rfl (allS rfl (allS rfl (allS rfl (allS rfl (allS rfl (allS rfl (allS rfl (all0))))))))))))))))))))) UpC.upd ?_)
        refine XL.q (q_assign rfl) rfl ?_
        refine XL.fin (kp 4 rfl (kp 5 rfl kn)) ?_
        refine XC.ret ?_
        refine tr ?_
        refine ⟨_, [], [], resC1 rfl rfl rfl (by kernel_rfl) At.mem (by rfl), List.nil_sublist _, by simp, rfl, rfl, _, _, rfl, .inr ⟨?_, rfl, ⟨_, rfl, _, _, _, _, _, _, _, _, _, _, _, _, _, _, _, _, _, _, _, _, rfl, fe_zero, fe_zero, fe_zero, fe_zero⟩⟩⟩
        rw [ho]; exact at_zero hrt hz
      ·
        have hz : ¬ n = 0 := by simpa using hc
        refine XC.skip ?_
        refine nx (kp 1 rfl (kp 2 rfl (kp 4 rfl (kp 7 rfl kn)))) ?_
        refine XC.seq ?_
        refine XC.reg ?_
        refine XL.q (q_loadW (n := 5) rfl (by kernel_rfl) (by first | exact At.mem | exact mA (by assumption)) (by rfl)) rfl ?_
        refine XL.callV (aS rfl a0) (by kernel_rfl) (fodd_spec _ n hn0 _) rfl ?_
        refine XL.q (q_move rfl) rfl ?_
        refine XL.q (q_boolNe rfl rfl (by kernel_rfl)) rfl ?_
        refine XL.fin (kp 2 rfl (kp 4 rfl (kp 7 rfl (kp 38 rfl kn)))) ?_
        refine XC.cond rfl (fun hc => ?_) (fun hc => ?_)
        ·
          have hodd := hc
          refine XC.reg1 ?_
          refine XL.q (q_loadW (n := 5) rfl (by kernel_rfl) (by first | exact At.mem | exact mA (by assumption)) (by rfl)) rfl ?_
          refine XL.call (aS rfl a0) (by kernel_rfl) (neg_f hn0 _) rfl ?_
          rintro r40 M40 J40 ⟨rfl, rfl, k40⟩
          have h40 := k40
          obtain ⟨a40, b40, c40, d40, e40, rfl, -⟩ := k40
          refine XL.lo rfl (l_storeW rfl rfl Cel.cel (by kernel_rfl) (lnS (lnS (lnS (lnS (lnS (ln0)))))) (allS rfl (allS rfl (allS rfl (allS rfl (allS rfl (all0)))))) UpC.upd ?_)
          refine XL.fin (kp 2 rfl (kp 4 rfl (kp 7 rfl kn))) ?_
          refine XC.drawF [0, 1, 2, 3, 4, 5, 6, 8] [(0, 1), (1, 1), (3, 1), (4, 1), (2, 2), (5, 2), (6, 0), (7, 2), (8, 0)] (by kernel_rfl) (by kernel_rfl) fun hs => ?_
          refine XF.r hs rfl (q_loadW (n := 5) rfl (by kernel_rfl) (by first | exact At.mem | exact mA (by assumption)) (by rfl)) rfl ?_
          refine XF.r hs rfl (q_loadW (n := 5) rfl (by kernel_rfl) (by first | exact At.mem | exact mA (by assumption)) (by rfl)) rfl ?_
          refine XF.r hs rfl (q_loadW (n := 5) rfl (by kernel_rfl) (by first | exact At.mem | exact mA (by assumption)) (by rfl)) rfl ?_
          refine XF.r hs rfl (q_loadW (n := 5) rfl (by kernel_rfl) (by first | exact At.mem | exact mA (by assumption)) (by rfl)) rfl ?_
          refine XF.call rfl (aS rfl a0) (by kernel_rfl) (num_f 1 (by decide) _) rfl ?_
          rintro r43 M43 J43 ⟨rfl, rfl, k43⟩
          have h43 := k43
          obtain ⟨a43, b43, c43, d43, e43, rfl, -⟩ := k43
          refine XF.call rfl (aS rfl (aS rfl a0)) (by kernel_rfl) (mul_f h40 hy _) rfl ?_
          rintro r46 M46 J46 ⟨rfl, rfl, k46⟩
          have h46 := k46
          obtain ⟨a46, b46, c46, d46, e46, rfl, -⟩ := k46
          refine XF.q hs rfl (q_build (place := fun x => #[(0, 5), (5, 5), (10, 5), (15, 5)][x]?) (z := [.int .u64 0, .int .u64 0, .int .u64 0, .int .u64 0, .int .u64 0, .int .u64 0, .int .u64 0, .int .u64 0, .int .u64 0, .int .u64 0, .int .u64 0, .int .u64 0, .int .u64 0, .int .u64 0, .int .u64 0, .int .u64 0, .int .u64 0, .int .u64 0, .int .u64 0, .int .u64 0]) (fun _ => by kernel_rfl) (eS rfl (eS rfl (eS rfl (eS rfl e0)))) (bdS 0 5 rfl (by rfl) (bdS 5 5 rfl (by rfl) (bdS 10 5 rfl (by rfl) (bdS 15 5 rfl (by rfl) bd0))))) rfl ?_
          refine XF.tl rfl rfl rfl (l_storeW rfl rfl Cel.cel (by kernel_rfl) (lnS (lnS (lnS (lnS (lnS (lnS (lnS (lnS (lnS (lnS (lnS (lnS (lnS (lnS (lnS (lnS (lnS (lnS (lnS (lnS (ln0))))))))))))))))))))) (allS rfl (allS rfl (allS rfl (allS rfl (allS rfl (allS rfl (allS rfl (allS rfl (allS rfl (allS rfl (allS rfl (allS rfl (allS rfl (allS rfl (allS rfl (allS rfl (allS rfl (allS rfl (allS rfl (allS rfl (all0))))))))))))))))))))) UpC.upd ?_)
          refine XF.q hs rfl (q_assign rfl) rfl ?_
          refine XF.fin (kp 4 rfl (kp 5 rfl kn)) ?_
          refine XC.ret ?_
          refine ⟨_, [], [], resC1 rfl rfl rfl (by kernel_rfl) At.mem (by rfl), List.nil_sublist _, by simp, rfl, rfl, _, _, rfl, .inl ⟨fN n, ?_, rfl, ⟨_, rfl, _, _, _, _, _, _, _, _, _, _, _, _, _, _, _, _, _, _, _, _, rfl, h40, hy, h43, h46⟩⟩⟩
          exact at_some hrt (by rw [ho, decide_eq_false hz]; rfl) hodd
        ·
          have hodd := hc
          refine XC.skip ?_
          refine nx (kp 2 rfl (kp 4 rfl (kp 7 rfl kn))) ?_
          refine XC.drawF [0, 1, 2, 3, 4, 5, 6, 8] [(0, 1), (1, 1), (3, 1), (4, 1), (2, 2), (5, 2), (6, 0), (7, 2), (8, 0)] (by kernel_rfl) (by kernel_rfl) fun hs => ?_
          refine XF.r hs rfl (q_loadW (n := 5) rfl (by kernel_rfl) (by first | exact At.mem | exact mA (by assumption)) (by rfl)) rfl ?_
          refine XF.r hs rfl (q_loadW (n := 5) rfl (by kernel_rfl) (by first | exact At.mem | exact mA (by assumption)) (by rfl)) rfl ?_
          refine XF.r hs rfl (q_loadW (n := 5) rfl (by kernel_rfl) (by first | exact At.mem | exact mA (by assumption)) (by rfl)) rfl ?_
          refine XF.r hs rfl (q_loadW (n := 5) rfl (by kernel_rfl) (by first | exact At.mem | exact mA (by assumption)) (by rfl)) rfl ?_
          refine XF.call rfl (aS rfl a0) (by kernel_rfl) (num_f 1 (by decide) _) rfl ?_
          rintro r43 M43 J43 ⟨rfl, rfl, k43⟩
          have h43 := k43
          obtain ⟨a43, b43, c43, d43, e43, rfl, -⟩ := k43
          refine XF.call rfl (aS rfl (aS rfl a0)) (by kernel_rfl) (mul_f hn0 hy _) rfl ?_
          rintro r46 M46 J46 ⟨rfl, rfl, k46⟩
          have h46 := k46
          obtain ⟨a46, b46, c46, d46, e46, rfl, -⟩ := k46
          refine XF.q hs rfl (q_build (place := fun x => #[(0, 5), (5, 5), (10, 5), (15, 5)][x]?) (z := [.int .u64 0, .int .u64 0, .int .u64 0, .int .u64 0, .int .u64 0, .int .u64 0, .int .u64 0, .int .u64 0, .int .u64 0, .int .u64 0, .int .u64 0, .int .u64 0, .int .u64 0, .int .u64 0, .int .u64 0, .int .u64 0, .int .u64 0, .int .u64 0, .int .u64 0, .int .u64 0]) (fun _ => by kernel_rfl) (eS rfl (eS rfl (eS rfl (eS rfl e0)))) (bdS 0 5 rfl (by rfl) (bdS 5 5 rfl (by rfl) (bdS 10 5 rfl (by rfl) (bdS 15 5 rfl (by rfl) bd0))))) rfl ?_
          refine XF.tl rfl rfl rfl (l_storeW rfl rfl Cel.cel (by kernel_rfl) (lnS (lnS (lnS (lnS (lnS (lnS (lnS (lnS (lnS (lnS (lnS (lnS (lnS (lnS (lnS (lnS (lnS (lnS (lnS (lnS (ln0))))))))))))))))))))) (allS rfl (allS rfl (allS rfl (allS rfl (allS rfl (allS rfl (allS rfl (allS rfl (allS rfl (allS rfl (allS rfl (allS rfl (allS rfl (allS rfl (allS rfl (allS rfl (allS rfl (allS rfl (allS rfl (allS rfl (all0))))))))))))))))))))) UpC.upd ?_)
          refine XF.q hs rfl (q_assign rfl) rfl ?_
          refine XF.fin (kp 4 rfl (kp 5 rfl kn)) ?_
          refine XC.ret ?_
          refine ⟨_, [], [], resC1 rfl rfl rfl (by kernel_rfl) At.mem (by rfl), List.nil_sublist _, by simp, rfl, rfl, _, _, rfl, .inl ⟨n, ?_, rfl, ⟨_, rfl, _, _, _, _, _, _, _, _, _, _, _, _, _, _, _, _, _, _, _, _, rfl, hn0, hy, h43, h46⟩⟩⟩
          exact at_some hrt (by rw [ho, decide_eq_false hz]; rfl) hodd
    ·
      have ho : odd = false := hb
      refine XL.gn rfl rfl rfl rfl ?_
      refine XL.gn rfl rfl rfl rfl ?_
      refine XL.gy rfl rfl (OpQ.opL (q_pickF rfl rfl) rfl ?_)
      refine XL.q (q_pickF rfl rfl) rfl ?_
      refine XL.fin (kp 1 rfl (kp 2 rfl (kp 4 rfl (kp 7 rfl (kp 33 rfl kn))))) ?_
      refine XC.condF rfl ?_
      refine XC.skip ?_
      refine nx (kp 1 rfl (kp 2 rfl (kp 4 rfl (kp 7 rfl kn)))) ?_
      refine XC.seq ?_
      refine XC.reg ?_
      refine XL.q (q_loadW (n := 5) rfl (by kernel_rfl) (by first | exact At.mem | exact mA (by assumption)) (by rfl)) rfl ?_
      refine XL.callV (aS rfl a0) (by kernel_rfl) (fodd_spec _ n hn0 _) rfl ?_
      refine XL.q (q_move rfl) rfl ?_
      refine XL.q (q_boolNe rfl rfl (by kernel_rfl)) rfl ?_
      refine XL.fin (kp 2 rfl (kp 4 rfl (kp 7 rfl (kp 38 rfl kn)))) ?_
      refine XC.cond rfl (fun hc => ?_) (fun hc => ?_)
      ·
        have hodd := hc
        refine XC.reg1 ?_
        refine XL.q (q_loadW (n := 5) rfl (by kernel_rfl) (by first | exact At.mem | exact mA (by assumption)) (by rfl)) rfl ?_
        refine XL.call (aS rfl a0) (by kernel_rfl) (neg_f hn0 _) rfl ?_
        rintro r40 M40 J40 ⟨rfl, rfl, k40⟩
        have h40 := k40
        obtain ⟨a40, b40, c40, d40, e40, rfl, -⟩ := k40
        refine XL.lo rfl (l_storeW rfl rfl Cel.cel (by kernel_rfl) (lnS (lnS (lnS (lnS (lnS (ln0)))))) (allS rfl (allS rfl (allS rfl (allS rfl (allS rfl (all0)))))) UpC.upd ?_)
        refine XL.fin (kp 2 rfl (kp 4 rfl (kp 7 rfl kn))) ?_
        refine XC.drawF [0, 1, 2, 3, 4, 5, 6, 8] [(0, 1), (1, 1), (3, 1), (4, 1), (2, 2), (5, 2), (6, 0), (7, 2), (8, 0)] (by kernel_rfl) (by kernel_rfl) fun hs => ?_
        refine XF.r hs rfl (q_loadW (n := 5) rfl (by kernel_rfl) (by first | exact At.mem | exact mA (by assumption)) (by rfl)) rfl ?_
        refine XF.r hs rfl (q_loadW (n := 5) rfl (by kernel_rfl) (by first | exact At.mem | exact mA (by assumption)) (by rfl)) rfl ?_
        refine XF.r hs rfl (q_loadW (n := 5) rfl (by kernel_rfl) (by first | exact At.mem | exact mA (by assumption)) (by rfl)) rfl ?_
        refine XF.r hs rfl (q_loadW (n := 5) rfl (by kernel_rfl) (by first | exact At.mem | exact mA (by assumption)) (by rfl)) rfl ?_
        refine XF.call rfl (aS rfl a0) (by kernel_rfl) (num_f 1 (by decide) _) rfl ?_
        rintro r43 M43 J43 ⟨rfl, rfl, k43⟩
        have h43 := k43
        obtain ⟨a43, b43, c43, d43, e43, rfl, -⟩ := k43
        refine XF.call rfl (aS rfl (aS rfl a0)) (by kernel_rfl) (mul_f h40 hy _) rfl ?_
        rintro r46 M46 J46 ⟨rfl, rfl, k46⟩
        have h46 := k46
        obtain ⟨a46, b46, c46, d46, e46, rfl, -⟩ := k46
        refine XF.q hs rfl (q_build (place := fun x => #[(0, 5), (5, 5), (10, 5), (15, 5)][x]?) (z := [.int .u64 0, .int .u64 0, .int .u64 0, .int .u64 0, .int .u64 0, .int .u64 0, .int .u64 0, .int .u64 0, .int .u64 0, .int .u64 0, .int .u64 0, .int .u64 0, .int .u64 0, .int .u64 0, .int .u64 0, .int .u64 0, .int .u64 0, .int .u64 0, .int .u64 0, .int .u64 0]) (fun _ => by kernel_rfl) (eS rfl (eS rfl (eS rfl (eS rfl e0)))) (bdS 0 5 rfl (by rfl) (bdS 5 5 rfl (by rfl) (bdS 10 5 rfl (by rfl) (bdS 15 5 rfl (by rfl) bd0))))) rfl ?_
        refine XF.tl rfl rfl rfl (l_storeW rfl rfl Cel.cel (by kernel_rfl) (lnS (lnS (lnS (lnS (lnS (lnS (lnS (lnS (lnS (lnS (lnS (lnS (lnS (lnS (lnS (lnS (lnS (lnS (lnS (lnS (ln0))))))))))))))))))))) (allS rfl (allS rfl (allS rfl (allS rfl (allS rfl (allS rfl (allS rfl (allS rfl (allS rfl (allS rfl (allS rfl (allS rfl (allS rfl (allS rfl (allS rfl (allS rfl (allS rfl (allS rfl (allS rfl (allS rfl (all0))))))))))))))))))))) UpC.upd ?_)
        refine XF.q hs rfl (q_assign rfl) rfl ?_
        refine XF.fin (kp 4 rfl (kp 5 rfl kn)) ?_
        refine XC.ret ?_
        refine ⟨_, [], [], resC1 rfl rfl rfl (by kernel_rfl) At.mem (by rfl), List.nil_sublist _, by simp, rfl, rfl, _, _, rfl, .inl ⟨fN n, ?_, rfl, ⟨_, rfl, _, _, _, _, _, _, _, _, _, _, _, _, _, _, _, _, _, _, _, _, rfl, h40, hy, h43, h46⟩⟩⟩
        exact at_some hrt (by rw [ho]; rfl) hodd
      ·
        have hodd := hc
        refine XC.skip ?_
        refine nx (kp 2 rfl (kp 4 rfl (kp 7 rfl kn))) ?_
        refine XC.drawF [0, 1, 2, 3, 4, 5, 6, 8] [(0, 1), (1, 1), (3, 1), (4, 1), (2, 2), (5, 2), (6, 0), (7, 2), (8, 0)] (by kernel_rfl) (by kernel_rfl) fun hs => ?_
        refine XF.r hs rfl (q_loadW (n := 5) rfl (by kernel_rfl) (by first | exact At.mem | exact mA (by assumption)) (by rfl)) rfl ?_
        refine XF.r hs rfl (q_loadW (n := 5) rfl (by kernel_rfl) (by first | exact At.mem | exact mA (by assumption)) (by rfl)) rfl ?_
        refine XF.r hs rfl (q_loadW (n := 5) rfl (by kernel_rfl) (by first | exact At.mem | exact mA (by assumption)) (by rfl)) rfl ?_
        refine XF.r hs rfl (q_loadW (n := 5) rfl (by kernel_rfl) (by first | exact At.mem | exact mA (by assumption)) (by rfl)) rfl ?_
        refine XF.call rfl (aS rfl a0) (by kernel_rfl) (num_f 1 (by decide) _) rfl ?_
        rintro r43 M43 J43 ⟨rfl, rfl, k43⟩
        have h43 := k43
        obtain ⟨a43, b43, c43, d43, e43, rfl, -⟩ := k43
        refine XF.call rfl (aS rfl (aS rfl a0)) (by kernel_rfl) (mul_f hn0 hy _) rfl ?_
        rintro r46 M46 J46 ⟨rfl, rfl, k46⟩
        have h46 := k46
        obtain ⟨a46, b46, c46, d46, e46, rfl, -⟩ := k46
        refine XF.q hs rfl (q_build (place := fun x => #[(0, 5), (5, 5), (10, 5), (15, 5)][x]?) (z := [.int .u64 0, .int .u64 0, .int .u64 0, .int .u64 0, .int .u64 0, .int .u64 0, .int .u64 0, .int .u64 0, .int .u64 0, .int .u64 0, .int .u64 0, .int .u64 0, .int .u64 0, .int .u64 0, .int .u64 0, .int .u64 0, .int .u64 0, .int .u64 0, .int .u64 0, .int .u64 0]) (fun _ => by kernel_rfl) (eS rfl (eS rfl (eS rfl (eS rfl e0)))) (bdS 0 5 rfl (by rfl) (bdS 5 5 rfl (by rfl) (bdS 10 5 rfl (by rfl) (bdS 15 5 rfl (by rfl) bd0))))) rfl ?_
        refine XF.tl rfl rfl rfl (l_storeW rfl rfl Cel.cel (by kernel_rfl) (lnS (lnS (lnS (lnS (lnS (lnS (lnS (lnS (lnS (lnS (lnS (lnS (lnS (lnS (lnS (lnS (lnS (lnS (lnS (lnS (ln0))))))))))))))))))))) (allS rfl (allS rfl (allS rfl (allS rfl (allS rfl (allS rfl (allS rfl (allS rfl (allS rfl (allS rfl (allS rfl (allS rfl (allS rfl (allS rfl (allS rfl (allS rfl (allS rfl (allS rfl (allS rfl (allS rfl (all0))))))))))))))))))))) UpC.upd ?_)
        refine XF.q hs rfl (q_assign rfl) rfl ?_
        refine XF.fin (kp 4 rfl (kp 5 rfl kn)) ?_
        refine XC.ret ?_
        refine ⟨_, [], [], resC1 rfl rfl rfl (by kernel_rfl) At.mem (by rfl), List.nil_sublist _, by simp, rfl, rfl, _, _, rfl, .inl ⟨n, ?_, rfl, ⟨_, rfl, _, _, _, _, _, _, _, _, _, _, _, _, _, _, _, _, _, _, _, _, rfl, hn0, hy, h43, h46⟩⟩⟩
        exact at_some hrt (by rw [ho]; rfl) hodd
  ·
    refine XC.reg ?_
    refine XL.q (q_move rfl) rfl ?_
    refine XL.q (q_not rfl) rfl ?_
    refine XL.q (q_move rfl) rfl ?_
    refine XL.gn rfl rfl rfl rfl ?_
    refine XL.gn rfl rfl rfl rfl ?_
    refine XL.gu rfl rfl rfl ?_
    refine XL.gu rfl rfl rfl ?_
    refine XL.gn rfl rfl rfl rfl ?_
    refine XL.q (q_pickT rfl rfl) rfl ?_
    refine XL.fin (kp 1 rfl (kp 2 rfl (kp 4 rfl (kp 7 rfl (kp 33 rfl kn))))) ?_
    refine XC.condT rfl ?_
    refine XC.reg ?_
    refine XL.q (q_build (place := fun x => #[(0, 5), (5, 5), (10, 5), (15, 5)][x]?) (z := [.int .u64 0, .int .u64 0, .int .u64 0, .int .u64 0, .int .u64 0, .int .u64 0, .int .u64 0, .int .u64 0, .int .u64 0, .int .u64 0, .int .u64 0, .int .u64 0, .int .u64 0, .int .u64 0, .int .u64 0, .int .u64 0, .int .u64 0, .int .u64 0, .int .u64 0, .int .u64 0]) (fun _ => by kernel_rfl) e0 bd0) rfl ?_
    refine XL.lo rfl (l_storeW rfl rfl Cel.cel (by kernel_rfl) (lnS (lnS (lnS (lnS (lnS (lnS (lnS (lnS (lnS (lnS (lnS (lnS (lnS (lnS (lnS (lnS (lnS (lnS (lnS (lnS (ln0))))))))))))))))))))) (allS rfl (allS rfl (allS rfl (allS rfl (allS rfl (allS rfl (allS rfl (allS rfl (allS rfl (allS rfl (allS rfl (allS rfl (allS rfl (allS rfl (allS rfl (allS rfl (allS rfl (allS rfl (allS rfl (allS rfl (all0))))))))))))))))))))) UpC.upd ?_)
    refine XL.q (q_assign rfl) rfl ?_
    refine XL.fin (kp 4 rfl (kp 5 rfl kn)) ?_
    refine XC.ret ?_
    refine tr ?_
    exact ⟨_, [], [], resC1 rfl rfl rfl (by kernel_rfl) At.mem (by rfl), List.nil_sublist _, by simp, rfl, rfl, _, _, rfl, .inr ⟨at_none hrt, rfl, ⟨_, rfl, _, _, _, _, _, _, _, _, _, _, _, _, _, _, _, _, _, _, _, _, rfl, fe_zero, fe_zero, fe_zero, fe_zero⟩⟩⟩

set_option maxRecDepth 100000 in
theorem start_f (A : Mem) : FnX Tryd.prog 20 [] [] A fun r M J => M = [] ∧ J = [] ∧ FeP r pS := by
  refine FnX.enter (N := 12) Tryd.func20 rfl rfl rfl fun w => ?_
  refine XC.keep kn ?_
  refine XC.reg ?_
  refine XL.lo rfl (l_alloc (cs := [.int .u64 0, .int .u64 0, .int .u64 0, .int .u64 0, .int .u64 0, .int .u64 0, .int .u64 0, .int .u64 0, .int .u64 0, .int .u64 0, .int .u64 0, .int .u64 0, .int .u64 0, .int .u64 0, .int .u64 0, .int .u64 0, .int .u64 0, .int .u64 0, .int .u64 0, .int .u64 0]) (by kernel_rfl) rfl fun b0 => ?_)
  refine XL.fin (kp 0 rfl kn) ?_
  refine XC.reg ?_
  refine XL.call (aS rfl a0) (by kernel_rfl) (num_f 4 (by decide) _) rfl ?_
  rintro r4 M4 J4 ⟨rfl, rfl, k4⟩
  have h4 := k4
  obtain ⟨a4, b4, c4, d4, e4, rfl, -⟩ := k4
  refine XL.call (aS rfl a0) (by kernel_rfl) (num_f 5 (by decide) _) rfl ?_
  rintro r5 M5 J5 ⟨rfl, rfl, k5⟩
  have h5 := k5
  obtain ⟨a5, b5, c5, d5, e5, rfl, -⟩ := k5
  refine XL.call (aS rfl a0) (by kernel_rfl) (inv_f h5 _) rfl ?_
  rintro r6 M6 J6 ⟨rfl, rfl, k6⟩
  have h6 := k6
  obtain ⟨a6, b6, c6, d6, e6, rfl, -⟩ := k6
  refine XL.call (aS rfl (aS rfl a0)) (by kernel_rfl) (mul_f h4 h6 _) rfl ?_
  rintro r7 M7 J7 ⟨rfl, rfl, k7⟩
  rw [s45_eq] at k7
  have h7 := k7
  obtain ⟨a7, b7, c7, d7, e7, rfl, -⟩ := k7
  refine XL.call (aS rfl (aS rfl a0)) (by kernel_rfl) (at_f _ s45 false h7 _) rfl ?_
  rintro r8 M8 J8 ⟨rfl, rfl, V, ok, rfl, hat⟩
  have hP : FeP V pS := by
    rw [at45] at hat
    rcases hat with ⟨x, h1, _, h2⟩ | ⟨h1, _, h2⟩
    · obtain rfl := Option.some.inj h1; exact h2
    · cases h1
  have hP0 := hP
  obtain ⟨xsp, rfl, p0, p1, p2, p3, p4, p5, p6, p7, p8, p9, p10, p11, p12, p13, p14, p15, p16, p17, p18, p19, rfl, hpX, hpY, hpZ, hpT⟩ := hP
  dsimp only [nums, List.map]
  refine XL.q (q_move rfl) rfl ?_
  refine XL.q (q_x0 rfl) rfl ?_
  refine XL.q (q_x1 rfl) rfl ?_
  refine XL.lo rfl (l_alloc (cs := [.int .u64 0, .int .u64 0, .int .u64 0, .int .u64 0, .int .u64 0, .int .u64 0, .int .u64 0, .int .u64 0, .int .u64 0, .int .u64 0, .int .u64 0, .int .u64 0, .int .u64 0, .int .u64 0, .int .u64 0, .int .u64 0, .int .u64 0, .int .u64 0, .int .u64 0, .int .u64 0]) (by kernel_rfl) rfl fun b1 => ?_)
  refine XL.lo rfl (l_storeW rfl rfl Cel.cel (by kernel_rfl) (lnS (lnS (lnS (lnS (lnS (lnS (lnS (lnS (lnS (lnS (lnS (lnS (lnS (lnS (lnS (lnS (lnS (lnS (lnS (lnS (ln0))))))))))))))))))))) (allS rfl (allS rfl (allS rfl (allS rfl (allS rfl (allS rfl (allS rfl (allS rfl (allS rfl (allS rfl (allS rfl (allS rfl (allS rfl (allS rfl (allS rfl (allS rfl (allS rfl (allS rfl (allS rfl (allS rfl (all0))))))))))))))))))))) UpC.upd ?_)
  refine XL.q (q_assign rfl) rfl ?_
  refine XL.fin (kp 0 rfl (kp 1 rfl kn)) ?_
  refine XC.reg ?_
  refine XL.q (q_loadW (n := 20) rfl (by kernel_rfl) (by first | exact At.mem | exact mA (by assumption)) (by rfl)) rfl ?_
  refine XL.lo rfl (l_storeW rfl rfl Cel.cel (by kernel_rfl) (lnS (lnS (lnS (lnS (lnS (lnS (lnS (lnS (lnS (lnS (lnS (lnS (lnS (lnS (lnS (lnS (lnS (lnS (lnS (lnS (ln0))))))))))))))))))))) (allS rfl (allS rfl (allS rfl (allS rfl (allS rfl (allS rfl (allS rfl (allS rfl (allS rfl (allS rfl (allS rfl (allS rfl (allS rfl (allS rfl (allS rfl (allS rfl (allS rfl (allS rfl (allS rfl (allS rfl (all0))))))))))))))))))))) UpC.upd ?_)
  refine XL.fin (kp 0 rfl kn) ?_
  refine XC.ret ?_
  exact ⟨_, [], [], resC rfl rfl (by kernel_rfl) At.mem (by rfl), List.nil_sublist _, by simp, rfl, rfl, hP0⟩

end Go.Proofs.YtcfdeohjhhpmcaaDoor
/-
  Slices of unsigned numbers that came in.
-/
set_option linter.unusedVariables false
set_option linter.unusedSimpArgs false
namespace Go.Px
theorem wf_u {k : IntKind} (hk : k.signed = false) {n : Int} (h : (Lit.int k n).wf = true) : 0 ≤ n ∧ n < 2 ^ k.bits := by
  cases k <;> simp_all [Lit.wf, IntKind.min, IntKind.max, IntKind.bits, IntKind.signed] <;> omega
theorem row_nums {k : IntKind} (hk : k.signed = false) {w : World} {a : Option Addr} {len cap : Nat} {zs : List Int}
    (h : (a = none ∧ len = 0 ∧ cap = 0 ∧ zs = []) ∨ ∃ x, a = some x ∧ len ≤ cap ∧ cap ≤ maxLen ∧ zs.length = cap ∧ (∀ i, i < zs.length → w.cell? (x.add i) = some (.int k (zs.getD i 0))) ∧ ∀ n ∈ zs, (Lit.int k n).wf = true) :
    ∃ A ws, Fx A w ∧ Rd A 1 (.slice a len cap) ws.length (nums k ws) ∧ (∀ x ∈ ws, x < 2 ^ k.bits) ∧ ws.length ≤ maxLen := by
  obtain ⟨A, hf, hr, hl, hm, hw⟩ := row_rd h
  obtain ⟨ws, e, h1⟩ := nats_of (k := k) (zs := zs.take len) fun n hn => (wf_u hk (hw n hn)).1
  have hlen : ws.length = len := by
    have := congrArg List.length e
    simp only [List.length_map, nums_len] at this
    omega
  refine ⟨A, ws, hf, ?_, fun x hx => ?_, by omega⟩
  · rw [hlen, ← e]; exact hr
  · have := (wf_u hk (hw _ (h1 x hx))).2
    have h2 : ((x : Nat) : Int) < ((2 ^ k.bits : Nat) : Int) := by simpa using this
    exact Int.ofNat_lt.1 h2
theorem fx_app {A B : Mem} {w : World} (h1 : Fx A w) (h2 : Fx B w) : Fx (A ++ B) w := fun b o hb => (List.mem_append.1 hb).elim (h1 b o) (h2 b o)
theorem fx_one {b : Nat} {o : Obj} {w : World} (h : w.heap[b]? = some o) : Fx [(b, o)] w := fun b' o' hb => by cases List.mem_singleton.1 hb; exact h
end Go.Px

/-
  Arguments that came in, by their types: what the engine's rules ask of them.
-/
set_option linter.unusedVariables false
set_option linter.unusedSimpArgs false
namespace Go.Px
open Go.ChangeShapes Go.WideShapes Go.ChangeAt Go.RowKit
/-- All that lies in a world. -/
def heapA (w : World) : Mem := (List.range w.heap.size).filterMap fun b => (w.heap[b]?).map fun o => (b, o)
theorem heapA_mem {w : World} {b : Nat} {o : Obj} : (b, o) ∈ heapA w ↔ w.heap[b]? = some o := by
  simp only [heapA, List.mem_filterMap, List.mem_range, Option.map_eq_some_iff, Prod.mk.injEq]
  constructor
  · rintro ⟨x, _, y, h, rfl, rfl⟩; exact h
  · intro h; exact ⟨b, lt_of_heap h, o, h, rfl, rfl⟩
theorem heapA_fx (w : World) : Fx (heapA w) w := fun b o h => heapA_mem.1 h
section
variable {H : Type} {enc : TypeId × Value → H} {P : Program} {w : World} {spare : Nat → Bool} {held : Bool} {fuel : Nat} {t e : TypeId} {cs : List Value} {x : DataW H × List MemPlace} {v : Value} {d : DataW H} {p : List MemPlace} {r : Reach} {base : Nat} {k : IntKind}
theorem cells_get {a : Addr} {n : Nat} {c : List Value} (h : w.cells? 0 a n = some c) : c.length = n ∧ ∀ j, j < n → w.cell? (a.add j) = c[j]? := by
  unfold World.cells? at h
  rw [if_pos (Nat.zero_le _)] at h
  exact ⟨by simpa using mapM_some_length h, fun j hj => mapM_some_get h j j (by simp [hj])⟩
theorem in_slice {sz : Nat} (ht : P.underlying t = some (.slice e)) (hsz : P.cellsOf e = sz) (hs0 : 0 < sz) (h : DataW.trod enc P w 0 spare held fuel t cs = some x) :
    ∃ (v : Value) (xss : List (List Value)), cs = [v] ∧ xss.length ≤ maxLen ∧ Rd (heapA w) sz v xss.length xss.flatten ∧ ∀ c ∈ xss, c.length = sz ∧ ∃ m y, DataW.trod enc P w 0 spare held m e c = some y := by
  rcases DataW.trod_slice ht h with ⟨rfl, _⟩ | ⟨a, len, cap, elems, rest, n, _, rfl, _, _, hl, hm, hlen, hel, _, _⟩
  · exact ⟨_, [], rfl, by simp, Rd.nil, fun c hc => by cases hc⟩
  · rw [hsz] at hel
    have hrow : ∀ i, i < len → ∃ c y, w.cells? 0 (a.add (i * sz)) sz = some c ∧ DataW.trod enc P w 0 spare held n e c = some y := by
      intro i hi
      have h1 := hel i hi
      rw [List.getElem?_eq_getElem (by omega)] at h1
      obtain ⟨c, h2, h3⟩ := Option.bind_eq_some_iff.1 h1
      exact ⟨c, _, h2, h3⟩
    have hget : ∀ i, i < len → ((List.range len).map fun i => (w.cells? 0 (a.add (i * sz)) sz).getD [])[i]? = some ((w.cells? 0 (a.add (i * sz)) sz).getD []) := by
      intro i hi; simp [hi]
    have hlen2 : ∀ c ∈ (List.range len).map (fun i => (w.cells? 0 (a.add (i * sz)) sz).getD []), c.length = sz ∧ ∃ m y, DataW.trod enc P w 0 spare held m e c = some y := by
      intro c hc
      obtain ⟨i, hi, rfl⟩ := List.mem_map.1 hc
      obtain ⟨c, y, h1, h2⟩ := hrow i (List.mem_range.1 hi)
      rw [h1, Option.getD_some]
      exact ⟨(cells_get h1).1, n, y, h2⟩
    refine ⟨_, (List.range len).map fun i => (w.cells? 0 (a.add (i * sz)) sz).getD [], rfl, by simp; omega, ?_, hlen2⟩
    have hl1 : ((List.range len).map fun i => (w.cells? 0 (a.add (i * sz)) sz).getD []).length = len := by simp
    have hfl := flat_len (rows := (List.range len).map fun i => (w.cells? 0 (a.add (i * sz)) sz).getD []) (s := sz) fun c hc => (hlen2 c hc).1
    rw [hl1]
    rw [hl1] at hfl
    by_cases h0 : len * sz = 0
    · refine ⟨some a, cap, rfl, hfl, hl, .inl ?_⟩
      rcases Nat.mul_eq_zero.1 h0 with h | h <;> omega
    · have hlp : 0 < len := Nat.pos_of_ne_zero (by rintro rfl; simp at h0)
      have hsp : 0 < sz := Nat.pos_of_ne_zero (by rintro rfl; simp at h0)
      obtain ⟨c0, y0, h1, _⟩ := hrow 0 hlp
      have h2 := (cells_get h1).2 0 hsp
      have h3 := (cells_get h1).1
      obtain ⟨b, o, sp⟩ := a
      have hadd : ((⟨b, o, sp⟩ : Addr).add (0 * sz)).add 0 = ⟨b, o, sp⟩ := by simp [Addr.add]
      rw [hadd, List.getElem?_eq_getElem (by omega)] at h2
      cases hb : w.heap[b]? with
      | none => simp [World.cell?, hb] at h2
      | some ob =>
        cases ob <;> simp [World.cell?, hb] at h2
        rename_i cells et fr
        obtain ⟨rfl, h2⟩ := h2
        refine ⟨_, cap, rfl, hfl, hl, .inr ⟨b, o, cells.toList, et, fr, rfl, heapA_mem.2 (by simpa using hb), fun j u hj => ?_⟩⟩
        have hjl : j < len * sz := by have := (List.getElem?_eq_some_iff.1 hj).1; rwa [hfl] at this
        have hi : j / sz < len := Nat.div_lt_of_lt_mul (by rw [Nat.mul_comm]; exact hjl)
        have hr : j % sz < sz := Nat.mod_lt _ hsp
        have hj2 := flat_get (fun c hc => (hlen2 c hc).1) (hget _ hi) (j % sz) hr
        have ej : j / sz * sz + j % sz = j := by rw [Nat.mul_comm]; exact Nat.div_add_mod j sz
        rw [ej, hj] at hj2
        obtain ⟨c, y, h5, _⟩ := hrow _ hi
        rw [h5, Option.getD_some] at hj2
        have h6 := (cells_get h5).2 _ hr
        rw [← hj2, Addr.add_mid, Addr.add_mid, World.cell?, hb] at h6
        simp only [Option.isSome_none, Bool.false_eq_true, if_false] at h6
        rw [Array.getElem?_toList, show o + j = o + j / sz * sz + j % sz by omega, h6]
/-! ### Scalars -/
theorem nat_of_wf (hk : k.signed = false) {n : Int} (h : (Lit.int k n).wf = true) : ∃ m : Nat, n = (m : Int) ∧ m < 2 ^ k.bits := by
  obtain ⟨h1, h2⟩ := wf_u hk h
  obtain ⟨m, rfl⟩ := Int.eq_ofNat_of_zero_le h1
  refine ⟨m, rfl, ?_⟩
  have h3 : ((m : Nat) : Int) < ((2 ^ k.bits : Nat) : Int) := by simpa using h2
  exact Int.ofNat_lt.1 h3
theorem cells_scalar {u : Value} (h : v.cells.toList = [u]) (hv : ∀ cs, v ≠ .agg cs) : v = u := by
  cases v <;> simp [Value.cells] at h <;> first | exact h | exact absurd rfl (hv _)
theorem inU (ht : P.underlying t = some (.int k)) (hk : k.signed = false) (hv : Value.okWide P w r base t v) (h : DataW.Trod enc P w 0 spare held t v d p) : ∃ n : Nat, v = .int k (n : Int) ∧ n < 2 ^ k.bits := by
  obtain ⟨n, rfl⟩ := okWide_int ht hv
  obtain ⟨f, hf⟩ := h
  obtain ⟨m, h1, _, h2⟩ := DataW.trod_int ht hf
  obtain ⟨q, rfl, h3⟩ := nat_of_wf hk h2
  exact ⟨q, by simpa [Value.cells] using h1, h3⟩
theorem inI (ht : P.underlying t = some (.int k)) (hv : Value.okWide P w r base t v) (h : DataW.Trod enc P w 0 spare held t v d p) : ∃ n : Int, v = .int k n ∧ (Lit.int k n).wf = true := by
  obtain ⟨n, rfl⟩ := okWide_int ht hv
  obtain ⟨f, hf⟩ := h
  obtain ⟨m, h1, _, h2⟩ := DataW.trod_int ht hf
  exact ⟨m, by simpa [Value.cells] using h1, h2⟩
theorem inB (ht : P.underlying t = some .bool) (hv : Value.okWide P w r base t v) : ∃ b, v = .bool b := okWide_bool ht hv
theorem inS (ht : P.underlying t = some .string) (hv : Value.okWide P w r base t v) (h : DataW.Trod enc P w 0 spare held t v d p) : ∃ s, v = .string s ∧ s.size ≤ maxLen := by
  obtain ⟨n, rfl⟩ := okWide_string ht hv
  obtain ⟨f, hf⟩ := h
  obtain ⟨m, h1, _, h2⟩ := DataW.trod_string ht hf
  exact ⟨m, by simpa [Value.cells] using h1, h2⟩
/-! ### Slices and arrays -/
theorem uints_of (hk : k.signed = false) (he : P.underlying e = some (.int k)) {xss : List (List Value)} (h : ∀ c ∈ xss, c.length = 1 ∧ ∃ m y, DataW.trod enc P w 0 spare held m e c = some y) :
    ∃ ws : List Nat, xss.flatten = nums k ws ∧ ws.length = xss.length ∧ ∀ x ∈ ws, x < 2 ^ k.bits := by
  induction xss with
  | nil => exact ⟨[], rfl, rfl, fun x hx => by cases hx⟩
  | cons c xss ih =>
    obtain ⟨ws, h1, h2, h3⟩ := ih fun c hc => h c (by simp [hc])
    obtain ⟨_, m, y, h4⟩ := h c (by simp)
    obtain ⟨n, rfl, _, h5⟩ := DataW.trod_int he h4
    obtain ⟨q, rfl, h6⟩ := nat_of_wf hk h5
    refine ⟨q :: ws, by rw [List.flatten_cons, h1]; rfl, by simp [h2], fun x hx => ?_⟩
    rcases List.mem_cons.1 hx with rfl | hx
    · exact h6
    · exact h3 x hx
theorem inSlU (ht : P.underlying t = some (.slice e)) (he : P.underlying e = some (.int k)) (hc : P.cellsOf e = 1) (hk : k.signed = false) (hv : Value.okWide P w r base t v) (h : DataW.Trod enc P w 0 spare held t v d p) :
    ∃ ws, Rd (heapA w) 1 v ws.length (nums k ws) ∧ (∀ x ∈ ws, x < 2 ^ k.bits) ∧ ws.length ≤ maxLen := by
  obtain ⟨a, len, cap, rfl⟩ := okWide_slice ht hv
  obtain ⟨f, hf⟩ := h
  obtain ⟨v, xss, h1, h2, h3, h4⟩ := in_slice ht hc (by decide) hf
  obtain ⟨ws, h5, h6, h7⟩ := uints_of hk he h4
  obtain rfl : Value.slice a len cap = v := by simpa [Value.cells] using h1
  exact ⟨ws, by rw [h6, ← h5]; exact h3, h7, by omega⟩
theorem inArrU {n : Nat} (ht : P.underlying t = some (.array n e)) (he : P.underlying e = some (.int k)) (hc : P.cellsOf e = 1) (hct : P.cellsOf t = n) (hk : k.signed = false) (hv : Value.okWide P w r base t v) (h : DataW.Trod enc P w 0 spare held t v d p) :
    ∃ ws, v = .agg (nums k ws).toArray ∧ ws.length = n ∧ ∀ x ∈ ws, x < 2 ^ k.bits := by
  have hv2 := hv
  simp only [Value.okWide, ht] at hv2
  obtain ⟨cs, rfl, _⟩ := hv2
  obtain ⟨f, hf⟩ := h
  obtain ⟨xs, m, _, _, h1, h2, h3⟩ := DataW.trod_array ht hf
  have hcs : (Value.agg cs).cells.toList = cs.toList := by simp [Value.cells]
  rw [hcs] at h1 h3
  rw [hc] at h3
  have hfl : ((List.range n).map fun i => ((cs.toList.drop (i * 1)).take 1)).flatten = cs.toList := by
    apply List.ext_getElem?
    intro j
    have hlen : ∀ c ∈ (List.range n).map (fun i => ((cs.toList.drop (i * 1)).take 1)), c.length = 1 := by
      intro c hc
      obtain ⟨i, hi, rfl⟩ := List.mem_map.1 hc
      have := List.mem_range.1 hi
      simp at h1
      simp; omega
    by_cases hj : j < n
    · have := flat_get hlen (k := j) (r := (cs.toList.drop (j * 1)).take 1) (by simp [hj]) 0 (by decide)
      rw [show j * 1 + 0 = j by omega] at this
      rw [this, List.getElem?_take_of_lt (by decide), List.getElem?_drop]
      congr 1; omega
    · have h5 := flat_len hlen
      rw [List.length_map, List.length_range] at h5
      rw [List.getElem?_eq_none (by omega), List.getElem?_eq_none (by omega)]
  obtain ⟨ws, h5, h6, h7⟩ := uints_of (e := e) (xss := (List.range n).map fun i => ((cs.toList.drop (i * 1)).take 1)) (enc := enc) (P := P) (w := w) (spare := spare) (held := held) hk he (by
    intro c hcm
    obtain ⟨i, hi, rfl⟩ := List.mem_map.1 hcm
    have hi := List.mem_range.1 hi
    have h8 := h3 i hi
    rw [List.getElem?_eq_getElem (by omega)] at h8
    refine ⟨?_, m, _, h8⟩
    simp at h1
    simp; omega)
  rw [hfl] at h5
  refine ⟨ws, ?_, by simpa using h6, h7⟩
  rw [← h5]
end
end Go.Px

/-
  Texts as rows of bytes: lengths, bytes, parts, sums, sameness; a text as bytes.
-/
set_option linter.unusedVariables false
set_option linter.unusedSimpArgs false
namespace Go.Px
theorem txt_size' (p : List Nat) : (txt p).size = p.length := by simp [txt, ByteArray.size]
theorem txt_get {ws : List Nat} (h : ∀ x ∈ ws, x < 256) {j : Nat} (hj : j < ws.length) : (txt ws)[j]? = some (UInt8.ofNat (ws.getD j 0)) := by
  have h2 : j < (txt ws).size := by rw [txt_size']; exact hj
  rw [getElem?_pos (txt ws) j h2]
  congr 1
  show ((ws.map UInt8.ofNat).toArray)[j]'_ = _
  simp only [List.getD, List.getElem?_eq_getElem hj, Option.getD_some]
  have : ∀ (l : List Nat) (h : j < l.length) (h' : j < (l.map UInt8.ofNat).toArray.size), (l.map UInt8.ofNat).toArray[j] = UInt8.ofNat l[j] := fun l h h' => by simp
  exact this ws hj _
theorem txt_beq {a b : List Nat} (ha : ∀ x ∈ a, x < 256) (hb : ∀ x ∈ b, x < 256) : ((txt a).toList == (txt b).toList) = decide (a = b) := by
  have e : ∀ w : List Nat, (txt w).toList = w.map UInt8.ofNat := fun w => by
    rw [ByteArray.toList_eq] <;> simp [txt]
  by_cases h : a = b
  · subst h; simp
  · rw [decide_eq_false h]
    rw [e, e, beq_eq_false_iff_ne]
    intro hc
    exact h (txt_inj ha hb (by unfold txt; rw [hc]))
theorem txt_extract (ws : List Nat) (lo hi : Nat) : (txt ws).extract lo hi = txt ((ws.take hi).drop lo) := by
  apply ByteArray.ext
  simp [txt, ByteArray.data_extract, List.map_take, List.map_drop, List.extract_eq_take_drop, List.drop_take]
section
variable {P : Program} {R : Mem} {l : Env} {d : Option Nat} {ty s t t' e : TypeId} {pos : String} {af : Array Edge} {g : Option (Nat × Bool)} {x y z : Operand} {v : Value} {n a b : Nat} {k k' : IntKind} {i i' : Int} {S S' : ByteArray} {ws ws' : List Nat}
theorem q_sLen (hx : ev l x = some (.string S)) (hS : S = txt ws) (hu : P.underlying t = some .string) : OpQ P R ⟨d, .call { callee := .builtin .len, args := #[x], argTypes := #[t] }, ty, pos, af, g⟩ l (.int .i64 ((ws.length : Nat) : Int)) := by
  have := q_lenStr (P := P) (R := R) (d := d) (ty := ty) (pos := pos) (af := af) (g := g) hx hu
  rwa [hS, txt_size'] at this
theorem q_sAt (hx : ev l x = some (.string S)) (hS : S = txt ws) (h256 : ∀ x ∈ ws, x < 256) (hy : ev l y = some (.int k i)) (hu : P.underlying t = some .string) (hi : i = (a : Int)) (ha : a < ws.length) :
    OpQ P R ⟨d, .index t x y, ty, pos, af, g⟩ l (.int .u8 ((ws.getD a 0 : Nat) : Int)) := fun N A w hA hw => by
  subst hi; subst hS
  have h1 := getD_lt (i := a) h256 (by decide)
  simp only [execOp, hA.ev hx, hA.ev hy, Instr.index, asIntOf, Sem.run_bind, Sem.run_pure, run_underlying hu, Result.andThen_ok, Int.toNat_natCast, txt_get h256 ha, if_pos (Int.natCast_nonneg a)]
  have : (UInt8.ofNat (ws.getD a 0)).toNat = ws.getD a 0 := by
    generalize ws.getD a 0 = c at h1
    simp; omega
  simp only [this, Sem.run_pure]
theorem q_sSl {lo hi : Option Operand} {nl nh : Option Nat} (hx : ev l x = some (.string S)) (hS : S = txt ws) (hu : P.underlying t = some .string) (h1 : EvO l lo nl) (h2 : EvO l hi nh) (hh : nh.getD ws.length ≤ ws.length) (hl : nl.getD 0 ≤ nh.getD ws.length) :
    OpQ P R ⟨d, .slice t x lo hi none, ty, pos, af, g⟩ l (.string (txt ((ws.take (nh.getD ws.length)).drop (nl.getD 0)))) := fun N A w hA hw => by
  subst hS
  have hb := sliceBounds_run (P := P) (lo := lo) (hi := hi) (mx := none) hA h1 h2 o0 false ws.length ws.length w (by simp) (by simpa using hh) (by simpa using hl) (by simp)
  simp only [Option.map_none] at hb
  simp only [execOp, hA.ev hx, Instr.sliceAt, Sem.run_bind, run_underlying hu, Result.andThen_ok, Instr.slice, Option.map_none, Option.isSome_none, Bool.false_eq_true, if_false, txt_size', hb]
  simp [txt_extract]
theorem q_sHi (hx : ev l x = some (.string S)) (hS : S = txt ws) (hy : ev l y = some (.int k i)) (hu : P.underlying t = some .string) (hi : i = (a : Int)) (h : a ≤ ws.length) : OpQ P R ⟨d, .slice t x none (some y) none, ty, pos, af, g⟩ l (.string (txt (ws.take a))) := by
  have := q_sSl (P := P) (R := R) (d := d) (ty := ty) (pos := pos) (af := af) (g := g) hx hS hu o0 (o1 a hy hi) (by simpa using h) (by simp)
  simpa using this
theorem q_sLo (hx : ev l x = some (.string S)) (hS : S = txt ws) (hy : ev l y = some (.int k i)) (hu : P.underlying t = some .string) (hi : i = (a : Int)) (h : a ≤ ws.length) : OpQ P R ⟨d, .slice t x (some y) none none, ty, pos, af, g⟩ l (.string (txt (ws.drop a))) := by
  have := q_sSl (P := P) (R := R) (d := d) (ty := ty) (pos := pos) (af := af) (g := g) hx hS hu (o1 a hy hi) o0 (by simp) (by simpa using h)
  simpa using this
theorem q_sLH (hx : ev l x = some (.string S)) (hS : S = txt ws) (hy : ev l y = some (.int k i)) (hz : ev l z = some (.int k' i')) (hu : P.underlying t = some .string) (hi : i = (a : Int)) (hi' : i' = (b : Int)) (hab : a ≤ b) (h : b ≤ ws.length) : OpQ P R ⟨d, .slice t x (some y) (some z) none, ty, pos, af, g⟩ l (.string (txt ((ws.take b).drop a))) := by
  have := q_sSl (P := P) (R := R) (d := d) (ty := ty) (pos := pos) (af := af) (g := g) hx hS hu (o1 a hy hi) (o1 b hz hi') (by simpa using h) (by simpa using hab)
  simpa using this
theorem q_sAdd (hx : ev l x = some (.string S)) (hy : ev l y = some (.string S')) (hS : S = txt ws) (hS' : S' = txt ws') (h : ws.length + ws'.length ≤ 9223372036854775807) : OpQ P R ⟨d, .binOp .add t x y t', ty, pos, af, g⟩ l (.string (txt (ws ++ ws'))) := by
  subst hS; subst hS'
  have := q_strAdd (P := P) (R := R) (d := d) (ty := ty) (pos := pos) (af := af) (g := g) (t := t) (t' := t') hx hy (by rw [txt_size', txt_size']; exact h)
  rwa [txt_append] at this
theorem q_sEq (hx : ev l x = some (.string S)) (hy : ev l y = some (.string S')) (hS : S = txt ws) (hS' : S' = txt ws') (h : ∀ x ∈ ws, x < 256) (h' : ∀ x ∈ ws', x < 256) : OpQ P R ⟨d, .binOp .eql t x y t', ty, pos, af, g⟩ l (.bool (decide (ws = ws'))) := by
  subst hS; subst hS'
  have := q_strEq (P := P) (R := R) (d := d) (ty := ty) (pos := pos) (af := af) (g := g) (t := t) (t' := t') hx hy
  rwa [txt_beq h h'] at this
theorem q_sNe (hx : ev l x = some (.string S)) (hy : ev l y = some (.string S')) (hS : S = txt ws) (hS' : S' = txt ws') (h : ∀ x ∈ ws, x < 256) (h' : ∀ x ∈ ws', x < 256) : OpQ P R ⟨d, .binOp .neq t x y t', ty, pos, af, g⟩ l (.bool !(decide (ws = ws'))) := by
  subst hS; subst hS'
  have := q_strNe (P := P) (R := R) (d := d) (ty := ty) (pos := pos) (af := af) (g := g) (t := t) (t' := t') hx hy
  rwa [txt_beq h h'] at this
end
/-! ### Bytes that are below 256, found by themselves -/
class B256 (ws : List Nat) : Prop where
  lt : ∀ x ∈ ws, x < 256
instance B256.nil : B256 [] := ⟨fun _ h => by cases h⟩
instance B256.app {a b : List Nat} [ha : B256 a] [hb : B256 b] : B256 (a ++ b) := ⟨fun x h => (List.mem_append.1 h).elim (ha.lt x) (hb.lt x)⟩
instance B256.take {a : List Nat} {n : Nat} [ha : B256 a] : B256 (a.take n) := ⟨fun x h => ha.lt x (List.mem_of_mem_take h)⟩
instance B256.drop {a : List Nat} {n : Nat} [ha : B256 a] : B256 (a.drop n) := ⟨fun x h => ha.lt x (List.mem_of_mem_drop h)⟩
theorem B256.cons {x : Nat} {a : List Nat} (hx : x < 256) (ha : B256 a) : B256 (x :: a) := ⟨fun y h => (List.mem_cons.1 h).elim (fun h => h ▸ hx) (ha.lt y)⟩
/-! ### Interfaces and slices against nil -/
def isNil : Value → Bool
  | .slice none _ _ => true
  | _ => false
section
variable {P : Program} {R R' : Mem} {l : Env} {d : Option Nat} {ty t t' e : TypeId} {pos : String} {af : Array Edge} {g : Option (Nat × Bool)} {x y : Operand} {v : Value} {n sz : Nat} {xs : List Value} {ms : Array (String × TypeId)}
def isIf (P : Program) (t : TypeId) : Bool :=
  match P.underlying t with
  | some (.interface _) => true
  | _ => false
theorem isIf_spec (h : isIf P t = true) : ∃ ms, P.underlying t = some (.interface ms) := by
  unfold isIf at h
  split at h
  · exact ⟨_, by assumption⟩
  · cases h
theorem run_ifNil (w : World) (h : P.underlying t = some (.interface ms)) : (Op.equal t .nilIface .nilIface).run P w = .ok true w := by
  show (Op.equalIn (9999 + 1) t .nilIface .nilIface).run P w = .ok true w
  rw [Op.equalIn]; simp [run_underlying h]
theorem run_ifSome (w : World) {u : TypeId} {z : Value} (h : P.underlying t = some (.interface ms)) : (Op.equal t (.iface u z) .nilIface).run P w = .ok false w := by
  show (Op.equalIn (9999 + 1) t (.iface u z) .nilIface).run P w = .ok false w
  rw [Op.equalIn]; simp [run_underlying h]
theorem q_ifNe0 (hx : ev l x = some .nilIface) (hi : isIf P t = true) : OpQ P R ⟨d, .binOp .neq t x (.const .nilIface) t', ty, pos, af, g⟩ l (.bool false) := fun N a w ha hw => by
  obtain ⟨ms, hu⟩ := isIf_spec hi
  have hy : a.eval (.const .nilIface) = .nilIface := rfl
  simp only [execOp, ha.ev hx, hy, Sem.run_bind]
  simp [eqGuard, binOp, run_ifNil w hu]
theorem q_ifNe1 {u : TypeId} {z : Value} (hx : ev l x = some (.iface u z)) (hi : isIf P t = true) : OpQ P R ⟨d, .binOp .neq t x (.const .nilIface) t', ty, pos, af, g⟩ l (.bool true) := fun N a w ha hw => by
  obtain ⟨ms, hu⟩ := isIf_spec hi
  have hy : a.eval (.const .nilIface) = .nilIface := rfl
  simp only [execOp, ha.ev hx, hy, Sem.run_bind]
  simp [eqGuard, binOp, run_ifSome w hu]
theorem Rd.isNil {R : Mem} (h : Rd R sz v n xs) (hn : Px.isNil v = true) : n = 0 := by
  obtain ⟨p, c, rfl, _, _, h4⟩ := h
  rcases h4 with h4 | ⟨b, o, cs, e', fr, rfl, _⟩
  · exact h4
  · cases hn
theorem q_slEqNil (hx : ev l x = some v) (hu : P.underlying t = some (.slice e)) (h : Rd R' sz v n xs) : OpQ P R ⟨d, .binOp .eql t x (.const (.slice none 0 0)) t', ty, pos, af, g⟩ l (.bool (isNil v)) := fun N a w ha hw => by
  have hy : a.eval (.const (.slice none 0 0)) = .slice none 0 0 := rfl
  obtain ⟨p, c, rfl, _⟩ := h
  simp only [execOp, ha.ev hx, hy, Sem.run_bind]
  have : (Op.equal t (.slice p n c) (.slice none 0 0)).run P w = .ok p.isNone w := by
    show (Op.equalIn (9999 + 1) t (.slice p n c) (.slice none 0 0)).run P w = .ok p.isNone w
    rw [Op.equalIn]
    cases p <;> simp [run_underlying hu]
  simp [eqGuard, binOp, this]
  cases p <;> rfl
end
section
variable {C : Cx} {l : Env} {M J : Mem} {K : Env → Mem → Mem → Prop} {d : Nat} {s t e ty : TypeId} {pos : String} {af : Array Edge} {g : Option (Nat × Bool)} {x y : Operand} {ws : List Nat} {S : ByteArray}
/-- '[]byte(s)', to be read alone. -/
theorem l_toBytes (hx : ev l x = some (.string S)) (hS : S = txt ws) (h256 : ∀ x ∈ ws, x < 256) (hs : C.P.underlying s = some .string) (ht : C.P.underlying t = some (.slice e)) (he : C.P.underlying e = some (.int .u8)) (hd : Nat.blt d C.N = true)
    (k : ∀ v B, Rd B 1 v ws.length (nums .u8 ws) → K ((d, v) :: l) (B ++ M) J) : OpL C ⟨some d, .convert s t x, ty, pos, af, g⟩ l M J K := by
  subst hS
  intro Qp a w ha hw
  unfold Oper.wp
  simp only [execOp, ha.ev hx, Sem.run_bind, Lib.run_convert_string_bytes w s t e (txt ws) hs ht he, Result.andThen_ok, Sem.run_pure]
  have hsz : (txt ws).size = ws.length := txt_size' ws
  have e1 : Lib.bytesWorld w e (txt ws) = w.drew.alloc (.cells (Lib.bytesCells w e (txt ws)) e ((Lib.bytesCells w e (txt ws)).size, (Lib.bytesCells w e (txt ws)).size + 1)) := by
    have hh : (Lib.bytesWorld w e (txt ws)).heap = (w.drew.alloc (.cells (Lib.bytesCells w e (txt ws)) e ((Lib.bytesCells w e (txt ws)).size, (Lib.bytesCells w e (txt ws)).size + 1))).heap := by
      apply Array.ext_getElem?
      intro i
      rcases Nat.lt_trichotomy i w.heap.size with h | h | h
      · rw [Lib.bytesWorld_at_old w e _ i h]; simp [World.alloc, World.drew, Array.getElem?_push, -World.alloc_eq, -World.drew_eq]; omega
      · subst h; rw [Lib.bytesWorld_at_new]; simp [World.alloc, World.drew, -World.alloc_eq, -World.drew_eq]
      · rw [Array.getElem?_eq_none (by rw [Lib.bytesWorld_size]; omega), Array.getElem?_eq_none (by simp [World.alloc, World.drew, -World.alloc_eq, -World.drew_eq]; omega)]
    have : Lib.bytesWorld w e (txt ws) = { w.drew with heap := (Lib.bytesWorld w e (txt ws)).heap } := rfl
    rw [this, hh]; rfl
  rw [e1]
  have hg : ws.length ≤ grownCap w (txt ws).size 0 e := hsz ▸ grownCap_ge w (txt ws).size 0 e
  refine ⟨_, _, J, ha.put (blt_lt hd) _, hw.drew.alloc _, k _ [(_, _)] ⟨some ⟨w.heap.size, 0, none⟩, grownCap w (txt ws).size 0 e, by rw [hsz], by simp, hg, .inr ⟨w.heap.size, 0, (Lib.bytesCells w e (txt ws)).toList, e, _, rfl, List.mem_singleton.2 rfl, fun j u hj => ?_⟩⟩⟩
  have hjl : j < ws.length := by have := (List.getElem?_eq_some_iff.1 hj).1; simpa using this
  rw [nums_get hjl] at hj
  cases hj
  have h1 := getD_lt (i := j) h256 (by decide)
  rw [Nat.zero_add, Array.getElem?_toList]
  unfold Lib.bytesCells
  rw [Array.getElem?_append_left (by simpa [txt] using hjl)]
  simp [txt, hjl, List.getD]
  have : ws[j]?.getD 0 < 256 := h1
  rw [List.getElem?_eq_getElem hjl] at this
  simp at this
  omega
end
end Go.Px

/-
  Slices of byte slices.
-/
set_option linter.unusedVariables false
set_option linter.unusedSimpArgs false
namespace Go.Px
open Go.ChangeShapes Go.WideShapes Go.ChangeAt Go.RowKit
/-- The values 'vs' are slices of the bytes 'ls'. -/
structure Bys (R : Mem) (vs : List Value) (ls : List (List Nat)) : Prop where
  len : vs.length = ls.length
  get : ∀ (j : Nat) (w : List Nat), ls[j]? = some w → ∃ v, vs[j]? = some v ∧ Rd R 1 v w.length (nums .u8 w) ∧ (∀ x ∈ w, x < 256) ∧ w.length ≤ maxLen
theorem Bys.mono {R R' : Mem} {vs : List Value} {ls : List (List Nat)} (h : Bys R vs ls) (hR : ∀ x, x ∈ R → x ∈ R') : Bys R' vs ls := ⟨h.len, fun j w hj => by
  obtain ⟨v, h1, h2, h3, h4⟩ := h.get j w hj
  exact ⟨v, h1, h2.mono hR, h3, h4⟩⟩
theorem Bys.at {R : Mem} {vs : List Value} {ls : List (List Nat)} (h : Bys R vs ls) {j : Nat} (hj : j < ls.length) : ∃ v, vs[j]? = some v ∧ Rd R 1 v ls[j].length (nums .u8 ls[j]) ∧ B256 ls[j] ∧ ls[j].length ≤ maxLen := by
  obtain ⟨v, h1, h2, h3, h4⟩ := h.get j ls[j] (List.getElem?_eq_getElem hj)
  exact ⟨v, h1, h2, ⟨h3⟩, h4⟩
theorem Bys.nil {R : Mem} : Bys R [] [] := ⟨rfl, fun j w h => by simp at h⟩
theorem Bys.snoc {R : Mem} {vs : List Value} {ls : List (List Nat)} (h : Bys R vs ls) {v : Value} {w : List Nat} (hv : Rd R 1 v w.length (nums .u8 w)) (hb : ∀ x ∈ w, x < 256) (hl : w.length ≤ maxLen) : Bys R (vs ++ [v]) (ls ++ [w]) := ⟨by simp [h.len], fun j u hj => by
  by_cases hlt : j < ls.length
  · rw [List.getElem?_append_left hlt] at hj
    obtain ⟨v', h1, h2⟩ := h.get j u hj
    exact ⟨v', by rw [List.getElem?_append_left (List.getElem?_eq_some_iff.1 h1).1]; exact h1, h2⟩
  · rw [List.getElem?_append_right (by omega)] at hj
    have hj0 : j = ls.length := by
      have := (List.getElem?_eq_some_iff.1 hj).1
      simp at this; omega
    subst hj0
    simp at hj
    subst hj
    exact ⟨v, by rw [List.getElem?_append_right (by rw [h.len]; omega), h.len]; simp, hv, hb, hl⟩⟩
theorem Bys.cons {R : Mem} {vs : List Value} {ls : List (List Nat)} (h : Bys R vs ls) {v : Value} {w : List Nat} (hv : Rd R 1 v w.length (nums .u8 w)) (hb : ∀ x ∈ w, x < 256) (hl : w.length ≤ maxLen) : Bys R (v :: vs) (w :: ls) := ⟨by simp [h.len], fun j u hj => by
  cases j with
  | zero => simp at hj; subst hj; exact ⟨v, rfl, hv, hb, hl⟩
  | succ j => exact h.get j u hj⟩
theorem Bys.one {R : Mem} {vs : List Value} {ls : List (List Nat)} (h : Bys R vs ls) : ∀ c ∈ vs, c.oneCell' = true := by
  intro c hc
  obtain ⟨j, hj⟩ := List.getElem?_of_mem hc
  have hlt := (List.getElem?_eq_some_iff.1 hj).1
  rw [h.len] at hlt
  obtain ⟨v, h1, h2, _⟩ := h.at hlt
  rw [hj] at h1
  cases h1
  obtain ⟨p, cap, rfl, _⟩ := h2
  rfl
section
variable {H : Type} {enc : TypeId × Value → H} {P : Program} {w : World} {spare : Nat → Bool} {held : Bool} {fuel : Nat} {t e e' : TypeId} {cs : List Value} {x : DataW H × List MemPlace} {v : Value} {d : DataW H} {p : List MemPlace} {r : Reach} {base : Nat}
theorem bys_of (he : P.underlying e = some (.slice e')) (he' : P.underlying e' = some (.int .u8)) (hc' : P.cellsOf e' = 1) {xss : List (List Value)} (h : ∀ c ∈ xss, c.length = 1 ∧ ∃ m y, DataW.trod enc P w 0 spare held m e c = some y) :
    ∃ (vs : List Value) (ls : List (List Nat)), xss.flatten = vs ∧ ls.length = xss.length ∧ Bys (heapA w) vs ls := by
  induction xss with
  | nil => exact ⟨[], [], rfl, rfl, .nil⟩
  | cons c xss ih =>
    obtain ⟨vs, ls, h1, h2, h3⟩ := ih fun c hc => h c (by simp [hc])
    obtain ⟨_, m, y, h4⟩ := h c (by simp)
    obtain ⟨v, yss, rfl, g2, g3, g4⟩ := in_slice he hc' (by decide) h4
    obtain ⟨ws, k1, k2, k3⟩ := uints_of (k := .u8) rfl he' g4
    refine ⟨v :: vs, ws :: ls, by rw [List.flatten_cons, h1]; rfl, by simp [h2], h3.cons ?_ k3 (by omega)⟩
    rw [k2, ← k1]; exact g3
theorem inBys (ht : P.underlying t = some (.slice e)) (hc : P.cellsOf e = 1) (he : P.underlying e = some (.slice e')) (he' : P.underlying e' = some (.int .u8)) (hc' : P.cellsOf e' = 1) (hv : Value.okWide P w r base t v) (h : DataW.Trod enc P w 0 spare held t v d p) :
    ∃ (vs : List Value) (ls : List (List Nat)), Rd (heapA w) 1 v ls.length vs ∧ Bys (heapA w) vs ls ∧ ls.length ≤ maxLen := by
  obtain ⟨a, len, cap, rfl⟩ := okWide_slice ht hv
  obtain ⟨f, hf⟩ := h
  obtain ⟨v, xss, h1, h2, h3, h4⟩ := in_slice ht hc (by decide) hf
  obtain ⟨vs, ls, h5, h6, h7⟩ := bys_of he he' hc' h4
  obtain rfl : Value.slice a len cap = v := by simpa [Value.cells] using h1
  exact ⟨vs, ls, by rw [h6, ← h5]; exact h3, h7, by omega⟩
end
end Go.Px

