/- Part 9 of the texts of this claim, one behind the other. -/
import Derived.Test.YthbhpfefdnffaaaGreatDoorB8
import Derived.Laws.Strings
set_option linter.unusedVariables false
set_option linter.unusedSimpArgs false
set_option maxRecDepth 100000
namespace Go.Proofs.YthbhpfefdnffaaaGreatDoor
open Go.Px
def A0v : List Nat → List Value
  | [] => []
  | x :: r => .int .u64 ((x / 18446744073709551616 : Nat) : Int) :: .int .u64 ((x % 18446744073709551616 : Nat) : Int) :: A0v r
theorem B0K (Xs : List Nat) : (A0v Xs).length = 2 * Xs.length := by
  induction Xs with
  | nil => rfl
  | cons x r ih => simp [A0v, ih]; omega
theorem A6h : ∀ (Xs : List Nat) (j : Nat), j < Xs.length → (A0v Xs)[2 * j]? = some (.int .u64 ((Xs.getD j 0 / 18446744073709551616 : Nat) : Int)) ∧ (A0v Xs)[2 * j + 1]? = some (.int .u64 ((Xs.getD j 0 % 18446744073709551616 : Nat) : Int))
  | [], j, h => by simp at h
  | x :: r, 0, h => by simp [A0v]
  | x :: r, j + 1, h => by
    have := A6h r j (by simpa using h)
    rw [show 2 * (j + 1) = 2 * j + 1 + 1 by omega]
    simpa [A0v] using this
theorem A6i : ∀ (Xs : List Nat) (j x : Nat), j < Xs.length → (A0v Xs).take (2 * j) ++ [.int .u64 ((x / 18446744073709551616 : Nat) : Int), .int .u64 ((x % 18446744073709551616 : Nat) : Int)] ++ (A0v Xs).drop (2 * j + 2) = A0v (Xs.set j x)
  | [], j, x, h => by simp at h
  | y :: r, 0, x, h => by simp [A0v]
  | y :: r, j + 1, x, h => by
    have := A6i r j x (by simpa using h)
    rw [show 2 * (j + 1) = 2 * j + 1 + 1 by omega]
    simp only [A0v, List.take_succ_cons, List.cons_append, List.drop_succ_cons, List.set_cons_succ, this]
theorem B8B {P : Program} {R : Mem} {l : Env} {d : Option Nat} {ty t : TypeId} {pos : String} {af : Array Edge} {g : Option (Nat × Bool)} {x : Operand} {b o : Nat} {Xs : List Nat} {e : TypeId} {fr : Nat × Nat} (j : Nat) (hx : ev l x = some (.pointer (some ⟨b, o, none⟩))) (ht : A8U P t = some 2)
    (hb : (b, Obj.cells (A0v Xs).toArray e fr) ∈ R) (ho : o = 2 * j) (hj : j < Xs.length) : OpQ P R ⟨d, .load t x, ty, pos, af, g⟩ l (wd (Xs.getD j 0 / 18446744073709551616) (Xs.getD j 0 % 18446744073709551616)) := by
  subst ho
  obtain ⟨h1, h2⟩ := A6h Xs j hj
  refine A4z (vs := [.int .u64 ((Xs.getD j 0 / 18446744073709551616 : Nat) : Int), .int .u64 ((Xs.getD j 0 % 18446744073709551616 : Nat) : Int)]) hx ht hb rfl ?_
  intro i v hv
  match i, hv with
  | 0, hv => cases hv; exact h1
  | 1, hv => cases hv; exact h2
  | i + 2, hv => simp at hv
theorem B8C {C : Cx} {l : Env} {M J : Mem} {K : Env → Mem → Mem → Prop} {ty t : TypeId} {pos : String} {af : Array Edge} {g : Option (Nat × Bool)} {x y : Operand} {b o hi lo X : Nat} {Xs : List Nat} {e : TypeId} {M' : Mem} (j : Nat) (hx : ev l x = some (.pointer (some ⟨b, o, none⟩))) (hy : ev l y = some (wd hi lo))
    (ht : N8 C.P t = some 2) (ho : o = 2 * j) (hj : j < Xs.length) (hh : hi < 18446744073709551616) (hl : lo < 18446744073709551616) (hX : hi * 18446744073709551616 + lo = X) (hu : Upd M b (blk (A0v Xs) e) (blk (A0v (Xs.set j X)) e) M') (k : K l M' J) :
    OpL C ⟨none, .store t x y, ty, pos, af, g⟩ l M J K := by
  subst ho
  refine A4A (vs := [.int .u64 (hi : Int), .int .u64 (lo : Int)]) hx hy rfl ht (by rw [B0K]; simp; omega) (by simp [Value.oneCell']) ?_ hu k
  rw [← A6i Xs j X hj]
  have e1 : X / 18446744073709551616 = hi := by omega
  have e2 : X % 18446744073709551616 = lo := by omega
  rw [e1, e2]; rfl
theorem A3Y {a : Nat} (h : a < 4503599627370496) : a < 18446744073709551616 := by omega
theorem B9G (h l : Nat) : l % 2251799813685248 = (h * 18446744073709551616 + l) % 2251799813685248 := by omega
theorem lowM (x : Nat) : x % 18446744073709551616 % 2251799813685248 = x % 2251799813685248 := by omega
theorem B9H (x : Nat) : x % 2251799813685248 < 4503599627370496 := by omega
theorem B8D {z1 z2 z3 z4 z5 y1 y2 y3 y4 y5 b : Nat} (h1 : z1 ≤ y1) (h2 : z2 ≤ y2) (h3 : z3 ≤ y3) (h4 : z4 ≤ y4) (h5 : z5 ≤ y5) (hb : y1 + y2 + y3 + y4 + y5 < b) : z1 + z2 + z3 + z4 + z5 < b := by omega
theorem back (X : Nat) : X / 18446744073709551616 * 18446744073709551616 + X % 18446744073709551616 = X := by omega
theorem B8E {xs : List Nat} {b i : Nat} (h : ∀ x ∈ xs, x < b) (hb : 0 < b) : xs.getD i 0 < b := getD_lt h hb
theorem A1S (v u : Value) (x y : Nat) (hx : Fe v x) (hy : Fe u y) (A : Mem) : FnX Tryz.prog 135 [v, u] [] A fun r M J => M = [] ∧ J = [] ∧ Fe r (x * y % p25) := by
 obtain ⟨a, b, c, d, e, rfl, hl0, hl1, hl2, hl3, hl4, rfl⟩ := hx
 obtain ⟨u0, u1, u2, u3, u4, rfl, hu0, hu1, hu2, hu3, hu4, rfl⟩ := hy
 refine FnX.enter (N := 105) Tryz.func135 rfl rfl rfl fun w => ?_
 refine C4 (D5 0 1) (A3 ?_)
 refine A6 rfl (bx_ fun b2 => ?_)
 refine A6 rfl (bx_ fun b3 => ?_)
 refine A6 rfl (C5 (cs := [A7, A7, A7, A7, A7]) kR rfl fun b4 => ?_)
 refine A0 (E1 2 3 4) (A3 ?_)
 refine A6 rfl (C5 (cs := [A7, A7, A7, A7, A7, A7, A7, A7, A7, A7]) kR rfl fun b5 => ?_)
 refine A0 (E7 2 3 4 5) (A5 (A3 (mv_ (A0 (F7 2 3 4 5 10) (C0 ?_)))))
 have has : ∀ x ∈ [a, b, c, d, e], x < 4503599627370496 := by intro x hx; simp only [List.mem_cons, List.not_mem_nil, or_false] at hx; rcases hx with rfl | rfl | rfl | rfl | rfl <;> assumption
 have hbs : ∀ x ∈ [u0, u1, u2, u3, u4], x < 4503599627370496 := by intro x hx; simp only [List.mem_cons, List.not_mem_nil, or_false] at hx; rcases hx with rfl | rfl | rfl | rfl | rfl <;> assumption
 have hall := B3h a b c d e u0 u1 u2 u3 u4 hl0 hl1 hl2 hl3 hl4 hu0 hu1 hu2 hu3 hu4
 have hla : [a, b, c, d, e].length = 5 := rfl
 have hlb : [u0, u1, u2, u3, u4].length = 5 := rfl
 refine A0B (M' := [(b5, blk (A0v [0, 0, 0, 0, 0]) 239), (b4, blk [.int .u64 0, .int .u64 0, .int .u64 0, .int .u64 0, .int .u64 0] 205), (b3, blk (nums .u64 [u0, u1, u2, u3, u4]) 205), (b2, blk (nums .u64 [a, b, c, d, e]) 205)]) (Fit.eq rfl) (fun _ h => h) ?_
 generalize [a, b, c, d, e] = xs at *
 generalize [u0, u1, u2, u3, u4] = ys at *
 refine F2 (α := Nat) (fun i => [(2, .pointer (some ⟨b2, 0, none⟩)), (3, .pointer (some ⟨b3, 0, none⟩)), (4, .pointer (some ⟨b4, 0, none⟩)), (5, .pointer (some ⟨b5, 0, none⟩)), (10, .int .i64 (i : Int))]) (fun i => [(b5, blk (A0v (A47 xs ys i)) 239), (b4, blk [.int .u64 0, .int .u64 0, .int .u64 0, .int .u64 0, .int .u64 0] 205), (b3, blk (nums .u64 ys) 205), (b2, blk (nums .u64 xs) 205)]) (fun _ => []) (fun i => i ≤ 5) (fun i => 5 - i) 0 (by decide) (F7 2 3 4 5 10) .rfl (fun _ h => h) ?_
 rintro i hi
 refine A3 ?_
 refine A4 (F1 rfl rfl rfl) rfl ?_
 refine A0 (I5 2 3 4 5 10 11) (A5 ?_)
 refine C8 rfl (fun hc => ?_) (fun hc => ?_)
 ·
  have hi5 : i < 5 := by simp at hc; omega
  have hfa : xs.getD i 0 < 4503599627370496 := B8E has (by decide)
  refine A9 (nx (F7 2 3 4 5 10) (A5 (C0 (A3 (mv_ (as_ (A0 (I5 2 3 4 5 6 10) (A3 ?_))))))))
  refine mv_ (A0 (X3 2 3 4 5 6 10 13) (C0 ?_))
  refine F2 (α := Nat) (fun k => [(2, .pointer (some ⟨b2, 0, none⟩)), (3, .pointer (some ⟨b3, 0, none⟩)), (4, .pointer (some ⟨b4, 0, none⟩)), (5, .pointer (some ⟨b5, 0, none⟩)), (6, .int .i64 (i : Int)), (10, .int .i64 (i : Int)), (13, .int .i64 (k : Int))]) (fun k => [(b5, blk (A0v (A46 xs ys i k (A47 xs ys i))) 239), (b4, blk [.int .u64 0, .int .u64 0, .int .u64 0, .int .u64 0, .int .u64 0] 205), (b3, blk (nums .u64 ys) 205), (b2, blk (nums .u64 xs) 205)]) (fun _ => []) (fun k => k ≤ 5) (fun k => 5 - k) 0 (by decide) (X3 2 3 4 5 6 10 13) .rfl (fun _ h => h) ?_
  rintro k hk
  refine A3 ?_
  refine A4 (F1 rfl rfl rfl) rfl ?_
  refine A0 (A14 2 3 4 5 6 10 13 14) (A5 ?_)
  refine C8 rfl (fun hc => ?_) (fun hc => ?_)
  ·
   have hk5 : k < 5 := by simp at hc; omega
   have hfb : ys.getD k 0 < 4503599627370496 := B8E hbs (by decide)
   have hlx : (A46 xs ys i k (A47 xs ys i)).length = 5 := by rw [A8h, B3g]
   have hXlt : ∀ j, (A46 xs ys i k (A47 xs ys i)).getD j 0 < 340282366920938463463374607431768211456 := fun j => getD_lt (B0F xs ys i k (B6u xs ys i)) (by decide)
   refine A9 (nx (X3 2 3 4 5 6 10 13) (A5 (C0 (A3 (mv_ (as_ (A0 (A14 2 3 4 5 6 7 10 13) (A3 ?_))))))))
   refine mv_ (mv_ ?_)
   refine A4 (E4 ((i + k : Nat) : Int) rfl rfl (G3 (by omega) (by omega) (by omega))) rfl ?_
   refine A4 (F1 rfl rfl rfl) rfl ?_
   refine A0 (A6U 2 3 4 5 6 7 10 13 19) ?_
   refine C8 rfl (fun hc => ?_) (fun hc => ?_)
   ·
    have hs5 : i + k < 5 := by simp at hc; omega
    have hj : B6s i k = i + k := by unfold B6s; rw [if_pos hs5]
    have hfx : B7U xs i k = xs.getD i 0 := by unfold B7U; rw [if_pos hs5]
    refine I6 (.range 16) (zp 0 [0, 0, 0, 0, 0, 0, 0, 1, 0, 0, 1, 0, 0, 1, 2, 0, 2]) kR kR fun hs => ?_
    refine fm_ hs ?_
    refine fm_ hs ?_
    refine D1 hs rfl (E4 ((i + k : Nat) : Int) rfl rfl (G3 (by omega) (by omega) (by omega))) rfl ?_
    refine fm_ hs ?_
    refine fm_ hs ?_
    refine D1 hs rfl (E4 ((i + k : Nat) : Int) rfl rfl (G3 (by omega) (by omega) (by omega))) rfl ?_
    refine D1 hs rfl (E5 (e := 238) (n := 5) (sz := 2) (i := i + k) rfl rfl kR kR rfl (by omega)) rfl ?_
    refine F6 hs rfl (B8B (i + k) rfl kR At.mem (by omega) (by omega)) rfl ?_
    refine fm_ hs ?_
    refine D1 hs rfl (E5 (e := 143) (n := 5) (sz := 1) (i := i) rfl rfl kR kR rfl (by omega)) rfl ?_
    refine F6 hs rfl (Q0 i rfl kR (by first | exact At.mem | exact mA (by assumption)) (by omega) (by omega)) rfl ?_
    refine fm_ hs ?_
    refine D1 hs rfl (E5 (e := 143) (n := 5) (sz := 1) (i := k) rfl rfl kR kR rfl (by omega)) rfl ?_
    refine F6 hs rfl (Q0 k rfl kR (by first | exact At.mem | exact mA (by assumption)) (by omega) (by omega)) rfl ?_
    refine G1 rfl (aS rfl (aS rfl (aS rfl a0))) kR (A3v _ _ _ _ (by have := hXlt (i + k); omega) (Nat.mod_lt _ (by decide)) (A3Y hfa) (A3Y hfb) _) rfl ?_
    rintro r1 M1 J1 ⟨rfl, rfl, h1, l1, rfl, g1, k1, e1⟩
    rw [back] at e1
    refine D1 hs rfl (E5 (e := 238) (n := 5) (sz := 2) (i := i + k) rfl rfl kR kR rfl (by omega)) rfl ?_
    refine G2 rfl rfl rfl (B8C (Xs := A46 xs ys i k (A47 xs ys i)) (i + k) rfl rfl kR (by omega) (by omega) g1 k1 e1 UpC.upd ?_)
    rw [show (A46 xs ys i k (A47 xs ys i)).set (i + k) (((A46 xs ys i k (A47 xs ys i)).getD (i + k) 0 + xs.getD i 0 * ys.getD k 0) % 340282366920938463463374607431768211456) = A46 xs ys i (k + 1) (A47 xs ys i) by rw [A46, B0E, hj, hfx]]
    refine V0 (nb (nx (X3 2 3 4 5 6 10 13) (C3 ?_)))
    refine A4 (E4 ((k + 1 : Nat) : Int) rfl rfl (G3 (by omega) (by omega) (by omega))) rfl ?_
    refine mv_ (D0 ?_)
    exact rn (k + 1) (by omega) (by omega) (X3 2 3 4 5 6 10 13) .rfl (fun _ h => h)
   ·
    have hs5 : ¬ i + k < 5 := by simp at hc; omega
    have hj : B6s i k = i + k - 5 := by unfold B6s; rw [if_neg hs5]
    have hfx : B7U xs i k = 19 * xs.getD i 0 % 18446744073709551616 := by unfold B7U; rw [if_neg hs5]
    refine I6 (.range 19) (zp 0 [0, 0, 0, 0, 0, 0, 0, 0, 0, 1, 0, 0, 1, 0, 0, 0, 1, 2, 0, 2]) kR kR fun hs => ?_
    refine fm_ hs ?_
    refine fm_ hs ?_
    refine D1 hs rfl (E4 ((i + k : Nat) : Int) rfl rfl (G3 (by omega) (by omega) (by omega))) rfl ?_
    refine D1 hs rfl (E4 ((i + k - 5 : Nat) : Int) rfl rfl (Y8 (by omega) (by omega) (by omega))) rfl ?_
    refine fm_ hs ?_
    refine fm_ hs ?_
    refine D1 hs rfl (E4 ((i + k : Nat) : Int) rfl rfl (G3 (by omega) (by omega) (by omega))) rfl ?_
    refine D1 hs rfl (E4 ((i + k - 5 : Nat) : Int) rfl rfl (Y8 (by omega) (by omega) (by omega))) rfl ?_
    refine D1 hs rfl (E5 (e := 238) (n := 5) (sz := 2) (i := i + k - 5) rfl rfl kR kR rfl (by omega)) rfl ?_
    refine F6 hs rfl (B8B (i + k - 5) rfl kR At.mem (by omega) (by omega)) rfl ?_
    refine fm_ hs ?_
    refine D1 hs rfl (E5 (e := 143) (n := 5) (sz := 1) (i := i) rfl rfl kR kR rfl (by omega)) rfl ?_
    refine F6 hs rfl (Q0 i rfl kR (by first | exact At.mem | exact mA (by assumption)) (by omega) (by omega)) rfl ?_
    refine D1 hs rfl (R6 18446744073709551616 (a := 19) rfl rfl rfl rfl rfl rfl) rfl ?_
    refine fm_ hs ?_
    refine D1 hs rfl (E5 (e := 143) (n := 5) (sz := 1) (i := k) rfl rfl kR kR rfl (by omega)) rfl ?_
    refine F6 hs rfl (Q0 k rfl kR (by first | exact At.mem | exact mA (by assumption)) (by omega) (by omega)) rfl ?_
    refine G1 rfl (aS rfl (aS rfl (aS rfl a0))) kR (A3v _ _ _ _ (by have := hXlt (i + k - 5); omega) (Nat.mod_lt _ (by decide)) (Nat.mod_lt _ (by decide)) (A3Y hfb) _) rfl ?_
    rintro r1 M1 J1 ⟨rfl, rfl, h1, l1, rfl, g1, k1, e1⟩
    rw [back] at e1
    refine D1 hs rfl (E5 (e := 238) (n := 5) (sz := 2) (i := i + k - 5) rfl rfl kR kR rfl (by omega)) rfl ?_
    refine G2 rfl rfl rfl (B8C (Xs := A46 xs ys i k (A47 xs ys i)) (i + k - 5) rfl rfl kR (by omega) (by omega) g1 k1 e1 UpC.upd ?_)
    rw [show (A46 xs ys i k (A47 xs ys i)).set (i + k - 5) (((A46 xs ys i k (A47 xs ys i)).getD (i + k - 5) 0 + (19 * xs.getD i 0 % 18446744073709551616) * ys.getD k 0) % 340282366920938463463374607431768211456) = A46 xs ys i (k + 1) (A47 xs ys i) by rw [A46, B0E, hj, hfx]]
    refine V0 (nb (nx (X3 2 3 4 5 6 10 13) (C3 ?_)))
    refine A4 (E4 ((k + 1 : Nat) : Int) rfl rfl (G3 (by omega) (by omega) (by omega))) rfl ?_
    refine mv_ (D0 ?_)
    exact rn (k + 1) (by omega) (by omega) (X3 2 3 4 5 6 10 13) .rfl (fun _ h => h)
  ·
   have hk5 : k = 5 := by simp at hc; omega
   subst hk5
   refine E6 (te (re (be rfl (nb (nx (F7 2 3 4 5 10) (C3 ?_))))))
   refine A4 (E4 ((i + 1 : Nat) : Int) rfl rfl (G3 (by omega) (by omega) (by omega))) rfl ?_
   refine mv_ (D0 ?_)
   exact rn (i + 1) (by omega) (by omega) (F7 2 3 4 5 10) .rfl (fun _ h => h)
 ·
  have hi5 : i = 5 := by simp at hc; omega
  subst hi5
  rw [hall]
  clear hall
  have z00 := zb hl0 hu0
  have z01 := A4l hl1 hu4
  have z02 := A4l hl2 hu3
  have z03 := A4l hl3 hu2
  have z04 := A4l hl4 hu1
  have y0 := B8D z00 z01 z02 z03 z04 (b := 2596148429267413814265248164610048) (by decide)
  clear z00 z01 z02 z03 z04
  have z10 := zb hl0 hu1
  have z11 := zb hl1 hu0
  have z12 := A4l hl2 hu4
  have z13 := A4l hl3 hu3
  have z14 := A4l hl4 hu2
  have y1 := B8D z10 z11 z12 z13 z14 (b := 2596148429267413814265248164610048) (by decide)
  clear z10 z11 z12 z13 z14
  have z20 := zb hl0 hu2
  have z21 := zb hl1 hu1
  have z22 := zb hl2 hu0
  have z23 := A4l hl3 hu4
  have z24 := A4l hl4 hu3
  have y2 := B8D z20 z21 z22 z23 z24 (b := 2596148429267413814265248164610048) (by decide)
  clear z20 z21 z22 z23 z24
  have z30 := zb hl0 hu3
  have z31 := zb hl1 hu2
  have z32 := zb hl2 hu1
  have z33 := zb hl3 hu0
  have z34 := A4l hl4 hu4
  have y3 := B8D z30 z31 z32 z33 z34 (b := 2596148429267413814265248164610048) (by decide)
  clear z30 z31 z32 z33 z34
  have z40 := zb hl0 hu4
  have z41 := zb hl1 hu3
  have z42 := zb hl2 hu2
  have z43 := zb hl3 hu1
  have z44 := zb hl4 hu0
  have y4 := B8D z40 z41 z42 z43 z44 (b := 162259276829213363391578010288128) (by decide)
  clear z40 z41 z42 z43 z44
  have hring := B3f a b c d e u0 u1 u2 u3 u4
  generalize a * u0 + 19 * b * u4 + 19 * c * u3 + 19 * d * u2 + 19 * e * u1 = R0 at *
  generalize a * u1 + b * u0 + 19 * c * u4 + 19 * d * u3 + 19 * e * u2 = R1 at *
  generalize a * u2 + b * u1 + c * u0 + 19 * d * u4 + 19 * e * u3 = R2 at *
  generalize a * u3 + b * u2 + c * u1 + d * u0 + 19 * e * u4 = R3 at *
  generalize a * u4 + b * u3 + c * u2 + d * u1 + e * u0 = R4 at *
  have x0 : R0 / 18446744073709551616 < 18446744073709551616 := by omega
  have x1 : R1 / 18446744073709551616 < 18446744073709551616 := by omega
  have x2 : R2 / 18446744073709551616 < 18446744073709551616 := by omega
  have x3 : R3 / 18446744073709551616 < 18446744073709551616 := by omega
  have x4 : R4 / 18446744073709551616 < 18446744073709551616 := by omega
  simp only [A0v]
  refine E6 (te (re (be rfl (nx (D5 4 5) (A3 ?_)))))
  refine A6 rfl (C5 (cs := [A7, A7, A7, A7, A7]) kR rfl fun b8 => ?_)
  refine A0 (E1 4 5 8) (A5 (A3 (mv_ (A0 (E7 4 5 8 57) (C0 ?_)))))
  refine X7 5 ?_
  refine G6 ?_
  refine A3 ?_
  refine A4 (F9 true rfl rfl (ltT (by decide))) rfl ?_
  refine A0 (F7 4 5 8 57 58) (A5 ?_)
  refine E2 rfl ?_
  refine A9 (nx (E7 4 5 8 57) (A5 (C0 (A3 (mv_ (as_ (A0 (F7 4 5 8 9 57) ?_)))))))
  refine D2 (.range 12) (zp 0 [0, 0, 0, 0, 0, 1, 0, 0, 1, 2, 2, 0, 2]) kR kR fun hs => ?_
  refine fm_ hs ?_
  refine D1 hs rfl (E4 (1 : Int) rfl rfl (G3 (by decide) (by decide) (by decide))) rfl ?_
  refine fm_ hs ?_
  refine D1 hs rfl (E4 (1 : Int) rfl rfl (G3 (by decide) (by decide) (by decide))) rfl ?_
  refine D1 hs rfl (qi_ 2 238 5 2 1) rfl ?_
  refine F6 hs rfl (G5 (n := 2) rfl kR (by first | exact At.mem | exact mA (by assumption)) TakeC.take) rfl ?_
  refine fm_ hs ?_
  refine D1 hs rfl (qi_ 0 238 5 2 0) rfl ?_
  refine F6 hs rfl (G5 (n := 2) rfl kR (by first | exact At.mem | exact mA (by assumption)) TakeC.take) rfl ?_
  refine R9 rfl (aS rfl a0) kR (A0k _ _ (by first | assumption | exact A3Y (by assumption) | decide | exact Nat.mod_lt _ (by decide)) (by first | assumption | exact A3Y (by assumption) | decide | exact Nat.mod_lt _ (by decide)) _) rfl ?_
  refine G1 rfl (aS rfl (aS rfl a0)) kR (A03 _ _ _ (by first | assumption | exact A3Y (by assumption) | decide | exact Nat.mod_lt _ (by decide)) (by first | assumption | exact A3Y (by assumption) | decide | exact Nat.mod_lt _ (by decide)) (Nat.mod_lt _ (by decide)) _) rfl ?_
  rintro r1 M1 J1 ⟨rfl, rfl, h1, l1, rfl, g1, k1, qq1⟩
  refine D1 hs rfl (qi_ 2 238 5 2 1) rfl ?_
  refine G2 rfl rfl rfl (A2N rfl rfl kR al2 UpC.upd ?_)
  refine E3 (F7 4 5 8 9 57) (C3 (mv_ (mv_ ?_)))
  refine A4 (qi_ 0 238 5 2 0) rfl ?_
  refine A4 (qf_ 1 1) rfl ?_
  refine A4 ql_ rfl ?_
  refine A4 (L9 51 2251799813685248 rfl rfl rfl rfl rfl (by show _ < 18446744073709551616; first | assumption | exact Nat.mod_lt _ (by decide) | omega) (by decide)) rfl ?_
  refine A4 (qi_ 0 143 5 1 0) rfl ?_
  refine A6 rfl (D9 rfl rfl rfl kR SetC.set UpC.upd ?_)
  refine D0 (nb (nx (E7 4 5 8 57) (C3 ?_)))
  refine A4 (E4 (1 : Int) rfl rfl (G3 (by decide) (by decide) (by decide))) rfl ?_
  refine mv_ (D0 ?_)
  refine un (E7 4 5 8 57) ?_
  refine G6 ?_
  refine A3 ?_
  refine A4 (F9 true rfl rfl (ltT (by decide))) rfl ?_
  refine A0 (F7 4 5 8 57 58) (A5 ?_)
  refine E2 rfl ?_
  refine A9 (nx (E7 4 5 8 57) (A5 (C0 (A3 (mv_ (as_ (A0 (F7 4 5 8 9 57) ?_)))))))
  refine D2 (.range 12) (zp 0 [0, 0, 0, 0, 0, 1, 0, 0, 1, 2, 2, 0, 2]) kR kR fun hs => ?_
  refine fm_ hs ?_
  refine D1 hs rfl (E4 (2 : Int) rfl rfl (G3 (by decide) (by decide) (by decide))) rfl ?_
  refine fm_ hs ?_
  refine D1 hs rfl (E4 (2 : Int) rfl rfl (G3 (by decide) (by decide) (by decide))) rfl ?_
  refine D1 hs rfl (qi_ 4 238 5 2 2) rfl ?_
  refine F6 hs rfl (G5 (n := 2) rfl kR (by first | exact At.mem | exact mA (by assumption)) TakeC.take) rfl ?_
  refine fm_ hs ?_
  refine D1 hs rfl (qi_ 2 238 5 2 1) rfl ?_
  refine F6 hs rfl (G5 (n := 2) rfl kR (by first | exact At.mem | exact mA (by assumption)) TakeC.take) rfl ?_
  refine R9 rfl (aS rfl a0) kR (A0k _ _ (by first | assumption | exact A3Y (by assumption) | decide | exact Nat.mod_lt _ (by decide)) (by first | assumption | exact A3Y (by assumption) | decide | exact Nat.mod_lt _ (by decide)) _) rfl ?_
  refine G1 rfl (aS rfl (aS rfl a0)) kR (A03 _ _ _ (by first | assumption | exact A3Y (by assumption) | decide | exact Nat.mod_lt _ (by decide)) (by first | assumption | exact A3Y (by assumption) | decide | exact Nat.mod_lt _ (by decide)) (Nat.mod_lt _ (by decide)) _) rfl ?_
  rintro r2 M2 J2 ⟨rfl, rfl, h2, l2, rfl, g2, k2, qq2⟩
  refine D1 hs rfl (qi_ 4 238 5 2 2) rfl ?_
  refine G2 rfl rfl rfl (A2N rfl rfl kR al2 UpC.upd ?_)
  refine E3 (F7 4 5 8 9 57) (C3 (mv_ (mv_ ?_)))
  refine A4 (qi_ 2 238 5 2 1) rfl ?_
  refine A4 (qf_ 3 1) rfl ?_
  refine A4 ql_ rfl ?_
  refine A4 (L9 51 2251799813685248 rfl rfl rfl rfl rfl (by show _ < 18446744073709551616; first | assumption | exact Nat.mod_lt _ (by decide) | omega) (by decide)) rfl ?_
  refine A4 (qi_ 1 143 5 1 1) rfl ?_
  refine A6 rfl (D9 rfl rfl rfl kR SetC.set UpC.upd ?_)
  refine D0 (nb (nx (E7 4 5 8 57) (C3 ?_)))
  refine A4 (E4 (2 : Int) rfl rfl (G3 (by decide) (by decide) (by decide))) rfl ?_
  refine mv_ (D0 ?_)
  refine un (E7 4 5 8 57) ?_
  refine G6 ?_
  refine A3 ?_
  refine A4 (F9 true rfl rfl (ltT (by decide))) rfl ?_
  refine A0 (F7 4 5 8 57 58) (A5 ?_)
  refine E2 rfl ?_
  refine A9 (nx (E7 4 5 8 57) (A5 (C0 (A3 (mv_ (as_ (A0 (F7 4 5 8 9 57) ?_)))))))
  refine D2 (.range 12) (zp 0 [0, 0, 0, 0, 0, 1, 0, 0, 1, 2, 2, 0, 2]) kR kR fun hs => ?_
  refine fm_ hs ?_
  refine D1 hs rfl (E4 (3 : Int) rfl rfl (G3 (by decide) (by decide) (by decide))) rfl ?_
  refine fm_ hs ?_
  refine D1 hs rfl (E4 (3 : Int) rfl rfl (G3 (by decide) (by decide) (by decide))) rfl ?_
  refine D1 hs rfl (qi_ 6 238 5 2 3) rfl ?_
  refine F6 hs rfl (G5 (n := 2) rfl kR (by first | exact At.mem | exact mA (by assumption)) TakeC.take) rfl ?_
  refine fm_ hs ?_
  refine D1 hs rfl (qi_ 4 238 5 2 2) rfl ?_
  refine F6 hs rfl (G5 (n := 2) rfl kR (by first | exact At.mem | exact mA (by assumption)) TakeC.take) rfl ?_
  refine R9 rfl (aS rfl a0) kR (A0k _ _ (by first | assumption | exact A3Y (by assumption) | decide | exact Nat.mod_lt _ (by decide)) (by first | assumption | exact A3Y (by assumption) | decide | exact Nat.mod_lt _ (by decide)) _) rfl ?_
  refine G1 rfl (aS rfl (aS rfl a0)) kR (A03 _ _ _ (by first | assumption | exact A3Y (by assumption) | decide | exact Nat.mod_lt _ (by decide)) (by first | assumption | exact A3Y (by assumption) | decide | exact Nat.mod_lt _ (by decide)) (Nat.mod_lt _ (by decide)) _) rfl ?_
  rintro r3 M3 J3 ⟨rfl, rfl, h3, l3, rfl, g3, k3, qq3⟩
  refine D1 hs rfl (qi_ 6 238 5 2 3) rfl ?_
  refine G2 rfl rfl rfl (A2N rfl rfl kR al2 UpC.upd ?_)
  refine E3 (F7 4 5 8 9 57) (C3 (mv_ (mv_ ?_)))
  refine A4 (qi_ 4 238 5 2 2) rfl ?_
  refine A4 (qf_ 5 1) rfl ?_
  refine A4 ql_ rfl ?_
  refine A4 (L9 51 2251799813685248 rfl rfl rfl rfl rfl (by show _ < 18446744073709551616; first | assumption | exact Nat.mod_lt _ (by decide) | omega) (by decide)) rfl ?_
  refine A4 (qi_ 2 143 5 1 2) rfl ?_
  refine A6 rfl (D9 rfl rfl rfl kR SetC.set UpC.upd ?_)
  refine D0 (nb (nx (E7 4 5 8 57) (C3 ?_)))
  refine A4 (E4 (3 : Int) rfl rfl (G3 (by decide) (by decide) (by decide))) rfl ?_
  refine mv_ (D0 ?_)
  refine un (E7 4 5 8 57) ?_
  refine G6 ?_
  refine A3 ?_
  refine A4 (F9 true rfl rfl (ltT (by decide))) rfl ?_
  refine A0 (F7 4 5 8 57 58) (A5 ?_)
  refine E2 rfl ?_
  refine A9 (nx (E7 4 5 8 57) (A5 (C0 (A3 (mv_ (as_ (A0 (F7 4 5 8 9 57) ?_)))))))
  refine D2 (.range 12) (zp 0 [0, 0, 0, 0, 0, 1, 0, 0, 1, 2, 2, 0, 2]) kR kR fun hs => ?_
  refine fm_ hs ?_
  refine D1 hs rfl (E4 (4 : Int) rfl rfl (G3 (by decide) (by decide) (by decide))) rfl ?_
  refine fm_ hs ?_
  refine D1 hs rfl (E4 (4 : Int) rfl rfl (G3 (by decide) (by decide) (by decide))) rfl ?_
  refine D1 hs rfl (qi_ 8 238 5 2 4) rfl ?_
  refine F6 hs rfl (G5 (n := 2) rfl kR (by first | exact At.mem | exact mA (by assumption)) TakeC.take) rfl ?_
  refine fm_ hs ?_
  refine D1 hs rfl (qi_ 6 238 5 2 3) rfl ?_
  refine F6 hs rfl (G5 (n := 2) rfl kR (by first | exact At.mem | exact mA (by assumption)) TakeC.take) rfl ?_
  refine R9 rfl (aS rfl a0) kR (A0k _ _ (by first | assumption | exact A3Y (by assumption) | decide | exact Nat.mod_lt _ (by decide)) (by first | assumption | exact A3Y (by assumption) | decide | exact Nat.mod_lt _ (by decide)) _) rfl ?_
  refine G1 rfl (aS rfl (aS rfl a0)) kR (A03 _ _ _ (by first | assumption | exact A3Y (by assumption) | decide | exact Nat.mod_lt _ (by decide)) (by first | assumption | exact A3Y (by assumption) | decide | exact Nat.mod_lt _ (by decide)) (Nat.mod_lt _ (by decide)) _) rfl ?_
  rintro r4 M4 J4 ⟨rfl, rfl, h4, l4, rfl, g4, k4, qq4⟩
  refine D1 hs rfl (qi_ 8 238 5 2 4) rfl ?_
  refine G2 rfl rfl rfl (A2N rfl rfl kR al2 UpC.upd ?_)
  refine E3 (F7 4 5 8 9 57) (C3 (mv_ (mv_ ?_)))
  refine A4 (qi_ 6 238 5 2 3) rfl ?_
  refine A4 (qf_ 7 1) rfl ?_
  refine A4 ql_ rfl ?_
  refine A4 (L9 51 2251799813685248 rfl rfl rfl rfl rfl (by show _ < 18446744073709551616; first | assumption | exact Nat.mod_lt _ (by decide) | omega) (by decide)) rfl ?_
  refine A4 (qi_ 3 143 5 1 3) rfl ?_
  refine A6 rfl (D9 rfl rfl rfl kR SetC.set UpC.upd ?_)
  refine D0 (nb (nx (E7 4 5 8 57) (C3 ?_)))
  refine A4 (E4 (4 : Int) rfl rfl (G3 (by decide) (by decide) (by decide))) rfl ?_
  refine mv_ (D0 ?_)
  refine un (E7 4 5 8 57) ?_
  refine G6 ?_
  refine A3 ?_
  refine A4 (F9 false rfl rfl (ltF (by decide))) rfl ?_
  refine A0 (F7 4 5 8 57 58) (A5 ?_)
  refine D4 rfl ?_
  refine E6 (te (ue (be rfl (nx (E1 4 5 8) (A3 ?_)))))
  refine A4 (qi_ 8 238 5 2 4) rfl ?_
  refine A4 (qf_ 9 1) rfl ?_
  refine A4 ql_ rfl ?_
  refine A4 (L9 51 2251799813685248 rfl rfl rfl rfl rfl (by show _ < 18446744073709551616; first | assumption | exact Nat.mod_lt _ (by decide) | omega) (by decide)) rfl ?_
  refine A4 (qi_ 4 143 5 1 4) rfl ?_
  refine A6 rfl (D9 rfl rfl rfl kR SetC.set UpC.upd ?_)
  refine A0 (E1 4 5 8) ?_
  refine D2 (.range 8) (zp 0 [0, 1, 0, 1, 2, 0, 0, 0, 2]) kR kR fun hs => ?_
  refine D1 hs rfl (qi_ 0 143 5 1 0) rfl ?_
  refine F6 hs rfl ql_ rfl ?_
  refine D1 hs rfl (qi_ 8 238 5 2 4) rfl ?_
  refine F6 hs rfl (G5 (n := 2) rfl kR (by first | exact At.mem | exact mA (by assumption)) TakeC.take) rfl ?_
  refine R9 rfl (aS rfl a0) kR (A0k _ _ (by first | assumption | exact A3Y (by assumption) | decide | exact Nat.mod_lt _ (by decide)) (by first | assumption | exact A3Y (by assumption) | decide | exact Nat.mod_lt _ (by decide)) _) rfl ?_
  refine D1 hs rfl (R6 18446744073709551616 (a := 19) rfl rfl rfl rfl rfl rfl) rfl ?_
  refine D1 hs rfl (H9 18446744073709551616 rfl rfl rfl rfl rfl rfl) rfl ?_
  refine D1 hs rfl (qi_ 0 143 5 1 0) rfl ?_
  refine G2 rfl rfl rfl (D9 rfl rfl rfl kR SetC.set UpC.upd ?_)
  refine E3 (D5 4 8) (A3 ?_)
  refine A4 (qi_ 1 143 5 1 1) rfl ?_
  refine A4 ql_ rfl ?_
  refine A4 (qi_ 0 143 5 1 0) rfl ?_
  refine A4 ql_ rfl ?_
  refine A4 (N7 51 2251799813685248 rfl rfl rfl rfl (by decide)) rfl ?_
  refine A4 (H9 18446744073709551616 rfl rfl rfl rfl rfl rfl) rfl ?_
  refine A4 (qi_ 1 143 5 1 1) rfl ?_
  refine A6 rfl (D9 rfl rfl rfl kR SetC.set UpC.upd ?_)
  refine A0 (D5 4 8) (A3 ?_)
  refine A4 (qi_ 0 143 5 1 0) rfl ?_
  refine A4 ql_ rfl ?_
  refine A4 (L9 51 2251799813685248 rfl rfl rfl rfl rfl (by show _ < 18446744073709551616; first | assumption | exact Nat.mod_lt _ (by decide) | omega) (by decide)) rfl ?_
  refine A4 (qi_ 0 143 5 1 0) rfl ?_
  refine A6 rfl (D9 rfl rfl rfl kR SetC.set UpC.upd ?_)
  refine A0 (D5 4 8) (A3 ?_)
  refine A4 (qw_ 5) rfl ?_
  refine A6 rfl (A8 rfl rfl Cel.cel kR ln5 al5 UpC.upd ?_)
  refine A0 (D8 4) (C2 ?_)
  rw [back] at qq1
  rw [back] at qq1
  rw [back] at qq2
  rw [back] at qq3
  rw [back] at qq4
  obtain ⟨t1, t2⟩ := B3d y0 y1 y2 y3 y4 qq1 qq2 qq3 qq4 (lowM R0) (B9G _ _) (B9G _ _) (B9G _ _) (B9G _ _) rfl rfl
  refine ⟨_, [], [], A1k rfl rfl kR At.mem (by rfl), List.nil_sublist _, by simp, rfl, rfl, _, _, _, _, _, rfl, B9H _, t1, B9H _, B9H _, B9H _, ?_⟩
  rw [N1 t2, ← Nat.mul_mod, hring, Nat.add_mul_mod_self_left]
theorem K4 : Fe (el 0 0 0 0 0) 0 := ⟨0, 0, 0, 0, 0, rfl, by decide, by decide, by decide, by decide, by decide, rfl⟩
theorem Z8 (v : Value) (x : Nat) (hx : Fe v x) (A : Mem) : FnX Tryz.prog 162 [v] [] A fun r M J => M = [] ∧ J = [] ∧ Fe r (x * x % p25) := by
 have hx0 := hx
 obtain ⟨a, b, c, d, e, rfl, -⟩ := hx
 refine FnX.enter (N := 6) Tryz.func162 rfl rfl rfl fun w => ?_
 refine C4 (D8 0) (A3 ?_)
 refine A6 rfl (bx_ fun b1 => ?_)
 refine A6 rfl (C5 (cs := [A7, A7, A7, A7, A7]) kR rfl fun b2 => ?_)
 refine A0 (D5 1 2) (A3 ?_)
 refine A4 (qw_ 5) rfl ?_
 refine A4 (qw_ 5) rfl ?_
 refine C9 (aS rfl (aS rfl a0)) kR (A1S _ _ _ _ (by exact hx0) (by exact hx0) _) rfl ?_
 rintro r1 M1 J1 ⟨rfl, rfl, a1, b1, c1, d1, e1, rfl, hr⟩
 refine A6 rfl (A8 rfl rfl Cel.cel kR ln5 al5 UpC.upd ?_)
 refine A0 (D8 2) (C2 ?_)
 exact ⟨_, [], [], A1k rfl rfl kR At.mem (by rfl), List.nil_sublist _, by simp, rfl, rfl, a1, b1, c1, d1, e1, rfl, hr⟩
theorem B0L (v : Value) (x : Nat) (hx : Fe v x) (A : Mem) : FnX Tryz.prog 190 [v] [] A fun r M J => M = [] ∧ J = [] ∧ Fe r ((p25 - x) % p25) := by
 have hx0 := hx
 obtain ⟨a, b, c, d, e, rfl, -⟩ := hx
 refine FnX.enter (N := 6) Tryz.func190 rfl rfl rfl fun w => ?_
 refine C4 (D8 0) (A3 ?_)
 refine A6 rfl (bx_ fun b1 => ?_)
 refine A6 rfl (C5 (cs := [A7, A7, A7, A7, A7]) kR rfl fun b2 => ?_)
 refine A0 (D5 1 2) (A3 ?_)
 refine A4 (F3 (place := fun i => some (i * 1, 1)) (z := [A7, A7, A7, A7, A7]) (fun _ => by kernel_rfl) e0 bd0) rfl ?_
 refine A4 (qw_ 5) rfl ?_
 refine C9 (aS rfl (aS rfl a0)) kR (A6g _ _ _ _ (by exact K4) (by exact hx0) _) rfl ?_
 rintro r1 M1 J1 ⟨rfl, rfl, hr⟩
 rw [Nat.zero_add] at hr
 obtain ⟨a1, b1, c1, d1, e1, rfl, hr⟩ := hr
 refine A6 rfl (A8 rfl rfl Cel.cel kR ln5 al5 UpC.upd ?_)
 refine A0 (D8 2) (C2 ?_)
 exact ⟨_, [], [], A1k rfl rfl kR At.mem (by rfl), List.nil_sublist _, by simp, rfl, rfl, a1, b1, c1, d1, e1, rfl, hr⟩
theorem A3w (n : Nat) (hn : n < 4294967296) (A : Mem) : FnX Tryz.prog 132 [.int .u32 (n : Int)] [] A fun r M J => M = [] ∧ J = [] ∧ Fe r n := by
 refine FnX.enter (N := 6) Tryz.func132 rfl rfl rfl fun w => ?_
 refine C4 (D8 0) (A3 ?_)
 refine A6 rfl (C5 (cs := [A7, A7, A7, A7, A7]) kR rfl fun b2 => ?_)
 refine A0 (D5 0 2) (A3 (mv_ ?_))
 refine A4 (A9O rfl kR) rfl ?_
 refine A4 (F3 (place := fun i => some (i * 1, 1)) (z := [A7, A7, A7, A7, A7]) (fun _ => by kernel_rfl) (eS rfl e0) (bdS 0 1 rfl (by rfl) bd0)) rfl ?_
 refine A6 rfl (A8 rfl rfl Cel.cel kR ln5 al5 UpC.upd ?_)
 refine A0 (D8 2) (C2 ?_)
 refine ⟨_, [], [], A1k rfl rfl kR At.mem (by rfl), List.nil_sublist _, by simp, rfl, rfl, n % 18446744073709551616, 0, 0, 0, 0, rfl, by omega, by decide, by decide, by decide, by decide, ?_⟩
 unfold fv p25; omega

end Go.Proofs.YthbhpfefdnffaaaGreatDoor
namespace Go.Px
def bv : List Nat → Nat
  | [] => 0
  | b :: r => b + 256 * bv r
theorem B6w {p : List Nat} (h : ∀ x ∈ p, x < 256) : bv p < 256 ^ p.length := by
  induction p with
  | nil => decide
  | cons b r ih =>
    have h1 := h b (by simp)
    have h2 := ih fun x hx => h x (by simp [hx])
    simp only [bv, List.length_cons, Nat.pow_succ]; omega
theorem A7e {p : List Nat} (h : ∀ x ∈ p, x < 256) (i : Nat) : bv p / 256 ^ i % 256 = p.getD i 0 := by
  induction p generalizing i with
  | nil => simp [bv]
  | cons b r ih =>
    have h1 := h b (by simp)
    cases i with
    | zero => simp only [bv, Nat.pow_zero, Nat.div_one, List.getD_cons_zero]; omega
    | succ i =>
      rw [List.getD_cons_succ, ← ih (fun x hx => h x (by simp [hx])) i, Nat.pow_succ, Nat.mul_comm, ← Nat.div_div_eq_div_mul]
      congr 2
      simp only [bv]; omega
theorem A6j {p : List Nat} (h : ∀ x ∈ p, x < 256) (i : Nat) : p.getD (i / 8) 0 / 2 ^ (i % 8) % 2 = bv p / 2 ^ i % 2 := by
  rw [← A7e h, show (256 : Nat) = 2 ^ 8 from rfl, ← Nat.pow_mul]
  have h1 : i % 8 < 8 := Nat.mod_lt _ (by decide)
  have e : 2 ^ 8 = 2 ^ (i % 8) * (2 * 2 ^ (7 - i % 8)) := by rw [← Nat.pow_succ', ← Nat.pow_add]; congr 1; omega
  rw [e, Nat.mod_mul_right_div_self, Nat.mod_mul_right_mod, Nat.div_div_eq_div_mul, ← Nat.pow_add]
  congr 3; omega
def prt (w N i j : Nat) : Nat := N % 2 ^ i / 2 ^ (w * j) % 2 ^ w
theorem B3k {w N i : Nat} (hw : 0 < w) : prt w N (i + 1) (i / w) = (prt w N i (i / w) ||| (N / 2 ^ i % 2) <<< (i % w)) := by
  have hr : i % w < w := Nat.mod_lt _ hw
  have hi : w * (i / w) + i % w = i := Nat.div_add_mod i w
  have hX : N % 2 ^ i / 2 ^ (w * (i / w)) < 2 ^ (i % w) := by
    rw [Nat.div_lt_iff_lt_mul (Nat.two_pow_pos _), ← Nat.pow_add, Nat.add_comm, hi]
    exact Nat.mod_lt _ (Nat.two_pow_pos _)
  have hle : 2 ^ (i % w) * 2 ≤ 2 ^ w := by rw [← Nat.pow_succ]; exact Nat.pow_le_pow_right (by decide) hr
  have hb : N / 2 ^ i % 2 < 2 := Nat.mod_lt _ (by decide)
  unfold prt
  rw [Nat.mod_eq_of_lt (Nat.lt_of_lt_of_le hX (by omega)), Nat.or_comm, ← Nat.shiftLeft_add_eq_or_of_lt hX, Nat.mod_pow_succ]
  have e : (N % 2 ^ i + 2 ^ i * (N / 2 ^ i % 2)) / 2 ^ (w * (i / w)) = N % 2 ^ i / 2 ^ (w * (i / w)) + 2 ^ (i % w) * (N / 2 ^ i % 2) := by
    conv => lhs; rw [show 2 ^ i * (N / 2 ^ i % 2) = 2 ^ (w * (i / w)) * (2 ^ (i % w) * (N / 2 ^ i % 2)) by rw [← Nat.mul_assoc, ← Nat.pow_add, hi]]
    rw [Nat.add_mul_div_left _ _ (Nat.two_pow_pos _)]
  rw [e, Nat.shiftLeft_eq, Nat.mod_eq_of_lt, Nat.add_comm, Nat.mul_comm]
  generalize N / 2 ^ i % 2 = b at *
  have : 2 ^ (i % w) * b ≤ 2 ^ (i % w) * 1 := Nat.mul_le_mul_left _ (by omega)
  omega
theorem B3l {w N i j : Nat} (hw : 0 < w) (h : j ≠ i / w) : prt w N (i + 1) j = prt w N i j := by
  have hi : w * (i / w) + i % w = i := Nat.div_add_mod i w
  have hr : i % w < w := Nat.mod_lt _ hw
  unfold prt
  rw [Nat.mod_pow_succ]
  rcases Nat.lt_or_gt_of_ne h with hl | hg
  · have hge : w * (j + 1) ≤ i := by
      have := Nat.mul_le_mul_left w (show j + 1 ≤ i / w from hl)
      omega
    have e : 2 ^ i * (N / 2 ^ i % 2) = 2 ^ (w * j) * (2 ^ w * (2 ^ (i - w * (j + 1)) * (N / 2 ^ i % 2))) := by
      rw [← Nat.mul_assoc, ← Nat.mul_assoc, ← Nat.pow_add, ← Nat.pow_add]
      congr 2
      rw [Nat.mul_add] at hge ⊢; omega
    rw [e, Nat.add_mul_div_left _ _ (Nat.two_pow_pos _), Nat.add_mul_mod_self_left]
  · have hge : i + 1 ≤ w * j := by
      have := Nat.mul_le_mul_left w (show i / w + 1 ≤ j from hg)
      rw [Nat.mul_add] at this; omega
    have h1 : N % 2 ^ i < 2 ^ (w * j) := Nat.lt_of_lt_of_le (Nat.mod_lt _ (Nat.two_pow_pos _)) (Nat.pow_le_pow_right (by decide) (by omega))
    have h2 : N % 2 ^ i + 2 ^ i * (N / 2 ^ i % 2) < 2 ^ (w * j) := by
      rw [← Nat.mod_pow_succ]
      exact Nat.lt_of_lt_of_le (Nat.mod_lt _ (Nat.two_pow_pos _)) (Nat.pow_le_pow_right (by decide) hge)
    rw [Nat.div_eq_of_lt h1, Nat.div_eq_of_lt h2]
def W3 (w n N i : Nat) : List Nat := (List.range n).map (prt w N i)
theorem L1 (w n N i : Nat) : (W3 w n N i).length = n := by simp [W3]
theorem A04 {w n N i j : Nat} (h : j < n) : (W3 w n N i).getD j 0 = prt w N i j := by simp [W3, List.getD, h]
theorem A3x (w n N : Nat) : W3 w n N 0 = List.replicate n 0 := by
  apply List.ext_getElem?
  intro j
  simp only [W3, List.getElem?_map, List.getElem?_replicate]
  by_cases h : j < n
  · simp [h, prt, Nat.mod_one]
  · simp [h]
theorem A3y {w n N i : Nat} (hw : 0 < w) (hi : i / w < n) : W3 w n N (i + 1) = (W3 w n N i).set (i / w) (prt w N i (i / w) ||| (N / 2 ^ i % 2) <<< (i % w)) := by
  apply List.ext_getElem?
  intro j
  rw [List.getElem?_set]
  simp only [W3, List.getElem?_map, List.length_map, List.length_range]
  by_cases h : j < n
  · by_cases e : i / w = j
    · subst e; simp [h, B3k hw]
    · simp [h, e, B3l hw (fun h => e h.symm)]
  · have : i / w ≠ j := by omega
    simp [h, this]
theorem B0M (p q : List Nat) : bv (p ++ q) = bv p + 256 ^ p.length * bv q := by
  induction p with
  | nil => simp [bv]
  | cons b r ih => simp only [List.cons_append, bv, ih, List.length_cons, Nat.pow_succ]; grind
theorem A1T (X : Nat) : ∀ n, bv ((List.range n).map fun j => X / 2 ^ (8 * j) % 2 ^ 8) = X % 2 ^ (8 * n)
  | 0 => by simp [bv, Nat.mod_one]
  | n + 1 => by
    rw [List.range_succ, List.map_append, B0M, A1T X n, List.length_map, List.length_range]
    simp only [List.map_cons, List.map_nil, bv, Nat.mul_zero, Nat.add_zero]
    rw [show (256 : Nat) ^ n = 2 ^ (8 * n) by rw [Nat.pow_mul], show 8 * (n + 1) = 8 * n + 8 by omega, Nat.pow_add, Nat.mod_mul]
theorem A48 (x : Nat) : bv (W3 8 32 x 255) = x % 2 ^ 255 := by
  unfold W3 prt
  rw [A1T, Nat.mod_eq_of_lt]
  exact Nat.lt_of_lt_of_le (Nat.mod_lt _ (Nat.two_pow_pos _)) (Nat.pow_le_pow_right (by decide) (by decide))
theorem A0w (x i : Nat) : ∀ y ∈ W3 8 32 x i, y < 256 := by
  intro y hy
  obtain ⟨j, _, rfl⟩ := List.mem_map.1 hy
  exact Nat.mod_lt _ (Nat.two_pow_pos _)
theorem B3m {x y : Nat} (hx : x < p25) (hy : y < p25) (h : W3 8 32 x 255 = W3 8 32 y 255) : x = y := by
  have := congrArg bv h
  rw [A48, A48, Nat.mod_eq_of_lt (Nat.lt_trans hx (by decide)), Nat.mod_eq_of_lt (Nat.lt_trans hy (by decide))] at this
  exact this
end Go.Px

namespace Go.Proofs.YthbhpfefdnffaaaGreatDoor
open Go.Px
def rdN (p : List Nat) : Nat := if p.length = 32 then bv p % 57896044618658097711785492504343953926634992332820282019728792003956564819968 % p25 else 0
theorem B6x (N : Nat) : fv (prt 51 N 255 0) (prt 51 N 255 1) (prt 51 N 255 2) (prt 51 N 255 3) (prt 51 N 255 4) = N % 57896044618658097711785492504343953926634992332820282019728792003956564819968 := by
  unfold fv prt
  simp only [Nat.reducePow, Nat.reduceMul]
  omega
theorem A8i (w N i j : Nat) : prt w N i j < 2 ^ w := Nat.mod_lt _ (Nat.two_pow_pos _)
theorem B0N (N i j : Nat) : prt 51 N i j < 4503599627370496 := Nat.lt_trans (A8i 51 N i j) (by decide)
theorem A3z {b s w : Nat} (hb : b < 2) (hs : s < w) : b <<< s < 2 ^ w := by
  rw [Nat.shiftLeft_eq]
  have h1 : 2 ^ s * 2 ≤ 2 ^ w := by rw [← Nat.pow_succ]; exact Nat.pow_le_pow_right (by decide) hs
  have h2 : b * 2 ^ s ≤ 1 * 2 ^ s := Nat.mul_le_mul_right _ (by omega)
  have h3 := Nat.two_pow_pos s
  omega
theorem A4m (pv : Value) (p : List Nat) (A : Mem) (hp : Rd A 1 pv p.length (nums .u8 p)) (hp256 : ∀ x ∈ p, x < 256) (hpl : p.length < 9223372036854775808) : FnX Tryz.prog 131 [pv] [] A fun r M J => M = [] ∧ J = [] ∧ Fe r (rdN p) := by
 refine FnX.enter (N := 33) Tryz.func131 rfl rfl rfl fun w => ?_
 refine C4 (D8 0) (A3 ?_)
 refine A6 rfl (C5 (cs := [A7, A7, A7, A7, A7]) kR rfl fun b2 => ?_)
 refine A0 (D5 0 2) (A3 ?_)
 refine A6 rfl (C5 (cs := [A7, A7, A7, A7, A7]) kR rfl fun b3 => ?_)
 refine A0 (E1 0 2 3) (A5 (A3 (mv_ ?_)))
 refine A4 (A0E hp rfl kR) rfl ?_
 refine A4 (F1 rfl rfl rfl) rfl ?_
 refine A0 (E7 0 2 3 7) ?_
 refine C8 rfl (fun hc => ?_) (fun hc => ?_)
 ·
  have h32 : p.length ≠ 32 := by simp at hc; omega
  refine A3 ?_
  refine A4 (qw_ 5) rfl ?_
  refine A6 rfl (A8 rfl rfl Cel.cel kR ln5 al5 UpC.upd ?_)
  refine A0 (D8 2) (C2 (tr ?_))
  refine ⟨_, [], [], A1k rfl rfl kR At.mem (by rfl), List.nil_sublist _, by simp, rfl, rfl, 0, 0, 0, 0, 0, rfl, by decide, by decide, by decide, by decide, by decide, ?_⟩
  rw [rdN, if_neg h32]; rfl
 ·
  have h32 : p.length = 32 := by simp at hc; omega
  have hN := A6j hp256
  refine A9 (nx (E1 0 2 3) (A5 (A3 (mv_ (A0 (E7 0 2 3 9) (C0 ?_))))))
  refine A0B (M' := [(b3, blk (nums .u64 (W3 51 5 (bv p) 0)) 205), (b2, blk [.int .u64 0, .int .u64 0, .int .u64 0, .int .u64 0, .int .u64 0] 205)]) (Fit.eq (by rw [A3x]; rfl)) (fun _ h => h) ?_
  refine F2 (α := Nat) (fun i => [(0, pv), (2, .pointer (some ⟨b2, 0, none⟩)), (3, .pointer (some ⟨b3, 0, none⟩)), (9, .int .i64 (i : Int))]) (fun i => [(b3, blk (nums .u64 (W3 51 5 (bv p) i)) 205), (b2, blk [.int .u64 0, .int .u64 0, .int .u64 0, .int .u64 0, .int .u64 0] 205)]) (fun _ => []) (fun i => i ≤ 255) (fun i => 255 - i) 0 (by decide) (E7 0 2 3 9) .rfl (fun _ h => h) ?_
  rintro i hi
  refine A3 ?_
  refine A4 (F1 rfl rfl rfl) rfl ?_
  refine A0 (F7 0 2 3 9 10) (A5 ?_)
  refine C8 rfl (fun hc => ?_) (fun hc => ?_)
  ·
   have hlt : i < 255 := by simp at hc; omega
   have hbit := hN i
   rw [← Nat.shiftRight_eq_div_pow] at hbit
   have hb2 : bv p / 2 ^ i % 2 < 2 := Nat.mod_lt _ (by decide)
   have hps := A3y (w := 51) (n := 5) (N := bv p) (i := i) (by decide) (by omega)
   have hpg := A04 (w := 51) (n := 5) (N := bv p) (i := i) (j := i / 51) (by omega)
   have hpl := A8i 51 (bv p) i (i / 51)
   have hsm := A3z (w := 51) hb2 (Nat.mod_lt i (by decide : 0 < 51))
   have hpb : p.getD (i / 8) 0 < 256 := getD_lt hp256 (by decide)
   have hsr := Nat.shiftRight_le (p.getD (i / 8) 0) (i % 8)
   rw [← hpg] at hps hpl
   generalize bv p / 2 ^ i % 2 = bt at *
   have hmo : bt <<< (i % 51) % 2 ^ IntKind.u64.bits = bt <<< (i % 51) := Nat.mod_eq_of_lt (Nat.lt_trans hsm (by decide))
   have hto : IntKind.u64.wrap (bt : Int) = (bt : Int) := by rw [A7Q, Nat.mod_eq_of_lt (by omega)]
   refine A9 (nx (E7 0 2 3 9) (A5 (C0 (A3 (mv_ (as_ (A0 (F7 0 2 3 4 9) ?_)))))))
   refine I6 (.range 19) (zp 0 [0, 0, 0, 1, 0, 0, 0, 0, 1, 0, 0, 0, 0, 0, 0, 0, 0, 0, 0, 2]) kR kR fun hs => ?_
   refine fm_ hs ?_
   refine D1 hs rfl (A0P 51 rfl rfl rfl (by decide) (A19 (by omega))) rfl ?_
   refine D1 hs rfl (E5 (e := 143) (n := 5) (sz := 1) (i := i / 51) rfl rfl kR kR rfl (by omega)) rfl ?_
   refine F6 hs rfl (Q0 (i / 51) rfl kR At.mem (by omega) (by rw [L1]; omega)) rfl ?_
   refine fm_ hs ?_
   refine fm_ hs ?_
   refine D1 hs rfl (A0P 8 rfl rfl rfl (by decide) (A19 (by omega))) rfl ?_
   refine D1 hs rfl (B2w hp rfl rfl kR (i / 8) rfl (by omega)) rfl ?_
   refine F6 hs rfl (A5Q (hp.mono fun _ h => mA h) rfl kR (by omega)) rfl ?_
   refine fm_ hs ?_
   refine D1 hs rfl (A0Q 8 rfl rfl rfl (by decide)) rfl ?_
   refine D1 hs rfl (A0C (i % 8) rfl rfl rfl (by show _ ≤ 8; omega)) rfl ?_
   refine D1 hs rfl (hbit ▸ L9 1 2 rfl rfl rfl rfl rfl (by show _ < 256; omega) (by decide)) rfl ?_
   refine D1 hs rfl (P3 bt rfl kR hto) rfl ?_
   refine fm_ hs ?_
   refine D1 hs rfl (A0Q 51 rfl rfl rfl (by decide)) rfl ?_
   refine D1 hs rfl (hmo ▸ A35 rfl (i % 51) rfl rfl rfl (by show _ ≤ 64; omega)) rfl ?_
   refine D1 hs rfl (B4y rfl rfl rfl (Nat.lt_trans hpl (by decide)) (Nat.lt_trans hsm (by decide))) rfl ?_
   refine D1 hs rfl (E5 (e := 143) (n := 5) (sz := 1) (i := i / 51) rfl rfl kR kR rfl (by omega)) rfl ?_
   refine G2 rfl rfl rfl (S0 (i / 51) rfl rfl kR (by omega) (by rw [L1]; omega) UpC.upd ?_)
   refine V0 (nb (nx (E7 0 2 3 9) (C3 ?_)))
   refine A4 (E4 ((i + 1 : Nat) : Int) rfl rfl (G3 (by omega) (by omega) (by omega))) rfl ?_
   refine mv_ (D0 ?_)
   exact rn (i + 1) (by omega) (by omega) (E7 0 2 3 9) (Fit.eq (by rw [hps])) (fun _ h => h)
  ·
   have hlt : i = 255 := by simp at hc; omega
   subst hlt
   refine E6 (te (re (be rfl (nx (D5 2 3) (A3 ?_)))))
   refine A4 (H7 (n := 5) (cs := nums .u64 (W3 51 5 (bv p) 255)) rfl kR At.mem (by rw [nums_len, L1])) rfl ?_
   refine A6 rfl (A8 (vs := nums .u64 (W3 51 5 (bv p) 255)) rfl rfl rfl (by rw [nums_len, L1]; kernel_rfl) (by rw [nums_len, L1]; rfl) E8 UpC.upd ?_)
   refine A0 (D8 2) (C2 ?_)
   refine ⟨_, [], [], A1k rfl rfl kR At.mem (by rw [nums_len, L1]), List.nil_sublist _, by simp, rfl, rfl, _, _, _, _, _, rfl, B0N _ _ _, B0N _ _ _, B0N _ _ _, B0N _ _ _, B0N _ _ _, ?_⟩
   rw [B6x, rdN, if_pos h32]
theorem Y4 (v : Value) (x : Nat) (hx : Fe v x) (A : Mem) : FnX Tryz.prog 134 [v] [] A fun r M J => J = [] ∧ Sl 1 r 32 (nums .u8 (W3 8 32 x 255)) M := by
 obtain ⟨a, b, c, d, e, rfl, ha, hb, hc, hd, he, rfl⟩ := hx
 refine FnX.enter (N := 80) Tryz.func134 rfl rfl rfl fun w => ?_
 refine C4 (D8 0) (A3 ?_)
 refine A6 rfl (bx_ fun b1 => ?_)
 refine as_ (A0 (D8 1) (A3 ?_))
 refine A4 (qw_ 5) rfl ?_
 refine C9 (aS rfl a0) kR (S6 _ _ _ _ _ (by omega) (by omega) (by omega) (by omega) (by omega) _) rfl ?_
 rintro r3 M3 J3 ⟨rfl, rfl, a3, b3, c3, d3, e3, rfl, ha3, hb3, hc3, hd3, hv3, he3⟩
 refine C9 (aS rfl a0) kR (S6 _ _ _ _ _ (by omega) (by omega) (by omega) (by omega) (by omega) _) rfl ?_
 rintro r4 M4 J4 ⟨rfl, rfl, a4, b4, c4, d4, e4, rfl, ha4, hb4, hc4, hd4, hv4, he4⟩
 have hz4 := A3u ha3 hb3 hc3 hd3 he3 ha4 hb4 hc4 hd4 hv4
 refine C9 (aS rfl a0) kR (S6 _ _ _ _ _ (by omega) (by omega) (by omega) (by omega) (by omega) _) rfl ?_
 rintro r5 M5 J5 ⟨rfl, rfl, a5, b5, c5, d5, e5, rfl, ha5, hb5, hc5, hd5, hv5, he5⟩
 have hz5 := A3u ha4 hb4 hc4 hd4 he4 ha5 hb5 hc5 hd5 hv5
 have hx5 : fv a5 b5 c5 d5 e5 % p25 = fv a b c d e % p25 := by rw [N1 hv5, N1 hv4, N1 hv3]
 have hV5 := B8z ha5 hb5 hc5 hd5 hz5
 clear hv3 hv4 hv5 he3 he4 he5 hz4 ha3 hb3 hc3 hd3 ha4 hb4 hc4 hd4
 refine A6 rfl (A8 rfl rfl Cel.cel kR ln5 al5 UpC.upd ?_)
 refine A0 (D8 1) (A3 ?_)
 refine A4 (qi_ 0 143 5 1 0) rfl ?_
 refine A4 ql_ rfl ?_
 refine A4 (H9 18446744073709551616 (b := 19) rfl rfl rfl rfl rfl rfl) rfl ?_
 refine A4 (N7 51 2251799813685248 rfl rfl rfl rfl (by decide)) rfl ?_
 refine as_ (A0 (D5 1 3) (A5 (A3 (as_ (A0 (E1 1 3 4) (C0 ?_))))))
 refine X7 5 ?_
 refine G6 ?_
 refine A5 (A3 (mv_ ?_))
 refine A4 (F9 true rfl rfl (ltT (by decide))) rfl ?_
 refine A0 (E7 1 3 4 17) ?_
 refine E2 rfl ?_
 refine A9 (nx (E1 1 3 4) (A5 (C0 (C3 (mv_ ?_)))))
 refine A4 (qi_ 1 143 5 1 1) rfl ?_
 refine A4 ql_ rfl ?_
 refine mv_ ?_
 refine A4 (H9 18446744073709551616 rfl rfl rfl rfl rfl rfl) rfl ?_
 refine A4 (N7 51 2251799813685248 rfl rfl rfl rfl (by decide)) rfl ?_
 refine as_ (D0 (nb (nx (E1 1 3 4) (C3 (mv_ ?_)))))
 refine A4 (E4 (2 : Int) rfl rfl (G3 (by decide) (by decide) (by decide))) rfl ?_
 refine as_ (D0 ?_)
 refine un (E1 1 3 4) ?_
 refine G6 ?_
 refine A5 (A3 (mv_ ?_))
 refine A4 (F9 true rfl rfl (ltT (by decide))) rfl ?_
 refine A0 (E7 1 3 4 17) ?_
 refine E2 rfl ?_
 refine A9 (nx (E1 1 3 4) (A5 (C0 (C3 (mv_ ?_)))))
 refine A4 (qi_ 2 143 5 1 2) rfl ?_
 refine A4 ql_ rfl ?_
 refine mv_ ?_
 refine A4 (H9 18446744073709551616 rfl rfl rfl rfl rfl rfl) rfl ?_
 refine A4 (N7 51 2251799813685248 rfl rfl rfl rfl (by decide)) rfl ?_
 refine as_ (D0 (nb (nx (E1 1 3 4) (C3 (mv_ ?_)))))
 refine A4 (E4 (3 : Int) rfl rfl (G3 (by decide) (by decide) (by decide))) rfl ?_
 refine as_ (D0 ?_)
 refine un (E1 1 3 4) ?_
 refine G6 ?_
 refine A5 (A3 (mv_ ?_))
 refine A4 (F9 true rfl rfl (ltT (by decide))) rfl ?_
 refine A0 (E7 1 3 4 17) ?_
 refine E2 rfl ?_
 refine A9 (nx (E1 1 3 4) (A5 (C0 (C3 (mv_ ?_)))))
 refine A4 (qi_ 3 143 5 1 3) rfl ?_
 refine A4 ql_ rfl ?_
 refine mv_ ?_
 refine A4 (H9 18446744073709551616 rfl rfl rfl rfl rfl rfl) rfl ?_
 refine A4 (N7 51 2251799813685248 rfl rfl rfl rfl (by decide)) rfl ?_
 refine as_ (D0 (nb (nx (E1 1 3 4) (C3 (mv_ ?_)))))
 refine A4 (E4 (4 : Int) rfl rfl (G3 (by decide) (by decide) (by decide))) rfl ?_
 refine as_ (D0 ?_)
 refine un (E1 1 3 4) ?_
 refine G6 ?_
 refine A5 (A3 (mv_ ?_))
 refine A4 (F9 true rfl rfl (ltT (by decide))) rfl ?_
 refine A0 (E7 1 3 4 17) ?_
 refine E2 rfl ?_
 refine A9 (nx (E1 1 3 4) (A5 (C0 (C3 (mv_ ?_)))))
 refine A4 (qi_ 4 143 5 1 4) rfl ?_
 refine A4 ql_ rfl ?_
 refine mv_ ?_
 refine A4 (H9 18446744073709551616 rfl rfl rfl rfl rfl rfl) rfl ?_
 refine A4 (N7 51 2251799813685248 rfl rfl rfl rfl (by decide)) rfl ?_
 refine as_ (D0 (nb (nx (E1 1 3 4) (C3 (mv_ ?_)))))
 refine A4 (E4 (5 : Int) rfl rfl (G3 (by decide) (by decide) (by decide))) rfl ?_
 refine as_ (D0 ?_)
 refine un (E1 1 3 4) ?_
 refine G6 ?_
 refine A5 (A3 (mv_ ?_))
 refine A4 (F9 false rfl rfl (ltF (by decide))) rfl ?_
 refine A0 (E7 1 3 4 17) ?_
 refine D4 rfl ?_
 refine E6 (te (ue (be rfl (nx (D5 1 3) ?_))))
 obtain ⟨q, hqe, hq⟩ := B6v ha5 hb5 hc5 hd5 hz5
 rw [← hqe]
 clear hqe
 refine A3 ?_
 refine A4 (qi_ 0 143 5 1 0) rfl ?_
 refine A4 ql_ rfl ?_
 refine mv_ ?_
 refine A4 (R6 18446744073709551616 (a := 19) rfl rfl rfl rfl rfl rfl) rfl ?_
 refine A4 (H9 18446744073709551616 rfl rfl rfl rfl rfl rfl) rfl ?_
 refine A4 (qi_ 0 143 5 1 0) rfl ?_
 refine A6 rfl (D9 rfl rfl rfl kR SetC.set UpC.upd ?_)
 refine A0 (D8 1) (A5 (A3 (mv_ (A0 (D5 1 32) (C0 ?_)))))
 refine X7 5 ?_
 refine G6 ?_
 refine A3 ?_
 refine A4 (F9 true rfl rfl (ltT (by decide))) rfl ?_
 refine A0 (E1 1 32 33) (A5 ?_)
 refine E2 rfl ?_
 refine A9 (nx (D5 1 32) (A5 (C0 (A3 (mv_ (as_ (A0 (E1 1 5 32) ?_)))))))
 refine D2 (.range 10) (zp 0 [0, 0, 0, 1, 0, 0, 1, 0, 0, 0, 2]) kR kR fun hs => ?_
 refine fm_ hs ?_
 refine D1 hs rfl (E4 (1 : Int) rfl rfl (G3 (by decide) (by decide) (by decide))) rfl ?_
 refine D1 hs rfl (qi_ 1 143 5 1 1) rfl ?_
 refine F6 hs rfl ql_ rfl ?_
 refine fm_ hs ?_
 refine D1 hs rfl (qi_ 0 143 5 1 0) rfl ?_
 refine F6 hs rfl ql_ rfl ?_
 refine D1 hs rfl (N7 51 2251799813685248 rfl rfl rfl rfl (by decide)) rfl ?_
 refine D1 hs rfl (H9 18446744073709551616 rfl rfl rfl rfl rfl rfl) rfl ?_
 refine D1 hs rfl (qi_ 1 143 5 1 1) rfl ?_
 refine G2 rfl rfl rfl (D9 rfl rfl rfl kR SetC.set UpC.upd ?_)
 refine E3 (E1 1 5 32) (C3 (mv_ ?_))
 refine A4 (qi_ 0 143 5 1 0) rfl ?_
 refine A4 ql_ rfl ?_
 refine A4 (L9 51 2251799813685248 rfl rfl rfl rfl rfl (by show _ < 18446744073709551616; first | assumption | exact Nat.mod_lt _ (by decide) | omega) (by decide)) rfl ?_
 refine A4 (qi_ 0 143 5 1 0) rfl ?_
 refine A6 rfl (D9 rfl rfl rfl kR SetC.set UpC.upd ?_)
 refine D0 (nb (nx (D5 1 32) (C3 ?_)))
 refine A4 (E4 (1 : Int) rfl rfl (G3 (by decide) (by decide) (by decide))) rfl ?_
 refine mv_ (D0 ?_)
 refine un (D5 1 32) ?_
 refine G6 ?_
 refine A3 ?_
 refine A4 (F9 true rfl rfl (ltT (by decide))) rfl ?_
 refine A0 (E1 1 32 33) (A5 ?_)
 refine E2 rfl ?_
 refine A9 (nx (D5 1 32) (A5 (C0 (A3 (mv_ (as_ (A0 (E1 1 5 32) ?_)))))))
 refine D2 (.range 10) (zp 0 [0, 0, 0, 1, 0, 0, 1, 0, 0, 0, 2]) kR kR fun hs => ?_
 refine fm_ hs ?_
 refine D1 hs rfl (E4 (2 : Int) rfl rfl (G3 (by decide) (by decide) (by decide))) rfl ?_
 refine D1 hs rfl (qi_ 2 143 5 1 2) rfl ?_
 refine F6 hs rfl ql_ rfl ?_
 refine fm_ hs ?_
 refine D1 hs rfl (qi_ 1 143 5 1 1) rfl ?_
 refine F6 hs rfl ql_ rfl ?_
 refine D1 hs rfl (N7 51 2251799813685248 rfl rfl rfl rfl (by decide)) rfl ?_
 refine D1 hs rfl (H9 18446744073709551616 rfl rfl rfl rfl rfl rfl) rfl ?_
 refine D1 hs rfl (qi_ 2 143 5 1 2) rfl ?_
 refine G2 rfl rfl rfl (D9 rfl rfl rfl kR SetC.set UpC.upd ?_)
 refine E3 (E1 1 5 32) (C3 (mv_ ?_))
 refine A4 (qi_ 1 143 5 1 1) rfl ?_
 refine A4 ql_ rfl ?_
 refine A4 (L9 51 2251799813685248 rfl rfl rfl rfl rfl (by show _ < 18446744073709551616; first | assumption | exact Nat.mod_lt _ (by decide) | omega) (by decide)) rfl ?_
 refine A4 (qi_ 1 143 5 1 1) rfl ?_
 refine A6 rfl (D9 rfl rfl rfl kR SetC.set UpC.upd ?_)
 refine D0 (nb (nx (D5 1 32) (C3 ?_)))
 refine A4 (E4 (2 : Int) rfl rfl (G3 (by decide) (by decide) (by decide))) rfl ?_
 refine mv_ (D0 ?_)
 refine un (D5 1 32) ?_
 refine G6 ?_
 refine A3 ?_
 refine A4 (F9 true rfl rfl (ltT (by decide))) rfl ?_
 refine A0 (E1 1 32 33) (A5 ?_)
 refine E2 rfl ?_
 refine A9 (nx (D5 1 32) (A5 (C0 (A3 (mv_ (as_ (A0 (E1 1 5 32) ?_)))))))
 refine D2 (.range 10) (zp 0 [0, 0, 0, 1, 0, 0, 1, 0, 0, 0, 2]) kR kR fun hs => ?_
 refine fm_ hs ?_
 refine D1 hs rfl (E4 (3 : Int) rfl rfl (G3 (by decide) (by decide) (by decide))) rfl ?_
 refine D1 hs rfl (qi_ 3 143 5 1 3) rfl ?_
 refine F6 hs rfl ql_ rfl ?_
 refine fm_ hs ?_
 refine D1 hs rfl (qi_ 2 143 5 1 2) rfl ?_
 refine F6 hs rfl ql_ rfl ?_
 refine D1 hs rfl (N7 51 2251799813685248 rfl rfl rfl rfl (by decide)) rfl ?_
 refine D1 hs rfl (H9 18446744073709551616 rfl rfl rfl rfl rfl rfl) rfl ?_
 refine D1 hs rfl (qi_ 3 143 5 1 3) rfl ?_
 refine G2 rfl rfl rfl (D9 rfl rfl rfl kR SetC.set UpC.upd ?_)
 refine E3 (E1 1 5 32) (C3 (mv_ ?_))
 refine A4 (qi_ 2 143 5 1 2) rfl ?_
 refine A4 ql_ rfl ?_
 refine A4 (L9 51 2251799813685248 rfl rfl rfl rfl rfl (by show _ < 18446744073709551616; first | assumption | exact Nat.mod_lt _ (by decide) | omega) (by decide)) rfl ?_
 refine A4 (qi_ 2 143 5 1 2) rfl ?_
 refine A6 rfl (D9 rfl rfl rfl kR SetC.set UpC.upd ?_)
 refine D0 (nb (nx (D5 1 32) (C3 ?_)))
 refine A4 (E4 (3 : Int) rfl rfl (G3 (by decide) (by decide) (by decide))) rfl ?_
 refine mv_ (D0 ?_)
 refine un (D5 1 32) ?_
 refine G6 ?_
 refine A3 ?_
 refine A4 (F9 true rfl rfl (ltT (by decide))) rfl ?_
 refine A0 (E1 1 32 33) (A5 ?_)
 refine E2 rfl ?_
 refine A9 (nx (D5 1 32) (A5 (C0 (A3 (mv_ (as_ (A0 (E1 1 5 32) ?_)))))))
 refine D2 (.range 10) (zp 0 [0, 0, 0, 1, 0, 0, 1, 0, 0, 0, 2]) kR kR fun hs => ?_
 refine fm_ hs ?_
 refine D1 hs rfl (E4 (4 : Int) rfl rfl (G3 (by decide) (by decide) (by decide))) rfl ?_
 refine D1 hs rfl (qi_ 4 143 5 1 4) rfl ?_
 refine F6 hs rfl ql_ rfl ?_
 refine fm_ hs ?_
 refine D1 hs rfl (qi_ 3 143 5 1 3) rfl ?_
 refine F6 hs rfl ql_ rfl ?_
 refine D1 hs rfl (N7 51 2251799813685248 rfl rfl rfl rfl (by decide)) rfl ?_
 refine D1 hs rfl (H9 18446744073709551616 rfl rfl rfl rfl rfl rfl) rfl ?_
 refine D1 hs rfl (qi_ 4 143 5 1 4) rfl ?_
 refine G2 rfl rfl rfl (D9 rfl rfl rfl kR SetC.set UpC.upd ?_)
 refine E3 (E1 1 5 32) (C3 (mv_ ?_))
 refine A4 (qi_ 3 143 5 1 3) rfl ?_
 refine A4 ql_ rfl ?_
 refine A4 (L9 51 2251799813685248 rfl rfl rfl rfl rfl (by show _ < 18446744073709551616; first | assumption | exact Nat.mod_lt _ (by decide) | omega) (by decide)) rfl ?_
 refine A4 (qi_ 3 143 5 1 3) rfl ?_
 refine A6 rfl (D9 rfl rfl rfl kR SetC.set UpC.upd ?_)
 refine D0 (nb (nx (D5 1 32) (C3 ?_)))
 refine A4 (E4 (4 : Int) rfl rfl (G3 (by decide) (by decide) (by decide))) rfl ?_
 refine mv_ (D0 ?_)
 refine un (D5 1 32) ?_
 refine G6 ?_
 refine A3 ?_
 refine A4 (F9 false rfl rfl (ltF (by decide))) rfl ?_
 refine A0 (E1 1 32 33) (A5 ?_)
 refine D4 rfl ?_
 refine E6 (te (ue (be rfl (nx (D8 1) (A3 ?_)))))
 refine A4 (qi_ 4 143 5 1 4) rfl ?_
 refine A4 ql_ rfl ?_
 refine A4 (L9 51 2251799813685248 rfl rfl rfl rfl rfl (by show _ < 18446744073709551616; first | assumption | exact Nat.mod_lt _ (by decide) | omega) (by decide)) rfl ?_
 refine A4 (qi_ 4 143 5 1 4) rfl ?_
 refine A6 rfl (D9 rfl rfl rfl kR SetC.set UpC.upd ?_)
 refine A0 (D8 1) (A3 ?_)
 refine A6 rfl (A3b (e := 5) (k := .u8) (by_ := 1) 32 rfl rfl kR rfl rfl (by decide) (by decide) rfl fun b55 => ?_)
 obtain ⟨f0, f1, f2, f3, f4, g0, g1, g2, g3, g4, k0, k1, k2, k3, k4, hF⟩ := B0I ha5 hb5 hc5 hd5 hz5 hq
 rw [← g0, ← g1, ← g2, ← g3, ← g4]
 clear g0 g1 g2 g3 g4
 rw [hx5] at hF
 refine as_ (A0 (D5 1 6) (A5 (A3 (mv_ (A0 (E1 1 6 56) (C0 ?_))))))
 refine A0B (M' := [(b55, blk (nums .u8 (W3 8 32 (fv f0 f1 f2 f3 f4) 0)) 5), (b1, blk (nums .u64 [f0, f1, f2, f3, f4]) 205)]) (Fit.eq (by rw [A3x]; rfl)) (fun _ h => h) ?_
 have hN := B8A k0 k1 k2 k3 k4
 have hfl : [f0, f1, f2, f3, f4].length = 5 := rfl
 have hfb : ∀ x ∈ [f0, f1, f2, f3, f4], x < 2251799813685248 := by intro x hx; simp only [List.mem_cons, List.not_mem_nil, or_false] at hx; rcases hx with rfl | rfl | rfl | rfl | rfl <;> assumption
 generalize [f0, f1, f2, f3, f4] = fs at *
 rw [← hF]
 generalize fv f0 f1 f2 f3 f4 = X at *
 refine F2 (α := Nat) (fun i => [(1, .pointer (some ⟨b1, 0, none⟩)), (6, .slice (some ⟨b55, 0, none⟩) 32 32), (56, .int .i64 (i : Int))]) (fun i => [(b55, blk (nums .u8 (W3 8 32 X i)) 5), (b1, blk (nums .u64 fs) 205)]) (fun _ => []) (fun i => i ≤ 255) (fun i => 255 - i) 0 (by decide) (E1 1 6 56) .rfl (fun _ h => h) ?_
 rintro i hi
 refine A3 ?_
 refine A4 (F1 rfl rfl rfl) rfl ?_
 refine A0 (E7 1 6 56 57) (A5 ?_)
 refine C8 rfl (fun hc => ?_) (fun hc => ?_)
 ·
  have hlt : i < 255 := by simp at hc; omega
  have hbit := hN i hlt
  rw [← Nat.shiftRight_eq_div_pow] at hbit
  have hb2 : X / 2 ^ i % 2 < 2 := Nat.mod_lt _ (by decide)
  have hps := A3y (w := 8) (n := 32) (N := X) (i := i) (by decide) (by omega)
  have hpg := A04 (w := 8) (n := 32) (N := X) (i := i) (j := i / 8) (by omega)
  have hpl := A8i 8 X i (i / 8)
  have hsm := A3z (w := 8) hb2 (Nat.mod_lt i (by decide : 0 < 8))
  have hpb : fs.getD (i / 51) 0 < 2251799813685248 := getD_lt hfb (by decide)
  have hsr := Nat.shiftRight_le (fs.getD (i / 51) 0) (i % 51)
  rw [← hpg] at hps hpl
  generalize X / 2 ^ i % 2 = bt at *
  have hmo : bt <<< (i % 8) % 2 ^ IntKind.u8.bits = bt <<< (i % 8) := Nat.mod_eq_of_lt hsm
  have hto : IntKind.u8.wrap (bt : Int) = (bt : Int) := by rw [B76, Nat.mod_eq_of_lt (by omega)]
  refine A9 (nx (E1 1 6 56) (A5 (C0 (A3 (mv_ (as_ (A0 (E7 1 6 7 56) ?_)))))))
  refine I6 (.range 19) (zp 0 [0, 0, 0, 0, 1, 0, 0, 0, 1, 0, 0, 0, 0, 0, 0, 0, 0, 0, 0, 2]) kR kR fun hs => ?_
  refine fm_ hs ?_
  refine fm_ hs ?_
  refine D1 hs rfl (A0P 8 rfl rfl rfl (by decide) (A19 (by omega))) rfl ?_
  refine D1 hs rfl (P7 (e := 5) (sz := 1) (i := i / 8) rfl rfl kR kR rfl (by omega)) rfl ?_
  refine F6 hs rfl (Q0 (i / 8) rfl kR At.mem (by omega) (by rw [L1]; omega)) rfl ?_
  refine fm_ hs ?_
  refine D1 hs rfl (A0P 51 rfl rfl rfl (by decide) (A19 (by omega))) rfl ?_
  refine D1 hs rfl (E5 (e := 143) (n := 5) (sz := 1) (i := i / 51) rfl rfl kR kR rfl (by omega)) rfl ?_
  refine F6 hs rfl (Q0 (i / 51) rfl kR At.mem (by omega) (by omega)) rfl ?_
  refine fm_ hs ?_
  refine D1 hs rfl (A0Q 51 rfl rfl rfl (by decide)) rfl ?_
  refine D1 hs rfl (A0C (i % 51) rfl rfl rfl (by show _ ≤ 64; omega)) rfl ?_
  refine D1 hs rfl (hbit ▸ L9 1 2 rfl rfl rfl rfl rfl (by show _ < 18446744073709551616; omega) (by decide)) rfl ?_
  refine D1 hs rfl (P3 bt rfl kR hto) rfl ?_
  refine fm_ hs ?_
  refine D1 hs rfl (A0Q 8 rfl rfl rfl (by decide)) rfl ?_
  refine D1 hs rfl (hmo ▸ A35 rfl (i % 8) rfl rfl rfl (by show _ ≤ 8; omega)) rfl ?_
  refine D1 hs rfl (B4y rfl rfl rfl hpl hsm) rfl ?_
  refine D1 hs rfl (P7 (e := 5) (sz := 1) (i := i / 8) rfl rfl kR kR rfl (by omega)) rfl ?_
  refine G2 rfl rfl rfl (S0 (i / 8) rfl rfl kR (by omega) (by rw [L1]; omega) UpC.upd ?_)
  refine V0 (nb (nx (E1 1 6 56) (C3 ?_)))
  refine A4 (E4 ((i + 1 : Nat) : Int) rfl rfl (G3 (by omega) (by omega) (by omega))) rfl ?_
  refine mv_ (D0 ?_)
  exact rn (i + 1) (by omega) (by omega) (E1 1 6 56) (Fit.eq (by rw [hps])) (fun _ h => h)
 ·
  have hlt : i = 255 := by simp at hc; omega
  subst hlt
  refine E6 (te (re (be rfl (nx (D8 6) (A3 (mv_ (as_ (A0 (D8 2) ?_))))))))
  refine C2 ?_
  exact ⟨_, [_], [], I4 rfl rfl, List.Sublist.cons_cons _ (List.nil_sublist _), by simp, rfl, Sl.fresh (by rw [nums_len, L1]) (by decide)⟩

theorem B3n {x y : Nat} (hx : x < p25) (hy : y < p25) : ((txt (W3 8 32 x 255)).toList == (txt (W3 8 32 y 255)).toList) = decide (x = y) := by
  by_cases h : x = y
  · subst h; simp
  · have : (txt (W3 8 32 x 255)).toList ≠ (txt (W3 8 32 y 255)).toList := by
      rw [ByteArray.toList_eq, ByteArray.toList_eq]
      intro e
      refine h (B3m hx hy (A6Z (A0w x 255) (A0w y 255) ?_))
      have := congrArg List.toArray e
      simp only [Array.toArray_toList] at this
      unfold txt at this ⊢
      exact congrArg ByteArray.mk this
    rw [beq_false_of_ne this]; simp [h]
theorem A0l (v u : Value) (x y : Nat) (hx : Fe v x) (hy : Fe u y) (A : Mem) : FnV Tryz.prog 178 [v, u] A (.bool (decide (x = y))) := by
 have hx0 := hx
 have hxl := hx.lt
 obtain ⟨a, b, c, d, e, rfl, -⟩ := hx
 have hy0 := hy
 have hyl := hy.lt
 obtain ⟨a2, b2, c2, d2, e2, rfl, -⟩ := hy
 refine FnX.enter (N := 12) Tryz.func178 rfl rfl rfl fun w => ?_
 refine C4 (D5 0 1) (A3 ?_)
 refine A6 rfl (bx_ fun b2 => ?_)
 refine A6 rfl (bx_ fun b3 => ?_)
 refine as_ (A0 (D5 2 3) ?_)
 refine D2 (.range 8) [(0, 1), (3, 1), (1, 2), (2, 1), (4, 2), (5, 1), (6, 0), (7, 0)] kR kR fun hs => ?_
 refine F6 hs rfl (qw_ 5) rfl ?_
 refine F6 hs rfl (qw_ 5) rfl ?_
 refine G1 rfl (aS rfl a0) kR (Y4 _ _ hx0 _) rfl ?_
 rintro r1 M1 J1 ⟨rfl, h1⟩
 refine F6 hs rfl (A3a (h1.rd fun _ h => by simp [h]) rfl kR) rfl ?_
 refine G1 rfl (aS rfl a0) kR (Y4 _ _ hy0 _) rfl ?_
 rintro r2 M2 J2 ⟨rfl, h2⟩
 refine F6 hs rfl (A3a (h2.rd fun _ h => by simp [h]) rfl kR) rfl ?_
 refine D1 hs rfl (A9F rfl rfl) rfl ?_
 refine fa_ hs ?_
 refine E3 (D8 4) (C2 ?_)
 refine ⟨_, [], [], I4 rfl rfl, List.nil_sublist _, by simp, by rw [B3n hxl hyl], rfl, rfl⟩
theorem A9g (v : Value) (x : Nat) (hx : Fe v x) (A : Mem) : FnV Tryz.prog 192 [v] A (.bool (decide (x = 0))) := by
 have hx0 := hx
 have hxl := hx.lt
 obtain ⟨a, b, c, d, e, rfl, -⟩ := hx
 refine FnX.enter (N := 6) Tryz.func192 rfl rfl rfl fun w => ?_
 refine C4 (D8 0) (A3 ?_)
 refine A6 rfl (bx_ fun b1 => ?_)
 refine as_ (A0 (D8 1) (A3 ?_))
 refine A4 (qw_ 5) rfl ?_
 refine A4 (F3 (place := fun i => some (i * 1, 1)) (z := [A7, A7, A7, A7, A7]) (fun _ => by kernel_rfl) e0 bd0) rfl ?_
 refine F8 (aS rfl (aS rfl a0)) kR (A0l _ _ _ _ hx0 K4 _) rfl ?_
 refine as_ (A0 (D8 2) (C2 ?_))
 refine ⟨_, [], [], I4 rfl rfl, List.nil_sublist _, by simp, rfl, rfl, rfl⟩
theorem A3A (v : Value) (x : Nat) (hx : Fe v x) (A : Mem) : FnV Tryz.prog 171 [v] A (.bool (decide (x % 2 = 1))) := by
 have hx0 := hx
 have hxl := hx.lt
 obtain ⟨a, b, c, d, e, rfl, -⟩ := hx
 refine FnX.enter (N := 9) Tryz.func171 rfl rfl rfl fun w => ?_
 refine C4 (D8 0) (A3 ?_)
 refine A6 rfl (bx_ fun b1 => ?_)
 refine as_ (A0 (D8 1) (A3 ?_))
 refine A4 (qw_ 5) rfl ?_
 refine C9 (aS rfl a0) kR (Y4 _ _ hx0 _) rfl ?_
 rintro r1 M1 J1 ⟨rfl, h1⟩
 refine A4 (B2w (h1.rd fun _ h => h) rfl rfl kR 0 rfl (by decide)) rfl ?_
 refine A4 (A5Q (h1.rd fun _ h => by simp [h]) rfl kR (by decide)) rfl ?_
 refine A4 (L9 1 2 rfl rfl rfl rfl rfl (getD_lt (A0w x 255) (by decide)) (by decide)) rfl ?_
 refine A4 (F1 rfl rfl rfl) rfl ?_
 refine as_ (A0 (D8 2) (C2 ?_))
 refine ⟨_, [], [], I4 rfl rfl, List.nil_sublist _, by simp, ?_, rfl, rfl⟩
 rw [A04 (by decide), prt]
 simp only [Nat.reducePow, Nat.reduceMul, Nat.div_one]
 congr 1
 unfold p25 at hxl
 have e : x % 57896044618658097711785492504343953926634992332820282019728792003956564819968 % 256 % 2 = x % 2 := by omega
 rw [e]
 rcases Nat.mod_two_eq_zero_or_one x with h | h <;> rw [h] <;> rfl

def pwE (x N i : Nat) : Nat := x ^ (N / 2 ^ i) % p25
theorem B3o (x N i : Nat) : pwE x N i = (if N / 2 ^ i % 2 = 1 then pwE x N (i + 1) * pwE x N (i + 1) % p25 * (x % p25) % p25 else pwE x N (i + 1) * pwE x N (i + 1) % p25) := by
  have h : N / 2 ^ i = 2 * (N / 2 ^ (i + 1)) + N / 2 ^ i % 2 := by
    rw [Nat.pow_succ, ← Nat.div_div_eq_div_mul]; omega
  unfold pwE
  have hb : N / 2 ^ i % 2 = 0 ∨ N / 2 ^ i % 2 = 1 := by omega
  rcases hb with hb | hb
  · rw [if_neg (by omega)]
    conv => lhs; rw [h, hb, Nat.add_zero, Nat.two_mul, Nat.pow_add, Nat.mul_mod]
  · rw [if_pos hb]
    conv => lhs; rw [h, hb, Nat.two_mul, Nat.pow_add, Nat.pow_add, Nat.pow_one, Nat.mul_mod, Nat.mul_mod (x ^ _)]
theorem A1t (v : Value) (x : Nat) (hx : Fe v x) (es : List Nat) (hes : es.length = 32) (he256 : ∀ y ∈ es, y < 256) (A : Mem) : FnX Tryz.prog 167 [v, .agg (nums .u8 es).toArray] [] A fun r M J => M = [] ∧ J = [] ∧ Fe r (x ^ bv es % p25) := by
 have hx0 := hx
 have hxl := hx.lt
 obtain ⟨a, b, c, d, e, rfl, -⟩ := hx
 refine FnX.enter (N := 27) Tryz.func167 rfl rfl rfl fun w => ?_
 refine C4 (D5 0 1) (A3 ?_)
 refine A6 rfl (bx_ fun b2 => ?_)
 refine A6 rfl (bx_ fun b3 => ?_)
 refine A6 rfl (C5 (cs := [A7, A7, A7, A7, A7]) kR rfl fun b4 => ?_)
 refine A0 (E1 2 3 4) (A3 ?_)
 refine C9 (aS rfl a0) kR (A3w 1 (by decide) _) rfl ?_
 rintro r1 M1 J1 ⟨rfl, rfl, hr1⟩
 have hr10 := hr1
 obtain ⟨o0, o1, o2, o3, o4, rfl, -⟩ := hr1
 refine A6 rfl (C5 (cs := [A7, A7, A7, A7, A7]) kR rfl fun b5 => ?_)
 refine A6 rfl (A8 rfl rfl Cel.cel kR ln5 al5 UpC.upd ?_)
 refine A0 (E7 2 3 4 5) (A5 (A3 (as_ (A0 (F7 2 3 4 5 6) (C0 ?_)))))
 refine F2 (α := Nat × Nat × Nat × Nat × Nat × Nat) (fun y => [(2, .pointer (some ⟨b2, 0, none⟩)), (3, .pointer (some ⟨b3, 0, none⟩)), (4, .pointer (some ⟨b4, 0, none⟩)), (5, .pointer (some ⟨b5, 0, none⟩)), (6, .int .i64 ((y.1 : Int) - 1))]) (fun y => [(b5, blk [.int .u64 (y.2.1 : Int), .int .u64 (y.2.2.1 : Int), .int .u64 (y.2.2.2.1 : Int), .int .u64 (y.2.2.2.2.1 : Int), .int .u64 (y.2.2.2.2.2 : Int)] 205), (b4, blk [.int .u64 0, .int .u64 0, .int .u64 0, .int .u64 0, .int .u64 0] 205), (b3, blk (nums .u8 es) 202), (b2, blk [.int .u64 (a : Int), .int .u64 (b : Int), .int .u64 (c : Int), .int .u64 (d : Int), .int .u64 (e : Int)] 205)]) (fun _ => []) (fun y => y.1 ≤ 256 ∧ Fe (el y.2.1 y.2.2.1 y.2.2.2.1 y.2.2.2.2.1 y.2.2.2.2.2) (pwE x (bv es) y.1)) (fun y => y.1) (256, o0, o1, o2, o3, o4) ⟨Nat.le_refl _, by rw [show pwE x (bv es) 256 = 1 by unfold pwE; rw [Nat.div_eq_of_lt (by have := B6w he256; rw [hes] at this; exact this)]; rfl]; exact hr10⟩ (F7 2 3 4 5 6) .rfl (fun _ h => h) ?_
 rintro ⟨j, o0, o1, o2, o3, o4⟩ ⟨hj, ho⟩
 dsimp only at hj ho ⊢
 refine A5 (A3 (mv_ ?_))
 refine A4 (F1 rfl rfl rfl) rfl ?_
 refine A0 (I5 2 3 4 5 6 9) ?_
 refine C8 rfl (fun hc => ?_) (fun hc => ?_)
 ·
  have hj0 : 0 < j := by simp at hc; omega
  obtain ⟨i, rfl⟩ : ∃ i, j = i + 1 := ⟨j - 1, by omega⟩
  have ei : ((i + 1 : Nat) : Int) - 1 = (i : Int) := by omega
  rw [ei]
  have hps := B3o x (bv es) i
  have hbit := A6j he256 i
  rw [← Nat.shiftRight_eq_div_pow] at hbit
  have hpb : es.getD (i / 8) 0 < 256 := getD_lt he256 (by decide)
  have hsr := Nat.shiftRight_le (es.getD (i / 8) 0) (i % 8)
  have hbt : bv es / 2 ^ i % 2 < 2 := Nat.mod_lt _ (by decide)
  generalize bv es / 2 ^ i % 2 = bt at *
  refine A9 (nx (F7 2 3 4 5 6) (A5 (C0 (A3 ?_))))
  refine A4 (qw_ 5) rfl ?_
  refine C9 (aS rfl a0) kR (Z8 _ _ ho _) rfl ?_
  rintro r2 M2 J2 ⟨rfl, rfl, hr2⟩
  have hr20 := hr2
  obtain ⟨s0, s1, s2, s3, s4, rfl, -⟩ := hr2
  refine A6 rfl (A8 rfl rfl Cel.cel kR ln5 al5 UpC.upd ?_)
  refine A0 (F7 2 3 4 5 6) (A3 (mv_ ?_))
  refine A4 (A0P 8 rfl rfl rfl (by decide) (A19 (by omega))) rfl ?_
  refine A4 (E5 (e := 5) (n := 32) (sz := 1) (i := i / 8) rfl rfl kR kR rfl (by omega)) rfl ?_
  refine A4 (Q0 (i / 8) rfl kR At.mem (by omega) (by omega)) rfl ?_
  refine mv_ ?_
  refine A4 (A0Q 8 rfl rfl rfl (by decide)) rfl ?_
  refine A4 (A0C (i % 8) rfl rfl rfl (by show _ ≤ 8; omega)) rfl ?_
  refine A4 (hbit ▸ L9 1 2 rfl rfl rfl rfl rfl (by show _ < 256; omega) (by decide)) rfl ?_
  refine A4 (F1 rfl rfl rfl) rfl ?_
  refine A0 (I5 2 3 4 5 6 22) ?_
  refine C8 rfl (fun hc => ?_) (fun hc => ?_)
  ·
   have hb1 : bt = 1 := by simp at hc; omega
   rw [if_pos hb1] at hps
   refine C3 ?_
   refine A4 (qw_ 5) rfl ?_
   refine A4 (qw_ 5) rfl ?_
   refine C9 (aS rfl (aS rfl a0)) kR (A1S _ _ _ _ hr20 hx0 _) rfl ?_
   rintro r3 M3 J3 ⟨rfl, rfl, hr3⟩
   rw [Nat.mod_eq_of_lt hxl] at hps
   rw [← hps] at hr3
   have hr30 := hr3
   obtain ⟨t0, t1, t2, t3, t4, rfl, -⟩ := hr3
   refine A6 rfl (A8 rfl rfl Cel.cel kR ln5 al5 UpC.upd ?_)
   refine D0 (nb (nx (F7 2 3 4 5 6) (C3 (mv_ ?_))))
   refine A4 (E4 ((i : Int) - 1) rfl rfl (Y8 rfl (by omega) (by omega))) rfl ?_
   refine as_ (D0 ?_)
   exact rn (i, t0, t1, t2, t3, t4) ⟨by dsimp only; omega, hr30⟩ (by dsimp only; omega) (F7 2 3 4 5 6) .rfl (fun _ h => h)
  ·
   have hb1 : ¬ bt = 1 := by simp at hc; omega
   rw [if_neg hb1] at hps
   refine A9 (nb (nx (F7 2 3 4 5 6) (C3 (mv_ ?_))))
   refine A4 (E4 ((i : Int) - 1) rfl rfl (Y8 rfl (by omega) (by omega))) rfl ?_
   refine as_ (D0 ?_)
   exact rn (i, s0, s1, s2, s3, s4) ⟨by dsimp only; omega, by dsimp only; rw [hps]; exact hr20⟩ (by dsimp only; omega) (F7 2 3 4 5 6) .rfl (fun _ h => h)
 ·
  have hj0 : j = 0 := by simp at hc; omega
  subst hj0
  refine E6 (te (re (be rfl (nx (D5 4 5) (A3 ?_)))))
  refine A4 (qw_ 5) rfl ?_
  refine A6 rfl (A8 rfl rfl Cel.cel kR ln5 al5 UpC.upd ?_)
  refine A0 (D8 4) (C2 ?_)
  refine ⟨_, [], [], A1k rfl rfl kR At.mem (by rfl), List.nil_sublist _, by simp, rfl, rfl, ?_⟩
  have : pwE x (bv es) 0 = x ^ bv es % p25 := by unfold pwE; rw [Nat.pow_zero, Nat.div_one]
  rw [← this]; exact ho

end Go.Proofs.YthbhpfefdnffaaaGreatDoor
