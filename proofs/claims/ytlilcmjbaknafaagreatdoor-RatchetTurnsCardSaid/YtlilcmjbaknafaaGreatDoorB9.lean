/- Part 9 of the texts of this claim, one behind the other. -/
import Derived.Test.YtlilcmjbaknafaaGreatDoorB8
import Derived.Laws.Strings
set_option linter.unusedVariables false
set_option linter.unusedSimpArgs false
set_option maxRecDepth 100000
namespace Go.Proofs.YtlilcmjbaknafaaGreatDoor
open Go.Px
def A0z : LN → List Value
  | [] => []
  | x :: r => .int .u64 ((x / 18446744073709551616 : Nat) : Int) :: .int .u64 ((x % 18446744073709551616 : Nat) : Int) :: A0z r
theorem B0m (Xs : LN) : (A0z Xs).length = 2 * Xs.length := by
  induction Xs with
  | nil => rfl
  | cons x r ih => simp [A0z, ih]; omega
theorem A59 : ∀ (Xs : LN) (j : Nat), j < Xs.length → (A0z Xs)[2 * j]? = some (.int .u64 ((Xs.getD j 0 / 18446744073709551616 : Nat) : Int)) ∧ (A0z Xs)[2 * j + 1]? = some (.int .u64 ((Xs.getD j 0 % 18446744073709551616 : Nat) : Int))
  | [], j, h => by simp at h
  | x :: r, 0, h => by simp [A0z]
  | x :: r, j + 1, h => by
    have := A59 r j (by simpa using h)
    rw [show 2 * (j + 1) = 2 * j + 1 + 1 by omega]
    simpa [A0z] using this
theorem A6a : ∀ (Xs : LN) (j x : Nat), j < Xs.length → (A0z Xs).take (2 * j) ++ [.int .u64 ((x / 18446744073709551616 : Nat) : Int), .int .u64 ((x % 18446744073709551616 : Nat) : Int)] ++ (A0z Xs).drop (2 * j + 2) = A0z (Xs.set j x)
  | [], j, x, h => by simp at h
  | y :: r, 0, x, h => by simp [A0z]
  | y :: r, j + 1, x, h => by
    have := A6a r j x (by simpa using h)
    rw [show 2 * (j + 1) = 2 * j + 1 + 1 by omega]
    simp only [A0z, List.take_succ_cons, List.cons_append, List.drop_succ_cons, List.set_cons_succ, this]
theorem B71 {P : Program} {R : Mem} {l : Env} {d : Option Nat} {ty t : TypeId} {pos : String} {af : Array Edge} {g : Option (Nat × Bool)} {x : Operand} {b o : Nat} {Xs : LN} {e : TypeId} {fr : Nat × Nat} (j : Nat) (hx : ev l x = some (.pointer (some ⟨b, o, none⟩))) (ht : A6w P t = some 2)
    (hb : (b, Obj.cells (A0z Xs).toArray e fr) ∈ R) (ho : o = 2 * j) (hj : j < Xs.length) : OpQ P R ⟨d, .load t x, ty, pos, af, g⟩ l (wd (Xs.getD j 0 / 18446744073709551616) (Xs.getD j 0 % 18446744073709551616)) := by
  subst ho
  obtain ⟨h1, h2⟩ := A59 Xs j hj
  refine T4 (vs := [.int .u64 ((Xs.getD j 0 / 18446744073709551616 : Nat) : Int), .int .u64 ((Xs.getD j 0 % 18446744073709551616 : Nat) : Int)]) hx ht hb rfl ?_
  intro i v hv
  match i, hv with
  | 0, hv => cases hv; exact h1
  | 1, hv => cases hv; exact h2
  | i + 2, hv => simp at hv
theorem B72 {C : Cx} {l : Env} {M J : Mem} {K : Env → Mem → Mem → Prop} {ty t : TypeId} {pos : String} {af : Array Edge} {g : Option (Nat × Bool)} {x y : Operand} {b o hi lo X : Nat} {Xs : LN} {e : TypeId} {M' : Mem} (j : Nat) (hx : ev l x = some (.pointer (some ⟨b, o, none⟩))) (hy : ev l y = some (wd hi lo))
    (ht : P3 C.P t = some 2) (ho : o = 2 * j) (hj : j < Xs.length) (hh : hi < 18446744073709551616) (hl : lo < 18446744073709551616) (hX : hi * 18446744073709551616 + lo = X) (hu : Upd M b (blk (A0z Xs) e) (blk (A0z (Xs.set j X)) e) M') (k : K l M' J) :
    OpL C ⟨none, .store t x y, ty, pos, af, g⟩ l M J K := by
  subst ho
  refine N8 (vs := [.int .u64 (hi : Int), .int .u64 (lo : Int)]) hx hy rfl ht (by rw [B0m]; simp; omega) (by simp [Value.oneCell']) ?_ hu k
  rw [← A6a Xs j X hj]
  have e1 : X / 18446744073709551616 = hi := by omega
  have e2 : X % 18446744073709551616 = lo := by omega
  rw [e1, e2]; rfl
theorem A3Z {a : Nat} (h : a < 4503599627370496) : a < 18446744073709551616 := by omega
theorem B88 (h l : Nat) : l % 2251799813685248 = (h * 18446744073709551616 + l) % 2251799813685248 := by omega
theorem lowM (x : Nat) : x % 18446744073709551616 % 2251799813685248 = x % 2251799813685248 := by omega
theorem B89 (x : Nat) : x % 2251799813685248 < 4503599627370496 := by omega
theorem B73 {z1 z2 z3 z4 z5 y1 y2 y3 y4 y5 b : Nat} (h1 : z1 ≤ y1) (h2 : z2 ≤ y2) (h3 : z3 ≤ y3) (h4 : z4 ≤ y4) (h5 : z5 ≤ y5) (hb : y1 + y2 + y3 + y4 + y5 < b) : z1 + z2 + z3 + z4 + z5 < b := by omega
theorem back (X : Nat) : X / 18446744073709551616 * 18446744073709551616 + X % 18446744073709551616 = X := by omega
theorem B74 {xs : LN} {b i : Nat} (h : ∀ x ∈ xs, x < b) (hb : 0 < b) : xs.getD i 0 < b := getD_lt h hb
theorem A3o (v u : Value) (x y : Nat) (hx : Fe v x) (hy : Fe u y) (A : Mem) : FnX Tryz.prog 90 [v, u] [] A fun r M J => M = [] ∧ J = [] ∧ Fe r (x * y % p25) := by
 obtain ⟨a, b, c, d, e, rfl, hl0, hl1, hl2, hl3, hl4, rfl⟩ := hx
 obtain ⟨u0, u1, u2, u3, u4, rfl, hu0, hu1, hu2, hu3, hu4, rfl⟩ := hy
 refine FnX.enter (N := 105) Tryz.func90 rfl rfl rfl fun w => ?_
 refine B0 (D2 0 1) (A1 ?_)
 refine A5 rfl (bx_ fun b2 => ?_)
 refine A5 rfl (bx_ fun b3 => ?_)
 refine A5 rfl (C4 (cs := [E3, E3, E3, E3, E3]) kR rfl fun b4 => ?_)
 refine A0 (D6 2 3 4) (A1 ?_)
 refine A5 rfl (C4 (cs := [E3, E3, E3, E3, E3, E3, E3, E3, E3, E3]) kR rfl fun b5 => ?_)
 refine A0 (D8 2 3 4 5) (A3 (A1 (mv_ (A0 (E4 2 3 4 5 10) (A4 ?_)))))
 have has : ∀ x ∈ [a, b, c, d, e], x < 4503599627370496 := by intro x hx; simp only [List.mem_cons, List.not_mem_nil, or_false] at hx; rcases hx with rfl | rfl | rfl | rfl | rfl <;> assumption
 have hbs : ∀ x ∈ [u0, u1, u2, u3, u4], x < 4503599627370496 := by intro x hx; simp only [List.mem_cons, List.not_mem_nil, or_false] at hx; rcases hx with rfl | rfl | rfl | rfl | rfl <;> assumption
 have hall := B2T a b c d e u0 u1 u2 u3 u4 hl0 hl1 hl2 hl3 hl4 hu0 hu1 hu2 hu3 hu4
 have hla : [a, b, c, d, e].length = 5 := rfl
 have hlb : [u0, u1, u2, u3, u4].length = 5 := rfl
 refine A1C (M' := [(b5, blk (A0z [0, 0, 0, 0, 0]) 171), (b4, blk [.int .u64 0, .int .u64 0, .int .u64 0, .int .u64 0, .int .u64 0] 153), (b3, blk (nums .u64 [u0, u1, u2, u3, u4]) 153), (b2, blk (nums .u64 [a, b, c, d, e]) 153)]) (Fit.eq rfl) qI ?_
 generalize [a, b, c, d, e] = xs at *
 generalize [u0, u1, u2, u3, u4] = ys at *
 refine D3 (α := Nat) (fun i => [(2, (vP b2)), (3, (vP b3)), (4, (vP b4)), (5, (vP b5)), (10, .int .i64 (i : Int))]) (fun i => [(b5, blk (A0z (A49 xs ys i)) 171), (b4, blk [.int .u64 0, .int .u64 0, .int .u64 0, .int .u64 0, .int .u64 0] 153), (b3, blk (nums .u64 ys) 153), (b2, blk (nums .u64 xs) 153)]) (fun _ => []) (fun i => i ≤ 5) (fun i => 5 - i) 0 qD (E4 2 3 4 5 10) .rfl qI ?_
 rintro i hi
 refine A1 ?_
 refine A2 (D4 rfl rfl rfl) rfl ?_
 refine A0 (H3 2 3 4 5 10 11) (A3 ?_)
 refine C1 rfl ?_ ?_ <;> intro hc
 ·
  have hi5 : i < 5 := by simp at hc; omega
  have hfa : xs.getD i 0 < 4503599627370496 := B74 has qD
  refine A6 (nx (E4 2 3 4 5 10) (A3 (A4 (A1 (mv_ (as_ (A0 (H3 2 3 4 5 6 10) (A1 ?_))))))))
  refine mv_ (A0 (N0 2 3 4 5 6 10 13) (A4 ?_))
  refine D3 (α := Nat) (fun k => [(2, (vP b2)), (3, (vP b3)), (4, (vP b4)), (5, (vP b5)), (6, .int .i64 (i : Int)), (10, .int .i64 (i : Int)), (13, .int .i64 (k : Int))]) (fun k => [(b5, blk (A0z (A48 xs ys i k (A49 xs ys i))) 171), (b4, blk [.int .u64 0, .int .u64 0, .int .u64 0, .int .u64 0, .int .u64 0] 153), (b3, blk (nums .u64 ys) 153), (b2, blk (nums .u64 xs) 153)]) (fun _ => []) (fun k => k ≤ 5) (fun k => 5 - k) 0 qD (N0 2 3 4 5 6 10 13) .rfl qI ?_
  rintro k hk
  refine A1 ?_
  refine A2 (D4 rfl rfl rfl) rfl ?_
  refine A0 (T6 2 3 4 5 6 10 13 14) (A3 ?_)
  refine C1 rfl ?_ ?_ <;> intro hc
  ·
   have hk5 : k < 5 := by simp at hc; omega
   have hfb : ys.getD k 0 < 4503599627370496 := B74 hbs qD
   have hlx : (A48 xs ys i k (A49 xs ys i)).length = 5 := by rw [A7E, B2S]
   have hXlt : ∀ j, (A48 xs ys i k (A49 xs ys i)).getD j 0 < 340282366920938463463374607431768211456 := fun j => getD_lt (B0g xs ys i k (B5Y xs ys i)) qD
   refine A6 (nx (N0 2 3 4 5 6 10 13) (A3 (A4 (A1 (mv_ (as_ (A0 (T6 2 3 4 5 6 7 10 13) (A1 ?_))))))))
   refine mv_ (mv_ ?_)
   refine A2 (C7 ((i + k : Nat) : Int) rfl rfl (E1 qO qO qO)) rfl ?_
   refine A2 (D4 rfl rfl rfl) rfl ?_
   refine A0 (Z7 2 3 4 5 6 7 10 13 19) ?_
   refine C1 rfl ?_ ?_ <;> intro hc
   ·
    have hs5 : i + k < 5 := by simp at hc; omega
    have hj : B5W i k = i + k := by unfold B5W; rw [if_pos hs5]
    have hfx : B7j xs i k = xs.getD i 0 := by unfold B7j; rw [if_pos hs5]
    refine F8 (.range 16) (zp 0 [0, 0, 0, 0, 0, 0, 0, 1, 0, 0, 1, 0, 0, 1, 2, 0, 2]) kR kR fun hs => ?_
    refine fm_ hs ?_
    refine fm_ hs ?_
    refine C2 hs rfl (C7 ((i + k : Nat) : Int) rfl rfl (E1 qO qO qO)) rfl ?_
    refine fm_ hs ?_
    refine fm_ hs ?_
    refine C2 hs rfl (C7 ((i + k : Nat) : Int) rfl rfl (E1 qO qO qO)) rfl ?_
    refine C2 hs rfl (E8 (e := 170) (n := 5) (sz := 2) (i := i + k) rfl rfl kR kR rfl qO) rfl ?_
    refine G4 hs rfl (B71 (i + k) rfl kR At.mem qO qO) rfl ?_
    refine fm_ hs ?_
    refine C2 hs rfl (E8 (e := 94) (n := 5) (sz := 1) (i := i) rfl rfl kR kR rfl qO) rfl ?_
    refine G4 hs rfl (H9 i rfl kR (by first | exact At.mem | exact mA (by assumption)) qO qO) rfl ?_
    refine fm_ hs ?_
    refine C2 hs rfl (E8 (e := 94) (n := 5) (sz := 1) (i := k) rfl rfl kR kR rfl qO) rfl ?_
    refine G4 hs rfl (H9 k rfl kR (by first | exact At.mem | exact mA (by assumption)) qO qO) rfl ?_
    refine L8 rfl (aS rfl (aS rfl (aS rfl a0))) kR (A3n _ _ _ _ (by have := hXlt (i + k); omega) (Nat.mod_lt _ qD) (A3Z hfa) (A3Z hfb) _) rfl ?_
    rintro r1 M1 J1 ⟨rfl, rfl, h1, l1, rfl, g1, k1, e1⟩
    rw [back] at e1
    refine C2 hs rfl (E8 (e := 170) (n := 5) (sz := 2) (i := i + k) rfl rfl kR kR rfl qO) rfl ?_
    refine F5 rfl rfl rfl (B72 (Xs := A48 xs ys i k (A49 xs ys i)) (i + k) rfl rfl kR qO qO g1 k1 e1 UpC.upd ?_)
    rw [show (A48 xs ys i k (A49 xs ys i)).set (i + k) (((A48 xs ys i k (A49 xs ys i)).getD (i + k) 0 + xs.getD i 0 * ys.getD k 0) % 340282366920938463463374607431768211456) = A48 xs ys i (k + 1) (A49 xs ys i) by rw [A48, B0f, hj, hfx]]
    refine Q8 (nb (nx (N0 2 3 4 5 6 10 13) (A7 ?_)))
    refine A2 (C7 ((k + 1 : Nat) : Int) rfl rfl (E1 qO qO qO)) rfl ?_
    refine mv_ (C0 ?_)
    exact rn (k + 1) qO qO (N0 2 3 4 5 6 10 13) .rfl qI
   ·
    have hs5 : ¬ i + k < 5 := by simp at hc; omega
    have hj : B5W i k = i + k - 5 := by unfold B5W; rw [if_neg hs5]
    have hfx : B7j xs i k = 19 * xs.getD i 0 % 18446744073709551616 := by unfold B7j; rw [if_neg hs5]
    refine F8 (.range 19) (zp 0 [0, 0, 0, 0, 0, 0, 0, 0, 0, 1, 0, 0, 1, 0, 0, 0, 1, 2, 0, 2]) kR kR fun hs => ?_
    refine fm_ hs ?_
    refine fm_ hs ?_
    refine C2 hs rfl (C7 ((i + k : Nat) : Int) rfl rfl (E1 qO qO qO)) rfl ?_
    refine C2 hs rfl (C7 ((i + k - 5 : Nat) : Int) rfl rfl (A0h qO qO qO)) rfl ?_
    refine fm_ hs ?_
    refine fm_ hs ?_
    refine C2 hs rfl (C7 ((i + k : Nat) : Int) rfl rfl (E1 qO qO qO)) rfl ?_
    refine C2 hs rfl (C7 ((i + k - 5 : Nat) : Int) rfl rfl (A0h qO qO qO)) rfl ?_
    refine C2 hs rfl (E8 (e := 170) (n := 5) (sz := 2) (i := i + k - 5) rfl rfl kR kR rfl qO) rfl ?_
    refine G4 hs rfl (B71 (i + k - 5) rfl kR At.mem qO qO) rfl ?_
    refine fm_ hs ?_
    refine C2 hs rfl (E8 (e := 94) (n := 5) (sz := 1) (i := i) rfl rfl kR kR rfl qO) rfl ?_
    refine G4 hs rfl (H9 i rfl kR (by first | exact At.mem | exact mA (by assumption)) qO qO) rfl ?_
    refine C2 hs rfl (N2 18446744073709551616 (a := 19) rfl rfl rfl rfl rfl rfl) rfl ?_
    refine fm_ hs ?_
    refine C2 hs rfl (E8 (e := 94) (n := 5) (sz := 1) (i := k) rfl rfl kR kR rfl qO) rfl ?_
    refine G4 hs rfl (H9 k rfl kR (by first | exact At.mem | exact mA (by assumption)) qO qO) rfl ?_
    refine L8 rfl (aS rfl (aS rfl (aS rfl a0))) kR (A3n _ _ _ _ (by have := hXlt (i + k - 5); omega) (Nat.mod_lt _ qD) (Nat.mod_lt _ qD) (A3Z hfb) _) rfl ?_
    rintro r1 M1 J1 ⟨rfl, rfl, h1, l1, rfl, g1, k1, e1⟩
    rw [back] at e1
    refine C2 hs rfl (E8 (e := 170) (n := 5) (sz := 2) (i := i + k - 5) rfl rfl kR kR rfl qO) rfl ?_
    refine F5 rfl rfl rfl (B72 (Xs := A48 xs ys i k (A49 xs ys i)) (i + k - 5) rfl rfl kR qO qO g1 k1 e1 UpC.upd ?_)
    rw [show (A48 xs ys i k (A49 xs ys i)).set (i + k - 5) (((A48 xs ys i k (A49 xs ys i)).getD (i + k - 5) 0 + (19 * xs.getD i 0 % 18446744073709551616) * ys.getD k 0) % 340282366920938463463374607431768211456) = A48 xs ys i (k + 1) (A49 xs ys i) by rw [A48, B0f, hj, hfx]]
    refine Q8 (nb (nx (N0 2 3 4 5 6 10 13) (A7 ?_)))
    refine A2 (C7 ((k + 1 : Nat) : Int) rfl rfl (E1 qO qO qO)) rfl ?_
    refine mv_ (C0 ?_)
    exact rn (k + 1) qO qO (N0 2 3 4 5 6 10 13) .rfl qI
  ·
   have hk5 : k = 5 := by simp at hc; omega
   subst hk5
   refine D0 (te (re (be rfl (nb (nx (E4 2 3 4 5 10) (A7 ?_))))))
   refine A2 (C7 ((i + 1 : Nat) : Int) rfl rfl (E1 qO qO qO)) rfl ?_
   refine mv_ (C0 ?_)
   exact rn (i + 1) qO qO (E4 2 3 4 5 10) .rfl qI
 ·
  have hi5 : i = 5 := by simp at hc; omega
  subst hi5
  rw [hall]
  clear hall
  have z00 := zb hl0 hu0
  have z01 := A4o hl1 hu4
  have z02 := A4o hl2 hu3
  have z03 := A4o hl3 hu2
  have z04 := A4o hl4 hu1
  have y0 := B73 z00 z01 z02 z03 z04 (b := 2596148429267413814265248164610048) qD
  clear z00 z01 z02 z03 z04
  have z10 := zb hl0 hu1
  have z11 := zb hl1 hu0
  have z12 := A4o hl2 hu4
  have z13 := A4o hl3 hu3
  have z14 := A4o hl4 hu2
  have y1 := B73 z10 z11 z12 z13 z14 (b := 2596148429267413814265248164610048) qD
  clear z10 z11 z12 z13 z14
  have z20 := zb hl0 hu2
  have z21 := zb hl1 hu1
  have z22 := zb hl2 hu0
  have z23 := A4o hl3 hu4
  have z24 := A4o hl4 hu3
  have y2 := B73 z20 z21 z22 z23 z24 (b := 2596148429267413814265248164610048) qD
  clear z20 z21 z22 z23 z24
  have z30 := zb hl0 hu3
  have z31 := zb hl1 hu2
  have z32 := zb hl2 hu1
  have z33 := zb hl3 hu0
  have z34 := A4o hl4 hu4
  have y3 := B73 z30 z31 z32 z33 z34 (b := 2596148429267413814265248164610048) qD
  clear z30 z31 z32 z33 z34
  have z40 := zb hl0 hu4
  have z41 := zb hl1 hu3
  have z42 := zb hl2 hu2
  have z43 := zb hl3 hu1
  have z44 := zb hl4 hu0
  have y4 := B73 z40 z41 z42 z43 z44 (b := 162259276829213363391578010288128) qD
  clear z40 z41 z42 z43 z44
  have hring := B2R a b c d e u0 u1 u2 u3 u4
  generalize a * u0 + 19 * b * u4 + 19 * c * u3 + 19 * d * u2 + 19 * e * u1 = R0 at *
  generalize a * u1 + b * u0 + 19 * c * u4 + 19 * d * u3 + 19 * e * u2 = R1 at *
  generalize a * u2 + b * u1 + c * u0 + 19 * d * u4 + 19 * e * u3 = R2 at *
  generalize a * u3 + b * u2 + c * u1 + d * u0 + 19 * e * u4 = R3 at *
  generalize a * u4 + b * u3 + c * u2 + d * u1 + e * u0 = R4 at *
  have x0 : R0 / 18446744073709551616 < 18446744073709551616 := by omega
  have x1 : R1 / 18446744073709551616 < 18446744073709551616 := by omega
  have x2 : R2 / 18446744073709551616 < 18446744073709551616 := by omega
  have x3 : R3 / 18446744073709551616 < 18446744073709551616 := by omega
  have x4 : R4 / 18446744073709551616 < 18446744073709551616 := by omega
  simp only [A0z]
  refine D0 (te (re (be rfl (nx (D2 4 5) (A1 ?_)))))
  refine A5 rfl (C4 (cs := [E3, E3, E3, E3, E3]) kR rfl fun b8 => ?_)
  refine A0 (D6 4 5 8) (A3 (A1 (mv_ (A0 (D8 4 5 8 57) (A4 ?_)))))
  refine T7 5 ?_
  refine F6 ?_
  refine A1 ?_
  refine A2 (E9 true rfl rfl (ltT qD)) rfl ?_
  refine A0 (E4 4 5 8 57 58) (A3 ?_)
  refine D5 rfl ?_
  refine A6 (nx (D8 4 5 8 57) (A3 (A4 (A1 (mv_ (as_ (A0 (E4 4 5 8 9 57) ?_)))))))
  refine C9 (.range 12) (zp 0 [0, 0, 0, 0, 0, 1, 0, 0, 1, 2, 2, 0, 2]) kR kR fun hs => ?_
  refine fm_ hs ?_
  refine C2 hs rfl (C7 (1 : Int) rfl rfl (E1 qD qD qD)) rfl ?_
  refine fm_ hs ?_
  refine C2 hs rfl (C7 (1 : Int) rfl rfl (E1 qD qD qD)) rfl ?_
  refine C2 hs rfl (qi_ 2 170 5 2 1) rfl ?_
  refine G4 hs rfl (W7 (n := 2) rfl kR (by first | exact At.mem | exact mA (by assumption)) TakeC.take) rfl ?_
  refine fm_ hs ?_
  refine C2 hs rfl (qi_ 0 170 5 2 0) rfl ?_
  refine G4 hs rfl (W7 (n := 2) rfl kR (by first | exact At.mem | exact mA (by assumption)) TakeC.take) rfl ?_
  refine Q0 rfl (aS rfl a0) kR (A0n _ _ (by first | assumption | exact A3Z (by assumption) | decide | exact Nat.mod_lt _ qD) (by first | assumption | exact A3Z (by assumption) | decide | exact Nat.mod_lt _ qD) _) rfl ?_
  refine L8 rfl (aS rfl (aS rfl a0)) kR (A07 _ _ _ (by first | assumption | exact A3Z (by assumption) | decide | exact Nat.mod_lt _ qD) (by first | assumption | exact A3Z (by assumption) | decide | exact Nat.mod_lt _ qD) (Nat.mod_lt _ qD) _) rfl ?_
  rintro r1 M1 J1 ⟨rfl, rfl, h1, l1, rfl, g1, k1, qq1⟩
  refine C2 hs rfl (qi_ 2 170 5 2 1) rfl ?_
  refine F5 rfl rfl rfl (A2B rfl rfl kR al2 UpC.upd ?_)
  refine E7 (E4 4 5 8 9 57) (A7 (mv_ (mv_ ?_)))
  refine A2 (qi_ 0 170 5 2 0) rfl ?_
  refine A2 (qf_ 1 1) rfl ?_
  refine A2 ql_ rfl ?_
  refine A2 (N4 51 2251799813685248 rfl rfl rfl rfl rfl (by show _ < 18446744073709551616; first | assumption | exact Nat.mod_lt _ qD | omega) qD) rfl ?_
  refine A2 (qi_ 0 94 5 1 0) rfl ?_
  refine A5 rfl (D9 rfl rfl rfl kR SetC.set UpC.upd ?_)
  refine C0 (nb (nx (D8 4 5 8 57) (A7 ?_)))
  refine A2 (C7 (1 : Int) rfl rfl (E1 qD qD qD)) rfl ?_
  refine mv_ (C0 ?_)
  refine un (D8 4 5 8 57) ?_
  refine F6 ?_
  refine A1 ?_
  refine A2 (E9 true rfl rfl (ltT qD)) rfl ?_
  refine A0 (E4 4 5 8 57 58) (A3 ?_)
  refine D5 rfl ?_
  refine A6 (nx (D8 4 5 8 57) (A3 (A4 (A1 (mv_ (as_ (A0 (E4 4 5 8 9 57) ?_)))))))
  refine C9 (.range 12) (zp 0 [0, 0, 0, 0, 0, 1, 0, 0, 1, 2, 2, 0, 2]) kR kR fun hs => ?_
  refine fm_ hs ?_
  refine C2 hs rfl (C7 (2 : Int) rfl rfl (E1 qD qD qD)) rfl ?_
  refine fm_ hs ?_
  refine C2 hs rfl (C7 (2 : Int) rfl rfl (E1 qD qD qD)) rfl ?_
  refine C2 hs rfl (qi_ 4 170 5 2 2) rfl ?_
  refine G4 hs rfl (W7 (n := 2) rfl kR (by first | exact At.mem | exact mA (by assumption)) TakeC.take) rfl ?_
  refine fm_ hs ?_
  refine C2 hs rfl (qi_ 2 170 5 2 1) rfl ?_
  refine G4 hs rfl (W7 (n := 2) rfl kR (by first | exact At.mem | exact mA (by assumption)) TakeC.take) rfl ?_
  refine Q0 rfl (aS rfl a0) kR (A0n _ _ (by first | assumption | exact A3Z (by assumption) | decide | exact Nat.mod_lt _ qD) (by first | assumption | exact A3Z (by assumption) | decide | exact Nat.mod_lt _ qD) _) rfl ?_
  refine L8 rfl (aS rfl (aS rfl a0)) kR (A07 _ _ _ (by first | assumption | exact A3Z (by assumption) | decide | exact Nat.mod_lt _ qD) (by first | assumption | exact A3Z (by assumption) | decide | exact Nat.mod_lt _ qD) (Nat.mod_lt _ qD) _) rfl ?_
  rintro r2 M2 J2 ⟨rfl, rfl, h2, l2, rfl, g2, k2, qq2⟩
  refine C2 hs rfl (qi_ 4 170 5 2 2) rfl ?_
  refine F5 rfl rfl rfl (A2B rfl rfl kR al2 UpC.upd ?_)
  refine E7 (E4 4 5 8 9 57) (A7 (mv_ (mv_ ?_)))
  refine A2 (qi_ 2 170 5 2 1) rfl ?_
  refine A2 (qf_ 3 1) rfl ?_
  refine A2 ql_ rfl ?_
  refine A2 (N4 51 2251799813685248 rfl rfl rfl rfl rfl (by show _ < 18446744073709551616; first | assumption | exact Nat.mod_lt _ qD | omega) qD) rfl ?_
  refine A2 (qi_ 1 94 5 1 1) rfl ?_
  refine A5 rfl (D9 rfl rfl rfl kR SetC.set UpC.upd ?_)
  refine C0 (nb (nx (D8 4 5 8 57) (A7 ?_)))
  refine A2 (C7 (2 : Int) rfl rfl (E1 qD qD qD)) rfl ?_
  refine mv_ (C0 ?_)
  refine un (D8 4 5 8 57) ?_
  refine F6 ?_
  refine A1 ?_
  refine A2 (E9 true rfl rfl (ltT qD)) rfl ?_
  refine A0 (E4 4 5 8 57 58) (A3 ?_)
  refine D5 rfl ?_
  refine A6 (nx (D8 4 5 8 57) (A3 (A4 (A1 (mv_ (as_ (A0 (E4 4 5 8 9 57) ?_)))))))
  refine C9 (.range 12) (zp 0 [0, 0, 0, 0, 0, 1, 0, 0, 1, 2, 2, 0, 2]) kR kR fun hs => ?_
  refine fm_ hs ?_
  refine C2 hs rfl (C7 (3 : Int) rfl rfl (E1 qD qD qD)) rfl ?_
  refine fm_ hs ?_
  refine C2 hs rfl (C7 (3 : Int) rfl rfl (E1 qD qD qD)) rfl ?_
  refine C2 hs rfl (qi_ 6 170 5 2 3) rfl ?_
  refine G4 hs rfl (W7 (n := 2) rfl kR (by first | exact At.mem | exact mA (by assumption)) TakeC.take) rfl ?_
  refine fm_ hs ?_
  refine C2 hs rfl (qi_ 4 170 5 2 2) rfl ?_
  refine G4 hs rfl (W7 (n := 2) rfl kR (by first | exact At.mem | exact mA (by assumption)) TakeC.take) rfl ?_
  refine Q0 rfl (aS rfl a0) kR (A0n _ _ (by first | assumption | exact A3Z (by assumption) | decide | exact Nat.mod_lt _ qD) (by first | assumption | exact A3Z (by assumption) | decide | exact Nat.mod_lt _ qD) _) rfl ?_
  refine L8 rfl (aS rfl (aS rfl a0)) kR (A07 _ _ _ (by first | assumption | exact A3Z (by assumption) | decide | exact Nat.mod_lt _ qD) (by first | assumption | exact A3Z (by assumption) | decide | exact Nat.mod_lt _ qD) (Nat.mod_lt _ qD) _) rfl ?_
  rintro r3 M3 J3 ⟨rfl, rfl, h3, l3, rfl, g3, k3, qq3⟩
  refine C2 hs rfl (qi_ 6 170 5 2 3) rfl ?_
  refine F5 rfl rfl rfl (A2B rfl rfl kR al2 UpC.upd ?_)
  refine E7 (E4 4 5 8 9 57) (A7 (mv_ (mv_ ?_)))
  refine A2 (qi_ 4 170 5 2 2) rfl ?_
  refine A2 (qf_ 5 1) rfl ?_
  refine A2 ql_ rfl ?_
  refine A2 (N4 51 2251799813685248 rfl rfl rfl rfl rfl (by show _ < 18446744073709551616; first | assumption | exact Nat.mod_lt _ qD | omega) qD) rfl ?_
  refine A2 (qi_ 2 94 5 1 2) rfl ?_
  refine A5 rfl (D9 rfl rfl rfl kR SetC.set UpC.upd ?_)
  refine C0 (nb (nx (D8 4 5 8 57) (A7 ?_)))
  refine A2 (C7 (3 : Int) rfl rfl (E1 qD qD qD)) rfl ?_
  refine mv_ (C0 ?_)
  refine un (D8 4 5 8 57) ?_
  refine F6 ?_
  refine A1 ?_
  refine A2 (E9 true rfl rfl (ltT qD)) rfl ?_
  refine A0 (E4 4 5 8 57 58) (A3 ?_)
  refine D5 rfl ?_
  refine A6 (nx (D8 4 5 8 57) (A3 (A4 (A1 (mv_ (as_ (A0 (E4 4 5 8 9 57) ?_)))))))
  refine C9 (.range 12) (zp 0 [0, 0, 0, 0, 0, 1, 0, 0, 1, 2, 2, 0, 2]) kR kR fun hs => ?_
  refine fm_ hs ?_
  refine C2 hs rfl (C7 (4 : Int) rfl rfl (E1 qD qD qD)) rfl ?_
  refine fm_ hs ?_
  refine C2 hs rfl (C7 (4 : Int) rfl rfl (E1 qD qD qD)) rfl ?_
  refine C2 hs rfl (qi_ 8 170 5 2 4) rfl ?_
  refine G4 hs rfl (W7 (n := 2) rfl kR (by first | exact At.mem | exact mA (by assumption)) TakeC.take) rfl ?_
  refine fm_ hs ?_
  refine C2 hs rfl (qi_ 6 170 5 2 3) rfl ?_
  refine G4 hs rfl (W7 (n := 2) rfl kR (by first | exact At.mem | exact mA (by assumption)) TakeC.take) rfl ?_
  refine Q0 rfl (aS rfl a0) kR (A0n _ _ (by first | assumption | exact A3Z (by assumption) | decide | exact Nat.mod_lt _ qD) (by first | assumption | exact A3Z (by assumption) | decide | exact Nat.mod_lt _ qD) _) rfl ?_
  refine L8 rfl (aS rfl (aS rfl a0)) kR (A07 _ _ _ (by first | assumption | exact A3Z (by assumption) | decide | exact Nat.mod_lt _ qD) (by first | assumption | exact A3Z (by assumption) | decide | exact Nat.mod_lt _ qD) (Nat.mod_lt _ qD) _) rfl ?_
  rintro r4 M4 J4 ⟨rfl, rfl, h4, l4, rfl, g4, k4, qq4⟩
  refine C2 hs rfl (qi_ 8 170 5 2 4) rfl ?_
  refine F5 rfl rfl rfl (A2B rfl rfl kR al2 UpC.upd ?_)
  refine E7 (E4 4 5 8 9 57) (A7 (mv_ (mv_ ?_)))
  refine A2 (qi_ 6 170 5 2 3) rfl ?_
  refine A2 (qf_ 7 1) rfl ?_
  refine A2 ql_ rfl ?_
  refine A2 (N4 51 2251799813685248 rfl rfl rfl rfl rfl (by show _ < 18446744073709551616; first | assumption | exact Nat.mod_lt _ qD | omega) qD) rfl ?_
  refine A2 (qi_ 3 94 5 1 3) rfl ?_
  refine A5 rfl (D9 rfl rfl rfl kR SetC.set UpC.upd ?_)
  refine C0 (nb (nx (D8 4 5 8 57) (A7 ?_)))
  refine A2 (C7 (4 : Int) rfl rfl (E1 qD qD qD)) rfl ?_
  refine mv_ (C0 ?_)
  refine un (D8 4 5 8 57) ?_
  refine F6 ?_
  refine A1 ?_
  refine A2 (E9 false rfl rfl (ltF qD)) rfl ?_
  refine A0 (E4 4 5 8 57 58) (A3 ?_)
  refine C6 rfl ?_
  refine D0 (te (ue (be rfl (nx (D6 4 5 8) (A1 ?_)))))
  refine A2 (qi_ 8 170 5 2 4) rfl ?_
  refine A2 (qf_ 9 1) rfl ?_
  refine A2 ql_ rfl ?_
  refine A2 (N4 51 2251799813685248 rfl rfl rfl rfl rfl (by show _ < 18446744073709551616; first | assumption | exact Nat.mod_lt _ qD | omega) qD) rfl ?_
  refine A2 (qi_ 4 94 5 1 4) rfl ?_
  refine A5 rfl (D9 rfl rfl rfl kR SetC.set UpC.upd ?_)
  refine A0 (D6 4 5 8) ?_
  refine C9 (.range 8) (zp 0 [0, 1, 0, 1, 2, 0, 0, 0, 2]) kR kR fun hs => ?_
  refine C2 hs rfl (qi_ 0 94 5 1 0) rfl ?_
  refine G4 hs rfl ql_ rfl ?_
  refine C2 hs rfl (qi_ 8 170 5 2 4) rfl ?_
  refine G4 hs rfl (W7 (n := 2) rfl kR (by first | exact At.mem | exact mA (by assumption)) TakeC.take) rfl ?_
  refine Q0 rfl (aS rfl a0) kR (A0n _ _ (by first | assumption | exact A3Z (by assumption) | decide | exact Nat.mod_lt _ qD) (by first | assumption | exact A3Z (by assumption) | decide | exact Nat.mod_lt _ qD) _) rfl ?_
  refine C2 hs rfl (N2 18446744073709551616 (a := 19) rfl rfl rfl rfl rfl rfl) rfl ?_
  refine C2 hs rfl (F2 18446744073709551616 rfl rfl rfl rfl rfl rfl) rfl ?_
  refine C2 hs rfl (qi_ 0 94 5 1 0) rfl ?_
  refine F5 rfl rfl rfl (D9 rfl rfl rfl kR SetC.set UpC.upd ?_)
  refine E7 (D2 4 8) (A1 ?_)
  refine A2 (qi_ 1 94 5 1 1) rfl ?_
  refine A2 ql_ rfl ?_
  refine A2 (qi_ 0 94 5 1 0) rfl ?_
  refine A2 ql_ rfl ?_
  refine A2 (N3 51 2251799813685248 rfl rfl rfl rfl qD) rfl ?_
  refine A2 (F2 18446744073709551616 rfl rfl rfl rfl rfl rfl) rfl ?_
  refine A2 (qi_ 1 94 5 1 1) rfl ?_
  refine A5 rfl (D9 rfl rfl rfl kR SetC.set UpC.upd ?_)
  refine A0 (D2 4 8) (A1 ?_)
  refine A2 (qi_ 0 94 5 1 0) rfl ?_
  refine A2 ql_ rfl ?_
  refine A2 (N4 51 2251799813685248 rfl rfl rfl rfl rfl (by show _ < 18446744073709551616; first | assumption | exact Nat.mod_lt _ qD | omega) qD) rfl ?_
  refine A2 (qi_ 0 94 5 1 0) rfl ?_
  refine A5 rfl (D9 rfl rfl rfl kR SetC.set UpC.upd ?_)
  refine A0 (D2 4 8) (A1 ?_)
  refine A2 (qw_ 5) rfl ?_
  refine A5 rfl (A9 rfl rfl Cel.cel kR ln5 al5 UpC.upd ?_)
  refine A0 (D7 4) (B4 ?_)
  rw [back] at qq1
  rw [back] at qq1
  rw [back] at qq2
  rw [back] at qq3
  rw [back] at qq4
  obtain ⟨t1, t2⟩ := B2P y0 y1 y2 y3 y4 qq1 qq2 qq3 qq4 (lowM R0) (B88 _ _) (B88 _ _) (B88 _ _) (B88 _ _) rfl rfl
  refine ⟨_, [], [], A3Q rfl rfl kR At.mem qR, List.nil_sublist _, by simp, rfl, rfl, _, _, _, _, _, rfl, B89 _, t1, B89 _, B89 _, B89 _, ?_⟩
  rw [L4 t2, ← Nat.mul_mod, hring, Nat.add_mul_mod_self_left]
theorem A2q (v : Value) (x : Nat) (hx : Fe v x) (A : Mem) : FnX Tryz.prog 103 [v] [] A fun r M J => M = [] ∧ J = [] ∧ Fe r (x * x % p25) := by
 have hx0 := hx
 obtain ⟨a, b, c, d, e, rfl, -⟩ := hx
 refine FnX.enter (N := 6) Tryz.func103 rfl rfl rfl fun w => ?_
 refine B0 (D7 0) (A1 ?_)
 refine A5 rfl (bx_ fun b1 => ?_)
 refine A5 rfl (C4 (cs := [E3, E3, E3, E3, E3]) kR rfl fun b2 => ?_)
 refine A0 (D2 1 2) (A1 ?_)
 refine A2 (qw_ 5) rfl ?_
 refine A2 (qw_ 5) rfl ?_
 refine C5 (aS rfl (aS rfl a0)) kR (A3o _ _ _ _ (by exact hx0) (by exact hx0) _) rfl ?_
 rintro r1 M1 J1 ⟨rfl, rfl, a1, b1, c1, d1, e1, rfl, hr⟩
 refine A5 rfl (A9 rfl rfl Cel.cel kR ln5 al5 UpC.upd ?_)
 refine A0 (D7 2) (B4 ?_)
 exact ⟨_, [], [], A3Q rfl rfl kR At.mem qR, List.nil_sublist _, by simp, rfl, rfl, a1, b1, c1, d1, e1, rfl, hr⟩
theorem A6b (n : Nat) (hn : n < 4294967296) (A : Mem) : FnX Tryz.prog 87 [.int .u32 (n : Int)] [] A fun r M J => M = [] ∧ J = [] ∧ Fe r n := by
 refine FnX.enter (N := 6) Tryz.func87 rfl rfl rfl fun w => ?_
 refine B0 (D7 0) (A1 ?_)
 refine A5 rfl (C4 (cs := [E3, E3, E3, E3, E3]) kR rfl fun b2 => ?_)
 refine A0 (D2 0 2) (A1 (mv_ ?_))
 refine A2 (A9e rfl kR) rfl ?_
 refine A2 (G6 (place := fun i => some (i * 1, 1)) (z := [E3, E3, E3, E3, E3]) (fun _ => by kernel_rfl) (eS rfl e0) (bdS 0 1 rfl qR bd0)) rfl ?_
 refine A5 rfl (A9 rfl rfl Cel.cel kR ln5 al5 UpC.upd ?_)
 refine A0 (D7 2) (B4 ?_)
 refine ⟨_, [], [], A3Q rfl rfl kR At.mem qR, List.nil_sublist _, by simp, rfl, rfl, n % 18446744073709551616, 0, 0, 0, 0, rfl, by omega, by decide, by decide, by decide, by decide, ?_⟩
 unfold fv p25; omega

end Go.Proofs.YtlilcmjbaknafaaGreatDoor
namespace Go.Px
def bv : List Nat → Nat
  | [] => 0
  | b :: r => b + 256 * bv r
theorem B75 {p : List Nat} (h : ∀ x ∈ p, x < 256) : bv p < 256 ^ p.length := by
  induction p with
  | nil => decide
  | cons b r ih =>
    have h1 := h b (by simp)
    have h2 := ih fun x hx => h x (by simp [hx])
    simp only [bv, List.length_cons, Nat.pow_succ]; omega
theorem A6U {p : List Nat} (h : ∀ x ∈ p, x < 256) (i : Nat) : bv p / 256 ^ i % 256 = p.getD i 0 := by
  induction p generalizing i with
  | nil => simp [bv]
  | cons b r ih =>
    have h1 := h b (by simp)
    cases i with
    | zero => simp only [bv, Nat.pow_zero, Nat.div_one, List.getD_cons_zero]; omega
    | succ i =>
      rw [List.getD_cons_succ, ← ih (fun x hx => h x (by simp [hx])) i, Nat.pow_succ, Nat.mul_comm, ← Nat.div_div_eq_div_mul]
      congr 2
      simp only [bv]; omega
theorem B0n {p : List Nat} (h : ∀ x ∈ p, x < 256) (i : Nat) : p.getD (i / 8) 0 / 2 ^ (i % 8) % 2 = bv p / 2 ^ i % 2 := by
  rw [← A6U h, show (256 : Nat) = 2 ^ 8 from rfl, ← Nat.pow_mul]
  have h1 : i % 8 < 8 := Nat.mod_lt _ (by decide)
  have e : 2 ^ 8 = 2 ^ (i % 8) * (2 * 2 ^ (7 - i % 8)) := by rw [← Nat.pow_succ', ← Nat.pow_add]; congr 1; omega
  rw [e, Nat.mod_mul_right_div_self, Nat.mod_mul_right_mod, Nat.div_div_eq_div_mul, ← Nat.pow_add]
  congr 3; omega
def prt (w N i j : Nat) : Nat := N % 2 ^ i / 2 ^ (w * j) % 2 ^ w
theorem B2W {w N i : Nat} (hw : 0 < w) : prt w N (i + 1) (i / w) = (prt w N i (i / w) ||| (N / 2 ^ i % 2) <<< (i % w)) := by
  have hr : i % w < w := Nat.mod_lt _ hw
  have hi : w * (i / w) + i % w = i := Nat.div_add_mod i w
  have hX : N % 2 ^ i / 2 ^ (w * (i / w)) < 2 ^ (i % w) := by
    rw [Nat.div_lt_iff_lt_mul (Nat.two_pow_pos _), ← Nat.pow_add, Nat.add_comm, hi]
    exact Nat.mod_lt _ (Nat.two_pow_pos _)
  have hle : 2 ^ (i % w) * 2 ≤ 2 ^ w := by rw [← Nat.pow_succ]; exact Nat.pow_le_pow_right (by decide) hr
  have hb : N / 2 ^ i % 2 < 2 := Nat.mod_lt _ (by decide)
  unfold prt
  rw [Nat.mod_eq_of_lt (Nat.lt_of_lt_of_le hX (by omega)), Nat.or_comm, ← Nat.shiftLeft_add_eq_or_of_lt hX, Nat.mod_pow_succ]
  have e : (N % 2 ^ i + 2 ^ i * (N / 2 ^ i % 2)) / 2 ^ (w * (i / w)) = N % 2 ^ i / 2 ^ (w * (i / w)) + 2 ^ (i % w) * (N / 2 ^ i % 2) := by
    conv => lhs; rw [show 2 ^ i * (N / 2 ^ i % 2) = 2 ^ (w * (i / w)) * (2 ^ (i % w) * (N / 2 ^ i % 2)) by rw [← Nat.mul_assoc, ← Nat.pow_add, hi]]
    rw [Nat.add_mul_div_left _ _ (Nat.two_pow_pos _)]
  rw [e, Nat.shiftLeft_eq, Nat.mod_eq_of_lt, Nat.add_comm, Nat.mul_comm]
  generalize N / 2 ^ i % 2 = b at *
  have : 2 ^ (i % w) * b ≤ 2 ^ (i % w) * 1 := Nat.mul_le_mul_left _ (by omega)
  omega
theorem B2X {w N i j : Nat} (hw : 0 < w) (h : j ≠ i / w) : prt w N (i + 1) j = prt w N i j := by
  have hi : w * (i / w) + i % w = i := Nat.div_add_mod i w
  have hr : i % w < w := Nat.mod_lt _ hw
  unfold prt
  rw [Nat.mod_pow_succ]
  rcases Nat.lt_or_gt_of_ne h with hl | hg
  · have hge : w * (j + 1) ≤ i := by
      have := Nat.mul_le_mul_left w (show j + 1 ≤ i / w from hl)
      omega
    have e : 2 ^ i * (N / 2 ^ i % 2) = 2 ^ (w * j) * (2 ^ w * (2 ^ (i - w * (j + 1)) * (N / 2 ^ i % 2))) := by
      rw [← Nat.mul_assoc, ← Nat.mul_assoc, ← Nat.pow_add, ← Nat.pow_add]
      congr 2
      rw [Nat.mul_add] at hge ⊢; omega
    rw [e, Nat.add_mul_div_left _ _ (Nat.two_pow_pos _), Nat.add_mul_mod_self_left]
  · have hge : i + 1 ≤ w * j := by
      have := Nat.mul_le_mul_left w (show i / w + 1 ≤ j from hg)
      rw [Nat.mul_add] at this; omega
    have h1 : N % 2 ^ i < 2 ^ (w * j) := Nat.lt_of_lt_of_le (Nat.mod_lt _ (Nat.two_pow_pos _)) (Nat.pow_le_pow_right (by decide) (by omega))
    have h2 : N % 2 ^ i + 2 ^ i * (N / 2 ^ i % 2) < 2 ^ (w * j) := by
      rw [← Nat.mod_pow_succ]
      exact Nat.lt_of_lt_of_le (Nat.mod_lt _ (Nat.two_pow_pos _)) (Nat.pow_le_pow_right (by decide) hge)
    rw [Nat.div_eq_of_lt h1, Nat.div_eq_of_lt h2]
def A0J (w n N i : Nat) : List Nat := (List.range n).map (prt w N i)
theorem P0 (w n N i : Nat) : (A0J w n N i).length = n := by simp [A0J]
theorem A2J {w n N i j : Nat} (h : j < n) : (A0J w n N i).getD j 0 = prt w N i j := by simp [A0J, List.getD, h]
theorem A3p (w n N : Nat) : A0J w n N 0 = List.replicate n 0 := by
  apply List.ext_getElem?
  intro j
  simp only [A0J, List.getElem?_map, List.getElem?_replicate]
  by_cases h : j < n
  · simp [h, prt, Nat.mod_one]
  · simp [h]
theorem A3q {w n N i : Nat} (hw : 0 < w) (hi : i / w < n) : A0J w n N (i + 1) = (A0J w n N i).set (i / w) (prt w N i (i / w) ||| (N / 2 ^ i % 2) <<< (i % w)) := by
  apply List.ext_getElem?
  intro j
  rw [List.getElem?_set]
  simp only [A0J, List.getElem?_map, List.length_map, List.length_range]
  by_cases h : j < n
  · by_cases e : i / w = j
    · subst e; simp [h, B2W hw]
    · simp [h, e, B2X hw (fun h => e h.symm)]
  · have : i / w ≠ j := by omega
    simp [h, this]
theorem B0o (p q : List Nat) : bv (p ++ q) = bv p + 256 ^ p.length * bv q := by
  induction p with
  | nil => simp [bv]
  | cons b r ih => simp only [List.cons_append, bv, ih, List.length_cons, Nat.pow_succ]; grind
theorem A3r (X : Nat) : ∀ n, bv ((List.range n).map fun j => X / 2 ^ (8 * j) % 2 ^ 8) = X % 2 ^ (8 * n)
  | 0 => by simp [bv, Nat.mod_one]
  | n + 1 => by
    rw [List.range_succ, List.map_append, B0o, A3r X n, List.length_map, List.length_range]
    simp only [List.map_cons, List.map_nil, bv, Nat.mul_zero, Nat.add_zero]
    rw [show (256 : Nat) ^ n = 2 ^ (8 * n) by rw [Nat.pow_mul], show 8 * (n + 1) = 8 * n + 8 by omega, Nat.pow_add, Nat.mod_mul]
theorem B50 (x : Nat) : bv (A0J 8 32 x 255) = x % 2 ^ 255 := by
  unfold A0J prt
  rw [A3r, Nat.mod_eq_of_lt]
  exact Nat.lt_of_lt_of_le (Nat.mod_lt _ (Nat.two_pow_pos _)) (Nat.pow_le_pow_right (by decide) (by decide))
theorem B0p (x i : Nat) : ∀ y ∈ A0J 8 32 x i, y < 256 := by
  intro y hy
  obtain ⟨j, _, rfl⟩ := List.mem_map.1 hy
  exact Nat.mod_lt _ (Nat.two_pow_pos _)
end Go.Px

namespace Go.Proofs.YtlilcmjbaknafaaGreatDoor
open Go.Px
def rdN (p : LN) : Nat := if p.length = 32 then bv p % 57896044618658097711785492504343953926634992332820282019728792003956564819968 % p25 else 0
theorem B51 (N : Nat) : fv (prt 51 N 255 0) (prt 51 N 255 1) (prt 51 N 255 2) (prt 51 N 255 3) (prt 51 N 255 4) = N % 57896044618658097711785492504343953926634992332820282019728792003956564819968 := by
  unfold fv prt
  simp only [Nat.reducePow, Nat.reduceMul]
  omega
theorem A7F (w N i j : Nat) : prt w N i j < 2 ^ w := Nat.mod_lt _ (Nat.two_pow_pos _)
theorem B0q (N i j : Nat) : prt 51 N i j < 4503599627370496 := Nat.lt_trans (A7F 51 N i j) qD
theorem A3s {b s w : Nat} (hb : b < 2) (hs : s < w) : b <<< s < 2 ^ w := by
  rw [Nat.shiftLeft_eq]
  have h1 : 2 ^ s * 2 ≤ 2 ^ w := by rw [← Nat.pow_succ]; exact Nat.pow_le_pow_right qD hs
  have h2 : b * 2 ^ s ≤ 1 * 2 ^ s := Nat.mul_le_mul_right _ qO
  have h3 := Nat.two_pow_pos s
  omega
theorem A8D (pv : Value) (p : LN) (A : Mem) (hp : Rd A 1 pv p.length (nums .u8 p)) (hp256 : ∀ x ∈ p, x < 256) (hpl : p.length < 9223372036854775808) : FnX Tryz.prog 86 [pv] [] A fun r M J => M = [] ∧ J = [] ∧ Fe r (rdN p) := by
 refine FnX.enter (N := 33) Tryz.func86 rfl rfl rfl fun w => ?_
 refine B0 (D7 0) (A1 ?_)
 refine A5 rfl (C4 (cs := [E3, E3, E3, E3, E3]) kR rfl fun b2 => ?_)
 refine A0 (D2 0 2) (A1 ?_)
 refine A5 rfl (C4 (cs := [E3, E3, E3, E3, E3]) kR rfl fun b3 => ?_)
 refine A0 (D6 0 2 3) (A3 (A1 (mv_ ?_)))
 refine A2 (A0E hp rfl kR) rfl ?_
 refine A2 (D4 rfl rfl rfl) rfl ?_
 refine A0 (D8 0 2 3 7) ?_
 refine C1 rfl ?_ ?_ <;> intro hc
 ·
  have h32 : p.length ≠ 32 := by simp at hc; omega
  refine A1 ?_
  refine A2 (qw_ 5) rfl ?_
  refine A5 rfl (A9 rfl rfl Cel.cel kR ln5 al5 UpC.upd ?_)
  refine A0 (D7 2) (B4 (tr ?_))
  refine ⟨_, [], [], A3Q rfl rfl kR At.mem qR, List.nil_sublist _, by simp, rfl, rfl, 0, 0, 0, 0, 0, rfl, by decide, by decide, by decide, by decide, by decide, ?_⟩
  rw [rdN, if_neg h32]; rfl
 ·
  have h32 : p.length = 32 := by simp at hc; omega
  have hN := B0n hp256
  refine A6 (nx (D6 0 2 3) (A3 (A1 (mv_ (A0 (D8 0 2 3 9) (A4 ?_))))))
  refine A1C (M' := [(b3, blk (nums .u64 (A0J 51 5 (bv p) 0)) 153), (b2, blk [.int .u64 0, .int .u64 0, .int .u64 0, .int .u64 0, .int .u64 0] 153)]) (Fit.eq (by rw [A3p]; rfl)) qI ?_
  refine D3 (α := Nat) (fun i => [(0, pv), (2, (vP b2)), (3, (vP b3)), (9, .int .i64 (i : Int))]) (fun i => [(b3, blk (nums .u64 (A0J 51 5 (bv p) i)) 153), (b2, blk [.int .u64 0, .int .u64 0, .int .u64 0, .int .u64 0, .int .u64 0] 153)]) (fun _ => []) (fun i => i ≤ 255) (fun i => 255 - i) 0 qD (D8 0 2 3 9) .rfl qI ?_
  rintro i hi
  refine A1 ?_
  refine A2 (D4 rfl rfl rfl) rfl ?_
  refine A0 (E4 0 2 3 9 10) (A3 ?_)
  refine C1 rfl ?_ ?_ <;> intro hc
  ·
   have hlt : i < 255 := by simp at hc; omega
   have hbit := hN i
   rw [← Nat.shiftRight_eq_div_pow] at hbit
   have hb2 : bv p / 2 ^ i % 2 < 2 := Nat.mod_lt _ qD
   have hps := A3q (w := 51) (n := 5) (N := bv p) (i := i) qD qO
   have hpg := A2J (w := 51) (n := 5) (N := bv p) (i := i) (j := i / 51) qO
   have hpl := A7F 51 (bv p) i (i / 51)
   have hsm := A3s (w := 51) hb2 (Nat.mod_lt i (by decide : 0 < 51))
   have hpb : p.getD (i / 8) 0 < 256 := getD_lt hp256 qD
   have hsr := Nat.shiftRight_le (p.getD (i / 8) 0) (i % 8)
   rw [← hpg] at hps hpl
   generalize bv p / 2 ^ i % 2 = bt at *
   have hmo : bt <<< (i % 51) % 2 ^ IntKind.u64.bits = bt <<< (i % 51) := Nat.mod_eq_of_lt (Nat.lt_trans hsm qD)
   have hto : IntKind.u64.wrap (bt : Int) = (bt : Int) := by rw [A7i, Nat.mod_eq_of_lt qO]
   refine A6 (nx (D8 0 2 3 9) (A3 (A4 (A1 (mv_ (as_ (A0 (E4 0 2 3 4 9) ?_)))))))
   refine F8 (.range 19) (zp 0 [0, 0, 0, 1, 0, 0, 0, 0, 1, 0, 0, 0, 0, 0, 0, 0, 0, 0, 0, 2]) kR kR fun hs => ?_
   refine fm_ hs ?_
   refine C2 hs rfl (A25 51 rfl rfl rfl qD (A4H qO)) rfl ?_
   refine C2 hs rfl (E8 (e := 94) (n := 5) (sz := 1) (i := i / 51) rfl rfl kR kR rfl qO) rfl ?_
   refine G4 hs rfl (H9 (i / 51) rfl kR At.mem qO (by rw [P0]; omega)) rfl ?_
   refine fm_ hs ?_
   refine fm_ hs ?_
   refine C2 hs rfl (A25 8 rfl rfl rfl qD (A4H qO)) rfl ?_
   refine C2 hs rfl (B5s hp rfl rfl kR (i / 8) rfl qO) rfl ?_
   refine G4 hs rfl (A5E (hp.mono fun _ h => mA h) rfl kR qO) rfl ?_
   refine fm_ hs ?_
   refine C2 hs rfl (A26 8 rfl rfl rfl qD) rfl ?_
   refine C2 hs rfl (Q5 (i % 8) rfl rfl rfl (by show _ ≤ 8; omega)) rfl ?_
   refine C2 hs rfl (hbit ▸ N4 1 2 rfl rfl rfl rfl rfl (by show _ < 256; omega) qD) rfl ?_
   refine C2 hs rfl (N6 bt rfl kR hto) rfl ?_
   refine fm_ hs ?_
   refine C2 hs rfl (A26 51 rfl rfl rfl qD) rfl ?_
   refine C2 hs rfl (hmo ▸ A2j rfl (i % 51) rfl rfl rfl (by show _ ≤ 64; omega)) rfl ?_
   refine C2 hs rfl (B4b rfl rfl rfl (Nat.lt_trans hpl qD) (Nat.lt_trans hsm qD)) rfl ?_
   refine C2 hs rfl (E8 (e := 94) (n := 5) (sz := 1) (i := i / 51) rfl rfl kR kR rfl qO) rfl ?_
   refine F5 rfl rfl rfl (I7 (i / 51) rfl rfl kR qO (by rw [P0]; omega) UpC.upd ?_)
   refine Q8 (nb (nx (D8 0 2 3 9) (A7 ?_)))
   refine A2 (C7 ((i + 1 : Nat) : Int) rfl rfl (E1 qO qO qO)) rfl ?_
   refine mv_ (C0 ?_)
   exact rn (i + 1) qO qO (D8 0 2 3 9) (Fit.eq (by rw [hps])) qI
  ·
   have hlt : i = 255 := by simp at hc; omega
   subst hlt
   refine D0 (te (re (be rfl (nx (D2 2 3) (A1 ?_)))))
   refine A2 (L2 (n := 5) (cs := nums .u64 (A0J 51 5 (bv p) 255)) rfl kR At.mem (by rw [nums_len, P0])) rfl ?_
   refine A5 rfl (A9 (vs := nums .u64 (A0J 51 5 (bv p) 255)) rfl rfl rfl (by rw [nums_len, P0]; kernel_rfl) (by rw [nums_len, P0]; rfl) E5 UpC.upd ?_)
   refine A0 (D7 2) (B4 ?_)
   refine ⟨_, [], [], A3Q rfl rfl kR At.mem (by rw [nums_len, P0]), List.nil_sublist _, by simp, rfl, rfl, _, _, _, _, _, rfl, B0q _ _ _, B0q _ _ _, B0q _ _ _, B0q _ _ _, B0q _ _ _, ?_⟩
   rw [B51, rdN, if_pos h32]
theorem A6V (v : Value) (x : Nat) (hx : Fe v x) (A : Mem) : FnX Tryz.prog 89 [v] [] A fun r M J => J = [] ∧ Sl 1 r 32 (nums .u8 (A0J 8 32 x 255)) M := by
 obtain ⟨a, b, c, d, e, rfl, ha, hb, hc, hd, he, rfl⟩ := hx
 refine FnX.enter (N := 80) Tryz.func89 rfl rfl rfl fun w => ?_
 refine B0 (D7 0) (A1 ?_)
 refine A5 rfl (bx_ fun b1 => ?_)
 refine as_ (A0 (D7 1) (A1 ?_))
 refine A2 (qw_ 5) rfl ?_
 refine C5 (aS rfl a0) kR (S9 _ _ _ _ _ qO qO qO qO qO _) rfl ?_
 rintro r3 M3 J3 ⟨rfl, rfl, a3, b3, c3, d3, e3, rfl, ha3, hb3, hc3, hd3, hv3, he3⟩
 refine C5 (aS rfl a0) kR (S9 _ _ _ _ _ qO qO qO qO qO _) rfl ?_
 rintro r4 M4 J4 ⟨rfl, rfl, a4, b4, c4, d4, e4, rfl, ha4, hb4, hc4, hd4, hv4, he4⟩
 have hz4 := A3m ha3 hb3 hc3 hd3 he3 ha4 hb4 hc4 hd4 hv4
 refine C5 (aS rfl a0) kR (S9 _ _ _ _ _ qO qO qO qO qO _) rfl ?_
 rintro r5 M5 J5 ⟨rfl, rfl, a5, b5, c5, d5, e5, rfl, ha5, hb5, hc5, hd5, hv5, he5⟩
 have hz5 := A3m ha4 hb4 hc4 hd4 he4 ha5 hb5 hc5 hd5 hv5
 have hx5 : fv a5 b5 c5 d5 e5 % p25 = fv a b c d e % p25 := by rw [L4 hv5, L4 hv4, L4 hv3]
 have hV5 := B7Z ha5 hb5 hc5 hd5 hz5
 clear hv3 hv4 hv5 he3 he4 he5 hz4 ha3 hb3 hc3 hd3 ha4 hb4 hc4 hd4
 refine A5 rfl (A9 rfl rfl Cel.cel kR ln5 al5 UpC.upd ?_)
 refine A0 (D7 1) (A1 ?_)
 refine A2 (qi_ 0 94 5 1 0) rfl ?_
 refine A2 ql_ rfl ?_
 refine A2 (F2 18446744073709551616 (b := 19) rfl rfl rfl rfl rfl rfl) rfl ?_
 refine A2 (N3 51 2251799813685248 rfl rfl rfl rfl qD) rfl ?_
 refine as_ (A0 (D2 1 3) (A3 (A1 (as_ (A0 (D6 1 3 4) (A4 ?_))))))
 refine T7 5 ?_
 refine F6 ?_
 refine A3 (A1 (mv_ ?_))
 refine A2 (E9 true rfl rfl (ltT qD)) rfl ?_
 refine A0 (D8 1 3 4 17) ?_
 refine D5 rfl ?_
 refine A6 (nx (D6 1 3 4) (A3 (A4 (A7 (mv_ ?_)))))
 refine A2 (qi_ 1 94 5 1 1) rfl ?_
 refine A2 ql_ rfl ?_
 refine mv_ ?_
 refine A2 (F2 18446744073709551616 rfl rfl rfl rfl rfl rfl) rfl ?_
 refine A2 (N3 51 2251799813685248 rfl rfl rfl rfl qD) rfl ?_
 refine as_ (C0 (nb (nx (D6 1 3 4) (A7 (mv_ ?_)))))
 refine A2 (C7 (2 : Int) rfl rfl (E1 qD qD qD)) rfl ?_
 refine as_ (C0 ?_)
 refine un (D6 1 3 4) ?_
 refine F6 ?_
 refine A3 (A1 (mv_ ?_))
 refine A2 (E9 true rfl rfl (ltT qD)) rfl ?_
 refine A0 (D8 1 3 4 17) ?_
 refine D5 rfl ?_
 refine A6 (nx (D6 1 3 4) (A3 (A4 (A7 (mv_ ?_)))))
 refine A2 (qi_ 2 94 5 1 2) rfl ?_
 refine A2 ql_ rfl ?_
 refine mv_ ?_
 refine A2 (F2 18446744073709551616 rfl rfl rfl rfl rfl rfl) rfl ?_
 refine A2 (N3 51 2251799813685248 rfl rfl rfl rfl qD) rfl ?_
 refine as_ (C0 (nb (nx (D6 1 3 4) (A7 (mv_ ?_)))))
 refine A2 (C7 (3 : Int) rfl rfl (E1 qD qD qD)) rfl ?_
 refine as_ (C0 ?_)
 refine un (D6 1 3 4) ?_
 refine F6 ?_
 refine A3 (A1 (mv_ ?_))
 refine A2 (E9 true rfl rfl (ltT qD)) rfl ?_
 refine A0 (D8 1 3 4 17) ?_
 refine D5 rfl ?_
 refine A6 (nx (D6 1 3 4) (A3 (A4 (A7 (mv_ ?_)))))
 refine A2 (qi_ 3 94 5 1 3) rfl ?_
 refine A2 ql_ rfl ?_
 refine mv_ ?_
 refine A2 (F2 18446744073709551616 rfl rfl rfl rfl rfl rfl) rfl ?_
 refine A2 (N3 51 2251799813685248 rfl rfl rfl rfl qD) rfl ?_
 refine as_ (C0 (nb (nx (D6 1 3 4) (A7 (mv_ ?_)))))
 refine A2 (C7 (4 : Int) rfl rfl (E1 qD qD qD)) rfl ?_
 refine as_ (C0 ?_)
 refine un (D6 1 3 4) ?_
 refine F6 ?_
 refine A3 (A1 (mv_ ?_))
 refine A2 (E9 true rfl rfl (ltT qD)) rfl ?_
 refine A0 (D8 1 3 4 17) ?_
 refine D5 rfl ?_
 refine A6 (nx (D6 1 3 4) (A3 (A4 (A7 (mv_ ?_)))))
 refine A2 (qi_ 4 94 5 1 4) rfl ?_
 refine A2 ql_ rfl ?_
 refine mv_ ?_
 refine A2 (F2 18446744073709551616 rfl rfl rfl rfl rfl rfl) rfl ?_
 refine A2 (N3 51 2251799813685248 rfl rfl rfl rfl qD) rfl ?_
 refine as_ (C0 (nb (nx (D6 1 3 4) (A7 (mv_ ?_)))))
 refine A2 (C7 (5 : Int) rfl rfl (E1 qD qD qD)) rfl ?_
 refine as_ (C0 ?_)
 refine un (D6 1 3 4) ?_
 refine F6 ?_
 refine A3 (A1 (mv_ ?_))
 refine A2 (E9 false rfl rfl (ltF qD)) rfl ?_
 refine A0 (D8 1 3 4 17) ?_
 refine C6 rfl ?_
 refine D0 (te (ue (be rfl (nx (D2 1 3) ?_))))
 obtain ⟨q, hqe, hq⟩ := B5Z ha5 hb5 hc5 hd5 hz5
 rw [← hqe]
 clear hqe
 refine A1 ?_
 refine A2 (qi_ 0 94 5 1 0) rfl ?_
 refine A2 ql_ rfl ?_
 refine mv_ ?_
 refine A2 (N2 18446744073709551616 (a := 19) rfl rfl rfl rfl rfl rfl) rfl ?_
 refine A2 (F2 18446744073709551616 rfl rfl rfl rfl rfl rfl) rfl ?_
 refine A2 (qi_ 0 94 5 1 0) rfl ?_
 refine A5 rfl (D9 rfl rfl rfl kR SetC.set UpC.upd ?_)
 refine A0 (D7 1) (A3 (A1 (mv_ (A0 (D2 1 32) (A4 ?_)))))
 refine T7 5 ?_
 refine F6 ?_
 refine A1 ?_
 refine A2 (E9 true rfl rfl (ltT qD)) rfl ?_
 refine A0 (D6 1 32 33) (A3 ?_)
 refine D5 rfl ?_
 refine A6 (nx (D2 1 32) (A3 (A4 (A1 (mv_ (as_ (A0 (D6 1 5 32) ?_)))))))
 refine C9 (.range 10) (zp 0 [0, 0, 0, 1, 0, 0, 1, 0, 0, 0, 2]) kR kR fun hs => ?_
 refine fm_ hs ?_
 refine C2 hs rfl (C7 (1 : Int) rfl rfl (E1 qD qD qD)) rfl ?_
 refine C2 hs rfl (qi_ 1 94 5 1 1) rfl ?_
 refine G4 hs rfl ql_ rfl ?_
 refine fm_ hs ?_
 refine C2 hs rfl (qi_ 0 94 5 1 0) rfl ?_
 refine G4 hs rfl ql_ rfl ?_
 refine C2 hs rfl (N3 51 2251799813685248 rfl rfl rfl rfl qD) rfl ?_
 refine C2 hs rfl (F2 18446744073709551616 rfl rfl rfl rfl rfl rfl) rfl ?_
 refine C2 hs rfl (qi_ 1 94 5 1 1) rfl ?_
 refine F5 rfl rfl rfl (D9 rfl rfl rfl kR SetC.set UpC.upd ?_)
 refine E7 (D6 1 5 32) (A7 (mv_ ?_))
 refine A2 (qi_ 0 94 5 1 0) rfl ?_
 refine A2 ql_ rfl ?_
 refine A2 (N4 51 2251799813685248 rfl rfl rfl rfl rfl (by show _ < 18446744073709551616; first | assumption | exact Nat.mod_lt _ qD | omega) qD) rfl ?_
 refine A2 (qi_ 0 94 5 1 0) rfl ?_
 refine A5 rfl (D9 rfl rfl rfl kR SetC.set UpC.upd ?_)
 refine C0 (nb (nx (D2 1 32) (A7 ?_)))
 refine A2 (C7 (1 : Int) rfl rfl (E1 qD qD qD)) rfl ?_
 refine mv_ (C0 ?_)
 refine un (D2 1 32) ?_
 refine F6 ?_
 refine A1 ?_
 refine A2 (E9 true rfl rfl (ltT qD)) rfl ?_
 refine A0 (D6 1 32 33) (A3 ?_)
 refine D5 rfl ?_
 refine A6 (nx (D2 1 32) (A3 (A4 (A1 (mv_ (as_ (A0 (D6 1 5 32) ?_)))))))
 refine C9 (.range 10) (zp 0 [0, 0, 0, 1, 0, 0, 1, 0, 0, 0, 2]) kR kR fun hs => ?_
 refine fm_ hs ?_
 refine C2 hs rfl (C7 (2 : Int) rfl rfl (E1 qD qD qD)) rfl ?_
 refine C2 hs rfl (qi_ 2 94 5 1 2) rfl ?_
 refine G4 hs rfl ql_ rfl ?_
 refine fm_ hs ?_
 refine C2 hs rfl (qi_ 1 94 5 1 1) rfl ?_
 refine G4 hs rfl ql_ rfl ?_
 refine C2 hs rfl (N3 51 2251799813685248 rfl rfl rfl rfl qD) rfl ?_
 refine C2 hs rfl (F2 18446744073709551616 rfl rfl rfl rfl rfl rfl) rfl ?_
 refine C2 hs rfl (qi_ 2 94 5 1 2) rfl ?_
 refine F5 rfl rfl rfl (D9 rfl rfl rfl kR SetC.set UpC.upd ?_)
 refine E7 (D6 1 5 32) (A7 (mv_ ?_))
 refine A2 (qi_ 1 94 5 1 1) rfl ?_
 refine A2 ql_ rfl ?_
 refine A2 (N4 51 2251799813685248 rfl rfl rfl rfl rfl (by show _ < 18446744073709551616; first | assumption | exact Nat.mod_lt _ qD | omega) qD) rfl ?_
 refine A2 (qi_ 1 94 5 1 1) rfl ?_
 refine A5 rfl (D9 rfl rfl rfl kR SetC.set UpC.upd ?_)
 refine C0 (nb (nx (D2 1 32) (A7 ?_)))
 refine A2 (C7 (2 : Int) rfl rfl (E1 qD qD qD)) rfl ?_
 refine mv_ (C0 ?_)
 refine un (D2 1 32) ?_
 refine F6 ?_
 refine A1 ?_
 refine A2 (E9 true rfl rfl (ltT qD)) rfl ?_
 refine A0 (D6 1 32 33) (A3 ?_)
 refine D5 rfl ?_
 refine A6 (nx (D2 1 32) (A3 (A4 (A1 (mv_ (as_ (A0 (D6 1 5 32) ?_)))))))
 refine C9 (.range 10) (zp 0 [0, 0, 0, 1, 0, 0, 1, 0, 0, 0, 2]) kR kR fun hs => ?_
 refine fm_ hs ?_
 refine C2 hs rfl (C7 (3 : Int) rfl rfl (E1 qD qD qD)) rfl ?_
 refine C2 hs rfl (qi_ 3 94 5 1 3) rfl ?_
 refine G4 hs rfl ql_ rfl ?_
 refine fm_ hs ?_
 refine C2 hs rfl (qi_ 2 94 5 1 2) rfl ?_
 refine G4 hs rfl ql_ rfl ?_
 refine C2 hs rfl (N3 51 2251799813685248 rfl rfl rfl rfl qD) rfl ?_
 refine C2 hs rfl (F2 18446744073709551616 rfl rfl rfl rfl rfl rfl) rfl ?_
 refine C2 hs rfl (qi_ 3 94 5 1 3) rfl ?_
 refine F5 rfl rfl rfl (D9 rfl rfl rfl kR SetC.set UpC.upd ?_)
 refine E7 (D6 1 5 32) (A7 (mv_ ?_))
 refine A2 (qi_ 2 94 5 1 2) rfl ?_
 refine A2 ql_ rfl ?_
 refine A2 (N4 51 2251799813685248 rfl rfl rfl rfl rfl (by show _ < 18446744073709551616; first | assumption | exact Nat.mod_lt _ qD | omega) qD) rfl ?_
 refine A2 (qi_ 2 94 5 1 2) rfl ?_
 refine A5 rfl (D9 rfl rfl rfl kR SetC.set UpC.upd ?_)
 refine C0 (nb (nx (D2 1 32) (A7 ?_)))
 refine A2 (C7 (3 : Int) rfl rfl (E1 qD qD qD)) rfl ?_
 refine mv_ (C0 ?_)
 refine un (D2 1 32) ?_
 refine F6 ?_
 refine A1 ?_
 refine A2 (E9 true rfl rfl (ltT qD)) rfl ?_
 refine A0 (D6 1 32 33) (A3 ?_)
 refine D5 rfl ?_
 refine A6 (nx (D2 1 32) (A3 (A4 (A1 (mv_ (as_ (A0 (D6 1 5 32) ?_)))))))
 refine C9 (.range 10) (zp 0 [0, 0, 0, 1, 0, 0, 1, 0, 0, 0, 2]) kR kR fun hs => ?_
 refine fm_ hs ?_
 refine C2 hs rfl (C7 (4 : Int) rfl rfl (E1 qD qD qD)) rfl ?_
 refine C2 hs rfl (qi_ 4 94 5 1 4) rfl ?_
 refine G4 hs rfl ql_ rfl ?_
 refine fm_ hs ?_
 refine C2 hs rfl (qi_ 3 94 5 1 3) rfl ?_
 refine G4 hs rfl ql_ rfl ?_
 refine C2 hs rfl (N3 51 2251799813685248 rfl rfl rfl rfl qD) rfl ?_
 refine C2 hs rfl (F2 18446744073709551616 rfl rfl rfl rfl rfl rfl) rfl ?_
 refine C2 hs rfl (qi_ 4 94 5 1 4) rfl ?_
 refine F5 rfl rfl rfl (D9 rfl rfl rfl kR SetC.set UpC.upd ?_)
 refine E7 (D6 1 5 32) (A7 (mv_ ?_))
 refine A2 (qi_ 3 94 5 1 3) rfl ?_
 refine A2 ql_ rfl ?_
 refine A2 (N4 51 2251799813685248 rfl rfl rfl rfl rfl (by show _ < 18446744073709551616; first | assumption | exact Nat.mod_lt _ qD | omega) qD) rfl ?_
 refine A2 (qi_ 3 94 5 1 3) rfl ?_
 refine A5 rfl (D9 rfl rfl rfl kR SetC.set UpC.upd ?_)
 refine C0 (nb (nx (D2 1 32) (A7 ?_)))
 refine A2 (C7 (4 : Int) rfl rfl (E1 qD qD qD)) rfl ?_
 refine mv_ (C0 ?_)
 refine un (D2 1 32) ?_
 refine F6 ?_
 refine A1 ?_
 refine A2 (E9 false rfl rfl (ltF qD)) rfl ?_
 refine A0 (D6 1 32 33) (A3 ?_)
 refine C6 rfl ?_
 refine D0 (te (ue (be rfl (nx (D7 1) (A1 ?_)))))
 refine A2 (qi_ 4 94 5 1 4) rfl ?_
 refine A2 ql_ rfl ?_
 refine A2 (N4 51 2251799813685248 rfl rfl rfl rfl rfl (by show _ < 18446744073709551616; first | assumption | exact Nat.mod_lt _ qD | omega) qD) rfl ?_
 refine A2 (qi_ 4 94 5 1 4) rfl ?_
 refine A5 rfl (D9 rfl rfl rfl kR SetC.set UpC.upd ?_)
 refine A0 (D7 1) (A1 ?_)
 refine A5 rfl (A0r (e := 5) (k := .u8) (by_ := 1) 32 rfl rfl kR rfl rfl qD qD rfl fun b55 => ?_)
 obtain ⟨f0, f1, f2, f3, f4, g0, g1, g2, g3, g4, k0, k1, k2, k3, k4, hF⟩ := B0j ha5 hb5 hc5 hd5 hz5 hq
 rw [← g0, ← g1, ← g2, ← g3, ← g4]
 clear g0 g1 g2 g3 g4
 rw [hx5] at hF
 refine as_ (A0 (D2 1 6) (A3 (A1 (mv_ (A0 (D6 1 6 56) (A4 ?_))))))
 refine A1C (M' := [(b55, blk (nums .u8 (A0J 8 32 (fv f0 f1 f2 f3 f4) 0)) 5), (b1, blk (nums .u64 [f0, f1, f2, f3, f4]) 153)]) (Fit.eq (by rw [A3p]; rfl)) qI ?_
 have hN := B70 k0 k1 k2 k3 k4
 have hfl : [f0, f1, f2, f3, f4].length = 5 := rfl
 have hfb : ∀ x ∈ [f0, f1, f2, f3, f4], x < 2251799813685248 := by intro x hx; simp only [List.mem_cons, List.not_mem_nil, or_false] at hx; rcases hx with rfl | rfl | rfl | rfl | rfl <;> assumption
 generalize [f0, f1, f2, f3, f4] = fs at *
 rw [← hF]
 generalize fv f0 f1 f2 f3 f4 = X at *
 refine D3 (α := Nat) (fun i => [(1, (vP b1)), (6, .slice (some ⟨b55, 0, none⟩) 32 32), (56, .int .i64 (i : Int))]) (fun i => [(b55, blk (nums .u8 (A0J 8 32 X i)) 5), (b1, blk (nums .u64 fs) 153)]) (fun _ => []) (fun i => i ≤ 255) (fun i => 255 - i) 0 qD (D6 1 6 56) .rfl qI ?_
 rintro i hi
 refine A1 ?_
 refine A2 (D4 rfl rfl rfl) rfl ?_
 refine A0 (D8 1 6 56 57) (A3 ?_)
 refine C1 rfl ?_ ?_ <;> intro hc
 ·
  have hlt : i < 255 := by simp at hc; omega
  have hbit := hN i hlt
  rw [← Nat.shiftRight_eq_div_pow] at hbit
  have hb2 : X / 2 ^ i % 2 < 2 := Nat.mod_lt _ qD
  have hps := A3q (w := 8) (n := 32) (N := X) (i := i) qD qO
  have hpg := A2J (w := 8) (n := 32) (N := X) (i := i) (j := i / 8) qO
  have hpl := A7F 8 X i (i / 8)
  have hsm := A3s (w := 8) hb2 (Nat.mod_lt i (by decide : 0 < 8))
  have hpb : fs.getD (i / 51) 0 < 2251799813685248 := getD_lt hfb qD
  have hsr := Nat.shiftRight_le (fs.getD (i / 51) 0) (i % 51)
  rw [← hpg] at hps hpl
  generalize X / 2 ^ i % 2 = bt at *
  have hmo : bt <<< (i % 8) % 2 ^ IntKind.u8.bits = bt <<< (i % 8) := Nat.mod_eq_of_lt hsm
  have hto : IntKind.u8.wrap (bt : Int) = (bt : Int) := by rw [B7r, Nat.mod_eq_of_lt qO]
  refine A6 (nx (D6 1 6 56) (A3 (A4 (A1 (mv_ (as_ (A0 (D8 1 6 7 56) ?_)))))))
  refine F8 (.range 19) (zp 0 [0, 0, 0, 0, 1, 0, 0, 0, 1, 0, 0, 0, 0, 0, 0, 0, 0, 0, 0, 2]) kR kR fun hs => ?_
  refine fm_ hs ?_
  refine fm_ hs ?_
  refine C2 hs rfl (A25 8 rfl rfl rfl qD (A4H qO)) rfl ?_
  refine C2 hs rfl (K4 (e := 5) (sz := 1) (i := i / 8) rfl rfl kR kR rfl qO) rfl ?_
  refine G4 hs rfl (H9 (i / 8) rfl kR At.mem qO (by rw [P0]; omega)) rfl ?_
  refine fm_ hs ?_
  refine C2 hs rfl (A25 51 rfl rfl rfl qD (A4H qO)) rfl ?_
  refine C2 hs rfl (E8 (e := 94) (n := 5) (sz := 1) (i := i / 51) rfl rfl kR kR rfl qO) rfl ?_
  refine G4 hs rfl (H9 (i / 51) rfl kR At.mem qO qO) rfl ?_
  refine fm_ hs ?_
  refine C2 hs rfl (A26 51 rfl rfl rfl qD) rfl ?_
  refine C2 hs rfl (Q5 (i % 51) rfl rfl rfl (by show _ ≤ 64; omega)) rfl ?_
  refine C2 hs rfl (hbit ▸ N4 1 2 rfl rfl rfl rfl rfl (by show _ < 18446744073709551616; omega) qD) rfl ?_
  refine C2 hs rfl (N6 bt rfl kR hto) rfl ?_
  refine fm_ hs ?_
  refine C2 hs rfl (A26 8 rfl rfl rfl qD) rfl ?_
  refine C2 hs rfl (hmo ▸ A2j rfl (i % 8) rfl rfl rfl (by show _ ≤ 8; omega)) rfl ?_
  refine C2 hs rfl (B4b rfl rfl rfl hpl hsm) rfl ?_
  refine C2 hs rfl (K4 (e := 5) (sz := 1) (i := i / 8) rfl rfl kR kR rfl qO) rfl ?_
  refine F5 rfl rfl rfl (I7 (i / 8) rfl rfl kR qO (by rw [P0]; omega) UpC.upd ?_)
  refine Q8 (nb (nx (D6 1 6 56) (A7 ?_)))
  refine A2 (C7 ((i + 1 : Nat) : Int) rfl rfl (E1 qO qO qO)) rfl ?_
  refine mv_ (C0 ?_)
  exact rn (i + 1) qO qO (D6 1 6 56) (Fit.eq (by rw [hps])) qI
 ·
  have hlt : i = 255 := by simp at hc; omega
  subst hlt
  refine D0 (te (re (be rfl (nx (D7 6) (A1 (mv_ (as_ (A0 (D7 2) ?_))))))))
  refine B4 ?_
  exact ⟨_, [_], [], K9 rfl rfl, List.Sublist.cons_cons _ (List.nil_sublist _), by simp, rfl, Sl.fresh (by rw [nums_len, P0]) qD⟩

def pwE (x N i : Nat) : Nat := x ^ (N / 2 ^ i) % p25
theorem B2Y (x N i : Nat) : pwE x N i = (if N / 2 ^ i % 2 = 1 then pwE x N (i + 1) * pwE x N (i + 1) % p25 * (x % p25) % p25 else pwE x N (i + 1) * pwE x N (i + 1) % p25) := by
  have h : N / 2 ^ i = 2 * (N / 2 ^ (i + 1)) + N / 2 ^ i % 2 := by
    rw [Nat.pow_succ, ← Nat.div_div_eq_div_mul]; omega
  unfold pwE
  have hb : N / 2 ^ i % 2 = 0 ∨ N / 2 ^ i % 2 = 1 := by omega
  rcases hb with hb | hb
  · rw [if_neg qO]
    conv => lhs; rw [h, hb, Nat.add_zero, Nat.two_mul, Nat.pow_add, Nat.mul_mod]
  · rw [if_pos hb]
    conv => lhs; rw [h, hb, Nat.two_mul, Nat.pow_add, Nat.pow_add, Nat.pow_one, Nat.mul_mod, Nat.mul_mod (x ^ _)]
theorem A6W (v : Value) (x : Nat) (hx : Fe v x) (es : LN) (hes : es.length = 32) (he256 : ∀ y ∈ es, y < 256) (A : Mem) : FnX Tryz.prog 108 [v, .agg (nums .u8 es).toArray] [] A fun r M J => M = [] ∧ J = [] ∧ Fe r (x ^ bv es % p25) := by
 have hx0 := hx
 have hxl := hx.lt
 obtain ⟨a, b, c, d, e, rfl, -⟩ := hx
 refine FnX.enter (N := 27) Tryz.func108 rfl rfl rfl fun w => ?_
 refine B0 (D2 0 1) (A1 ?_)
 refine A5 rfl (bx_ fun b2 => ?_)
 refine A5 rfl (bx_ fun b3 => ?_)
 refine A5 rfl (C4 (cs := [E3, E3, E3, E3, E3]) kR rfl fun b4 => ?_)
 refine A0 (D6 2 3 4) (A1 ?_)
 refine C5 (aS rfl a0) kR (A6b 1 qD _) rfl ?_
 rintro r1 M1 J1 ⟨rfl, rfl, hr1⟩
 have hr10 := hr1
 obtain ⟨o0, o1, o2, o3, o4, rfl, -⟩ := hr1
 refine A5 rfl (C4 (cs := [E3, E3, E3, E3, E3]) kR rfl fun b5 => ?_)
 refine A5 rfl (A9 rfl rfl Cel.cel kR ln5 al5 UpC.upd ?_)
 refine A0 (D8 2 3 4 5) (A3 (A1 (as_ (A0 (E4 2 3 4 5 6) (A4 ?_)))))
 refine D3 (α := Nat × Nat × Nat × Nat × Nat × Nat) (fun y => [(2, (vP b2)), (3, (vP b3)), (4, (vP b4)), (5, (vP b5)), (6, .int .i64 ((y.1 : Int) - 1))]) (fun y => [(b5, blk [.int .u64 (y.2.1 : Int), .int .u64 (y.2.2.1 : Int), .int .u64 (y.2.2.2.1 : Int), .int .u64 (y.2.2.2.2.1 : Int), .int .u64 (y.2.2.2.2.2 : Int)] 153), (b4, blk [.int .u64 0, .int .u64 0, .int .u64 0, .int .u64 0, .int .u64 0] 153), (b3, blk (nums .u8 es) 150), (b2, blk [.int .u64 (a : Int), .int .u64 (b : Int), .int .u64 (c : Int), .int .u64 (d : Int), .int .u64 (e : Int)] 153)]) (fun _ => []) (fun y => y.1 ≤ 256 ∧ Fe (el y.2.1 y.2.2.1 y.2.2.2.1 y.2.2.2.2.1 y.2.2.2.2.2) (pwE x (bv es) y.1)) (fun y => y.1) (256, o0, o1, o2, o3, o4) ⟨Nat.le_refl _, by rw [show pwE x (bv es) 256 = 1 by unfold pwE; rw [Nat.div_eq_of_lt (by have := B75 he256; rw [hes] at this; exact this)]; rfl]; exact hr10⟩ (E4 2 3 4 5 6) .rfl qI ?_
 rintro ⟨j, o0, o1, o2, o3, o4⟩ ⟨hj, ho⟩
 dsimp only at hj ho ⊢
 refine A3 (A1 (mv_ ?_))
 refine A2 (D4 rfl rfl rfl) rfl ?_
 refine A0 (H3 2 3 4 5 6 9) ?_
 refine C1 rfl ?_ ?_ <;> intro hc
 ·
  have hj0 : 0 < j := by simp at hc; omega
  obtain ⟨i, rfl⟩ : ∃ i, j = i + 1 := ⟨j - 1, by omega⟩
  have ei : ((i + 1 : Nat) : Int) - 1 = (i : Int) := by omega
  rw [ei]
  have hps := B2Y x (bv es) i
  have hbit := B0n he256 i
  rw [← Nat.shiftRight_eq_div_pow] at hbit
  have hpb : es.getD (i / 8) 0 < 256 := getD_lt he256 qD
  have hsr := Nat.shiftRight_le (es.getD (i / 8) 0) (i % 8)
  have hbt : bv es / 2 ^ i % 2 < 2 := Nat.mod_lt _ qD
  generalize bv es / 2 ^ i % 2 = bt at *
  refine A6 (nx (E4 2 3 4 5 6) (A3 (A4 (A1 ?_))))
  refine A2 (qw_ 5) rfl ?_
  refine C5 (aS rfl a0) kR (A2q _ _ ho _) rfl ?_
  rintro r2 M2 J2 ⟨rfl, rfl, hr2⟩
  have hr20 := hr2
  obtain ⟨s0, s1, s2, s3, s4, rfl, -⟩ := hr2
  refine A5 rfl (A9 rfl rfl Cel.cel kR ln5 al5 UpC.upd ?_)
  refine A0 (E4 2 3 4 5 6) (A1 (mv_ ?_))
  refine A2 (A25 8 rfl rfl rfl qD (A4H qO)) rfl ?_
  refine A2 (E8 (e := 5) (n := 32) (sz := 1) (i := i / 8) rfl rfl kR kR rfl qO) rfl ?_
  refine A2 (H9 (i / 8) rfl kR At.mem qO qO) rfl ?_
  refine mv_ ?_
  refine A2 (A26 8 rfl rfl rfl qD) rfl ?_
  refine A2 (Q5 (i % 8) rfl rfl rfl (by show _ ≤ 8; omega)) rfl ?_
  refine A2 (hbit ▸ N4 1 2 rfl rfl rfl rfl rfl (by show _ < 256; omega) qD) rfl ?_
  refine A2 (D4 rfl rfl rfl) rfl ?_
  refine A0 (H3 2 3 4 5 6 22) ?_
  refine C1 rfl ?_ ?_ <;> intro hc
  ·
   have hb1 : bt = 1 := by simp at hc; omega
   rw [if_pos hb1] at hps
   refine A7 ?_
   refine A2 (qw_ 5) rfl ?_
   refine A2 (qw_ 5) rfl ?_
   refine C5 (aS rfl (aS rfl a0)) kR (A3o _ _ _ _ hr20 hx0 _) rfl ?_
   rintro r3 M3 J3 ⟨rfl, rfl, hr3⟩
   rw [Nat.mod_eq_of_lt hxl] at hps
   rw [← hps] at hr3
   have hr30 := hr3
   obtain ⟨t0, t1, t2, t3, t4, rfl, -⟩ := hr3
   refine A5 rfl (A9 rfl rfl Cel.cel kR ln5 al5 UpC.upd ?_)
   refine C0 (nb (nx (E4 2 3 4 5 6) (A7 (mv_ ?_))))
   refine A2 (C7 ((i : Int) - 1) rfl rfl (A0h rfl qO qO)) rfl ?_
   refine as_ (C0 ?_)
   exact rn (i, t0, t1, t2, t3, t4) ⟨by dsimp only; omega, hr30⟩ (by dsimp only; omega) (E4 2 3 4 5 6) .rfl qI
  ·
   have hb1 : ¬ bt = 1 := by simp at hc; omega
   rw [if_neg hb1] at hps
   refine A6 (nb (nx (E4 2 3 4 5 6) (A7 (mv_ ?_))))
   refine A2 (C7 ((i : Int) - 1) rfl rfl (A0h rfl qO qO)) rfl ?_
   refine as_ (C0 ?_)
   exact rn (i, s0, s1, s2, s3, s4) ⟨by dsimp only; omega, by dsimp only; rw [hps]; exact hr20⟩ (by dsimp only; omega) (E4 2 3 4 5 6) .rfl qI
 ·
  have hj0 : j = 0 := by simp at hc; omega
  subst hj0
  refine D0 (te (re (be rfl (nx (D2 4 5) (A1 ?_)))))
  refine A2 (qw_ 5) rfl ?_
  refine A5 rfl (A9 rfl rfl Cel.cel kR ln5 al5 UpC.upd ?_)
  refine A0 (D7 4) (B4 ?_)
  refine ⟨_, [], [], A3Q rfl rfl kR At.mem qR, List.nil_sublist _, by simp, rfl, rfl, ?_⟩
  have : pwE x (bv es) 0 = x ^ bv es % p25 := by unfold pwE; rw [Nat.pow_zero, Nat.div_one]
  rw [← this]; exact ho

theorem B2Z {n i : Nat} (h : i < n) : (2 ^ n - 1) / 2 ^ i % 2 = 1 := by
  have := Nat.testBit_two_pow_sub_one n i
  rw [Nat.testBit_eq_decide_div_mod_eq] at this
  simpa [h] using this
theorem B0r {n : Nat} (h : 8 ≤ n) : (A0J 8 32 (2 ^ n - 1) n).getD 0 0 = 255 := by
  rw [A2J qD, prt, Nat.mul_zero, Nat.pow_zero, Nat.div_one]
  obtain ⟨m, rfl⟩ : ∃ m, n = m + 8 := ⟨n - 8, by omega⟩
  have h1 := Nat.two_pow_pos m
  have e : (2 ^ (m + 8) - 1) % 2 ^ (m + 8) = 2 ^ (m + 8) - 1 := Nat.mod_eq_of_lt (Nat.sub_lt (Nat.two_pow_pos _) qD)
  rw [e, Nat.pow_add]
  simp only [Nat.reducePow]
  omega
theorem B52 {p : LN} (x : Nat) (h : 0 < p.length) : bv (p.set 0 x) + p.getD 0 0 = bv p + x := by
  cases p with
  | nil => simp at h
  | cons b r => simp [bv]; omega
theorem B0s (N n : Nat) (h : n ≤ 256) : bv (A0J 8 32 N n) = N % 2 ^ n := by
  unfold A0J prt
  rw [A3r, Nat.mod_eq_of_lt]
  exact Nat.lt_of_lt_of_le (Nat.mod_lt _ (Nat.two_pow_pos _)) (Nat.pow_le_pow_right qD qO)
theorem B0t (n d : Nat) (hn : 8 ≤ n) (hn2 : n ≤ 256) (hd : 1 < d) (hd2 : d ≤ 256) (A : Mem) : FnX Tryz.prog 109 [.int .i64 (n : Int), .int .u16 (d : Int)] [] A fun r M J => M = [] ∧ J = [] ∧ ∃ es : LN, r = .agg (nums .u8 es).toArray ∧ es.length = 32 ∧ (∀ y ∈ es, y < 256) ∧ bv es = 2 ^ n - d := by
  refine FnX.enter (N := 47) Tryz.func109 rfl rfl rfl fun w => ?_
  refine B0 (D2 0 1) (A1 ?_)
  refine A5 rfl (C4 (cs := [zu8, zu8, zu8, zu8, zu8, zu8, zu8, zu8, zu8, zu8, zu8, zu8, zu8, zu8, zu8, zu8, zu8, zu8, zu8, zu8, zu8, zu8, zu8, zu8, zu8, zu8, zu8, zu8, zu8, zu8, zu8, zu8]) kR rfl fun b4 => ?_)
  refine A0 (D6 0 1 4) (A1 ?_)
  refine A5 rfl (C4 (cs := [zu8, zu8, zu8, zu8, zu8, zu8, zu8, zu8, zu8, zu8, zu8, zu8, zu8, zu8, zu8, zu8, zu8, zu8, zu8, zu8, zu8, zu8, zu8, zu8, zu8, zu8, zu8, zu8, zu8, zu8, zu8, zu8]) kR rfl fun b5 => ?_)
  refine A0 (D8 0 1 4 5) (A3 (A1 (mv_ (mv_ (A0 (E4 1 4 5 9 10) (A4 ?_))))))
  refine A1C (M' := [(b5, blk (nums .u8 (A0J 8 32 (2 ^ n - 1) 0)) 150), (b4, blk [.int .u8 0, .int .u8 0, .int .u8 0, .int .u8 0, .int .u8 0, .int .u8 0, .int .u8 0, .int .u8 0, .int .u8 0, .int .u8 0, .int .u8 0, .int .u8 0, .int .u8 0, .int .u8 0, .int .u8 0, .int .u8 0, .int .u8 0, .int .u8 0, .int .u8 0, .int .u8 0, .int .u8 0, .int .u8 0, .int .u8 0, .int .u8 0, .int .u8 0, .int .u8 0, .int .u8 0, .int .u8 0, .int .u8 0, .int .u8 0, .int .u8 0, .int .u8 0] 150)]) (Fit.eq (by rw [A3p]; rfl)) qI ?_
  refine D3 (α := Nat) (fun i => [(1, .int .u16 (d : Int)), (4, (vP b4)), (5, (vP b5)), (9, .int .i64 (n : Int)), (10, .int .i64 (i : Int))]) (fun i => [(b5, blk (nums .u8 (A0J 8 32 (2 ^ n - 1) i)) 150), (b4, blk [.int .u8 0, .int .u8 0, .int .u8 0, .int .u8 0, .int .u8 0, .int .u8 0, .int .u8 0, .int .u8 0, .int .u8 0, .int .u8 0, .int .u8 0, .int .u8 0, .int .u8 0, .int .u8 0, .int .u8 0, .int .u8 0, .int .u8 0, .int .u8 0, .int .u8 0, .int .u8 0, .int .u8 0, .int .u8 0, .int .u8 0, .int .u8 0, .int .u8 0, .int .u8 0, .int .u8 0, .int .u8 0, .int .u8 0, .int .u8 0, .int .u8 0, .int .u8 0] 150)]) (fun _ => []) (fun i => i ≤ n) (fun i => n - i) 0 (Nat.zero_le _) (E4 1 4 5 9 10) .rfl qI ?_
  rintro i hi
  refine A1 ?_
  refine A2 (D4 rfl rfl rfl) rfl ?_
  refine A0 (H3 1 4 5 9 10 11) (A3 ?_)
  refine C1 rfl ?_ ?_ <;> intro hc
  ·
    have hlt : i < n := by simp at hc; omega
    have hps := A3q (w := 8) (n := 32) (N := 2 ^ n - 1) (i := i) qD qO
    have hpg := A2J (w := 8) (n := 32) (N := 2 ^ n - 1) (i := i) (j := i / 8) qO
    have hpl := A7F 8 (2 ^ n - 1) i (i / 8)
    rw [B2Z hlt] at hps
    rw [← hpg] at hps hpl
    have hsm := A3s (b := 1) (w := 8) qD (Nat.mod_lt i (by decide : 0 < 8))
    have hmo : 1 <<< (i % 8) % 2 ^ IntKind.u8.bits = 1 <<< (i % 8) := Nat.mod_eq_of_lt hsm
    refine A6 (nx (E4 1 4 5 9 10) (A3 (A4 (A1 (mv_ (as_ (A0 (H3 1 4 5 6 9 10) ?_)))))))
    refine F8 (.range 9) (zp 0 [0, 0, 0, 1, 0, 0, 0, 0, 0, 2]) kR kR fun hs => ?_
    refine fm_ hs ?_
    refine C2 hs rfl (A25 8 rfl rfl rfl qD (A4H qO)) rfl ?_
    refine C2 hs rfl (E8 (e := 5) (n := 32) (sz := 1) (i := i / 8) rfl rfl kR kR rfl qO) rfl ?_
    refine G4 hs rfl (H9 (i / 8) rfl kR At.mem qO (by rw [P0]; omega)) rfl ?_
    refine fm_ hs ?_
    refine C2 hs rfl (A26 8 rfl rfl rfl qD) rfl ?_
    refine C2 hs rfl (hmo ▸ A2j (a := 1) rfl (i % 8) rfl rfl rfl (by show _ ≤ 8; omega)) rfl ?_
    refine C2 hs rfl (B4b rfl rfl rfl hpl hsm) rfl ?_
    refine C2 hs rfl (E8 (e := 5) (n := 32) (sz := 1) (i := i / 8) rfl rfl kR kR rfl qO) rfl ?_
    refine F5 rfl rfl rfl (I7 (i / 8) rfl rfl kR qO (by rw [P0]; omega) UpC.upd ?_)
    refine Q8 (nb (nx (E4 1 4 5 9 10) (A7 ?_)))
    refine A2 (C7 ((i + 1 : Nat) : Int) rfl rfl (E1 qO qO qO)) rfl ?_
    refine mv_ (C0 ?_)
    exact rn (i + 1) qO qO (E4 1 4 5 9 10) (Fit.eq (by rw [hps])) qI
  ·
    have hlt : i = n := by simp at hc; omega
    subst hlt
    refine D0 (te (re (be rfl (nx (D6 1 4 5) ?_))))
    have hhd := B0r (n := i) qO
    have hbn := B0s (2 ^ i - 1) i qO
    have hpl := P0 8 32 (2 ^ i - 1) i
    have hpw : 256 ≤ 2 ^ i := (show 256 = 2 ^ 8 from rfl) ▸ Nat.pow_le_pow_right qD qO
    refine A1 (mv_ ?_)
    refine A2 (B4f 65536 (b := 1) rfl rfl rfl rfl rfl rfl qO qO) rfl ?_
    refine as_ (A0 (D6 1 4 5) (A3 (A1 (as_ (A0 (D8 1 4 5 7) (A4 ?_))))))
    refine T7 3 ?_
    refine F6 ?_
    refine A3 (A1 (mv_ ?_))
    refine A2 (E9 true rfl rfl (gtT qO)) rfl ?_
    refine A0 (E4 1 4 5 7 26) ?_
    refine D5 rfl ?_
    refine A6 (nx (D8 1 4 5 7) (A3 (A4 (A1 (mv_ ?_)))))
    refine A2 (qi_ 0 5 32 1 0) rfl ?_
    refine A2 (hhd ▸ H9 0 rfl kR At.mem rfl qO) rfl ?_
    refine A2 (N6 (k' := .u16) 255 rfl kR qD) rfl ?_
    refine mv_ ?_
    refine A2 (N4 8 256 rfl rfl rfl rfl rfl (by show _ < 65536; first | assumption | exact Nat.mod_lt _ qD | omega) qD) rfl ?_
    refine A2 (B4f 65536 (a := 255) rfl rfl rfl rfl rfl rfl qD qO) rfl ?_
    refine as_ (A0 (E4 1 4 5 7 8) (A1 (mv_ (mv_ ?_))))
    refine A2 (A1m rfl kR) rfl ?_
    refine A2 (qi_ 0 5 32 1 0) rfl ?_
    refine A5 rfl (I7 0 rfl rfl kR rfl qO UpC.upd ?_)
    refine A0 (E4 1 4 5 7 8) (A1 (mv_ ?_))
    refine A2 (N3 8 256 rfl rfl rfl rfl qD) rfl ?_
    refine as_ (A0 (E4 1 4 5 7 8) (A1 (mv_ ?_)))
    refine A2 (E9 false rfl rfl (gtF qO)) rfl ?_
    refine A0 (E4 1 4 5 7 43) ?_
    refine C6 rfl ?_
    refine A6 (nb (nx (D8 1 4 5 7) (A7 (mv_ ?_))))
    refine A2 (C7 (1 : Int) rfl rfl (E1 qD qD qD)) rfl ?_
    refine as_ (C0 ?_)
    refine un (D8 1 4 5 7) ?_
    refine F6 ?_
    refine A3 (A1 (mv_ ?_))
    refine A2 (E9 false rfl rfl (gtF qO)) rfl ?_
    refine A0 (E4 1 4 5 7 26) ?_
    refine C6 rfl ?_
    refine D0 (te (ue (be rfl (nx (D2 4 5) (A1 ?_)))))
    refine A2 (L2 (n := 32) (cs := nums .u8 ((A0J 8 32 (2 ^ i - 1) i).set 0 ((255 - (d - 1) % 256) % 256))) rfl kR At.mem (by rw [nums_len, List.length_set, hpl])) rfl ?_
    refine A5 rfl (A9 (vs := nums .u8 ((A0J 8 32 (2 ^ i - 1) i).set 0 ((255 - (d - 1) % 256) % 256))) rfl rfl rfl (by rw [nums_len, List.length_set, hpl]; kernel_rfl) (by rw [nums_len, List.length_set, hpl]; rfl) E5 UpC.upd ?_)
    refine A0 (D7 4) (B4 ?_)
    refine ⟨_, [], [], A3Q rfl rfl kR At.mem (by rw [nums_len, List.length_set, hpl]), List.nil_sublist _, by simp, rfl, rfl, _, rfl, by rw [List.length_set, hpl], ?_, ?_⟩
    · intro y hy
      rcases List.mem_or_eq_of_mem_set hy with h | rfl
      · exact B0p _ _ y h
      · exact Nat.mod_lt _ qD
    · have h0 := B52 (p := A0J 8 32 (2 ^ i - 1) i) ((255 - (d - 1) % 256) % 256) qO
      rw [hhd, hbn, Nat.mod_eq_of_lt (a := 2 ^ i - 1) qO] at h0
      omega
theorem B0u (v : Value) (x : Nat) (hx : Fe v x) (A : Mem) : FnX Tryz.prog 91 [v] [] A fun r M J => M = [] ∧ J = [] ∧ ∃ n, n + 1 = p25 - 1 ∧ Fe r (x ^ n % p25) := by
 have hx0 := hx
 obtain ⟨a, b, c, d, e, rfl, -⟩ := hx
 refine FnX.enter (N := 6) Tryz.func91 rfl rfl rfl fun w => ?_
 refine B0 (D7 0) (A1 ?_)
 refine A5 rfl (bx_ fun b1 => ?_)
 refine A5 rfl (C4 (cs := [E3, E3, E3, E3, E3]) kR rfl fun b2 => ?_)
 refine A0 (D2 1 2) ?_
 refine C9 [0, 1, 2] [(0, 1), (1, 2), (2, 2), (3, 2)] kR kR fun hs => ?_
 refine G4 hs rfl (qw_ 5) rfl ?_
 refine L8 rfl (aS rfl (aS rfl a0)) kR (B0t 255 21 qD qD qD qD _) rfl ?_
 rintro rn1 Mn Jn ⟨rfl, rfl, es, rfl, hel, he256, hbv⟩
 refine L8 rfl (aS rfl (aS rfl a0)) kR (A6W _ _ hx0 es hel he256 _) rfl ?_
 rintro r1 M1 J1 ⟨rfl, rfl, hr⟩
 have hbv1 : bv es + 1 = p25 - 1 := by rw [hbv]; decide
 have hr0 := hr
 obtain ⟨a1, b1, c1, d1, e1, rfl, -⟩ := hr
 refine F5 rfl rfl rfl (A9 rfl rfl Cel.cel kR ln5 al5 UpC.upd ?_)
 refine E7 (D7 2) (B4 ?_)
 exact ⟨_, [], [], A3Q rfl rfl kR At.mem qR, List.nil_sublist _, by simp, rfl, rfl, _, hbv1, hr0⟩
def rtp (x n : Nat) : Nat := x ^ n % p25
def rt1 (x : Nat) : Nat := rtp x (2 ^ 252 - 2)
def rt2 (x : Nat) : Nat := rt1 x * rtp 2 (2 ^ 253 - 5) % p25
theorem B76 {x n m : Nat} (h : n = m) : x ^ n % p25 = rtp x m := by subst h; rfl
def Rt (r : Value) (x : Nat) : Prop := ∃ u b, r = .tuple #[u, .bool b] ∧ ((rt1 x * rt1 x % p25 = x ∧ b = true ∧ Fe u (rt1 x)) ∨ (rt1 x * rt1 x % p25 ≠ x ∧ rt2 x * rt2 x % p25 = x ∧ b = true ∧ Fe u (rt2 x)) ∨ (rt1 x * rt1 x % p25 ≠ x ∧ rt2 x * rt2 x % p25 ≠ x ∧ b = false ∧ Fe u 0))

end Go.Proofs.YtlilcmjbaknafaaGreatDoor
