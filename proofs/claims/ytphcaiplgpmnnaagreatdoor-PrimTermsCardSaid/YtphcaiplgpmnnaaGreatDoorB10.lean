/- Part 10 of the texts of this claim, one behind the other. -/
import Derived.Test.YtphcaiplgpmnnaaGreatDoorB9
import Derived.Laws.Strings
set_option linter.unusedVariables false
set_option linter.unusedSimpArgs false
set_option maxRecDepth 100000
namespace Go.Proofs.YtphcaiplgpmnnaaGreatDoor
open Go.Px
def pairs : List Nat → List Value
  | [] => []
  | x :: r => .int .u64 ((x / 18446744073709551616 : Nat) : Int) :: .int .u64 ((x % 18446744073709551616 : Nat) : Int) :: pairs r
theorem pairs_len (Xs : List Nat) : (pairs Xs).length = 2 * Xs.length := by
  induction Xs with
  | nil => rfl
  | cons x r ih => simp [pairs, ih]; omega
theorem pairs_get : ∀ (Xs : List Nat) (j : Nat), j < Xs.length → (pairs Xs)[2 * j]? = some (.int .u64 ((Xs.getD j 0 / 18446744073709551616 : Nat) : Int)) ∧ (pairs Xs)[2 * j + 1]? = some (.int .u64 ((Xs.getD j 0 % 18446744073709551616 : Nat) : Int))
  | [], j, h => by simp at h
  | x :: r, 0, h => by simp [pairs]
  | x :: r, j + 1, h => by
    have := pairs_get r j (by simpa using h)
    rw [show 2 * (j + 1) = 2 * j + 1 + 1 by omega]
    simpa [pairs] using this
theorem pairs_set : ∀ (Xs : List Nat) (j x : Nat), j < Xs.length → (pairs Xs).take (2 * j) ++ [.int .u64 ((x / 18446744073709551616 : Nat) : Int), .int .u64 ((x % 18446744073709551616 : Nat) : Int)] ++ (pairs Xs).drop (2 * j + 2) = pairs (Xs.set j x)
  | [], j, x, h => by simp at h
  | y :: r, 0, x, h => by simp [pairs]
  | y :: r, j + 1, x, h => by
    have := pairs_set r j x (by simpa using h)
    rw [show 2 * (j + 1) = 2 * j + 1 + 1 by omega]
    simp only [pairs, List.take_succ_cons, List.cons_append, List.drop_succ_cons, List.set_cons_succ, this]
theorem q_ldP {P : Program} {R : Mem} {l : Env} {d : Option Nat} {ty t : TypeId} {pos : String} {af : Array Edge} {g : Option (Nat × Bool)} {x : Operand} {b o : Nat} {Xs : List Nat} {e : TypeId} {fr : Nat × Nat} (j : Nat) (hx : ev l x = some (.pointer (some ⟨b, o, none⟩))) (ht : rowT P t = some 2)
    (hb : (b, Obj.cells (pairs Xs).toArray e fr) ∈ R) (ho : o = 2 * j) (hj : j < Xs.length) : OpQ P R ⟨d, .load t x, ty, pos, af, g⟩ l (wd (Xs.getD j 0 / 18446744073709551616) (Xs.getD j 0 % 18446744073709551616)) := by
  subst ho
  obtain ⟨h1, h2⟩ := pairs_get Xs j hj
  refine q_loadR (vs := [.int .u64 ((Xs.getD j 0 / 18446744073709551616 : Nat) : Int), .int .u64 ((Xs.getD j 0 % 18446744073709551616 : Nat) : Int)]) hx ht hb rfl ?_
  intro i v hv
  match i, hv with
  | 0, hv => cases hv; exact h1
  | 1, hv => cases hv; exact h2
  | i + 2, hv => simp at hv
theorem l_stP {C : Cx} {l : Env} {M J : Mem} {K : Env → Mem → Mem → Prop} {ty t : TypeId} {pos : String} {af : Array Edge} {g : Option (Nat × Bool)} {x y : Operand} {b o hi lo X : Nat} {Xs : List Nat} {e : TypeId} {M' : Mem} (j : Nat) (hx : ev l x = some (.pointer (some ⟨b, o, none⟩))) (hy : ev l y = some (wd hi lo))
    (ht : sizeT C.P t = some 2) (ho : o = 2 * j) (hj : j < Xs.length) (hh : hi < 18446744073709551616) (hl : lo < 18446744073709551616) (hX : hi * 18446744073709551616 + lo = X) (hu : Upd M b (blk (pairs Xs) e) (blk (pairs (Xs.set j X)) e) M') (k : K l M' J) :
    OpL C ⟨none, .store t x y, ty, pos, af, g⟩ l M J K := by
  subst ho
  refine l_storeR (vs := [.int .u64 (hi : Int), .int .u64 (lo : Int)]) hx hy rfl ht (by rw [pairs_len]; simp; omega) (by simp [Value.oneCell']) ?_ hu k
  rw [← pairs_set Xs j X hj]
  have e1 : X / 18446744073709551616 = hi := by omega
  have e2 : X % 18446744073709551616 = lo := by omega
  rw [e1, e2]; rfl
theorem lt52 {a : Nat} (h : a < 4503599627370496) : a < 18446744073709551616 := by omega
theorem lowD (h l : Nat) : l % 2251799813685248 = (h * 18446744073709551616 + l) % 2251799813685248 := by omega
theorem lowM (x : Nat) : x % 18446744073709551616 % 2251799813685248 = x % 2251799813685248 := by omega
theorem modD (x : Nat) : x % 2251799813685248 < 4503599627370496 := by omega
theorem sum5 {z1 z2 z3 z4 z5 y1 y2 y3 y4 y5 b : Nat} (h1 : z1 ≤ y1) (h2 : z2 ≤ y2) (h3 : z3 ≤ y3) (h4 : z4 ≤ y4) (h5 : z5 ≤ y5) (hb : y1 + y2 + y3 + y4 + y5 < b) : z1 + z2 + z3 + z4 + z5 < b := by omega
theorem back (X : Nat) : X / 18446744073709551616 * 18446744073709551616 + X % 18446744073709551616 = X := by omega
theorem getD5 {xs : List Nat} {b i : Nat} (h : ∀ x ∈ xs, x < b) (hb : 0 < b) : xs.getD i 0 < b := getD_lt h hb

theorem fmul_spec (v u : Value) (x y : Nat) (hx : Fe v x) (hy : Fe u y) (A : Mem) : FnX Tryz.prog 133 [v, u] [] A fun r M J => M = [] ∧ J = [] ∧ Fe r (x * y % p25) := by
 obtain ⟨a, b, c, d, e, rfl, hl0, hl1, hl2, hl3, hl4, rfl⟩ := hx
 obtain ⟨u0, u1, u2, u3, u4, rfl, hu0, hu1, hu2, hu3, hu4, rfl⟩ := hy
 refine FnX.enter (N := 105) Tryz.func133 rfl rfl rfl fun w => ?_
 refine XC.keep (kq 0 (kq 1 kn)) ?_
 refine XC.reg ?_
 refine XL.lo rfl (bx_ fun b2 => ?_)
 refine XL.lo rfl (bx_ fun b3 => ?_)
 refine XL.lo rfl (l_alloc (cs := [.int .u64 0, .int .u64 0, .int .u64 0, .int .u64 0, .int .u64 0]) (by kernel_rfl) rfl fun b4 => ?_)
 refine XL.fin (kq 2 (kq 3 (kq 4 kn))) ?_
 refine XC.reg ?_
 refine XL.lo rfl (l_alloc (cs := [.int .u64 0, .int .u64 0, .int .u64 0, .int .u64 0, .int .u64 0, .int .u64 0, .int .u64 0, .int .u64 0, .int .u64 0, .int .u64 0]) (by kernel_rfl) rfl fun b5 => ?_)
 refine XL.fin (kq 2 (kq 3 (kq 4 (kq 5 kn)))) ?_
 refine XC.seq ?_
 refine XC.reg ?_
 refine mv_ ?_
 refine XL.fin (kq 2 (kq 3 (kq 4 (kq 5 (kq 10 kn))))) ?_
 refine XC.block ?_
 have has : ∀ x ∈ [a, b, c, d, e], x < 4503599627370496 := by intro x hx; simp only [List.mem_cons, List.not_mem_nil, or_false] at hx; rcases hx with rfl | rfl | rfl | rfl | rfl <;> assumption
 have hbs : ∀ x ∈ [u0, u1, u2, u3, u4], x < 4503599627370496 := by intro x hx; simp only [List.mem_cons, List.not_mem_nil, or_false] at hx; rcases hx with rfl | rfl | rfl | rfl | rfl <;> assumption
 have hall := allX_all a b c d e u0 u1 u2 u3 u4 hl0 hl1 hl2 hl3 hl4 hu0 hu1 hu2 hu3 hu4
 have hla : [a, b, c, d, e].length = 5 := rfl
 have hlb : [u0, u1, u2, u3, u4].length = 5 := rfl
 refine XC.fit (M' := [(b5, blk (pairs [0, 0, 0, 0, 0]) 199), (b4, blk [.int .u64 0, .int .u64 0, .int .u64 0, .int .u64 0, .int .u64 0] 152), (b3, blk (nums .u64 [u0, u1, u2, u3, u4]) 152), (b2, blk (nums .u64 [a, b, c, d, e]) 152)]) (Fit.eq rfl) (fun _ h => h) ?_
 generalize [a, b, c, d, e] = xs at *
 generalize [u0, u1, u2, u3, u4] = ys at *
 refine XC.loop (α := Nat) (fun i => [(2, .pointer (some ⟨b2, 0, none⟩)), (3, .pointer (some ⟨b3, 0, none⟩)), (4, .pointer (some ⟨b4, 0, none⟩)), (5, .pointer (some ⟨b5, 0, none⟩)), (10, .int .i64 (i : Int))]) (fun i => [(b5, blk (pairs (allX xs ys i)) 199), (b4, blk [.int .u64 0, .int .u64 0, .int .u64 0, .int .u64 0, .int .u64 0] 152), (b3, blk (nums .u64 ys) 152), (b2, blk (nums .u64 xs) 152)]) (fun _ => []) (fun i => i ≤ 5) (fun i => 5 - i) 0 (by decide) (kq 2 (kq 3 (kq 4 (kq 5 (kq 10 kn))))) .rfl (fun _ h => h) ?_
 rintro i hi
 refine XC.reg ?_
 refine XL.q (q_bin rfl rfl rfl) rfl ?_
 refine XL.fin (kq 2 (kq 3 (kq 4 (kq 5 (kq 10 (kq 11 kn)))))) ?_
 refine XC.seq ?_
 refine XC.cond rfl (fun hc => ?_) (fun hc => ?_)
 ·
  have hi5 : i < 5 := by simp at hc; omega
  have hfa : xs.getD i 0 < 4503599627370496 := getD5 has (by decide)
  refine XC.skip ?_
  refine nx (kq 2 (kq 3 (kq 4 (kq 5 (kq 10 kn))))) ?_
  refine XC.seq ?_
  refine XC.block ?_
  refine XC.reg ?_
  refine mv_ (as_ ?_)
  refine XL.fin (kq 2 (kq 3 (kq 4 (kq 5 (kq 6 (kq 10 kn)))))) ?_
  refine XC.reg ?_
  refine mv_ ?_
  refine XL.fin (kq 2 (kq 3 (kq 4 (kq 5 (kq 6 (kq 10 (kq 13 kn))))))) ?_
  refine XC.block ?_
  refine XC.loop (α := Nat) (fun k => [(2, .pointer (some ⟨b2, 0, none⟩)), (3, .pointer (some ⟨b3, 0, none⟩)), (4, .pointer (some ⟨b4, 0, none⟩)), (5, .pointer (some ⟨b5, 0, none⟩)), (6, .int .i64 (i : Int)), (10, .int .i64 (i : Int)), (13, .int .i64 (k : Int))]) (fun k => [(b5, blk (pairs (rowX xs ys i k (allX xs ys i))) 199), (b4, blk [.int .u64 0, .int .u64 0, .int .u64 0, .int .u64 0, .int .u64 0] 152), (b3, blk (nums .u64 ys) 152), (b2, blk (nums .u64 xs) 152)]) (fun _ => []) (fun k => k ≤ 5) (fun k => 5 - k) 0 (by decide) (kq 2 (kq 3 (kq 4 (kq 5 (kq 6 (kq 10 (kq 13 kn))))))) .rfl (fun _ h => h) ?_
  rintro k hk
  refine XC.reg ?_
  refine XL.q (q_bin rfl rfl rfl) rfl ?_
  refine XL.fin (kq 2 (kq 3 (kq 4 (kq 5 (kq 6 (kq 10 (kq 13 (kq 14 kn)))))))) ?_
  refine XC.seq ?_
  refine XC.cond rfl (fun hc => ?_) (fun hc => ?_)
  ·
   have hk5 : k < 5 := by simp at hc; omega
   have hfb : ys.getD k 0 < 4503599627370496 := getD5 hbs (by decide)
   have hlx : (rowX xs ys i k (allX xs ys i)).length = 5 := by rw [rowX_len, allX_len]
   have hXlt : ∀ j, (rowX xs ys i k (allX xs ys i)).getD j 0 < 340282366920938463463374607431768211456 := fun j => getD_lt (rowX_lt xs ys i k (allX_lt xs ys i)) (by decide)
   refine XC.skip ?_
   refine nx (kq 2 (kq 3 (kq 4 (kq 5 (kq 6 (kq 10 (kq 13 kn))))))) ?_
   refine XC.seq ?_
   refine XC.block ?_
   refine XC.reg ?_
   refine mv_ (as_ ?_)
   refine XL.fin (kq 2 (kq 3 (kq 4 (kq 5 (kq 6 (kq 7 (kq 10 (kq 13 kn)))))))) ?_
   refine XC.reg ?_
   refine mv_ (mv_ ?_)
   refine XL.q (q_num ((i + k : Nat) : Int) rfl rfl (add64 (by omega) (by omega) (by omega))) rfl ?_
   refine XL.q (q_bin rfl rfl rfl) rfl ?_
   refine XL.fin (kq 2 (kq 3 (kq 4 (kq 5 (kq 6 (kq 7 (kq 10 (kq 13 (kq 19 kn))))))))) ?_
   refine XC.cond rfl (fun hc => ?_) (fun hc => ?_)
   ·
    have hs5 : i + k < 5 := by simp at hc; omega
    have hj : posX i k = i + k := by unfold posX; rw [if_pos hs5]
    have hfx : facX xs i k = xs.getD i 0 := by unfold facX; rw [if_pos hs5]
    refine XC.drawF1 [0, 1, 2, 3, 4, 5, 6, 7, 8, 9, 10, 11, 12, 13, 14, 15] [(0, 0), (1, 0), (2, 0), (3, 0), (4, 0), (5, 0), (6, 0), (7, 1), (8, 0), (9, 0), (10, 1), (11, 0), (12, 0), (13, 1), (14, 2), (15, 0), (16, 2)] (by kernel_rfl) (by kernel_rfl) fun hs => ?_
    refine XF.q hs rfl qm_ rfl ?_
    refine XF.q hs rfl qm_ rfl ?_
    refine XF.q hs rfl (q_num ((i + k : Nat) : Int) rfl rfl (add64 (by omega) (by omega) (by omega))) rfl ?_
    refine XF.q hs rfl qm_ rfl ?_
    refine XF.q hs rfl qm_ rfl ?_
    refine XF.q hs rfl (q_num ((i + k : Nat) : Int) rfl rfl (add64 (by omega) (by omega) (by omega))) rfl ?_
    refine XF.q hs rfl (q_idxA (e := 198) (n := 5) (sz := 2) (i := i + k) rfl rfl (by kernel_rfl) (by kernel_rfl) rfl (by omega)) rfl ?_
    refine XF.r hs rfl (q_ldP (i + k) rfl (by kernel_rfl) At.mem (by omega) (by omega)) rfl ?_
    refine XF.q hs rfl qm_ rfl ?_
    refine XF.q hs rfl (q_idxA (e := 28) (n := 5) (sz := 1) (i := i) rfl rfl (by kernel_rfl) (by kernel_rfl) rfl (by omega)) rfl ?_
    refine XF.r hs rfl (q_ldN i rfl (by kernel_rfl) (by first | exact At.mem | exact mA (by assumption)) (by omega) (by omega)) rfl ?_
    refine XF.q hs rfl qm_ rfl ?_
    refine XF.q hs rfl (q_idxA (e := 28) (n := 5) (sz := 1) (i := k) rfl rfl (by kernel_rfl) (by kernel_rfl) rfl (by omega)) rfl ?_
    refine XF.r hs rfl (q_ldN k rfl (by kernel_rfl) (by first | exact At.mem | exact mA (by assumption)) (by omega) (by omega)) rfl ?_
    refine XF.call rfl (aS rfl (aS rfl (aS rfl a0))) (by kernel_rfl) (wadd_spec _ _ _ _ (by have := hXlt (i + k); omega) (Nat.mod_lt _ (by decide)) (lt52 hfa) (lt52 hfb) _) rfl ?_
    rintro r1 M1 J1 ⟨rfl, rfl, h1, l1, rfl, g1, k1, e1⟩
    rw [back] at e1
    refine XF.q hs rfl (q_idxA (e := 198) (n := 5) (sz := 2) (i := i + k) rfl rfl (by kernel_rfl) (by kernel_rfl) rfl (by omega)) rfl ?_
    refine XF.tl rfl rfl rfl (l_stP (Xs := rowX xs ys i k (allX xs ys i)) (i + k) rfl rfl (by kernel_rfl) (by omega) (by omega) g1 k1 e1 UpC.upd ?_)
    rw [show (rowX xs ys i k (allX xs ys i)).set (i + k) (((rowX xs ys i k (allX xs ys i)).getD (i + k) 0 + xs.getD i 0 * ys.getD k 0) % 340282366920938463463374607431768211456) = rowX xs ys i (k + 1) (allX xs ys i) by rw [rowX, stepX, hj, hfx]]
    refine XF.nil ?_
    refine nb ?_
    refine nx (kq 2 (kq 3 (kq 4 (kq 5 (kq 6 (kq 10 (kq 13 kn))))))) ?_
    refine XC.reg1 ?_
    refine XL.q (q_num ((k + 1 : Nat) : Int) rfl rfl (add64 (by omega) (by omega) (by omega))) rfl ?_
    refine mv_ ?_
    refine XL.nil ?_
    exact rn (k + 1) (by omega) (by omega) (kq 2 (kq 3 (kq 4 (kq 5 (kq 6 (kq 10 (kq 13 kn))))))) .rfl (fun _ h => h)
   ·
    have hs5 : ¬ i + k < 5 := by simp at hc; omega
    have hj : posX i k = i + k - 5 := by unfold posX; rw [if_neg hs5]
    have hfx : facX xs i k = 19 * xs.getD i 0 % 18446744073709551616 := by unfold facX; rw [if_neg hs5]
    refine XC.drawF1 [0, 1, 2, 3, 4, 5, 6, 7, 8, 9, 10, 11, 12, 13, 14, 15, 16, 17, 18] [(0, 0), (1, 0), (2, 0), (3, 0), (4, 0), (5, 0), (6, 0), (7, 0), (8, 0), (9, 1), (10, 0), (11, 0), (12, 1), (13, 0), (14, 0), (15, 0), (16, 1), (17, 2), (18, 0), (19, 2)] (by kernel_rfl) (by kernel_rfl) fun hs => ?_
    refine XF.q hs rfl qm_ rfl ?_
    refine XF.q hs rfl qm_ rfl ?_
    refine XF.q hs rfl (q_num ((i + k : Nat) : Int) rfl rfl (add64 (by omega) (by omega) (by omega))) rfl ?_
    refine XF.q hs rfl (q_num ((i + k - 5 : Nat) : Int) rfl rfl (sub64 (by omega) (by omega) (by omega))) rfl ?_
    refine XF.q hs rfl qm_ rfl ?_
    refine XF.q hs rfl qm_ rfl ?_
    refine XF.q hs rfl (q_num ((i + k : Nat) : Int) rfl rfl (add64 (by omega) (by omega) (by omega))) rfl ?_
    refine XF.q hs rfl (q_num ((i + k - 5 : Nat) : Int) rfl rfl (sub64 (by omega) (by omega) (by omega))) rfl ?_
    refine XF.q hs rfl (q_idxA (e := 198) (n := 5) (sz := 2) (i := i + k - 5) rfl rfl (by kernel_rfl) (by kernel_rfl) rfl (by omega)) rfl ?_
    refine XF.r hs rfl (q_ldP (i + k - 5) rfl (by kernel_rfl) At.mem (by omega) (by omega)) rfl ?_
    refine XF.q hs rfl qm_ rfl ?_
    refine XF.q hs rfl (q_idxA (e := 28) (n := 5) (sz := 1) (i := i) rfl rfl (by kernel_rfl) (by kernel_rfl) rfl (by omega)) rfl ?_
    refine XF.r hs rfl (q_ldN i rfl (by kernel_rfl) (by first | exact At.mem | exact mA (by assumption)) (by omega) (by omega)) rfl ?_
    refine XF.q hs rfl (q_mulM 18446744073709551616 (a := 19) rfl rfl rfl rfl rfl rfl) rfl ?_
    refine XF.q hs rfl qm_ rfl ?_
    refine XF.q hs rfl (q_idxA (e := 28) (n := 5) (sz := 1) (i := k) rfl rfl (by kernel_rfl) (by kernel_rfl) rfl (by omega)) rfl ?_
    refine XF.r hs rfl (q_ldN k rfl (by kernel_rfl) (by first | exact At.mem | exact mA (by assumption)) (by omega) (by omega)) rfl ?_
    refine XF.call rfl (aS rfl (aS rfl (aS rfl a0))) (by kernel_rfl) (wadd_spec _ _ _ _ (by have := hXlt (i + k - 5); omega) (Nat.mod_lt _ (by decide)) (Nat.mod_lt _ (by decide)) (lt52 hfb) _) rfl ?_
    rintro r1 M1 J1 ⟨rfl, rfl, h1, l1, rfl, g1, k1, e1⟩
    rw [back] at e1
    refine XF.q hs rfl (q_idxA (e := 198) (n := 5) (sz := 2) (i := i + k - 5) rfl rfl (by kernel_rfl) (by kernel_rfl) rfl (by omega)) rfl ?_
    refine XF.tl rfl rfl rfl (l_stP (Xs := rowX xs ys i k (allX xs ys i)) (i + k - 5) rfl rfl (by kernel_rfl) (by omega) (by omega) g1 k1 e1 UpC.upd ?_)
    rw [show (rowX xs ys i k (allX xs ys i)).set (i + k - 5) (((rowX xs ys i k (allX xs ys i)).getD (i + k - 5) 0 + (19 * xs.getD i 0 % 18446744073709551616) * ys.getD k 0) % 340282366920938463463374607431768211456) = rowX xs ys i (k + 1) (allX xs ys i) by rw [rowX, stepX, hj, hfx]]
    refine XF.nil ?_
    refine nb ?_
    refine nx (kq 2 (kq 3 (kq 4 (kq 5 (kq 6 (kq 10 (kq 13 kn))))))) ?_
    refine XC.reg1 ?_
    refine XL.q (q_num ((k + 1 : Nat) : Int) rfl rfl (add64 (by omega) (by omega) (by omega))) rfl ?_
    refine mv_ ?_
    refine XL.nil ?_
    exact rn (k + 1) (by omega) (by omega) (kq 2 (kq 3 (kq 4 (kq 5 (kq 6 (kq 10 (kq 13 kn))))))) .rfl (fun _ h => h)
  ·
   have hk5 : k = 5 := by simp at hc; omega
   subst hk5
   refine XC.exit ?_
   refine te ?_
   refine re ?_
   refine be rfl ?_
   refine nb ?_
   refine nx (kq 2 (kq 3 (kq 4 (kq 5 (kq 10 kn))))) ?_
   refine XC.reg1 ?_
   refine XL.q (q_num ((i + 1 : Nat) : Int) rfl rfl (add64 (by omega) (by omega) (by omega))) rfl ?_
   refine mv_ ?_
   refine XL.nil ?_
   exact rn (i + 1) (by omega) (by omega) (kq 2 (kq 3 (kq 4 (kq 5 (kq 10 kn))))) .rfl (fun _ h => h)
 ·
  have hi5 : i = 5 := by simp at hc; omega
  subst hi5
  rw [hall]
  clear hall
  have z00 := zb hl0 hu0
  have z01 := zb19 hl1 hu4
  have z02 := zb19 hl2 hu3
  have z03 := zb19 hl3 hu2
  have z04 := zb19 hl4 hu1
  have y0 := sum5 z00 z01 z02 z03 z04 (b := 2596148429267413814265248164610048) (by decide)
  clear z00 z01 z02 z03 z04
  have z10 := zb hl0 hu1
  have z11 := zb hl1 hu0
  have z12 := zb19 hl2 hu4
  have z13 := zb19 hl3 hu3
  have z14 := zb19 hl4 hu2
  have y1 := sum5 z10 z11 z12 z13 z14 (b := 2596148429267413814265248164610048) (by decide)
  clear z10 z11 z12 z13 z14
  have z20 := zb hl0 hu2
  have z21 := zb hl1 hu1
  have z22 := zb hl2 hu0
  have z23 := zb19 hl3 hu4
  have z24 := zb19 hl4 hu3
  have y2 := sum5 z20 z21 z22 z23 z24 (b := 2596148429267413814265248164610048) (by decide)
  clear z20 z21 z22 z23 z24
  have z30 := zb hl0 hu3
  have z31 := zb hl1 hu2
  have z32 := zb hl2 hu1
  have z33 := zb hl3 hu0
  have z34 := zb19 hl4 hu4
  have y3 := sum5 z30 z31 z32 z33 z34 (b := 2596148429267413814265248164610048) (by decide)
  clear z30 z31 z32 z33 z34
  have z40 := zb hl0 hu4
  have z41 := zb hl1 hu3
  have z42 := zb hl2 hu2
  have z43 := zb hl3 hu1
  have z44 := zb hl4 hu0
  have y4 := sum5 z40 z41 z42 z43 z44 (b := 162259276829213363391578010288128) (by decide)
  clear z40 z41 z42 z43 z44
  have hring := mul_ring a b c d e u0 u1 u2 u3 u4
  generalize a * u0 + 19 * b * u4 + 19 * c * u3 + 19 * d * u2 + 19 * e * u1 = R0 at *
  generalize a * u1 + b * u0 + 19 * c * u4 + 19 * d * u3 + 19 * e * u2 = R1 at *
  generalize a * u2 + b * u1 + c * u0 + 19 * d * u4 + 19 * e * u3 = R2 at *
  generalize a * u3 + b * u2 + c * u1 + d * u0 + 19 * e * u4 = R3 at *
  generalize a * u4 + b * u3 + c * u2 + d * u1 + e * u0 = R4 at *
  have x0 : R0 / 18446744073709551616 < 18446744073709551616 := by omega
  have x1 : R1 / 18446744073709551616 < 18446744073709551616 := by omega
  have x2 : R2 / 18446744073709551616 < 18446744073709551616 := by omega
  have x3 : R3 / 18446744073709551616 < 18446744073709551616 := by omega
  have x4 : R4 / 18446744073709551616 < 18446744073709551616 := by omega
  simp only [pairs]
  refine XC.exit ?_
  refine te ?_
  refine re ?_
  refine be rfl ?_
  refine nx (kq 4 (kq 5 kn)) ?_
  refine XC.reg ?_
  refine XL.lo rfl (l_alloc (cs := [.int .u64 0, .int .u64 0, .int .u64 0, .int .u64 0, .int .u64 0]) (by kernel_rfl) rfl fun b8 => ?_)
  refine XL.fin (kq 4 (kq 5 (kq 8 kn))) ?_
  refine XC.seq ?_
  refine XC.reg ?_
  refine mv_ ?_
  refine XL.fin (kq 4 (kq 5 (kq 8 (kq 57 kn)))) ?_
  refine XC.block ?_
  refine XC.rounds 5 ?_
  refine XR.step ?_
  refine XC.reg ?_
  refine XL.q (q_cmp true rfl rfl (ltT (by decide))) rfl ?_
  refine XL.fin (kq 4 (kq 5 (kq 8 (kq 57 (kq 58 kn))))) ?_
  refine XC.seq ?_
  refine XC.condT rfl ?_
  refine XC.skip ?_
  refine nx (kq 4 (kq 5 (kq 8 (kq 57 kn)))) ?_
  refine XC.seq ?_
  refine XC.block ?_
  refine XC.reg ?_
  refine mv_ (as_ ?_)
  refine XL.fin (kq 4 (kq 5 (kq 8 (kq 9 (kq 57 kn))))) ?_
  refine XC.drawF [0, 1, 2, 3, 4, 5, 6, 7, 8, 9, 10, 11] [(0, 0), (1, 0), (2, 0), (3, 0), (4, 0), (5, 1), (6, 0), (7, 0), (8, 1), (9, 2), (10, 2), (11, 0), (12, 2)] (by kernel_rfl) (by kernel_rfl) fun hs => ?_
  refine XF.q hs rfl qm_ rfl ?_
  refine XF.q hs rfl (q_num (1 : Int) rfl rfl (add64 (by decide) (by decide) (by decide))) rfl ?_
  refine XF.q hs rfl qm_ rfl ?_
  refine XF.q hs rfl (q_num (1 : Int) rfl rfl (add64 (by decide) (by decide) (by decide))) rfl ?_
  refine XF.q hs rfl (qi_ 2 198 5 2 1) rfl ?_
  refine XF.r hs rfl (q_loadT (n := 2) rfl (by kernel_rfl) (by first | exact At.mem | exact mA (by assumption)) TakeC.take) rfl ?_
  refine XF.q hs rfl qm_ rfl ?_
  refine XF.q hs rfl (qi_ 0 198 5 2 0) rfl ?_
  refine XF.r hs rfl (q_loadT (n := 2) rfl (by kernel_rfl) (by first | exact At.mem | exact mA (by assumption)) TakeC.take) rfl ?_
  refine XF.callV rfl (aS rfl a0) (by kernel_rfl) (whigh_spec _ _ (by first | assumption | exact lt52 (by assumption) | decide | exact Nat.mod_lt _ (by decide)) (by first | assumption | exact lt52 (by assumption) | decide | exact Nat.mod_lt _ (by decide)) _) rfl ?_
  refine XF.call rfl (aS rfl (aS rfl a0)) (by kernel_rfl) (wplus_spec _ _ _ (by first | assumption | exact lt52 (by assumption) | decide | exact Nat.mod_lt _ (by decide)) (by first | assumption | exact lt52 (by assumption) | decide | exact Nat.mod_lt _ (by decide)) (Nat.mod_lt _ (by decide)) _) rfl ?_
  rintro r1 M1 J1 ⟨rfl, rfl, h1, l1, rfl, g1, k1, qq1⟩
  refine XF.q hs rfl (qi_ 2 198 5 2 1) rfl ?_
  refine XF.tl rfl rfl rfl (l_storeS rfl rfl (by kernel_rfl) (allS rfl (allS rfl (all0))) UpC.upd ?_)
  refine XF.fin (kq 4 (kq 5 (kq 8 (kq 9 (kq 57 kn))))) ?_
  refine XC.reg1 ?_
  refine mv_ (mv_ ?_)
  refine XL.q (qi_ 0 198 5 2 0) rfl ?_
  refine XL.q (qf_ 1 1) rfl ?_
  refine XL.q ql_ rfl ?_
  refine XL.q (q_andD 51 2251799813685248 rfl rfl rfl rfl rfl (by show _ < 18446744073709551616; first | assumption | exact Nat.mod_lt _ (by decide) | omega) (by decide)) rfl ?_
  refine XL.q (qi_ 0 28 5 1 0) rfl ?_
  refine XL.lo rfl (l_store rfl rfl rfl (by kernel_rfl) SetC.set UpC.upd ?_)
  refine XL.nil ?_
  refine nb ?_
  refine nx (kq 4 (kq 5 (kq 8 (kq 57 kn)))) ?_
  refine XC.reg1 ?_
  refine XL.q (q_num (1 : Int) rfl rfl (add64 (by decide) (by decide) (by decide))) rfl ?_
  refine mv_ ?_
  refine XL.nil ?_
  refine un (kq 4 (kq 5 (kq 8 (kq 57 kn)))) ?_
  refine XR.step ?_
  refine XC.reg ?_
  refine XL.q (q_cmp true rfl rfl (ltT (by decide))) rfl ?_
  refine XL.fin (kq 4 (kq 5 (kq 8 (kq 57 (kq 58 kn))))) ?_
  refine XC.seq ?_
  refine XC.condT rfl ?_
  refine XC.skip ?_
  refine nx (kq 4 (kq 5 (kq 8 (kq 57 kn)))) ?_
  refine XC.seq ?_
  refine XC.block ?_
  refine XC.reg ?_
  refine mv_ (as_ ?_)
  refine XL.fin (kq 4 (kq 5 (kq 8 (kq 9 (kq 57 kn))))) ?_
  refine XC.drawF [0, 1, 2, 3, 4, 5, 6, 7, 8, 9, 10, 11] [(0, 0), (1, 0), (2, 0), (3, 0), (4, 0), (5, 1), (6, 0), (7, 0), (8, 1), (9, 2), (10, 2), (11, 0), (12, 2)] (by kernel_rfl) (by kernel_rfl) fun hs => ?_
  refine XF.q hs rfl qm_ rfl ?_
  refine XF.q hs rfl (q_num (2 : Int) rfl rfl (add64 (by decide) (by decide) (by decide))) rfl ?_
  refine XF.q hs rfl qm_ rfl ?_
  refine XF.q hs rfl (q_num (2 : Int) rfl rfl (add64 (by decide) (by decide) (by decide))) rfl ?_
  refine XF.q hs rfl (qi_ 4 198 5 2 2) rfl ?_
  refine XF.r hs rfl (q_loadT (n := 2) rfl (by kernel_rfl) (by first | exact At.mem | exact mA (by assumption)) TakeC.take) rfl ?_
  refine XF.q hs rfl qm_ rfl ?_
  refine XF.q hs rfl (qi_ 2 198 5 2 1) rfl ?_
  refine XF.r hs rfl (q_loadT (n := 2) rfl (by kernel_rfl) (by first | exact At.mem | exact mA (by assumption)) TakeC.take) rfl ?_
  refine XF.callV rfl (aS rfl a0) (by kernel_rfl) (whigh_spec _ _ (by first | assumption | exact lt52 (by assumption) | decide | exact Nat.mod_lt _ (by decide)) (by first | assumption | exact lt52 (by assumption) | decide | exact Nat.mod_lt _ (by decide)) _) rfl ?_
  refine XF.call rfl (aS rfl (aS rfl a0)) (by kernel_rfl) (wplus_spec _ _ _ (by first | assumption | exact lt52 (by assumption) | decide | exact Nat.mod_lt _ (by decide)) (by first | assumption | exact lt52 (by assumption) | decide | exact Nat.mod_lt _ (by decide)) (Nat.mod_lt _ (by decide)) _) rfl ?_
  rintro r2 M2 J2 ⟨rfl, rfl, h2, l2, rfl, g2, k2, qq2⟩
  refine XF.q hs rfl (qi_ 4 198 5 2 2) rfl ?_
  refine XF.tl rfl rfl rfl (l_storeS rfl rfl (by kernel_rfl) (allS rfl (allS rfl (all0))) UpC.upd ?_)
  refine XF.fin (kq 4 (kq 5 (kq 8 (kq 9 (kq 57 kn))))) ?_
  refine XC.reg1 ?_
  refine mv_ (mv_ ?_)
  refine XL.q (qi_ 2 198 5 2 1) rfl ?_
  refine XL.q (qf_ 3 1) rfl ?_
  refine XL.q ql_ rfl ?_
  refine XL.q (q_andD 51 2251799813685248 rfl rfl rfl rfl rfl (by show _ < 18446744073709551616; first | assumption | exact Nat.mod_lt _ (by decide) | omega) (by decide)) rfl ?_
  refine XL.q (qi_ 1 28 5 1 1) rfl ?_
  refine XL.lo rfl (l_store rfl rfl rfl (by kernel_rfl) SetC.set UpC.upd ?_)
  refine XL.nil ?_
  refine nb ?_
  refine nx (kq 4 (kq 5 (kq 8 (kq 57 kn)))) ?_
  refine XC.reg1 ?_
  refine XL.q (q_num (2 : Int) rfl rfl (add64 (by decide) (by decide) (by decide))) rfl ?_
  refine mv_ ?_
  refine XL.nil ?_
  refine un (kq 4 (kq 5 (kq 8 (kq 57 kn)))) ?_
  refine XR.step ?_
  refine XC.reg ?_
  refine XL.q (q_cmp true rfl rfl (ltT (by decide))) rfl ?_
  refine XL.fin (kq 4 (kq 5 (kq 8 (kq 57 (kq 58 kn))))) ?_
  refine XC.seq ?_
  refine XC.condT rfl ?_
  refine XC.skip ?_
  refine nx (kq 4 (kq 5 (kq 8 (kq 57 kn)))) ?_
  refine XC.seq ?_
  refine XC.block ?_
  refine XC.reg ?_
  refine mv_ (as_ ?_)
  refine XL.fin (kq 4 (kq 5 (kq 8 (kq 9 (kq 57 kn))))) ?_
  refine XC.drawF [0, 1, 2, 3, 4, 5, 6, 7, 8, 9, 10, 11] [(0, 0), (1, 0), (2, 0), (3, 0), (4, 0), (5, 1), (6, 0), (7, 0), (8, 1), (9, 2), (10, 2), (11, 0), (12, 2)] (by kernel_rfl) (by kernel_rfl) fun hs => ?_
  refine XF.q hs rfl qm_ rfl ?_
  refine XF.q hs rfl (q_num (3 : Int) rfl rfl (add64 (by decide) (by decide) (by decide))) rfl ?_
  refine XF.q hs rfl qm_ rfl ?_
  refine XF.q hs rfl (q_num (3 : Int) rfl rfl (add64 (by decide) (by decide) (by decide))) rfl ?_
  refine XF.q hs rfl (qi_ 6 198 5 2 3) rfl ?_
  refine XF.r hs rfl (q_loadT (n := 2) rfl (by kernel_rfl) (by first | exact At.mem | exact mA (by assumption)) TakeC.take) rfl ?_
  refine XF.q hs rfl qm_ rfl ?_
  refine XF.q hs rfl (qi_ 4 198 5 2 2) rfl ?_
  refine XF.r hs rfl (q_loadT (n := 2) rfl (by kernel_rfl) (by first | exact At.mem | exact mA (by assumption)) TakeC.take) rfl ?_
  refine XF.callV rfl (aS rfl a0) (by kernel_rfl) (whigh_spec _ _ (by first | assumption | exact lt52 (by assumption) | decide | exact Nat.mod_lt _ (by decide)) (by first | assumption | exact lt52 (by assumption) | decide | exact Nat.mod_lt _ (by decide)) _) rfl ?_
  refine XF.call rfl (aS rfl (aS rfl a0)) (by kernel_rfl) (wplus_spec _ _ _ (by first | assumption | exact lt52 (by assumption) | decide | exact Nat.mod_lt _ (by decide)) (by first | assumption | exact lt52 (by assumption) | decide | exact Nat.mod_lt _ (by decide)) (Nat.mod_lt _ (by decide)) _) rfl ?_
  rintro r3 M3 J3 ⟨rfl, rfl, h3, l3, rfl, g3, k3, qq3⟩
  refine XF.q hs rfl (qi_ 6 198 5 2 3) rfl ?_
  refine XF.tl rfl rfl rfl (l_storeS rfl rfl (by kernel_rfl) (allS rfl (allS rfl (all0))) UpC.upd ?_)
  refine XF.fin (kq 4 (kq 5 (kq 8 (kq 9 (kq 57 kn))))) ?_
  refine XC.reg1 ?_
  refine mv_ (mv_ ?_)
  refine XL.q (qi_ 4 198 5 2 2) rfl ?_
  refine XL.q (qf_ 5 1) rfl ?_
  refine XL.q ql_ rfl ?_
  refine XL.q (q_andD 51 2251799813685248 rfl rfl rfl rfl rfl (by show _ < 18446744073709551616; first | assumption | exact Nat.mod_lt _ (by decide) | omega) (by decide)) rfl ?_
  refine XL.q (qi_ 2 28 5 1 2) rfl ?_
  refine XL.lo rfl (l_store rfl rfl rfl (by kernel_rfl) SetC.set UpC.upd ?_)
  refine XL.nil ?_
  refine nb ?_
  refine nx (kq 4 (kq 5 (kq 8 (kq 57 kn)))) ?_
  refine XC.reg1 ?_
  refine XL.q (q_num (3 : Int) rfl rfl (add64 (by decide) (by decide) (by decide))) rfl ?_
  refine mv_ ?_
  refine XL.nil ?_
  refine un (kq 4 (kq 5 (kq 8 (kq 57 kn)))) ?_
  refine XR.step ?_
  refine XC.reg ?_
  refine XL.q (q_cmp true rfl rfl (ltT (by decide))) rfl ?_
  refine XL.fin (kq 4 (kq 5 (kq 8 (kq 57 (kq 58 kn))))) ?_
  refine XC.seq ?_
  refine XC.condT rfl ?_
  refine XC.skip ?_
  refine nx (kq 4 (kq 5 (kq 8 (kq 57 kn)))) ?_
  refine XC.seq ?_
  refine XC.block ?_
  refine XC.reg ?_
  refine mv_ (as_ ?_)
  refine XL.fin (kq 4 (kq 5 (kq 8 (kq 9 (kq 57 kn))))) ?_
  refine XC.drawF [0, 1, 2, 3, 4, 5, 6, 7, 8, 9, 10, 11] [(0, 0), (1, 0), (2, 0), (3, 0), (4, 0), (5, 1), (6, 0), (7, 0), (8, 1), (9, 2), (10, 2), (11, 0), (12, 2)] (by kernel_rfl) (by kernel_rfl) fun hs => ?_
  refine XF.q hs rfl qm_ rfl ?_
  refine XF.q hs rfl (q_num (4 : Int) rfl rfl (add64 (by decide) (by decide) (by decide))) rfl ?_
  refine XF.q hs rfl qm_ rfl ?_
  refine XF.q hs rfl (q_num (4 : Int) rfl rfl (add64 (by decide) (by decide) (by decide))) rfl ?_
  refine XF.q hs rfl (qi_ 8 198 5 2 4) rfl ?_
  refine XF.r hs rfl (q_loadT (n := 2) rfl (by kernel_rfl) (by first | exact At.mem | exact mA (by assumption)) TakeC.take) rfl ?_
  refine XF.q hs rfl qm_ rfl ?_
  refine XF.q hs rfl (qi_ 6 198 5 2 3) rfl ?_
  refine XF.r hs rfl (q_loadT (n := 2) rfl (by kernel_rfl) (by first | exact At.mem | exact mA (by assumption)) TakeC.take) rfl ?_
  refine XF.callV rfl (aS rfl a0) (by kernel_rfl) (whigh_spec _ _ (by first | assumption | exact lt52 (by assumption) | decide | exact Nat.mod_lt _ (by decide)) (by first | assumption | exact lt52 (by assumption) | decide | exact Nat.mod_lt _ (by decide)) _) rfl ?_
  refine XF.call rfl (aS rfl (aS rfl a0)) (by kernel_rfl) (wplus_spec _ _ _ (by first | assumption | exact lt52 (by assumption) | decide | exact Nat.mod_lt _ (by decide)) (by first | assumption | exact lt52 (by assumption) | decide | exact Nat.mod_lt _ (by decide)) (Nat.mod_lt _ (by decide)) _) rfl ?_
  rintro r4 M4 J4 ⟨rfl, rfl, h4, l4, rfl, g4, k4, qq4⟩
  refine XF.q hs rfl (qi_ 8 198 5 2 4) rfl ?_
  refine XF.tl rfl rfl rfl (l_storeS rfl rfl (by kernel_rfl) (allS rfl (allS rfl (all0))) UpC.upd ?_)
  refine XF.fin (kq 4 (kq 5 (kq 8 (kq 9 (kq 57 kn))))) ?_
  refine XC.reg1 ?_
  refine mv_ (mv_ ?_)
  refine XL.q (qi_ 6 198 5 2 3) rfl ?_
  refine XL.q (qf_ 7 1) rfl ?_
  refine XL.q ql_ rfl ?_
  refine XL.q (q_andD 51 2251799813685248 rfl rfl rfl rfl rfl (by show _ < 18446744073709551616; first | assumption | exact Nat.mod_lt _ (by decide) | omega) (by decide)) rfl ?_
  refine XL.q (qi_ 3 28 5 1 3) rfl ?_
  refine XL.lo rfl (l_store rfl rfl rfl (by kernel_rfl) SetC.set UpC.upd ?_)
  refine XL.nil ?_
  refine nb ?_
  refine nx (kq 4 (kq 5 (kq 8 (kq 57 kn)))) ?_
  refine XC.reg1 ?_
  refine XL.q (q_num (4 : Int) rfl rfl (add64 (by decide) (by decide) (by decide))) rfl ?_
  refine mv_ ?_
  refine XL.nil ?_
  refine un (kq 4 (kq 5 (kq 8 (kq 57 kn)))) ?_
  refine XR.step ?_
  refine XC.reg ?_
  refine XL.q (q_cmp false rfl rfl (ltF (by decide))) rfl ?_
  refine XL.fin (kq 4 (kq 5 (kq 8 (kq 57 (kq 58 kn))))) ?_
  refine XC.seq ?_
  refine XC.condF rfl ?_
  refine XC.exit ?_
  refine te ?_
  refine ue ?_
  refine be rfl ?_
  refine nx (kq 4 (kq 5 (kq 8 kn))) ?_
  refine XC.reg ?_
  refine XL.q (qi_ 8 198 5 2 4) rfl ?_
  refine XL.q (qf_ 9 1) rfl ?_
  refine XL.q ql_ rfl ?_
  refine XL.q (q_andD 51 2251799813685248 rfl rfl rfl rfl rfl (by show _ < 18446744073709551616; first | assumption | exact Nat.mod_lt _ (by decide) | omega) (by decide)) rfl ?_
  refine XL.q (qi_ 4 28 5 1 4) rfl ?_
  refine XL.lo rfl (l_store rfl rfl rfl (by kernel_rfl) SetC.set UpC.upd ?_)
  refine XL.fin (kq 4 (kq 5 (kq 8 kn))) ?_
  refine XC.drawF [0, 1, 2, 3, 4, 5, 6, 7] [(0, 0), (1, 1), (2, 0), (3, 1), (4, 2), (5, 0), (6, 0), (7, 0), (8, 2)] (by kernel_rfl) (by kernel_rfl) fun hs => ?_
  refine XF.q hs rfl (qi_ 0 28 5 1 0) rfl ?_
  refine XF.r hs rfl ql_ rfl ?_
  refine XF.q hs rfl (qi_ 8 198 5 2 4) rfl ?_
  refine XF.r hs rfl (q_loadT (n := 2) rfl (by kernel_rfl) (by first | exact At.mem | exact mA (by assumption)) TakeC.take) rfl ?_
  refine XF.callV rfl (aS rfl a0) (by kernel_rfl) (whigh_spec _ _ (by first | assumption | exact lt52 (by assumption) | decide | exact Nat.mod_lt _ (by decide)) (by first | assumption | exact lt52 (by assumption) | decide | exact Nat.mod_lt _ (by decide)) _) rfl ?_
  refine XF.q hs rfl (q_mulM 18446744073709551616 (a := 19) rfl rfl rfl rfl rfl rfl) rfl ?_
  refine XF.q hs rfl (q_addM 18446744073709551616 rfl rfl rfl rfl rfl rfl) rfl ?_
  refine XF.q hs rfl (qi_ 0 28 5 1 0) rfl ?_
  refine XF.tl rfl rfl rfl (l_store rfl rfl rfl (by kernel_rfl) SetC.set UpC.upd ?_)
  refine XF.fin (kq 4 (kq 8 kn)) ?_
  refine XC.reg ?_
  refine XL.q (qi_ 1 28 5 1 1) rfl ?_
  refine XL.q ql_ rfl ?_
  refine XL.q (qi_ 0 28 5 1 0) rfl ?_
  refine XL.q ql_ rfl ?_
  refine XL.q (q_shrD 51 2251799813685248 rfl rfl rfl rfl (by decide)) rfl ?_
  refine XL.q (q_addM 18446744073709551616 rfl rfl rfl rfl rfl rfl) rfl ?_
  refine XL.q (qi_ 1 28 5 1 1) rfl ?_
  refine XL.lo rfl (l_store rfl rfl rfl (by kernel_rfl) SetC.set UpC.upd ?_)
  refine XL.fin (kq 4 (kq 8 kn)) ?_
  refine XC.reg ?_
  refine XL.q (qi_ 0 28 5 1 0) rfl ?_
  refine XL.q ql_ rfl ?_
  refine XL.q (q_andD 51 2251799813685248 rfl rfl rfl rfl rfl (by show _ < 18446744073709551616; first | assumption | exact Nat.mod_lt _ (by decide) | omega) (by decide)) rfl ?_
  refine XL.q (qi_ 0 28 5 1 0) rfl ?_
  refine XL.lo rfl (l_store rfl rfl rfl (by kernel_rfl) SetC.set UpC.upd ?_)
  refine XL.fin (kq 4 (kq 8 kn)) ?_
  refine XC.reg ?_
  refine XL.q (qw_ 5) rfl ?_
  refine XL.lo rfl (l_storeW rfl rfl Cel.cel (by kernel_rfl) (lnS (lnS (lnS (lnS (lnS (ln0)))))) (allS rfl (allS rfl (allS rfl (allS rfl (allS rfl (all0)))))) UpC.upd ?_)
  refine XL.fin (kq 4 kn) ?_
  refine XC.ret ?_
  rw [back] at qq1
  rw [back] at qq1
  rw [back] at qq2
  rw [back] at qq3
  rw [back] at qq4
  obtain ⟨t1, t2⟩ := mul_tail y0 y1 y2 y3 y4 qq1 qq2 qq3 qq4 (lowM R0) (lowD _ _) (lowD _ _) (lowD _ _) (lowD _ _) rfl rfl
  refine ⟨_, [], [], resC rfl rfl (by kernel_rfl) At.mem (by rfl), List.nil_sublist _, by simp, rfl, rfl, _, _, _, _, _, rfl, modD _, t1, modD _, modD _, modD _, ?_⟩
  rw [mod_of_settle t2, ← Nat.mul_mod, hring, Nat.add_mul_mod_self_left]

theorem fe_zero : Fe (el 0 0 0 0 0) 0 := ⟨0, 0, 0, 0, 0, rfl, by decide, by decide, by decide, by decide, by decide, rfl⟩

theorem fsquare_spec (v : Value) (x : Nat) (hx : Fe v x) (A : Mem) : FnX Tryz.prog 154 [v] [] A fun r M J => M = [] ∧ J = [] ∧ Fe r (x * x % p25) := by
 have hx0 := hx
 obtain ⟨a, b, c, d, e, rfl, -⟩ := hx
 refine FnX.enter (N := 6) Tryz.func154 rfl rfl rfl fun w => ?_
 refine XC.keep (kq 0 kn) ?_
 refine XC.reg ?_
 refine XL.lo rfl (bx_ fun b1 => ?_)
 refine XL.lo rfl (l_alloc (cs := [.int .u64 0, .int .u64 0, .int .u64 0, .int .u64 0, .int .u64 0]) (by kernel_rfl) rfl fun b2 => ?_)
 refine XL.fin (kq 1 (kq 2 kn)) ?_
 refine XC.reg ?_
 refine XL.q (qw_ 5) rfl ?_
 refine XL.q (qw_ 5) rfl ?_
 refine XL.call (aS rfl (aS rfl a0)) (by kernel_rfl) (fmul_spec _ _ _ _ (by exact hx0) (by exact hx0) _) rfl ?_
 rintro r1 M1 J1 ⟨rfl, rfl, a1, b1, c1, d1, e1, rfl, hr⟩
 refine XL.lo rfl (l_storeW rfl rfl Cel.cel (by kernel_rfl) (lnS (lnS (lnS (lnS (lnS (ln0)))))) (allS rfl (allS rfl (allS rfl (allS rfl (allS rfl (all0)))))) UpC.upd ?_)
 refine XL.fin (kq 2 kn) ?_
 refine XC.ret ?_
 exact ⟨_, [], [], resC rfl rfl (by kernel_rfl) At.mem (by rfl), List.nil_sublist _, by simp, rfl, rfl, a1, b1, c1, d1, e1, rfl, hr⟩

theorem fneg_spec (v : Value) (x : Nat) (hx : Fe v x) (A : Mem) : FnX Tryz.prog 163 [v] [] A fun r M J => M = [] ∧ J = [] ∧ Fe r ((p25 - x) % p25) := by
 have hx0 := hx
 obtain ⟨a, b, c, d, e, rfl, -⟩ := hx
 refine FnX.enter (N := 6) Tryz.func163 rfl rfl rfl fun w => ?_
 refine XC.keep (kq 0 kn) ?_
 refine XC.reg ?_
 refine XL.lo rfl (bx_ fun b1 => ?_)
 refine XL.lo rfl (l_alloc (cs := [.int .u64 0, .int .u64 0, .int .u64 0, .int .u64 0, .int .u64 0]) (by kernel_rfl) rfl fun b2 => ?_)
 refine XL.fin (kq 1 (kq 2 kn)) ?_
 refine XC.reg ?_
 refine XL.q (q_build (place := fun i => some (i * 1, 1)) (z := [.int .u64 0, .int .u64 0, .int .u64 0, .int .u64 0, .int .u64 0]) (fun _ => by kernel_rfl) e0 bd0) rfl ?_
 refine XL.q (qw_ 5) rfl ?_
 refine XL.call (aS rfl (aS rfl a0)) (by kernel_rfl) (fsub_spec _ _ _ _ (by exact fe_zero) (by exact hx0) _) rfl ?_
 rintro r1 M1 J1 ⟨rfl, rfl, hr⟩
 rw [Nat.zero_add] at hr
 obtain ⟨a1, b1, c1, d1, e1, rfl, hr⟩ := hr
 refine XL.lo rfl (l_storeW rfl rfl Cel.cel (by kernel_rfl) (lnS (lnS (lnS (lnS (lnS (ln0)))))) (allS rfl (allS rfl (allS rfl (allS rfl (allS rfl (all0)))))) UpC.upd ?_)
 refine XL.fin (kq 2 kn) ?_
 refine XC.ret ?_
 exact ⟨_, [], [], resC rfl rfl (by kernel_rfl) At.mem (by rfl), List.nil_sublist _, by simp, rfl, rfl, a1, b1, c1, d1, e1, rfl, hr⟩

theorem fnum_spec (n : Nat) (hn : n < 4294967296) (A : Mem) : FnX Tryz.prog 130 [.int .u32 (n : Int)] [] A fun r M J => M = [] ∧ J = [] ∧ Fe r n := by
 refine FnX.enter (N := 6) Tryz.func130 rfl rfl rfl fun w => ?_
 refine XC.keep (kq 0 kn) ?_
 refine XC.reg ?_
 refine XL.lo rfl (l_alloc (cs := [.int .u64 0, .int .u64 0, .int .u64 0, .int .u64 0, .int .u64 0]) (by kernel_rfl) rfl fun b2 => ?_)
 refine XL.fin (kq 0 (kq 2 kn)) ?_
 refine XC.reg ?_
 refine mv_ ?_
 refine XL.q (q_to64 rfl (by kernel_rfl)) rfl ?_
 refine XL.q (q_build (place := fun i => some (i * 1, 1)) (z := [.int .u64 0, .int .u64 0, .int .u64 0, .int .u64 0, .int .u64 0]) (fun _ => by kernel_rfl) (eS rfl e0) (bdS 0 1 rfl (by rfl) bd0)) rfl ?_
 refine XL.lo rfl (l_storeW rfl rfl Cel.cel (by kernel_rfl) (lnS (lnS (lnS (lnS (lnS (ln0)))))) (allS rfl (allS rfl (allS rfl (allS rfl (allS rfl (all0)))))) UpC.upd ?_)
 refine XL.fin (kq 2 kn) ?_
 refine XC.ret ?_
 refine ⟨_, [], [], resC rfl rfl (by kernel_rfl) At.mem (by rfl), List.nil_sublist _, by simp, rfl, rfl, n % 18446744073709551616, 0, 0, 0, 0, rfl, by omega, by decide, by decide, by decide, by decide, ?_⟩
 unfold fv p25; omega

end Go.Proofs.YtphcaiplgpmnnaaGreatDoor
/-
  Bytes as a number, and its bits in prts. No program in sight.
-/
namespace Go.Px
/-- Bytes as a number, the lowest first. -/
def bv : List Nat → Nat
  | [] => 0
  | b :: r => b + 256 * bv r
theorem bv_lt {p : List Nat} (h : ∀ x ∈ p, x < 256) : bv p < 256 ^ p.length := by
  induction p with
  | nil => decide
  | cons b r ih =>
    have h1 := h b (by simp)
    have h2 := ih fun x hx => h x (by simp [hx])
    simp only [bv, List.length_cons, Nat.pow_succ]; omega
theorem bv_byte {p : List Nat} (h : ∀ x ∈ p, x < 256) (i : Nat) : bv p / 256 ^ i % 256 = p.getD i 0 := by
  induction p generalizing i with
  | nil => simp [bv]
  | cons b r ih =>
    have h1 := h b (by simp)
    cases i with
    | zero => simp only [bv, Nat.pow_zero, Nat.div_one, List.getD_cons_zero]; omega
    | succ i =>
      rw [List.getD_cons_succ, ← ih (fun x hx => h x (by simp [hx])) i, Nat.pow_succ, Nat.mul_comm, ← Nat.div_div_eq_div_mul]
      congr 2
      simp only [bv]; omega
theorem bv_bit {p : List Nat} (h : ∀ x ∈ p, x < 256) (i : Nat) : p.getD (i / 8) 0 / 2 ^ (i % 8) % 2 = bv p / 2 ^ i % 2 := by
  rw [← bv_byte h, show (256 : Nat) = 2 ^ 8 from rfl, ← Nat.pow_mul]
  have h1 : i % 8 < 8 := Nat.mod_lt _ (by decide)
  have e : 2 ^ 8 = 2 ^ (i % 8) * (2 * 2 ^ (7 - i % 8)) := by rw [← Nat.pow_succ', ← Nat.pow_add]; congr 1; omega
  rw [e, Nat.mod_mul_right_div_self, Nat.mod_mul_right_mod, Nat.div_div_eq_div_mul, ← Nat.pow_add]
  congr 3; omega
/-- The prt j of width w of the lowest i bits. -/
def prt (w N i j : Nat) : Nat := N % 2 ^ i / 2 ^ (w * j) % 2 ^ w
theorem prt_here {w N i : Nat} (hw : 0 < w) : prt w N (i + 1) (i / w) = (prt w N i (i / w) ||| (N / 2 ^ i % 2) <<< (i % w)) := by
  have hr : i % w < w := Nat.mod_lt _ hw
  have hi : w * (i / w) + i % w = i := Nat.div_add_mod i w
  have hX : N % 2 ^ i / 2 ^ (w * (i / w)) < 2 ^ (i % w) := by
    rw [Nat.div_lt_iff_lt_mul (Nat.two_pow_pos _), ← Nat.pow_add, Nat.add_comm, hi]
    exact Nat.mod_lt _ (Nat.two_pow_pos _)
  have hle : 2 ^ (i % w) * 2 ≤ 2 ^ w := by rw [← Nat.pow_succ]; exact Nat.pow_le_pow_right (by decide) hr
  have hb : N / 2 ^ i % 2 < 2 := Nat.mod_lt _ (by decide)
  unfold prt
  rw [Nat.mod_eq_of_lt (Nat.lt_of_lt_of_le hX (by omega)), Nat.or_comm, ← Nat.shiftLeft_add_eq_or_of_lt hX, Nat.mod_pow_succ]
  have e : (N % 2 ^ i + 2 ^ i * (N / 2 ^ i % 2)) / 2 ^ (w * (i / w)) = N % 2 ^ i / 2 ^ (w * (i / w)) + 2 ^ (i % w) * (N / 2 ^ i % 2) := by
    conv => lhs; rw [show 2 ^ i * (N / 2 ^ i % 2) = 2 ^ (w * (i / w)) * (2 ^ (i % w) * (N / 2 ^ i % 2)) by rw [← Nat.mul_assoc, ← Nat.pow_add, hi]]
    rw [Nat.add_mul_div_left _ _ (Nat.two_pow_pos _)]
  rw [e, Nat.shiftLeft_eq, Nat.mod_eq_of_lt, Nat.add_comm, Nat.mul_comm]
  generalize N / 2 ^ i % 2 = b at *
  have : 2 ^ (i % w) * b ≤ 2 ^ (i % w) * 1 := Nat.mul_le_mul_left _ (by omega)
  omega
theorem prt_else {w N i j : Nat} (hw : 0 < w) (h : j ≠ i / w) : prt w N (i + 1) j = prt w N i j := by
  have hi : w * (i / w) + i % w = i := Nat.div_add_mod i w
  have hr : i % w < w := Nat.mod_lt _ hw
  unfold prt
  rw [Nat.mod_pow_succ]
  rcases Nat.lt_or_gt_of_ne h with hl | hg
  · have hge : w * (j + 1) ≤ i := by
      have := Nat.mul_le_mul_left w (show j + 1 ≤ i / w from hl)
      omega
    have e : 2 ^ i * (N / 2 ^ i % 2) = 2 ^ (w * j) * (2 ^ w * (2 ^ (i - w * (j + 1)) * (N / 2 ^ i % 2))) := by
      rw [← Nat.mul_assoc, ← Nat.mul_assoc, ← Nat.pow_add, ← Nat.pow_add]
      congr 2
      rw [Nat.mul_add] at hge ⊢; omega
    rw [e, Nat.add_mul_div_left _ _ (Nat.two_pow_pos _), Nat.add_mul_mod_self_left]
  · have hge : i + 1 ≤ w * j := by
      have := Nat.mul_le_mul_left w (show i / w + 1 ≤ j from hg)
      rw [Nat.mul_add] at this; omega
    have h1 : N % 2 ^ i < 2 ^ (w * j) := Nat.lt_of_lt_of_le (Nat.mod_lt _ (Nat.two_pow_pos _)) (Nat.pow_le_pow_right (by decide) (by omega))
    have h2 : N % 2 ^ i + 2 ^ i * (N / 2 ^ i % 2) < 2 ^ (w * j) := by
      rw [← Nat.mod_pow_succ]
      exact Nat.lt_of_lt_of_le (Nat.mod_lt _ (Nat.two_pow_pos _)) (Nat.pow_le_pow_right (by decide) hge)
    rw [Nat.div_eq_of_lt h1, Nat.div_eq_of_lt h2]
/-- All prts. -/
def prts (w n N i : Nat) : List Nat := (List.range n).map (prt w N i)
theorem prts_len (w n N i : Nat) : (prts w n N i).length = n := by simp [prts]
theorem prts_get {w n N i j : Nat} (h : j < n) : (prts w n N i).getD j 0 = prt w N i j := by simp [prts, List.getD, h]
theorem prts_zero (w n N : Nat) : prts w n N 0 = List.replicate n 0 := by
  apply List.ext_getElem?
  intro j
  simp only [prts, List.getElem?_map, List.getElem?_replicate]
  by_cases h : j < n
  · simp [h, prt, Nat.mod_one]
  · simp [h]
theorem prts_succ {w n N i : Nat} (hw : 0 < w) (hi : i / w < n) : prts w n N (i + 1) = (prts w n N i).set (i / w) (prt w N i (i / w) ||| (N / 2 ^ i % 2) <<< (i % w)) := by
  apply List.ext_getElem?
  intro j
  rw [List.getElem?_set]
  simp only [prts, List.getElem?_map, List.length_map, List.length_range]
  by_cases h : j < n
  · by_cases e : i / w = j
    · subst e; simp [h, prt_here hw]
    · simp [h, e, prt_else hw (fun h => e h.symm)]
  · have : i / w ≠ j := by omega
    simp [h, this]
theorem bv_append (p q : List Nat) : bv (p ++ q) = bv p + 256 ^ p.length * bv q := by
  induction p with
  | nil => simp [bv]
  | cons b r ih => simp only [List.cons_append, bv, ih, List.length_cons, Nat.pow_succ]; grind
theorem bv_digits (X : Nat) : ∀ n, bv ((List.range n).map fun j => X / 2 ^ (8 * j) % 2 ^ 8) = X % 2 ^ (8 * n)
  | 0 => by simp [bv, Nat.mod_one]
  | n + 1 => by
    rw [List.range_succ, List.map_append, bv_append, bv_digits X n, List.length_map, List.length_range]
    simp only [List.map_cons, List.map_nil, bv, Nat.mul_zero, Nat.add_zero]
    rw [show (256 : Nat) ^ n = 2 ^ (8 * n) by rw [Nat.pow_mul], show 8 * (n + 1) = 8 * n + 8 by omega, Nat.pow_add, Nat.mod_mul]
theorem bv_prts (x : Nat) : bv (prts 8 32 x 255) = x % 2 ^ 255 := by
  unfold prts prt
  rw [bv_digits, Nat.mod_eq_of_lt]
  exact Nat.lt_of_lt_of_le (Nat.mod_lt _ (Nat.two_pow_pos _)) (Nat.pow_le_pow_right (by decide) (by decide))
theorem prts_lt (x i : Nat) : ∀ y ∈ prts 8 32 x i, y < 256 := by
  intro y hy
  obtain ⟨j, _, rfl⟩ := List.mem_map.1 hy
  exact Nat.mod_lt _ (Nat.two_pow_pos _)
theorem prts_inj {x y : Nat} (hx : x < p25) (hy : y < p25) (h : prts 8 32 x 255 = prts 8 32 y 255) : x = y := by
  have := congrArg bv h
  rw [bv_prts, bv_prts, Nat.mod_eq_of_lt (Nat.lt_trans hx (by decide)), Nat.mod_eq_of_lt (Nat.lt_trans hy (by decide))] at this
  exact this
end Go.Px

/- The walks of package field: Read, Bytes, Same, Zero, Odd. -/
namespace Go.Proofs.YtphcaiplgpmnnaaGreatDoor
open Go.Px
/-- The number of 32 bytes without the highest bit; 0 of others. -/
def rdN (p : List Nat) : Nat := if p.length = 32 then bv p % 57896044618658097711785492504343953926634992332820282019728792003956564819968 % p25 else 0
theorem fv_prts (N : Nat) : fv (prt 51 N 255 0) (prt 51 N 255 1) (prt 51 N 255 2) (prt 51 N 255 3) (prt 51 N 255 4) = N % 57896044618658097711785492504343953926634992332820282019728792003956564819968 := by
  unfold fv prt
  simp only [Nat.reducePow, Nat.reduceMul]
  omega
theorem prt_lt (w N i j : Nat) : prt w N i j < 2 ^ w := Nat.mod_lt _ (Nat.two_pow_pos _)
theorem prt52 (N i j : Nat) : prt 51 N i j < 4503599627370496 := Nat.lt_trans (prt_lt 51 N i j) (by decide)
theorem shl_small {b s w : Nat} (hb : b < 2) (hs : s < w) : b <<< s < 2 ^ w := by
  rw [Nat.shiftLeft_eq]
  have h1 : 2 ^ s * 2 ≤ 2 ^ w := by rw [← Nat.pow_succ]; exact Nat.pow_le_pow_right (by decide) hs
  have h2 : b * 2 ^ s ≤ 1 * 2 ^ s := Nat.mul_le_mul_right _ (by omega)
  have h3 := Nat.two_pow_pos s
  omega

theorem fread_spec (pv : Value) (p : List Nat) (A : Mem) (hp : Rd A 1 pv p.length (nums .u8 p)) (hp256 : ∀ x ∈ p, x < 256) (hpl : p.length < 9223372036854775808) : FnX Tryz.prog 129 [pv] [] A fun r M J => M = [] ∧ J = [] ∧ Fe r (rdN p) := by
 refine FnX.enter (N := 33) Tryz.func129 rfl rfl rfl fun w => ?_
 refine XC.keep (kq 0 kn) ?_
 refine XC.reg ?_
 refine XL.lo rfl (l_alloc (cs := [.int .u64 0, .int .u64 0, .int .u64 0, .int .u64 0, .int .u64 0]) (by kernel_rfl) rfl fun b2 => ?_)
 refine XL.fin (kq 0 (kq 2 kn)) ?_
 refine XC.reg ?_
 refine XL.lo rfl (l_alloc (cs := [.int .u64 0, .int .u64 0, .int .u64 0, .int .u64 0, .int .u64 0]) (by kernel_rfl) rfl fun b3 => ?_)
 refine XL.fin (kq 0 (kq 2 (kq 3 kn))) ?_
 refine XC.seq ?_
 refine XC.reg ?_
 refine mv_ ?_
 refine XL.q (q_lenV hp rfl (by kernel_rfl)) rfl ?_
 refine XL.q (q_bin rfl rfl rfl) rfl ?_
 refine XL.fin (kq 0 (kq 2 (kq 3 (kq 7 kn)))) ?_
 refine XC.cond rfl (fun hc => ?_) (fun hc => ?_)
 ·
  have h32 : p.length ≠ 32 := by simp at hc; omega
  refine XC.reg ?_
  refine XL.q (qw_ 5) rfl ?_
  refine XL.lo rfl (l_storeW rfl rfl Cel.cel (by kernel_rfl) (lnS (lnS (lnS (lnS (lnS (ln0)))))) (allS rfl (allS rfl (allS rfl (allS rfl (allS rfl (all0)))))) UpC.upd ?_)
  refine XL.fin (kq 2 kn) ?_
  refine XC.ret ?_
  refine tr ?_
  refine ⟨_, [], [], resC rfl rfl (by kernel_rfl) At.mem (by rfl), List.nil_sublist _, by simp, rfl, rfl, 0, 0, 0, 0, 0, rfl, by decide, by decide, by decide, by decide, by decide, ?_⟩
  rw [rdN, if_neg h32]; rfl
 ·
  have h32 : p.length = 32 := by simp at hc; omega
  have hN := bv_bit hp256
  refine XC.skip ?_
  refine nx (kq 0 (kq 2 (kq 3 kn))) ?_
  refine XC.seq ?_
  refine XC.reg ?_
  refine mv_ ?_
  refine XL.fin (kq 0 (kq 2 (kq 3 (kq 9 kn)))) ?_
  refine XC.block ?_
  refine XC.fit (M' := [(b3, blk (nums .u64 (prts 51 5 (bv p) 0)) 152), (b2, blk [.int .u64 0, .int .u64 0, .int .u64 0, .int .u64 0, .int .u64 0] 152)]) (Fit.eq (by rw [prts_zero]; rfl)) (fun _ h => h) ?_
  refine XC.loop (α := Nat) (fun i => [(0, pv), (2, .pointer (some ⟨b2, 0, none⟩)), (3, .pointer (some ⟨b3, 0, none⟩)), (9, .int .i64 (i : Int))]) (fun i => [(b3, blk (nums .u64 (prts 51 5 (bv p) i)) 152), (b2, blk [.int .u64 0, .int .u64 0, .int .u64 0, .int .u64 0, .int .u64 0] 152)]) (fun _ => []) (fun i => i ≤ 255) (fun i => 255 - i) 0 (by decide) (kq 0 (kq 2 (kq 3 (kq 9 kn)))) .rfl (fun _ h => h) ?_
  rintro i hi
  refine XC.reg ?_
  refine XL.q (q_bin rfl rfl rfl) rfl ?_
  refine XL.fin (kq 0 (kq 2 (kq 3 (kq 9 (kq 10 kn))))) ?_
  refine XC.seq ?_
  refine XC.cond rfl (fun hc => ?_) (fun hc => ?_)
  ·
   have hlt : i < 255 := by simp at hc; omega
   have hbit := hN i
   rw [← Nat.shiftRight_eq_div_pow] at hbit
   have hb2 : bv p / 2 ^ i % 2 < 2 := Nat.mod_lt _ (by decide)
   have hps := prts_succ (w := 51) (n := 5) (N := bv p) (i := i) (by decide) (by omega)
   have hpg := prts_get (w := 51) (n := 5) (N := bv p) (i := i) (j := i / 51) (by omega)
   have hpl := prt_lt 51 (bv p) i (i / 51)
   have hsm := shl_small (w := 51) hb2 (Nat.mod_lt i (by decide : 0 < 51))
   have hpb : p.getD (i / 8) 0 < 256 := getD_lt hp256 (by decide)
   have hsr := Nat.shiftRight_le (p.getD (i / 8) 0) (i % 8)
   rw [← hpg] at hps hpl
   generalize bv p / 2 ^ i % 2 = bt at *
   have hmo : bt <<< (i % 51) % 2 ^ IntKind.u64.bits = bt <<< (i % 51) := Nat.mod_eq_of_lt (Nat.lt_trans hsm (by decide))
   have hto : IntKind.u64.wrap (bt : Int) = (bt : Int) := by rw [wrap64, Nat.mod_eq_of_lt (by omega)]
   refine XC.skip ?_
   refine nx (kq 0 (kq 2 (kq 3 (kq 9 kn)))) ?_
   refine XC.seq ?_
   refine XC.block ?_
   refine XC.reg ?_
   refine mv_ (as_ ?_)
   refine XL.fin (kq 0 (kq 2 (kq 3 (kq 4 (kq 9 kn))))) ?_
   refine XC.drawF1 [0, 1, 2, 3, 4, 5, 6, 7, 8, 9, 10, 11, 12, 13, 14, 15, 16, 17, 18] [(0, 0), (1, 0), (2, 0), (3, 1), (4, 0), (5, 0), (6, 0), (7, 0), (8, 1), (9, 0), (10, 0), (11, 0), (12, 0), (13, 0), (14, 0), (15, 0), (16, 0), (17, 0), (18, 0), (19, 2)] (by kernel_rfl) (by kernel_rfl) fun hs => ?_
   refine XF.q hs rfl qm_ rfl ?_
   refine XF.q hs rfl (q_quoD 51 rfl rfl rfl (by decide) (wrapI (by omega))) rfl ?_
   refine XF.q hs rfl (q_idxA (e := 28) (n := 5) (sz := 1) (i := i / 51) rfl rfl (by kernel_rfl) (by kernel_rfl) rfl (by omega)) rfl ?_
   refine XF.r hs rfl (q_ldN (i / 51) rfl (by kernel_rfl) At.mem (by omega) (by rw [prts_len]; omega)) rfl ?_
   refine XF.q hs rfl qm_ rfl ?_
   refine XF.q hs rfl qm_ rfl ?_
   refine XF.q hs rfl (q_quoD 8 rfl rfl rfl (by decide) (wrapI (by omega))) rfl ?_
   refine XF.q hs rfl (q_atV hp rfl rfl (by kernel_rfl) (i / 8) rfl (by omega)) rfl ?_
   refine XF.r hs rfl (q_ldVN (hp.mono fun _ h => mA h) rfl (by kernel_rfl) (by omega)) rfl ?_
   refine XF.q hs rfl qm_ rfl ?_
   refine XF.q hs rfl (q_remD 8 rfl rfl rfl (by decide)) rfl ?_
   refine XF.q hs rfl (q_shrN (i % 8) rfl rfl rfl (by show _ ≤ 8; omega)) rfl ?_
   refine XF.q hs rfl (hbit ▸ q_andD 1 2 rfl rfl rfl rfl rfl (by show _ < 256; omega) (by decide)) rfl ?_
   refine XF.q hs rfl (q_convN bt rfl (by kernel_rfl) hto) rfl ?_
   refine XF.q hs rfl qm_ rfl ?_
   refine XF.q hs rfl (q_remD 51 rfl rfl rfl (by decide)) rfl ?_
   refine XF.q hs rfl (hmo ▸ q_shlN rfl (i % 51) rfl rfl rfl (by show _ ≤ 64; omega)) rfl ?_
   refine XF.q hs rfl (q_or rfl rfl rfl (Nat.lt_trans hpl (by decide)) (Nat.lt_trans hsm (by decide))) rfl ?_
   refine XF.q hs rfl (q_idxA (e := 28) (n := 5) (sz := 1) (i := i / 51) rfl rfl (by kernel_rfl) (by kernel_rfl) rfl (by omega)) rfl ?_
   refine XF.tl rfl rfl rfl (l_stN (i / 51) rfl rfl (by kernel_rfl) (by omega) (by rw [prts_len]; omega) UpC.upd ?_)
   refine XF.nil ?_
   refine nb ?_
   refine nx (kq 0 (kq 2 (kq 3 (kq 9 kn)))) ?_
   refine XC.reg1 ?_
   refine XL.q (q_num ((i + 1 : Nat) : Int) rfl rfl (add64 (by omega) (by omega) (by omega))) rfl ?_
   refine mv_ ?_
   refine XL.nil ?_
   exact rn (i + 1) (by omega) (by omega) (kq 0 (kq 2 (kq 3 (kq 9 kn)))) (Fit.eq (by rw [hps])) (fun _ h => h)
  ·
   have hlt : i = 255 := by simp at hc; omega
   subst hlt
   refine XC.exit ?_
   refine te ?_
   refine re ?_
   refine be rfl ?_
   refine nx (kq 2 (kq 3 kn)) ?_
   refine XC.reg ?_
   refine XL.q (q_loadW (n := 5) (cs := nums .u64 (prts 51 5 (bv p) 255)) rfl (by kernel_rfl) At.mem (by rw [nums_len, prts_len])) rfl ?_
   refine XL.lo rfl (l_storeW (vs := nums .u64 (prts 51 5 (bv p) 255)) rfl rfl rfl (by rw [nums_len, prts_len]; kernel_rfl) (by rw [nums_len, prts_len]; rfl) nums_one UpC.upd ?_)
   refine XL.fin (kq 2 kn) ?_
   refine XC.ret ?_
   refine ⟨_, [], [], resC rfl rfl (by kernel_rfl) At.mem (by rw [nums_len, prts_len]), List.nil_sublist _, by simp, rfl, rfl, _, _, _, _, _, rfl, prt52 _ _ _, prt52 _ _ _, prt52 _ _ _, prt52 _ _ _, prt52 _ _ _, ?_⟩
   rw [fv_prts, rdN, if_pos h32]

theorem fbytes_spec (v : Value) (x : Nat) (hx : Fe v x) (A : Mem) : FnX Tryz.prog 132 [v] [] A fun r M J => J = [] ∧ Sl 1 r 32 (nums .u8 (prts 8 32 x 255)) M := by
 obtain ⟨a, b, c, d, e, rfl, ha, hb, hc, hd, he, rfl⟩ := hx
 refine FnX.enter (N := 80) Tryz.func132 rfl rfl rfl fun w => ?_
 refine XC.keep (kq 0 kn) ?_
 refine XC.reg ?_
 refine XL.lo rfl (bx_ fun b1 => ?_)
 refine as_ ?_
 refine XL.fin (kq 1 kn) ?_
 refine XC.reg ?_
 refine XL.q (qw_ 5) rfl ?_
 refine XL.call (aS rfl a0) (by kernel_rfl) (settle_spec _ _ _ _ _ (by omega) (by omega) (by omega) (by omega) (by omega) _) rfl ?_
 rintro r3 M3 J3 ⟨rfl, rfl, a3, b3, c3, d3, e3, rfl, ha3, hb3, hc3, hd3, hv3, he3⟩
 refine XL.call (aS rfl a0) (by kernel_rfl) (settle_spec _ _ _ _ _ (by omega) (by omega) (by omega) (by omega) (by omega) _) rfl ?_
 rintro r4 M4 J4 ⟨rfl, rfl, a4, b4, c4, d4, e4, rfl, ha4, hb4, hc4, hd4, hv4, he4⟩
 have hz4 := settled_top ha3 hb3 hc3 hd3 he3 ha4 hb4 hc4 hd4 hv4
 refine XL.call (aS rfl a0) (by kernel_rfl) (settle_spec _ _ _ _ _ (by omega) (by omega) (by omega) (by omega) (by omega) _) rfl ?_
 rintro r5 M5 J5 ⟨rfl, rfl, a5, b5, c5, d5, e5, rfl, ha5, hb5, hc5, hd5, hv5, he5⟩
 have hz5 := settled_top ha4 hb4 hc4 hd4 he4 ha5 hb5 hc5 hd5 hv5
 have hx5 : fv a5 b5 c5 d5 e5 % p25 = fv a b c d e % p25 := by rw [mod_of_settle hv5, mod_of_settle hv4, mod_of_settle hv3]
 have hV5 := fv_lt ha5 hb5 hc5 hd5 hz5
 clear hv3 hv4 hv5 he3 he4 he5 hz4 ha3 hb3 hc3 hd3 ha4 hb4 hc4 hd4
 refine XL.lo rfl (l_storeW rfl rfl Cel.cel (by kernel_rfl) (lnS (lnS (lnS (lnS (lnS (ln0)))))) (allS rfl (allS rfl (allS rfl (allS rfl (allS rfl (all0)))))) UpC.upd ?_)
 refine XL.fin (kq 1 kn) ?_
 refine XC.reg ?_
 refine XL.q (qi_ 0 28 5 1 0) rfl ?_
 refine XL.q ql_ rfl ?_
 refine XL.q (q_addM 18446744073709551616 (b := 19) rfl rfl rfl rfl rfl rfl) rfl ?_
 refine XL.q (q_shrD 51 2251799813685248 rfl rfl rfl rfl (by decide)) rfl ?_
 refine as_ ?_
 refine XL.fin (kq 1 (kq 3 kn)) ?_
 refine XC.seq ?_
 refine XC.reg ?_
 refine as_ ?_
 refine XL.fin (kq 1 (kq 3 (kq 4 kn))) ?_
 refine XC.block ?_
 refine XC.rounds 5 ?_
 refine XR.step ?_
 refine XC.seq ?_
 refine XC.reg ?_
 refine mv_ ?_
 refine XL.q (q_cmp true rfl rfl (ltT (by decide))) rfl ?_
 refine XL.fin (kq 1 (kq 3 (kq 4 (kq 17 kn)))) ?_
 refine XC.condT rfl ?_
 refine XC.skip ?_
 refine nx (kq 1 (kq 3 (kq 4 kn))) ?_
 refine XC.seq ?_
 refine XC.block ?_
 refine XC.reg1 ?_
 refine mv_ ?_
 refine XL.q (qi_ 1 28 5 1 1) rfl ?_
 refine XL.q ql_ rfl ?_
 refine mv_ ?_
 refine XL.q (q_addM 18446744073709551616 rfl rfl rfl rfl rfl rfl) rfl ?_
 refine XL.q (q_shrD 51 2251799813685248 rfl rfl rfl rfl (by decide)) rfl ?_
 refine as_ ?_
 refine XL.nil ?_
 refine nb ?_
 refine nx (kq 1 (kq 3 (kq 4 kn))) ?_
 refine XC.reg1 ?_
 refine mv_ ?_
 refine XL.q (q_num (2 : Int) rfl rfl (add64 (by decide) (by decide) (by decide))) rfl ?_
 refine as_ ?_
 refine XL.nil ?_
 refine un (kq 1 (kq 3 (kq 4 kn))) ?_
 refine XR.step ?_
 refine XC.seq ?_
 refine XC.reg ?_
 refine mv_ ?_
 refine XL.q (q_cmp true rfl rfl (ltT (by decide))) rfl ?_
 refine XL.fin (kq 1 (kq 3 (kq 4 (kq 17 kn)))) ?_
 refine XC.condT rfl ?_
 refine XC.skip ?_
 refine nx (kq 1 (kq 3 (kq 4 kn))) ?_
 refine XC.seq ?_
 refine XC.block ?_
 refine XC.reg1 ?_
 refine mv_ ?_
 refine XL.q (qi_ 2 28 5 1 2) rfl ?_
 refine XL.q ql_ rfl ?_
 refine mv_ ?_
 refine XL.q (q_addM 18446744073709551616 rfl rfl rfl rfl rfl rfl) rfl ?_
 refine XL.q (q_shrD 51 2251799813685248 rfl rfl rfl rfl (by decide)) rfl ?_
 refine as_ ?_
 refine XL.nil ?_
 refine nb ?_
 refine nx (kq 1 (kq 3 (kq 4 kn))) ?_
 refine XC.reg1 ?_
 refine mv_ ?_
 refine XL.q (q_num (3 : Int) rfl rfl (add64 (by decide) (by decide) (by decide))) rfl ?_
 refine as_ ?_
 refine XL.nil ?_
 refine un (kq 1 (kq 3 (kq 4 kn))) ?_
 refine XR.step ?_
 refine XC.seq ?_
 refine XC.reg ?_
 refine mv_ ?_
 refine XL.q (q_cmp true rfl rfl (ltT (by decide))) rfl ?_
 refine XL.fin (kq 1 (kq 3 (kq 4 (kq 17 kn)))) ?_
 refine XC.condT rfl ?_
 refine XC.skip ?_
 refine nx (kq 1 (kq 3 (kq 4 kn))) ?_
 refine XC.seq ?_
 refine XC.block ?_
 refine XC.reg1 ?_
 refine mv_ ?_
 refine XL.q (qi_ 3 28 5 1 3) rfl ?_
 refine XL.q ql_ rfl ?_
 refine mv_ ?_
 refine XL.q (q_addM 18446744073709551616 rfl rfl rfl rfl rfl rfl) rfl ?_
 refine XL.q (q_shrD 51 2251799813685248 rfl rfl rfl rfl (by decide)) rfl ?_
 refine as_ ?_
 refine XL.nil ?_
 refine nb ?_
 refine nx (kq 1 (kq 3 (kq 4 kn))) ?_
 refine XC.reg1 ?_
 refine mv_ ?_
 refine XL.q (q_num (4 : Int) rfl rfl (add64 (by decide) (by decide) (by decide))) rfl ?_
 refine as_ ?_
 refine XL.nil ?_
 refine un (kq 1 (kq 3 (kq 4 kn))) ?_
 refine XR.step ?_
 refine XC.seq ?_
 refine XC.reg ?_
 refine mv_ ?_
 refine XL.q (q_cmp true rfl rfl (ltT (by decide))) rfl ?_
 refine XL.fin (kq 1 (kq 3 (kq 4 (kq 17 kn)))) ?_
 refine XC.condT rfl ?_
 refine XC.skip ?_
 refine nx (kq 1 (kq 3 (kq 4 kn))) ?_
 refine XC.seq ?_
 refine XC.block ?_
 refine XC.reg1 ?_
 refine mv_ ?_
 refine XL.q (qi_ 4 28 5 1 4) rfl ?_
 refine XL.q ql_ rfl ?_
 refine mv_ ?_
 refine XL.q (q_addM 18446744073709551616 rfl rfl rfl rfl rfl rfl) rfl ?_
 refine XL.q (q_shrD 51 2251799813685248 rfl rfl rfl rfl (by decide)) rfl ?_
 refine as_ ?_
 refine XL.nil ?_
 refine nb ?_
 refine nx (kq 1 (kq 3 (kq 4 kn))) ?_
 refine XC.reg1 ?_
 refine mv_ ?_
 refine XL.q (q_num (5 : Int) rfl rfl (add64 (by decide) (by decide) (by decide))) rfl ?_
 refine as_ ?_
 refine XL.nil ?_
 refine un (kq 1 (kq 3 (kq 4 kn))) ?_
 refine XR.step ?_
 refine XC.seq ?_
 refine XC.reg ?_
 refine mv_ ?_
 refine XL.q (q_cmp false rfl rfl (ltF (by decide))) rfl ?_
 refine XL.fin (kq 1 (kq 3 (kq 4 (kq 17 kn)))) ?_
 refine XC.condF rfl ?_
 refine XC.exit ?_
 refine te ?_
 refine ue ?_
 refine be rfl ?_
 refine nx (kq 1 (kq 3 kn)) ?_
 obtain ⟨q, hqe, hq⟩ := carry_q ha5 hb5 hc5 hd5 hz5
 rw [← hqe]
 clear hqe
 refine XC.reg ?_
 refine XL.q (qi_ 0 28 5 1 0) rfl ?_
 refine XL.q ql_ rfl ?_
 refine mv_ ?_
 refine XL.q (q_mulM 18446744073709551616 (a := 19) rfl rfl rfl rfl rfl rfl) rfl ?_
 refine XL.q (q_addM 18446744073709551616 rfl rfl rfl rfl rfl rfl) rfl ?_
 refine XL.q (qi_ 0 28 5 1 0) rfl ?_
 refine XL.lo rfl (l_store rfl rfl rfl (by kernel_rfl) SetC.set UpC.upd ?_)
 refine XL.fin (kq 1 kn) ?_
 refine XC.seq ?_
 refine XC.reg ?_
 refine mv_ ?_
 refine XL.fin (kq 1 (kq 32 kn)) ?_
 refine XC.block ?_
 refine XC.rounds 5 ?_
 refine XR.step ?_
 refine XC.reg ?_
 refine XL.q (q_cmp true rfl rfl (ltT (by decide))) rfl ?_
 refine XL.fin (kq 1 (kq 32 (kq 33 kn))) ?_
 refine XC.seq ?_
 refine XC.condT rfl ?_
 refine XC.skip ?_
 refine nx (kq 1 (kq 32 kn)) ?_
 refine XC.seq ?_
 refine XC.block ?_
 refine XC.reg ?_
 refine mv_ (as_ ?_)
 refine XL.fin (kq 1 (kq 5 (kq 32 kn))) ?_
 refine XC.drawF [0, 1, 2, 3, 4, 5, 6, 7, 8, 9] [(0, 0), (1, 0), (2, 0), (3, 1), (4, 0), (5, 0), (6, 1), (7, 0), (8, 0), (9, 0), (10, 2)] (by kernel_rfl) (by kernel_rfl) fun hs => ?_
 refine XF.q hs rfl qm_ rfl ?_
 refine XF.q hs rfl (q_num (1 : Int) rfl rfl (add64 (by decide) (by decide) (by decide))) rfl ?_
 refine XF.q hs rfl (qi_ 1 28 5 1 1) rfl ?_
 refine XF.r hs rfl ql_ rfl ?_
 refine XF.q hs rfl qm_ rfl ?_
 refine XF.q hs rfl (qi_ 0 28 5 1 0) rfl ?_
 refine XF.r hs rfl ql_ rfl ?_
 refine XF.q hs rfl (q_shrD 51 2251799813685248 rfl rfl rfl rfl (by decide)) rfl ?_
 refine XF.q hs rfl (q_addM 18446744073709551616 rfl rfl rfl rfl rfl rfl) rfl ?_
 refine XF.q hs rfl (qi_ 1 28 5 1 1) rfl ?_
 refine XF.tl rfl rfl rfl (l_store rfl rfl rfl (by kernel_rfl) SetC.set UpC.upd ?_)
 refine XF.fin (kq 1 (kq 5 (kq 32 kn))) ?_
 refine XC.reg1 ?_
 refine mv_ ?_
 refine XL.q (qi_ 0 28 5 1 0) rfl ?_
 refine XL.q ql_ rfl ?_
 refine XL.q (q_andD 51 2251799813685248 rfl rfl rfl rfl rfl (by show _ < 18446744073709551616; first | assumption | exact Nat.mod_lt _ (by decide) | omega) (by decide)) rfl ?_
 refine XL.q (qi_ 0 28 5 1 0) rfl ?_
 refine XL.lo rfl (l_store rfl rfl rfl (by kernel_rfl) SetC.set UpC.upd ?_)
 refine XL.nil ?_
 refine nb ?_
 refine nx (kq 1 (kq 32 kn)) ?_
 refine XC.reg1 ?_
 refine XL.q (q_num (1 : Int) rfl rfl (add64 (by decide) (by decide) (by decide))) rfl ?_
 refine mv_ ?_
 refine XL.nil ?_
 refine un (kq 1 (kq 32 kn)) ?_
 refine XR.step ?_
 refine XC.reg ?_
 refine XL.q (q_cmp true rfl rfl (ltT (by decide))) rfl ?_
 refine XL.fin (kq 1 (kq 32 (kq 33 kn))) ?_
 refine XC.seq ?_
 refine XC.condT rfl ?_
 refine XC.skip ?_
 refine nx (kq 1 (kq 32 kn)) ?_
 refine XC.seq ?_
 refine XC.block ?_
 refine XC.reg ?_
 refine mv_ (as_ ?_)
 refine XL.fin (kq 1 (kq 5 (kq 32 kn))) ?_
 refine XC.drawF [0, 1, 2, 3, 4, 5, 6, 7, 8, 9] [(0, 0), (1, 0), (2, 0), (3, 1), (4, 0), (5, 0), (6, 1), (7, 0), (8, 0), (9, 0), (10, 2)] (by kernel_rfl) (by kernel_rfl) fun hs => ?_
 refine XF.q hs rfl qm_ rfl ?_
 refine XF.q hs rfl (q_num (2 : Int) rfl rfl (add64 (by decide) (by decide) (by decide))) rfl ?_
 refine XF.q hs rfl (qi_ 2 28 5 1 2) rfl ?_
 refine XF.r hs rfl ql_ rfl ?_
 refine XF.q hs rfl qm_ rfl ?_
 refine XF.q hs rfl (qi_ 1 28 5 1 1) rfl ?_
 refine XF.r hs rfl ql_ rfl ?_
 refine XF.q hs rfl (q_shrD 51 2251799813685248 rfl rfl rfl rfl (by decide)) rfl ?_
 refine XF.q hs rfl (q_addM 18446744073709551616 rfl rfl rfl rfl rfl rfl) rfl ?_
 refine XF.q hs rfl (qi_ 2 28 5 1 2) rfl ?_
 refine XF.tl rfl rfl rfl (l_store rfl rfl rfl (by kernel_rfl) SetC.set UpC.upd ?_)
 refine XF.fin (kq 1 (kq 5 (kq 32 kn))) ?_
 refine XC.reg1 ?_
 refine mv_ ?_
 refine XL.q (qi_ 1 28 5 1 1) rfl ?_
 refine XL.q ql_ rfl ?_
 refine XL.q (q_andD 51 2251799813685248 rfl rfl rfl rfl rfl (by show _ < 18446744073709551616; first | assumption | exact Nat.mod_lt _ (by decide) | omega) (by decide)) rfl ?_
 refine XL.q (qi_ 1 28 5 1 1) rfl ?_
 refine XL.lo rfl (l_store rfl rfl rfl (by kernel_rfl) SetC.set UpC.upd ?_)
 refine XL.nil ?_
 refine nb ?_
 refine nx (kq 1 (kq 32 kn)) ?_
 refine XC.reg1 ?_
 refine XL.q (q_num (2 : Int) rfl rfl (add64 (by decide) (by decide) (by decide))) rfl ?_
 refine mv_ ?_
 refine XL.nil ?_
 refine un (kq 1 (kq 32 kn)) ?_
 refine XR.step ?_
 refine XC.reg ?_
 refine XL.q (q_cmp true rfl rfl (ltT (by decide))) rfl ?_
 refine XL.fin (kq 1 (kq 32 (kq 33 kn))) ?_
 refine XC.seq ?_
 refine XC.condT rfl ?_
 refine XC.skip ?_
 refine nx (kq 1 (kq 32 kn)) ?_
 refine XC.seq ?_
 refine XC.block ?_
 refine XC.reg ?_
 refine mv_ (as_ ?_)
 refine XL.fin (kq 1 (kq 5 (kq 32 kn))) ?_
 refine XC.drawF [0, 1, 2, 3, 4, 5, 6, 7, 8, 9] [(0, 0), (1, 0), (2, 0), (3, 1), (4, 0), (5, 0), (6, 1), (7, 0), (8, 0), (9, 0), (10, 2)] (by kernel_rfl) (by kernel_rfl) fun hs => ?_
 refine XF.q hs rfl qm_ rfl ?_
 refine XF.q hs rfl (q_num (3 : Int) rfl rfl (add64 (by decide) (by decide) (by decide))) rfl ?_
 refine XF.q hs rfl (qi_ 3 28 5 1 3) rfl ?_
 refine XF.r hs rfl ql_ rfl ?_
 refine XF.q hs rfl qm_ rfl ?_
 refine XF.q hs rfl (qi_ 2 28 5 1 2) rfl ?_
 refine XF.r hs rfl ql_ rfl ?_
 refine XF.q hs rfl (q_shrD 51 2251799813685248 rfl rfl rfl rfl (by decide)) rfl ?_
 refine XF.q hs rfl (q_addM 18446744073709551616 rfl rfl rfl rfl rfl rfl) rfl ?_
 refine XF.q hs rfl (qi_ 3 28 5 1 3) rfl ?_
 refine XF.tl rfl rfl rfl (l_store rfl rfl rfl (by kernel_rfl) SetC.set UpC.upd ?_)
 refine XF.fin (kq 1 (kq 5 (kq 32 kn))) ?_
 refine XC.reg1 ?_
 refine mv_ ?_
 refine XL.q (qi_ 2 28 5 1 2) rfl ?_
 refine XL.q ql_ rfl ?_
 refine XL.q (q_andD 51 2251799813685248 rfl rfl rfl rfl rfl (by show _ < 18446744073709551616; first | assumption | exact Nat.mod_lt _ (by decide) | omega) (by decide)) rfl ?_
 refine XL.q (qi_ 2 28 5 1 2) rfl ?_
 refine XL.lo rfl (l_store rfl rfl rfl (by kernel_rfl) SetC.set UpC.upd ?_)
 refine XL.nil ?_
 refine nb ?_
 refine nx (kq 1 (kq 32 kn)) ?_
 refine XC.reg1 ?_
 refine XL.q (q_num (3 : Int) rfl rfl (add64 (by decide) (by decide) (by decide))) rfl ?_
 refine mv_ ?_
 refine XL.nil ?_
 refine un (kq 1 (kq 32 kn)) ?_
 refine XR.step ?_
 refine XC.reg ?_
 refine XL.q (q_cmp true rfl rfl (ltT (by decide))) rfl ?_
 refine XL.fin (kq 1 (kq 32 (kq 33 kn))) ?_
 refine XC.seq ?_
 refine XC.condT rfl ?_
 refine XC.skip ?_
 refine nx (kq 1 (kq 32 kn)) ?_
 refine XC.seq ?_
 refine XC.block ?_
 refine XC.reg ?_
 refine mv_ (as_ ?_)
 refine XL.fin (kq 1 (kq 5 (kq 32 kn))) ?_
 refine XC.drawF [0, 1, 2, 3, 4, 5, 6, 7, 8, 9] [(0, 0), (1, 0), (2, 0), (3, 1), (4, 0), (5, 0), (6, 1), (7, 0), (8, 0), (9, 0), (10, 2)] (by kernel_rfl) (by kernel_rfl) fun hs => ?_
 refine XF.q hs rfl qm_ rfl ?_
 refine XF.q hs rfl (q_num (4 : Int) rfl rfl (add64 (by decide) (by decide) (by decide))) rfl ?_
 refine XF.q hs rfl (qi_ 4 28 5 1 4) rfl ?_
 refine XF.r hs rfl ql_ rfl ?_
 refine XF.q hs rfl qm_ rfl ?_
 refine XF.q hs rfl (qi_ 3 28 5 1 3) rfl ?_
 refine XF.r hs rfl ql_ rfl ?_
 refine XF.q hs rfl (q_shrD 51 2251799813685248 rfl rfl rfl rfl (by decide)) rfl ?_
 refine XF.q hs rfl (q_addM 18446744073709551616 rfl rfl rfl rfl rfl rfl) rfl ?_
 refine XF.q hs rfl (qi_ 4 28 5 1 4) rfl ?_
 refine XF.tl rfl rfl rfl (l_store rfl rfl rfl (by kernel_rfl) SetC.set UpC.upd ?_)
 refine XF.fin (kq 1 (kq 5 (kq 32 kn))) ?_
 refine XC.reg1 ?_
 refine mv_ ?_
 refine XL.q (qi_ 3 28 5 1 3) rfl ?_
 refine XL.q ql_ rfl ?_
 refine XL.q (q_andD 51 2251799813685248 rfl rfl rfl rfl rfl (by show _ < 18446744073709551616; first | assumption | exact Nat.mod_lt _ (by decide) | omega) (by decide)) rfl ?_
 refine XL.q (qi_ 3 28 5 1 3) rfl ?_
 refine XL.lo rfl (l_store rfl rfl rfl (by kernel_rfl) SetC.set UpC.upd ?_)
 refine XL.nil ?_
 refine nb ?_
 refine nx (kq 1 (kq 32 kn)) ?_
 refine XC.reg1 ?_
 refine XL.q (q_num (4 : Int) rfl rfl (add64 (by decide) (by decide) (by decide))) rfl ?_
 refine mv_ ?_
 refine XL.nil ?_
 refine un (kq 1 (kq 32 kn)) ?_
 refine XR.step ?_
 refine XC.reg ?_
 refine XL.q (q_cmp false rfl rfl (ltF (by decide))) rfl ?_
 refine XL.fin (kq 1 (kq 32 (kq 33 kn))) ?_
 refine XC.seq ?_
 refine XC.condF rfl ?_
 refine XC.exit ?_
 refine te ?_
 refine ue ?_
 refine be rfl ?_
 refine nx (kq 1 kn) ?_
 refine XC.reg ?_
 refine XL.q (qi_ 4 28 5 1 4) rfl ?_
 refine XL.q ql_ rfl ?_
 refine XL.q (q_andD 51 2251799813685248 rfl rfl rfl rfl rfl (by show _ < 18446744073709551616; first | assumption | exact Nat.mod_lt _ (by decide) | omega) (by decide)) rfl ?_
 refine XL.q (qi_ 4 28 5 1 4) rfl ?_
 refine XL.lo rfl (l_store rfl rfl rfl (by kernel_rfl) SetC.set UpC.upd ?_)
 refine XL.fin (kq 1 kn) ?_
 refine XC.reg ?_
 refine XL.lo rfl (l_makeN (e := 5) (k := .u8) (by_ := 1) 32 rfl rfl (by kernel_rfl) rfl rfl (by decide) (by decide) rfl fun b55 => ?_)
 obtain ⟨f0, f1, f2, f3, f4, g0, g1, g2, g3, g4, k0, k1, k2, k3, k4, hF⟩ := bytes_all ha5 hb5 hc5 hd5 hz5 hq
 rw [← g0, ← g1, ← g2, ← g3, ← g4]
 clear g0 g1 g2 g3 g4
 rw [hx5] at hF
 refine as_ ?_
 refine XL.fin (kq 1 (kq 6 kn)) ?_
 refine XC.seq ?_
 refine XC.reg ?_
 refine mv_ ?_
 refine XL.fin (kq 1 (kq 6 (kq 56 kn))) ?_
 refine XC.block ?_
 refine XC.fit (M' := [(b55, blk (nums .u8 (prts 8 32 (fv f0 f1 f2 f3 f4) 0)) 5), (b1, blk (nums .u64 [f0, f1, f2, f3, f4]) 152)]) (Fit.eq (by rw [prts_zero]; rfl)) (fun _ h => h) ?_
 have hN := fv_bit k0 k1 k2 k3 k4
 have hfl : [f0, f1, f2, f3, f4].length = 5 := rfl
 have hfb : ∀ x ∈ [f0, f1, f2, f3, f4], x < 2251799813685248 := by intro x hx; simp only [List.mem_cons, List.not_mem_nil, or_false] at hx; rcases hx with rfl | rfl | rfl | rfl | rfl <;> assumption
 generalize [f0, f1, f2, f3, f4] = fs at *
 rw [← hF]
 generalize fv f0 f1 f2 f3 f4 = X at *
 refine XC.loop (α := Nat) (fun i => [(1, .pointer (some ⟨b1, 0, none⟩)), (6, .slice (some ⟨b55, 0, none⟩) 32 32), (56, .int .i64 (i : Int))]) (fun i => [(b55, blk (nums .u8 (prts 8 32 X i)) 5), (b1, blk (nums .u64 fs) 152)]) (fun _ => []) (fun i => i ≤ 255) (fun i => 255 - i) 0 (by decide) (kq 1 (kq 6 (kq 56 kn))) .rfl (fun _ h => h) ?_
 rintro i hi
 refine XC.reg ?_
 refine XL.q (q_bin rfl rfl rfl) rfl ?_
 refine XL.fin (kq 1 (kq 6 (kq 56 (kq 57 kn)))) ?_
 refine XC.seq ?_
 refine XC.cond rfl (fun hc => ?_) (fun hc => ?_)
 ·
  have hlt : i < 255 := by simp at hc; omega
  have hbit := hN i hlt
  rw [← Nat.shiftRight_eq_div_pow] at hbit
  have hb2 : X / 2 ^ i % 2 < 2 := Nat.mod_lt _ (by decide)
  have hps := prts_succ (w := 8) (n := 32) (N := X) (i := i) (by decide) (by omega)
  have hpg := prts_get (w := 8) (n := 32) (N := X) (i := i) (j := i / 8) (by omega)
  have hpl := prt_lt 8 X i (i / 8)
  have hsm := shl_small (w := 8) hb2 (Nat.mod_lt i (by decide : 0 < 8))
  have hpb : fs.getD (i / 51) 0 < 2251799813685248 := getD_lt hfb (by decide)
  have hsr := Nat.shiftRight_le (fs.getD (i / 51) 0) (i % 51)
  rw [← hpg] at hps hpl
  generalize X / 2 ^ i % 2 = bt at *
  have hmo : bt <<< (i % 8) % 2 ^ IntKind.u8.bits = bt <<< (i % 8) := Nat.mod_eq_of_lt hsm
  have hto : IntKind.u8.wrap (bt : Int) = (bt : Int) := by rw [wrap8, Nat.mod_eq_of_lt (by omega)]
  refine XC.skip ?_
  refine nx (kq 1 (kq 6 (kq 56 kn))) ?_
  refine XC.seq ?_
  refine XC.block ?_
  refine XC.reg ?_
  refine mv_ (as_ ?_)
  refine XL.fin (kq 1 (kq 6 (kq 7 (kq 56 kn)))) ?_
  refine XC.drawF1 [0, 1, 2, 3, 4, 5, 6, 7, 8, 9, 10, 11, 12, 13, 14, 15, 16, 17, 18] [(0, 0), (1, 0), (2, 0), (3, 0), (4, 1), (5, 0), (6, 0), (7, 0), (8, 1), (9, 0), (10, 0), (11, 0), (12, 0), (13, 0), (14, 0), (15, 0), (16, 0), (17, 0), (18, 0), (19, 2)] (by kernel_rfl) (by kernel_rfl) fun hs => ?_
  refine XF.q hs rfl qm_ rfl ?_
  refine XF.q hs rfl qm_ rfl ?_
  refine XF.q hs rfl (q_quoD 8 rfl rfl rfl (by decide) (wrapI (by omega))) rfl ?_
  refine XF.q hs rfl (q_idxS (e := 5) (sz := 1) (i := i / 8) rfl rfl (by kernel_rfl) (by kernel_rfl) rfl (by omega)) rfl ?_
  refine XF.r hs rfl (q_ldN (i / 8) rfl (by kernel_rfl) At.mem (by omega) (by rw [prts_len]; omega)) rfl ?_
  refine XF.q hs rfl qm_ rfl ?_
  refine XF.q hs rfl (q_quoD 51 rfl rfl rfl (by decide) (wrapI (by omega))) rfl ?_
  refine XF.q hs rfl (q_idxA (e := 28) (n := 5) (sz := 1) (i := i / 51) rfl rfl (by kernel_rfl) (by kernel_rfl) rfl (by omega)) rfl ?_
  refine XF.r hs rfl (q_ldN (i / 51) rfl (by kernel_rfl) At.mem (by omega) (by omega)) rfl ?_
  refine XF.q hs rfl qm_ rfl ?_
  refine XF.q hs rfl (q_remD 51 rfl rfl rfl (by decide)) rfl ?_
  refine XF.q hs rfl (q_shrN (i % 51) rfl rfl rfl (by show _ ≤ 64; omega)) rfl ?_
  refine XF.q hs rfl (hbit ▸ q_andD 1 2 rfl rfl rfl rfl rfl (by show _ < 18446744073709551616; omega) (by decide)) rfl ?_
  refine XF.q hs rfl (q_convN bt rfl (by kernel_rfl) hto) rfl ?_
  refine XF.q hs rfl qm_ rfl ?_
  refine XF.q hs rfl (q_remD 8 rfl rfl rfl (by decide)) rfl ?_
  refine XF.q hs rfl (hmo ▸ q_shlN rfl (i % 8) rfl rfl rfl (by show _ ≤ 8; omega)) rfl ?_
  refine XF.q hs rfl (q_or rfl rfl rfl hpl hsm) rfl ?_
  refine XF.q hs rfl (q_idxS (e := 5) (sz := 1) (i := i / 8) rfl rfl (by kernel_rfl) (by kernel_rfl) rfl (by omega)) rfl ?_
  refine XF.tl rfl rfl rfl (l_stN (i / 8) rfl rfl (by kernel_rfl) (by omega) (by rw [prts_len]; omega) UpC.upd ?_)
  refine XF.nil ?_
  refine nb ?_
  refine nx (kq 1 (kq 6 (kq 56 kn))) ?_
  refine XC.reg1 ?_
  refine XL.q (q_num ((i + 1 : Nat) : Int) rfl rfl (add64 (by omega) (by omega) (by omega))) rfl ?_
  refine mv_ ?_
  refine XL.nil ?_
  exact rn (i + 1) (by omega) (by omega) (kq 1 (kq 6 (kq 56 kn))) (Fit.eq (by rw [hps])) (fun _ h => h)
 ·
  have hlt : i = 255 := by simp at hc; omega
  subst hlt
  refine XC.exit ?_
  refine te ?_
  refine re ?_
  refine be rfl ?_
  refine nx (kq 6 kn) ?_
  refine XC.reg ?_
  refine mv_ (as_ ?_)
  refine XL.fin (kq 2 kn) ?_
  refine XC.ret ?_
  exact ⟨_, [_], [], res1 rfl rfl, List.Sublist.cons_cons _ (List.nil_sublist _), by simp, rfl, Sl.fresh (by rw [nums_len, prts_len]) (by decide)⟩

end Go.Proofs.YtphcaiplgpmnnaaGreatDoor
/- The walks of package field: Same, Zero, Odd. -/
namespace Go.Proofs.YtphcaiplgpmnnaaGreatDoor
open Go.Px
theorem txt_prts {x y : Nat} (hx : x < p25) (hy : y < p25) : ((txt (prts 8 32 x 255)).toList == (txt (prts 8 32 y 255)).toList) = decide (x = y) := by
  by_cases h : x = y
  · subst h; simp
  · have : (txt (prts 8 32 x 255)).toList ≠ (txt (prts 8 32 y 255)).toList := by
      rw [ByteArray.toList_eq, ByteArray.toList_eq]
      intro e
      refine h (prts_inj hx hy (txt_inj (prts_lt x 255) (prts_lt y 255) ?_))
      have := congrArg List.toArray e
      simp only [Array.toArray_toList] at this
      unfold txt at this ⊢
      exact congrArg ByteArray.mk this
    rw [beq_false_of_ne this]; simp [h]

theorem fsame_spec (v u : Value) (x y : Nat) (hx : Fe v x) (hy : Fe u y) (A : Mem) : FnV Tryz.prog 141 [v, u] A (.bool (decide (x = y))) := by
 have hx0 := hx
 have hxl := hx.lt
 obtain ⟨a, b, c, d, e, rfl, -⟩ := hx
 have hy0 := hy
 have hyl := hy.lt
 obtain ⟨a2, b2, c2, d2, e2, rfl, -⟩ := hy
 refine FnX.enter (N := 12) Tryz.func141 rfl rfl rfl fun w => ?_
 refine XC.keep (kq 0 (kq 1 kn)) ?_
 refine XC.reg ?_
 refine XL.lo rfl (bx_ fun b2 => ?_)
 refine XL.lo rfl (bx_ fun b3 => ?_)
 refine as_ ?_
 refine XL.fin (kq 2 (kq 3 kn)) ?_
 refine XC.drawF [0, 1, 2, 3, 4, 5, 6, 7] [(0, 1), (3, 1), (1, 2), (2, 1), (4, 2), (5, 1), (6, 0), (7, 0)] (by kernel_rfl) (by kernel_rfl) fun hs => ?_
 refine XF.r hs rfl (qw_ 5) rfl ?_
 refine XF.r hs rfl (qw_ 5) rfl ?_
 refine XF.call rfl (aS rfl a0) (by kernel_rfl) (fbytes_spec _ _ hx0 _) rfl ?_
 rintro r1 M1 J1 ⟨rfl, h1⟩
 refine XF.r hs rfl (q_toStr (h1.rd fun _ h => by simp [h]) rfl (by kernel_rfl)) rfl ?_
 refine XF.call rfl (aS rfl a0) (by kernel_rfl) (fbytes_spec _ _ hy0 _) rfl ?_
 rintro r2 M2 J2 ⟨rfl, h2⟩
 refine XF.r hs rfl (q_toStr (h2.rd fun _ h => by simp [h]) rfl (by kernel_rfl)) rfl ?_
 refine XF.q hs rfl (q_strEq rfl rfl) rfl ?_
 refine XF.q hs rfl (q_assign rfl) rfl ?_
 refine XF.fin (kq 4 kn) ?_
 refine XC.ret ?_
 refine ⟨_, [], [], res1 rfl rfl, List.nil_sublist _, by simp, by rw [txt_prts hxl hyl], rfl, rfl⟩

theorem fzero_spec (v : Value) (x : Nat) (hx : Fe v x) (A : Mem) : FnV Tryz.prog 165 [v] A (.bool (decide (x = 0))) := by
 have hx0 := hx
 have hxl := hx.lt
 obtain ⟨a, b, c, d, e, rfl, -⟩ := hx
 refine FnX.enter (N := 6) Tryz.func165 rfl rfl rfl fun w => ?_
 refine XC.keep (kq 0 kn) ?_
 refine XC.reg ?_
 refine XL.lo rfl (bx_ fun b1 => ?_)
 refine as_ ?_
 refine XL.fin (kq 1 kn) ?_
 refine XC.reg ?_
 refine XL.q (qw_ 5) rfl ?_
 refine XL.q (q_build (place := fun i => some (i * 1, 1)) (z := [.int .u64 0, .int .u64 0, .int .u64 0, .int .u64 0, .int .u64 0]) (fun _ => by kernel_rfl) e0 bd0) rfl ?_
 refine XL.callV (aS rfl (aS rfl a0)) (by kernel_rfl) (fsame_spec _ _ _ _ hx0 fe_zero _) rfl ?_
 refine as_ ?_
 refine XL.fin (kq 2 kn) ?_
 refine XC.ret ?_
 refine ⟨_, [], [], res1 rfl rfl, List.nil_sublist _, by simp, rfl, rfl, rfl⟩

theorem fodd_spec (v : Value) (x : Nat) (hx : Fe v x) (A : Mem) : FnV Tryz.prog 136 [v] A (.bool (decide (x % 2 = 1))) := by
 have hx0 := hx
 have hxl := hx.lt
 obtain ⟨a, b, c, d, e, rfl, -⟩ := hx
 refine FnX.enter (N := 9) Tryz.func136 rfl rfl rfl fun w => ?_
 refine XC.keep (kq 0 kn) ?_
 refine XC.reg ?_
 refine XL.lo rfl (bx_ fun b1 => ?_)
 refine as_ ?_
 refine XL.fin (kq 1 kn) ?_
 refine XC.reg ?_
 refine XL.q (qw_ 5) rfl ?_
 refine XL.call (aS rfl a0) (by kernel_rfl) (fbytes_spec _ _ hx0 _) rfl ?_
 rintro r1 M1 J1 ⟨rfl, h1⟩
 refine XL.q (q_atV (h1.rd fun _ h => h) rfl rfl (by kernel_rfl) 0 rfl (by decide)) rfl ?_
 refine XL.q (q_ldVN (h1.rd fun _ h => by simp [h]) rfl (by kernel_rfl) (by decide)) rfl ?_
 refine XL.q (q_andD 1 2 rfl rfl rfl rfl rfl (getD_lt (prts_lt x 255) (by decide)) (by decide)) rfl ?_
 refine XL.q (q_bin rfl rfl rfl) rfl ?_
 refine as_ ?_
 refine XL.fin (kq 2 kn) ?_
 refine XC.ret ?_
 refine ⟨_, [], [], res1 rfl rfl, List.nil_sublist _, by simp, ?_, rfl, rfl⟩
 rw [prts_get (by decide), prt]
 simp only [Nat.reducePow, Nat.reduceMul, Nat.div_one]
 congr 1
 unfold p25 at hxl
 have e : x % 57896044618658097711785492504343953926634992332820282019728792003956564819968 % 256 % 2 = x % 2 := by omega
 rw [e]
 rcases Nat.mod_two_eq_zero_or_one x with h | h <;> rw [h] <;> rfl

end Go.Proofs.YtphcaiplgpmnnaaGreatDoor
