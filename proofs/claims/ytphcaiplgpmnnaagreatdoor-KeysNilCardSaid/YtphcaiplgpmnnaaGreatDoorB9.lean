/- Part 9 of the texts of this claim, one behind the other. -/
import Derived.Test.YtphcaiplgpmnnaaGreatDoorB8
import Derived.Laws.Strings
set_option linter.unusedVariables false
set_option linter.unusedSimpArgs false
set_option maxRecDepth 100000
namespace Go.Px
/-- Bytes as a number, the lowest first. -/
def bv : List Nat → Nat
  | [] => 0
  | b :: r => b + 256 * bv r
theorem bv_lt {p : List Nat} (h : ∀ x ∈ p, x < 256) : bv p < 256 ^ p.length := by
  induction p with
  | nil => decide
  | cons b r ih =>
    have h1 := h b (by simp)
    have h2 := ih fun x hx => h x (by simp [hx])
    simp only [bv, List.length_cons, Nat.pow_succ]; omega
theorem bv_byte {p : List Nat} (h : ∀ x ∈ p, x < 256) (i : Nat) : bv p / 256 ^ i % 256 = p.getD i 0 := by
  induction p generalizing i with
  | nil => simp [bv]
  | cons b r ih =>
    have h1 := h b (by simp)
    cases i with
    | zero => simp only [bv, Nat.pow_zero, Nat.div_one, List.getD_cons_zero]; omega
    | succ i =>
      rw [List.getD_cons_succ, ← ih (fun x hx => h x (by simp [hx])) i, Nat.pow_succ, Nat.mul_comm, ← Nat.div_div_eq_div_mul]
      congr 2
      simp only [bv]; omega
theorem bv_bit {p : List Nat} (h : ∀ x ∈ p, x < 256) (i : Nat) : p.getD (i / 8) 0 / 2 ^ (i % 8) % 2 = bv p / 2 ^ i % 2 := by
  rw [← bv_byte h, show (256 : Nat) = 2 ^ 8 from rfl, ← Nat.pow_mul]
  have h1 : i % 8 < 8 := Nat.mod_lt _ (by decide)
  have e : 2 ^ 8 = 2 ^ (i % 8) * (2 * 2 ^ (7 - i % 8)) := by rw [← Nat.pow_succ', ← Nat.pow_add]; congr 1; omega
  rw [e, Nat.mod_mul_right_div_self, Nat.mod_mul_right_mod, Nat.div_div_eq_div_mul, ← Nat.pow_add]
  congr 3; omega
/-- The prt j of width w of the lowest i bits. -/
def prt (w N i j : Nat) : Nat := N % 2 ^ i / 2 ^ (w * j) % 2 ^ w
theorem prt_here {w N i : Nat} (hw : 0 < w) : prt w N (i + 1) (i / w) = (prt w N i (i / w) ||| (N / 2 ^ i % 2) <<< (i % w)) := by
  have hr : i % w < w := Nat.mod_lt _ hw
  have hi : w * (i / w) + i % w = i := Nat.div_add_mod i w
  have hX : N % 2 ^ i / 2 ^ (w * (i / w)) < 2 ^ (i % w) := by
    rw [Nat.div_lt_iff_lt_mul (Nat.two_pow_pos _), ← Nat.pow_add, Nat.add_comm, hi]
    exact Nat.mod_lt _ (Nat.two_pow_pos _)
  have hle : 2 ^ (i % w) * 2 ≤ 2 ^ w := by rw [← Nat.pow_succ]; exact Nat.pow_le_pow_right (by decide) hr
  have hb : N / 2 ^ i % 2 < 2 := Nat.mod_lt _ (by decide)
  unfold prt
  rw [Nat.mod_eq_of_lt (Nat.lt_of_lt_of_le hX (by omega)), Nat.or_comm, ← Nat.shiftLeft_add_eq_or_of_lt hX, Nat.mod_pow_succ]
  have e : (N % 2 ^ i + 2 ^ i * (N / 2 ^ i % 2)) / 2 ^ (w * (i / w)) = N % 2 ^ i / 2 ^ (w * (i / w)) + 2 ^ (i % w) * (N / 2 ^ i % 2) := by
    conv => lhs; rw [show 2 ^ i * (N / 2 ^ i % 2) = 2 ^ (w * (i / w)) * (2 ^ (i % w) * (N / 2 ^ i % 2)) by rw [← Nat.mul_assoc, ← Nat.pow_add, hi]]
    rw [Nat.add_mul_div_left _ _ (Nat.two_pow_pos _)]
  rw [e, Nat.shiftLeft_eq, Nat.mod_eq_of_lt, Nat.add_comm, Nat.mul_comm]
  generalize N / 2 ^ i % 2 = b at *
  have : 2 ^ (i % w) * b ≤ 2 ^ (i % w) * 1 := Nat.mul_le_mul_left _ (by omega)
  omega
theorem prt_else {w N i j : Nat} (hw : 0 < w) (h : j ≠ i / w) : prt w N (i + 1) j = prt w N i j := by
  have hi : w * (i / w) + i % w = i := Nat.div_add_mod i w
  have hr : i % w < w := Nat.mod_lt _ hw
  unfold prt
  rw [Nat.mod_pow_succ]
  rcases Nat.lt_or_gt_of_ne h with hl | hg
  · have hge : w * (j + 1) ≤ i := by
      have := Nat.mul_le_mul_left w (show j + 1 ≤ i / w from hl)
      omega
    have e : 2 ^ i * (N / 2 ^ i % 2) = 2 ^ (w * j) * (2 ^ w * (2 ^ (i - w * (j + 1)) * (N / 2 ^ i % 2))) := by
      rw [← Nat.mul_assoc, ← Nat.mul_assoc, ← Nat.pow_add, ← Nat.pow_add]
      congr 2
      rw [Nat.mul_add] at hge ⊢; omega
    rw [e, Nat.add_mul_div_left _ _ (Nat.two_pow_pos _), Nat.add_mul_mod_self_left]
  · have hge : i + 1 ≤ w * j := by
      have := Nat.mul_le_mul_left w (show i / w + 1 ≤ j from hg)
      rw [Nat.mul_add] at this; omega
    have h1 : N % 2 ^ i < 2 ^ (w * j) := Nat.lt_of_lt_of_le (Nat.mod_lt _ (Nat.two_pow_pos _)) (Nat.pow_le_pow_right (by decide) (by omega))
    have h2 : N % 2 ^ i + 2 ^ i * (N / 2 ^ i % 2) < 2 ^ (w * j) := by
      rw [← Nat.mod_pow_succ]
      exact Nat.lt_of_lt_of_le (Nat.mod_lt _ (Nat.two_pow_pos _)) (Nat.pow_le_pow_right (by decide) hge)
    rw [Nat.div_eq_of_lt h1, Nat.div_eq_of_lt h2]
/-- All prts. -/
def prts (w n N i : Nat) : List Nat := (List.range n).map (prt w N i)
theorem prts_len (w n N i : Nat) : (prts w n N i).length = n := by simp [prts]
theorem prts_get {w n N i j : Nat} (h : j < n) : (prts w n N i).getD j 0 = prt w N i j := by simp [prts, List.getD, h]
theorem prts_zero (w n N : Nat) : prts w n N 0 = List.replicate n 0 := by
  apply List.ext_getElem?
  intro j
  simp only [prts, List.getElem?_map, List.getElem?_replicate]
  by_cases h : j < n
  · simp [h, prt, Nat.mod_one]
  · simp [h]
theorem prts_succ {w n N i : Nat} (hw : 0 < w) (hi : i / w < n) : prts w n N (i + 1) = (prts w n N i).set (i / w) (prt w N i (i / w) ||| (N / 2 ^ i % 2) <<< (i % w)) := by
  apply List.ext_getElem?
  intro j
  rw [List.getElem?_set]
  simp only [prts, List.getElem?_map, List.length_map, List.length_range]
  by_cases h : j < n
  · by_cases e : i / w = j
    · subst e; simp [h, prt_here hw]
    · simp [h, e, prt_else hw (fun h => e h.symm)]
  · have : i / w ≠ j := by omega
    simp [h, this]
theorem bv_append (p q : List Nat) : bv (p ++ q) = bv p + 256 ^ p.length * bv q := by
  induction p with
  | nil => simp [bv]
  | cons b r ih => simp only [List.cons_append, bv, ih, List.length_cons, Nat.pow_succ]; grind
theorem bv_digits (X : Nat) : ∀ n, bv ((List.range n).map fun j => X / 2 ^ (8 * j) % 2 ^ 8) = X % 2 ^ (8 * n)
  | 0 => by simp [bv, Nat.mod_one]
  | n + 1 => by
    rw [List.range_succ, List.map_append, bv_append, bv_digits X n, List.length_map, List.length_range]
    simp only [List.map_cons, List.map_nil, bv, Nat.mul_zero, Nat.add_zero]
    rw [show (256 : Nat) ^ n = 2 ^ (8 * n) by rw [Nat.pow_mul], show 8 * (n + 1) = 8 * n + 8 by omega, Nat.pow_add, Nat.mod_mul]
theorem bv_prts (x : Nat) : bv (prts 8 32 x 255) = x % 2 ^ 255 := by
  unfold prts prt
  rw [bv_digits, Nat.mod_eq_of_lt]
  exact Nat.lt_of_lt_of_le (Nat.mod_lt _ (Nat.two_pow_pos _)) (Nat.pow_le_pow_right (by decide) (by decide))
theorem prts_lt (x i : Nat) : ∀ y ∈ prts 8 32 x i, y < 256 := by
  intro y hy
  obtain ⟨j, _, rfl⟩ := List.mem_map.1 hy
  exact Nat.mod_lt _ (Nat.two_pow_pos _)
theorem prts_inj {x y : Nat} (hx : x < p25) (hy : y < p25) (h : prts 8 32 x 255 = prts 8 32 y 255) : x = y := by
  have := congrArg bv h
  rw [bv_prts, bv_prts, Nat.mod_eq_of_lt (Nat.lt_trans hx (by decide)), Nat.mod_eq_of_lt (Nat.lt_trans hy (by decide))] at this
  exact this
end Go.Px

/- The walks of package field: Read, Bytes, Same, Zero, Odd. -/
namespace Go.Proofs.YtphcaiplgpmnnaaGreatDoor
open Go.Px
/-- The number of 32 bytes without the highest bit; 0 of others. -/
def rdN (p : List Nat) : Nat := if p.length = 32 then bv p % 57896044618658097711785492504343953926634992332820282019728792003956564819968 % p25 else 0
theorem fv_prts (N : Nat) : fv (prt 51 N 255 0) (prt 51 N 255 1) (prt 51 N 255 2) (prt 51 N 255 3) (prt 51 N 255 4) = N % 57896044618658097711785492504343953926634992332820282019728792003956564819968 := by
  unfold fv prt
  simp only [Nat.reducePow, Nat.reduceMul]
  omega
theorem prt_lt (w N i j : Nat) : prt w N i j < 2 ^ w := Nat.mod_lt _ (Nat.two_pow_pos _)
theorem prt52 (N i j : Nat) : prt 51 N i j < 4503599627370496 := Nat.lt_trans (prt_lt 51 N i j) (by decide)
theorem shl_small {b s w : Nat} (hb : b < 2) (hs : s < w) : b <<< s < 2 ^ w := by
  rw [Nat.shiftLeft_eq]
  have h1 : 2 ^ s * 2 ≤ 2 ^ w := by rw [← Nat.pow_succ]; exact Nat.pow_le_pow_right (by decide) hs
  have h2 : b * 2 ^ s ≤ 1 * 2 ^ s := Nat.mul_le_mul_right _ (by omega)
  have h3 := Nat.two_pow_pos s
  omega

theorem fread_spec (pv : Value) (p : List Nat) (A : Mem) (hp : Rd A 1 pv p.length (nums .u8 p)) (hp256 : ∀ x ∈ p, x < 256) (hpl : p.length < 9223372036854775808) : FnX Tryz.prog 129 [pv] [] A fun r M J => M = [] ∧ J = [] ∧ Fe r (rdN p) := by
 refine FnX.enter (N := 33) Tryz.func129 rfl rfl rfl fun w => ?_
 refine XC.keep (kq 0 kn) ?_
 refine XC.reg ?_
 refine XL.lo rfl (l_alloc (cs := [.int .u64 0, .int .u64 0, .int .u64 0, .int .u64 0, .int .u64 0]) (by kernel_rfl) rfl fun b2 => ?_)
 refine XL.fin (kq 0 (kq 2 kn)) ?_
 refine XC.reg ?_
 refine XL.lo rfl (l_alloc (cs := [.int .u64 0, .int .u64 0, .int .u64 0, .int .u64 0, .int .u64 0]) (by kernel_rfl) rfl fun b3 => ?_)
 refine XL.fin (kq 0 (kq 2 (kq 3 kn))) ?_
 refine XC.seq ?_
 refine XC.reg ?_
 refine mv_ ?_
 refine XL.q (q_lenV hp rfl (by kernel_rfl)) rfl ?_
 refine XL.q (q_bin rfl rfl rfl) rfl ?_
 refine XL.fin (kq 0 (kq 2 (kq 3 (kq 7 kn)))) ?_
 refine XC.cond rfl (fun hc => ?_) (fun hc => ?_)
 ·
  have h32 : p.length ≠ 32 := by simp at hc; omega
  refine XC.reg ?_
  refine XL.q (qw_ 5) rfl ?_
  refine XL.lo rfl (l_storeW rfl rfl Cel.cel (by kernel_rfl) (lnS (lnS (lnS (lnS (lnS (ln0)))))) (allS rfl (allS rfl (allS rfl (allS rfl (allS rfl (all0)))))) UpC.upd ?_)
  refine XL.fin (kq 2 kn) ?_
  refine XC.ret ?_
  refine tr ?_
  refine ⟨_, [], [], resC rfl rfl (by kernel_rfl) At.mem (by rfl), List.nil_sublist _, by simp, rfl, rfl, 0, 0, 0, 0, 0, rfl, by decide, by decide, by decide, by decide, by decide, ?_⟩
  rw [rdN, if_neg h32]; rfl
 ·
  have h32 : p.length = 32 := by simp at hc; omega
  have hN := bv_bit hp256
  refine XC.skip ?_
  refine nx (kq 0 (kq 2 (kq 3 kn))) ?_
  refine XC.seq ?_
  refine XC.reg ?_
  refine mv_ ?_
  refine XL.fin (kq 0 (kq 2 (kq 3 (kq 9 kn)))) ?_
  refine XC.block ?_
  refine XC.fit (M' := [(b3, blk (nums .u64 (prts 51 5 (bv p) 0)) 152), (b2, blk [.int .u64 0, .int .u64 0, .int .u64 0, .int .u64 0, .int .u64 0] 152)]) (Fit.eq (by rw [prts_zero]; rfl)) (fun _ h => h) ?_
  refine XC.loop (α := Nat) (fun i => [(0, pv), (2, .pointer (some ⟨b2, 0, none⟩)), (3, .pointer (some ⟨b3, 0, none⟩)), (9, .int .i64 (i : Int))]) (fun i => [(b3, blk (nums .u64 (prts 51 5 (bv p) i)) 152), (b2, blk [.int .u64 0, .int .u64 0, .int .u64 0, .int .u64 0, .int .u64 0] 152)]) (fun _ => []) (fun i => i ≤ 255) (fun i => 255 - i) 0 (by decide) (kq 0 (kq 2 (kq 3 (kq 9 kn)))) .rfl (fun _ h => h) ?_
  rintro i hi
  refine XC.reg ?_
  refine XL.q (q_bin rfl rfl rfl) rfl ?_
  refine XL.fin (kq 0 (kq 2 (kq 3 (kq 9 (kq 10 kn))))) ?_
  refine XC.seq ?_
  refine XC.cond rfl (fun hc => ?_) (fun hc => ?_)
  ·
   have hlt : i < 255 := by simp at hc; omega
   have hbit := hN i
   rw [← Nat.shiftRight_eq_div_pow] at hbit
   have hb2 : bv p / 2 ^ i % 2 < 2 := Nat.mod_lt _ (by decide)
   have hps := prts_succ (w := 51) (n := 5) (N := bv p) (i := i) (by decide) (by omega)
   have hpg := prts_get (w := 51) (n := 5) (N := bv p) (i := i) (j := i / 51) (by omega)
   have hpl := prt_lt 51 (bv p) i (i / 51)
   have hsm := shl_small (w := 51) hb2 (Nat.mod_lt i (by decide : 0 < 51))
   have hpb : p.getD (i / 8) 0 < 256 := getD_lt hp256 (by decide)
   have hsr := Nat.shiftRight_le (p.getD (i / 8) 0) (i % 8)
   rw [← hpg] at hps hpl
   generalize bv p / 2 ^ i % 2 = bt at *
   have hmo : bt <<< (i % 51) % 2 ^ IntKind.u64.bits = bt <<< (i % 51) := Nat.mod_eq_of_lt (Nat.lt_trans hsm (by decide))
   have hto : IntKind.u64.wrap (bt : Int) = (bt : Int) := by rw [wrap64, Nat.mod_eq_of_lt (by omega)]
   refine XC.skip ?_
   refine nx (kq 0 (kq 2 (kq 3 (kq 9 kn)))) ?_
   refine XC.seq ?_
   refine XC.block ?_
   refine XC.reg ?_
   refine mv_ (as_ ?_)
   refine XL.fin (kq 0 (kq 2 (kq 3 (kq 4 (kq 9 kn))))) ?_
   refine XC.drawF1 [0, 1, 2, 3, 4, 5, 6, 7, 8, 9, 10, 11, 12, 13, 14, 15, 16, 17, 18] [(0, 0), (1, 0), (2, 0), (3, 1), (4, 0), (5, 0), (6, 0), (7, 0), (8, 1), (9, 0), (10, 0), (11, 0), (12, 0), (13, 0), (14, 0), (15, 0), (16, 0), (17, 0), (18, 0), (19, 2)] (by kernel_rfl) (by kernel_rfl) fun hs => ?_
   refine XF.q hs rfl qm_ rfl ?_
   refine XF.q hs rfl (q_quoD 51 rfl rfl rfl (by decide) (wrapI (by omega))) rfl ?_
   refine XF.q hs rfl (q_idxA (e := 28) (n := 5) (sz := 1) (i := i / 51) rfl rfl (by kernel_rfl) (by kernel_rfl) rfl (by omega)) rfl ?_
   refine XF.r hs rfl (q_ldN (i / 51) rfl (by kernel_rfl) At.mem (by omega) (by rw [prts_len]; omega)) rfl ?_
   refine XF.q hs rfl qm_ rfl ?_
   refine XF.q hs rfl qm_ rfl ?_
   refine XF.q hs rfl (q_quoD 8 rfl rfl rfl (by decide) (wrapI (by omega))) rfl ?_
   refine XF.q hs rfl (q_atV hp rfl rfl (by kernel_rfl) (i / 8) rfl (by omega)) rfl ?_
   refine XF.r hs rfl (q_ldVN (hp.mono fun _ h => mA h) rfl (by kernel_rfl) (by omega)) rfl ?_
   refine XF.q hs rfl qm_ rfl ?_
   refine XF.q hs rfl (q_remD 8 rfl rfl rfl (by decide)) rfl ?_
   refine XF.q hs rfl (q_shrN (i % 8) rfl rfl rfl (by show _ ≤ 8; omega)) rfl ?_
   refine XF.q hs rfl (hbit ▸ q_andD 1 2 rfl rfl rfl rfl rfl (by show _ < 256; omega) (by decide)) rfl ?_
   refine XF.q hs rfl (q_convN bt rfl (by kernel_rfl) hto) rfl ?_
   refine XF.q hs rfl qm_ rfl ?_
   refine XF.q hs rfl (q_remD 51 rfl rfl rfl (by decide)) rfl ?_
   refine XF.q hs rfl (hmo ▸ q_shlN rfl (i % 51) rfl rfl rfl (by show _ ≤ 64; omega)) rfl ?_
   refine XF.q hs rfl (q_or rfl rfl rfl (Nat.lt_trans hpl (by decide)) (Nat.lt_trans hsm (by decide))) rfl ?_
   refine XF.q hs rfl (q_idxA (e := 28) (n := 5) (sz := 1) (i := i / 51) rfl rfl (by kernel_rfl) (by kernel_rfl) rfl (by omega)) rfl ?_
   refine XF.tl rfl rfl rfl (l_stN (i / 51) rfl rfl (by kernel_rfl) (by omega) (by rw [prts_len]; omega) UpC.upd ?_)
   refine XF.nil ?_
   refine nb ?_
   refine nx (kq 0 (kq 2 (kq 3 (kq 9 kn)))) ?_
   refine XC.reg1 ?_
   refine XL.q (q_num ((i + 1 : Nat) : Int) rfl rfl (add64 (by omega) (by omega) (by omega))) rfl ?_
   refine mv_ ?_
   refine XL.nil ?_
   exact rn (i + 1) (by omega) (by omega) (kq 0 (kq 2 (kq 3 (kq 9 kn)))) (Fit.eq (by rw [hps])) (fun _ h => h)
  ·
   have hlt : i = 255 := by simp at hc; omega
   subst hlt
   refine XC.exit ?_
   refine te ?_
   refine re ?_
   refine be rfl ?_
   refine nx (kq 2 (kq 3 kn)) ?_
   refine XC.reg ?_
   refine XL.q (q_loadW (n := 5) (cs := nums .u64 (prts 51 5 (bv p) 255)) rfl (by kernel_rfl) At.mem (by rw [nums_len, prts_len])) rfl ?_
   refine XL.lo rfl (l_storeW (vs := nums .u64 (prts 51 5 (bv p) 255)) rfl rfl rfl (by rw [nums_len, prts_len]; kernel_rfl) (by rw [nums_len, prts_len]; rfl) nums_one UpC.upd ?_)
   refine XL.fin (kq 2 kn) ?_
   refine XC.ret ?_
   refine ⟨_, [], [], resC rfl rfl (by kernel_rfl) At.mem (by rw [nums_len, prts_len]), List.nil_sublist _, by simp, rfl, rfl, _, _, _, _, _, rfl, prt52 _ _ _, prt52 _ _ _, prt52 _ _ _, prt52 _ _ _, prt52 _ _ _, ?_⟩
   rw [fv_prts, rdN, if_pos h32]

theorem fbytes_spec (v : Value) (x : Nat) (hx : Fe v x) (A : Mem) : FnX Tryz.prog 132 [v] [] A fun r M J => J = [] ∧ Sl 1 r 32 (nums .u8 (prts 8 32 x 255)) M := by
 obtain ⟨a, b, c, d, e, rfl, ha, hb, hc, hd, he, rfl⟩ := hx
 refine FnX.enter (N := 80) Tryz.func132 rfl rfl rfl fun w => ?_
 refine XC.keep (kq 0 kn) ?_
 refine XC.reg ?_
 refine XL.lo rfl (bx_ fun b1 => ?_)
 refine as_ ?_
 refine XL.fin (kq 1 kn) ?_
 refine XC.reg ?_
 refine XL.q (qw_ 5) rfl ?_
 refine XL.call (aS rfl a0) (by kernel_rfl) (settle_spec _ _ _ _ _ (by omega) (by omega) (by omega) (by omega) (by omega) _) rfl ?_
 rintro r3 M3 J3 ⟨rfl, rfl, a3, b3, c3, d3, e3, rfl, ha3, hb3, hc3, hd3, hv3, he3⟩
 refine XL.call (aS rfl a0) (by kernel_rfl) (settle_spec _ _ _ _ _ (by omega) (by omega) (by omega) (by omega) (by omega) _) rfl ?_
 rintro r4 M4 J4 ⟨rfl, rfl, a4, b4, c4, d4, e4, rfl, ha4, hb4, hc4, hd4, hv4, he4⟩
 have hz4 := settled_top ha3 hb3 hc3 hd3 he3 ha4 hb4 hc4 hd4 hv4
 refine XL.call (aS rfl a0) (by kernel_rfl) (settle_spec _ _ _ _ _ (by omega) (by omega) (by omega) (by omega) (by omega) _) rfl ?_
 rintro r5 M5 J5 ⟨rfl, rfl, a5, b5, c5, d5, e5, rfl, ha5, hb5, hc5, hd5, hv5, he5⟩
 have hz5 := settled_top ha4 hb4 hc4 hd4 he4 ha5 hb5 hc5 hd5 hv5
 have hx5 : fv a5 b5 c5 d5 e5 % p25 = fv a b c d e % p25 := by rw [mod_of_settle hv5, mod_of_settle hv4, mod_of_settle hv3]
 have hV5 := fv_lt ha5 hb5 hc5 hd5 hz5
 clear hv3 hv4 hv5 he3 he4 he5 hz4 ha3 hb3 hc3 hd3 ha4 hb4 hc4 hd4
 refine XL.lo rfl (l_storeW rfl rfl Cel.cel (by kernel_rfl) (lnS (lnS (lnS (lnS (lnS (ln0)))))) (allS rfl (allS rfl (allS rfl (allS rfl (allS rfl (all0)))))) UpC.upd ?_)
 refine XL.fin (kq 1 kn) ?_
 refine XC.reg ?_
 refine XL.q (qi_ 0 28 5 1 0) rfl ?_
 refine XL.q ql_ rfl ?_
 refine XL.q (q_addM 18446744073709551616 (b := 19) rfl rfl rfl rfl rfl rfl) rfl ?_
 refine XL.q (q_shrD 51 2251799813685248 rfl rfl rfl rfl (by decide)) rfl ?_
 refine as_ ?_
 refine XL.fin (kq 1 (kq 3 kn)) ?_
 refine XC.seq ?_
 refine XC.reg ?_
 refine as_ ?_
 refine XL.fin (kq 1 (kq 3 (kq 4 kn))) ?_
 refine XC.block ?_
 refine XC.rounds 5 ?_
 refine XR.step ?_
 refine XC.seq ?_
 refine XC.reg ?_
 refine mv_ ?_
 refine XL.q (q_cmp true rfl rfl (ltT (by decide))) rfl ?_
 refine XL.fin (kq 1 (kq 3 (kq 4 (kq 17 kn)))) ?_
 refine XC.condT rfl ?_
 refine XC.skip ?_
 refine nx (kq 1 (kq 3 (kq 4 kn))) ?_
 refine XC.seq ?_
 refine XC.block ?_
 refine XC.reg1 ?_
 refine mv_ ?_
 refine XL.q (qi_ 1 28 5 1 1) rfl ?_
 refine XL.q ql_ rfl ?_
 refine mv_ ?_
 refine XL.q (q_addM 18446744073709551616 rfl rfl rfl rfl rfl rfl) rfl ?_
 refine XL.q (q_shrD 51 2251799813685248 rfl rfl rfl rfl (by decide)) rfl ?_
 refine as_ ?_
 refine XL.nil ?_
 refine nb ?_
 refine nx (kq 1 (kq 3 (kq 4 kn))) ?_
 refine XC.reg1 ?_
 refine mv_ ?_
 refine XL.q (q_num (2 : Int) rfl rfl (add64 (by decide) (by decide) (by decide))) rfl ?_
 refine as_ ?_
 refine XL.nil ?_
 refine un (kq 1 (kq 3 (kq 4 kn))) ?_
 refine XR.step ?_
 refine XC.seq ?_
 refine XC.reg ?_
 refine mv_ ?_
 refine XL.q (q_cmp true rfl rfl (ltT (by decide))) rfl ?_
 refine XL.fin (kq 1 (kq 3 (kq 4 (kq 17 kn)))) ?_
 refine XC.condT rfl ?_
 refine XC.skip ?_
 refine nx (kq 1 (kq 3 (kq 4 kn))) ?_
 refine XC.seq ?_
 refine XC.block ?_
 refine XC.reg1 ?_
 refine mv_ ?_
 refine XL.q (qi_ 2 28 5 1 2) rfl ?_
 refine XL.q ql_ rfl ?_
 refine mv_ ?_
 refine XL.q (q_addM 18446744073709551616 rfl rfl rfl rfl rfl rfl) rfl ?_
 refine XL.q (q_shrD 51 2251799813685248 rfl rfl rfl rfl (by decide)) rfl ?_
 refine as_ ?_
 refine XL.nil ?_
 refine nb ?_
 refine nx (kq 1 (kq 3 (kq 4 kn))) ?_
 refine XC.reg1 ?_
 refine mv_ ?_
 refine XL.q (q_num (3 : Int) rfl rfl (add64 (by decide) (by decide) (by decide))) rfl ?_
 refine as_ ?_
 refine XL.nil ?_
 refine un (kq 1 (kq 3 (kq 4 kn))) ?_
 refine XR.step ?_
 refine XC.seq ?_
 refine XC.reg ?_
 refine mv_ ?_
 refine XL.q (q_cmp true rfl rfl (ltT (by decide))) rfl ?_
 refine XL.fin (kq 1 (kq 3 (kq 4 (kq 17 kn)))) ?_
 refine XC.condT rfl ?_
 refine XC.skip ?_
 refine nx (kq 1 (kq 3 (kq 4 kn))) ?_
 refine XC.seq ?_
 refine XC.block ?_
 refine XC.reg1 ?_
 refine mv_ ?_
 refine XL.q (qi_ 3 28 5 1 3) rfl ?_
 refine XL.q ql_ rfl ?_
 refine mv_ ?_
 refine XL.q (q_addM 18446744073709551616 rfl rfl rfl rfl rfl rfl) rfl ?_
 refine XL.q (q_shrD 51 2251799813685248 rfl rfl rfl rfl (by decide)) rfl ?_
 refine as_ ?_
 refine XL.nil ?_
 refine nb ?_
 refine nx (kq 1 (kq 3 (kq 4 kn))) ?_
 refine XC.reg1 ?_
 refine mv_ ?_
 refine XL.q (q_num (4 : Int) rfl rfl (add64 (by decide) (by decide) (by decide))) rfl ?_
 refine as_ ?_
 refine XL.nil ?_
 refine un (kq 1 (kq 3 (kq 4 kn))) ?_
 refine XR.step ?_
 refine XC.seq ?_
 refine XC.reg ?_
 refine mv_ ?_
 refine XL.q (q_cmp true rfl rfl (ltT (by decide))) rfl ?_
 refine XL.fin (kq 1 (kq 3 (kq 4 (kq 17 kn)))) ?_
 refine XC.condT rfl ?_
 refine XC.skip ?_
 refine nx (kq 1 (kq 3 (kq 4 kn))) ?_
 refine XC.seq ?_
 refine XC.block ?_
 refine XC.reg1 ?_
 refine mv_ ?_
 refine XL.q (qi_ 4 28 5 1 4) rfl ?_
 refine XL.q ql_ rfl ?_
 refine mv_ ?_
 refine XL.q (q_addM 18446744073709551616 rfl rfl rfl rfl rfl rfl) rfl ?_
 refine XL.q (q_shrD 51 2251799813685248 rfl rfl rfl rfl (by decide)) rfl ?_
 refine as_ ?_
 refine XL.nil ?_
 refine nb ?_
 refine nx (kq 1 (kq 3 (kq 4 kn))) ?_
 refine XC.reg1 ?_
 refine mv_ ?_
 refine XL.q (q_num (5 : Int) rfl rfl (add64 (by decide) (by decide) (by decide))) rfl ?_
 refine as_ ?_
 refine XL.nil ?_
 refine un (kq 1 (kq 3 (kq 4 kn))) ?_
 refine XR.step ?_
 refine XC.seq ?_
 refine XC.reg ?_
 refine mv_ ?_
 refine XL.q (q_cmp false rfl rfl (ltF (by decide))) rfl ?_
 refine XL.fin (kq 1 (kq 3 (kq 4 (kq 17 kn)))) ?_
 refine XC.condF rfl ?_
 refine XC.exit ?_
 refine te ?_
 refine ue ?_
 refine be rfl ?_
 refine nx (kq 1 (kq 3 kn)) ?_
 obtain ⟨q, hqe, hq⟩ := carry_q ha5 hb5 hc5 hd5 hz5
 rw [← hqe]
 clear hqe
 refine XC.reg ?_
 refine XL.q (qi_ 0 28 5 1 0) rfl ?_
 refine XL.q ql_ rfl ?_
 refine mv_ ?_
 refine XL.q (q_mulM 18446744073709551616 (a := 19) rfl rfl rfl rfl rfl rfl) rfl ?_
 refine XL.q (q_addM 18446744073709551616 rfl rfl rfl rfl rfl rfl) rfl ?_
 refine XL.q (qi_ 0 28 5 1 0) rfl ?_
 refine XL.lo rfl (l_store rfl rfl rfl (by kernel_rfl) SetC.set UpC.upd ?_)
 refine XL.fin (kq 1 kn) ?_
 refine XC.seq ?_
 refine XC.reg ?_
 refine mv_ ?_
 refine XL.fin (kq 1 (kq 32 kn)) ?_
 refine XC.block ?_
 refine XC.rounds 5 ?_
 refine XR.step ?_
 refine XC.reg ?_
 refine XL.q (q_cmp true rfl rfl (ltT (by decide))) rfl ?_
 refine XL.fin (kq 1 (kq 32 (kq 33 kn))) ?_
 refine XC.seq ?_
 refine XC.condT rfl ?_
 refine XC.skip ?_
 refine nx (kq 1 (kq 32 kn)) ?_
 refine XC.seq ?_
 refine XC.block ?_
 refine XC.reg ?_
 refine mv_ (as_ ?_)
 refine XL.fin (kq 1 (kq 5 (kq 32 kn))) ?_
 refine XC.drawF [0, 1, 2, 3, 4, 5, 6, 7, 8, 9] [(0, 0), (1, 0), (2, 0), (3, 1), (4, 0), (5, 0), (6, 1), (7, 0), (8, 0), (9, 0), (10, 2)] (by kernel_rfl) (by kernel_rfl) fun hs => ?_
 refine XF.q hs rfl qm_ rfl ?_
 refine XF.q hs rfl (q_num (1 : Int) rfl rfl (add64 (by decide) (by decide) (by decide))) rfl ?_
 refine XF.q hs rfl (qi_ 1 28 5 1 1) rfl ?_
 refine XF.r hs rfl ql_ rfl ?_
 refine XF.q hs rfl qm_ rfl ?_
 refine XF.q hs rfl (qi_ 0 28 5 1 0) rfl ?_
 refine XF.r hs rfl ql_ rfl ?_
 refine XF.q hs rfl (q_shrD 51 2251799813685248 rfl rfl rfl rfl (by decide)) rfl ?_
 refine XF.q hs rfl (q_addM 18446744073709551616 rfl rfl rfl rfl rfl rfl) rfl ?_
 refine XF.q hs rfl (qi_ 1 28 5 1 1) rfl ?_
 refine XF.tl rfl rfl rfl (l_store rfl rfl rfl (by kernel_rfl) SetC.set UpC.upd ?_)
 refine XF.fin (kq 1 (kq 5 (kq 32 kn))) ?_
 refine XC.reg1 ?_
 refine mv_ ?_
 refine XL.q (qi_ 0 28 5 1 0) rfl ?_
 refine XL.q ql_ rfl ?_
 refine XL.q (q_andD 51 2251799813685248 rfl rfl rfl rfl rfl (by show _ < 18446744073709551616; first | assumption | exact Nat.mod_lt _ (by decide) | omega) (by decide)) rfl ?_
 refine XL.q (qi_ 0 28 5 1 0) rfl ?_
 refine XL.lo rfl (l_store rfl rfl rfl (by kernel_rfl) SetC.set UpC.upd ?_)
 refine XL.nil ?_
 refine nb ?_
 refine nx (kq 1 (kq 32 kn)) ?_
 refine XC.reg1 ?_
 refine XL.q (q_num (1 : Int) rfl rfl (add64 (by decide) (by decide) (by decide))) rfl ?_
 refine mv_ ?_
 refine XL.nil ?_
 refine un (kq 1 (kq 32 kn)) ?_
 refine XR.step ?_
 refine XC.reg ?_
 refine XL.q (q_cmp true rfl rfl (ltT (by decide))) rfl ?_
 refine XL.fin (kq 1 (kq 32 (kq 33 kn))) ?_
 refine XC.seq ?_
 refine XC.condT rfl ?_
 refine XC.skip ?_
 refine nx (kq 1 (kq 32 kn)) ?_
 refine XC.seq ?_
 refine XC.block ?_
 refine XC.reg ?_
 refine mv_ (as_ ?_)
 refine XL.fin (kq 1 (kq 5 (kq 32 kn))) ?_
 refine XC.drawF [0, 1, 2, 3, 4, 5, 6, 7, 8, 9] [(0, 0), (1, 0), (2, 0), (3, 1), (4, 0), (5, 0), (6, 1), (7, 0), (8, 0), (9, 0), (10, 2)] (by kernel_rfl) (by kernel_rfl) fun hs => ?_
 refine XF.q hs rfl qm_ rfl ?_
 refine XF.q hs rfl (q_num (2 : Int) rfl rfl (add64 (by decide) (by decide) (by decide))) rfl ?_
 refine XF.q hs rfl (qi_ 2 28 5 1 2) rfl ?_
 refine XF.r hs rfl ql_ rfl ?_
 refine XF.q hs rfl qm_ rfl ?_
 refine XF.q hs rfl (qi_ 1 28 5 1 1) rfl ?_
 refine XF.r hs rfl ql_ rfl ?_
 refine XF.q hs rfl (q_shrD 51 2251799813685248 rfl rfl rfl rfl (by decide)) rfl ?_
 refine XF.q hs rfl (q_addM 18446744073709551616 rfl rfl rfl rfl rfl rfl) rfl ?_
 refine XF.q hs rfl (qi_ 2 28 5 1 2) rfl ?_
 refine XF.tl rfl rfl rfl (l_store rfl rfl rfl (by kernel_rfl) SetC.set UpC.upd ?_)
 refine XF.fin (kq 1 (kq 5 (kq 32 kn))) ?_
 refine XC.reg1 ?_
 refine mv_ ?_
 refine XL.q (qi_ 1 28 5 1 1) rfl ?_
 refine XL.q ql_ rfl ?_
 refine XL.q (q_andD 51 2251799813685248 rfl rfl rfl rfl rfl (by show _ < 18446744073709551616; first | assumption | exact Nat.mod_lt _ (by decide) | omega) (by decide)) rfl ?_
 refine XL.q (qi_ 1 28 5 1 1) rfl ?_
 refine XL.lo rfl (l_store rfl rfl rfl (by kernel_rfl) SetC.set UpC.upd ?_)
 refine XL.nil ?_
 refine nb ?_
 refine nx (kq 1 (kq 32 kn)) ?_
 refine XC.reg1 ?_
 refine XL.q (q_num (2 : Int) rfl rfl (add64 (by decide) (by decide) (by decide))) rfl ?_
 refine mv_ ?_
 refine XL.nil ?_
 refine un (kq 1 (kq 32 kn)) ?_
 refine XR.step ?_
 refine XC.reg ?_
 refine XL.q (q_cmp true rfl rfl (ltT (by decide))) rfl ?_
 refine XL.fin (kq 1 (kq 32 (kq 33 kn))) ?_
 refine XC.seq ?_
 refine XC.condT rfl ?_
 refine XC.skip ?_
 refine nx (kq 1 (kq 32 kn)) ?_
 refine XC.seq ?_
 refine XC.block ?_
 refine XC.reg ?_
 refine mv_ (as_ ?_)
 refine XL.fin (kq 1 (kq 5 (kq 32 kn))) ?_
 refine XC.drawF [0, 1, 2, 3, 4, 5, 6, 7, 8, 9] [(0, 0), (1, 0), (2, 0), (3, 1), (4, 0), (5, 0), (6, 1), (7, 0), (8, 0), (9, 0), (10, 2)] (by kernel_rfl) (by kernel_rfl) fun hs => ?_
 refine XF.q hs rfl qm_ rfl ?_
 refine XF.q hs rfl (q_num (3 : Int) rfl rfl (add64 (by decide) (by decide) (by decide))) rfl ?_
 refine XF.q hs rfl (qi_ 3 28 5 1 3) rfl ?_
 refine XF.r hs rfl ql_ rfl ?_
 refine XF.q hs rfl qm_ rfl ?_
 refine XF.q hs rfl (qi_ 2 28 5 1 2) rfl ?_
 refine XF.r hs rfl ql_ rfl ?_
 refine XF.q hs rfl (q_shrD 51 2251799813685248 rfl rfl rfl rfl (by decide)) rfl ?_
 refine XF.q hs rfl (q_addM 18446744073709551616 rfl rfl rfl rfl rfl rfl) rfl ?_
 refine XF.q hs rfl (qi_ 3 28 5 1 3) rfl ?_
 refine XF.tl rfl rfl rfl (l_store rfl rfl rfl (by kernel_rfl) SetC.set UpC.upd ?_)
 refine XF.fin (kq 1 (kq 5 (kq 32 kn))) ?_
 refine XC.reg1 ?_
 refine mv_ ?_
 refine XL.q (qi_ 2 28 5 1 2) rfl ?_
 refine XL.q ql_ rfl ?_
 refine XL.q (q_andD 51 2251799813685248 rfl rfl rfl rfl rfl (by show _ < 18446744073709551616; first | assumption | exact Nat.mod_lt _ (by decide) | omega) (by decide)) rfl ?_
 refine XL.q (qi_ 2 28 5 1 2) rfl ?_
 refine XL.lo rfl (l_store rfl rfl rfl (by kernel_rfl) SetC.set UpC.upd ?_)
 refine XL.nil ?_
 refine nb ?_
 refine nx (kq 1 (kq 32 kn)) ?_
 refine XC.reg1 ?_
 refine XL.q (q_num (3 : Int) rfl rfl (add64 (by decide) (by decide) (by decide))) rfl ?_
 refine mv_ ?_
 refine XL.nil ?_
 refine un (kq 1 (kq 32 kn)) ?_
 refine XR.step ?_
 refine XC.reg ?_
 refine XL.q (q_cmp true rfl rfl (ltT (by decide))) rfl ?_
 refine XL.fin (kq 1 (kq 32 (kq 33 kn))) ?_
 refine XC.seq ?_
 refine XC.condT rfl ?_
 refine XC.skip ?_
 refine nx (kq 1 (kq 32 kn)) ?_
 refine XC.seq ?_
 refine XC.block ?_
 refine XC.reg ?_
 refine mv_ (as_ ?_)
 refine XL.fin (kq 1 (kq 5 (kq 32 kn))) ?_
 refine XC.drawF [0, 1, 2, 3, 4, 5, 6, 7, 8, 9] [(0, 0), (1, 0), (2, 0), (3, 1), (4, 0), (5, 0), (6, 1), (7, 0), (8, 0), (9, 0), (10, 2)] (by kernel_rfl) (by kernel_rfl) fun hs => ?_
 refine XF.q hs rfl qm_ rfl ?_
 refine XF.q hs rfl (q_num (4 : Int) rfl rfl (add64 (by decide) (by decide) (by decide))) rfl ?_
 refine XF.q hs rfl (qi_ 4 28 5 1 4) rfl ?_
 refine XF.r hs rfl ql_ rfl ?_
 refine XF.q hs rfl qm_ rfl ?_
 refine XF.q hs rfl (qi_ 3 28 5 1 3) rfl ?_
 refine XF.r hs rfl ql_ rfl ?_
 refine XF.q hs rfl (q_shrD 51 2251799813685248 rfl rfl rfl rfl (by decide)) rfl ?_
 refine XF.q hs rfl (q_addM 18446744073709551616 rfl rfl rfl rfl rfl rfl) rfl ?_
 refine XF.q hs rfl (qi_ 4 28 5 1 4) rfl ?_
 refine XF.tl rfl rfl rfl (l_store rfl rfl rfl (by kernel_rfl) SetC.set UpC.upd ?_)
 refine XF.fin (kq 1 (kq 5 (kq 32 kn))) ?_
 refine XC.reg1 ?_
 refine mv_ ?_
 refine XL.q (qi_ 3 28 5 1 3) rfl ?_
 refine XL.q ql_ rfl ?_
 refine XL.q (q_andD 51 2251799813685248 rfl rfl rfl rfl rfl (by show _ < 18446744073709551616; first | assumption | exact Nat.mod_lt _ (by decide) | omega) (by decide)) rfl ?_
 refine XL.q (qi_ 3 28 5 1 3) rfl ?_
 refine XL.lo rfl (l_store rfl rfl rfl (by kernel_rfl) SetC.set UpC.upd ?_)
 refine XL.nil ?_
 refine nb ?_
 refine nx (kq 1 (kq 32 kn)) ?_
 refine XC.reg1 ?_
 refine XL.q (q_num (4 : Int) rfl rfl (add64 (by decide) (by decide) (by decide))) rfl ?_
 refine mv_ ?_
 refine XL.nil ?_
 refine un (kq 1 (kq 32 kn)) ?_
 refine XR.step ?_
 refine XC.reg ?_
 refine XL.q (q_cmp false rfl rfl (ltF (by decide))) rfl ?_
 refine XL.fin (kq 1 (kq 32 (kq 33 kn))) ?_
 refine XC.seq ?_
 refine XC.condF rfl ?_
 refine XC.exit ?_
 refine te ?_
 refine ue ?_
 refine be rfl ?_
 refine nx (kq 1 kn) ?_
 refine XC.reg ?_
 refine XL.q (qi_ 4 28 5 1 4) rfl ?_
 refine XL.q ql_ rfl ?_
 refine XL.q (q_andD 51 2251799813685248 rfl rfl rfl rfl rfl (by show _ < 18446744073709551616; first | assumption | exact Nat.mod_lt _ (by decide) | omega) (by decide)) rfl ?_
 refine XL.q (qi_ 4 28 5 1 4) rfl ?_
 refine XL.lo rfl (l_store rfl rfl rfl (by kernel_rfl) SetC.set UpC.upd ?_)
 refine XL.fin (kq 1 kn) ?_
 refine XC.reg ?_
 refine XL.lo rfl (l_makeN (e := 5) (k := .u8) (by_ := 1) 32 rfl rfl (by kernel_rfl) rfl rfl (by decide) (by decide) rfl fun b55 => ?_)
 obtain ⟨f0, f1, f2, f3, f4, g0, g1, g2, g3, g4, k0, k1, k2, k3, k4, hF⟩ := bytes_all ha5 hb5 hc5 hd5 hz5 hq
 rw [← g0, ← g1, ← g2, ← g3, ← g4]
 clear g0 g1 g2 g3 g4
 rw [hx5] at hF
 refine as_ ?_
 refine XL.fin (kq 1 (kq 6 kn)) ?_
 refine XC.seq ?_
 refine XC.reg ?_
 refine mv_ ?_
 refine XL.fin (kq 1 (kq 6 (kq 56 kn))) ?_
 refine XC.block ?_
 refine XC.fit (M' := [(b55, blk (nums .u8 (prts 8 32 (fv f0 f1 f2 f3 f4) 0)) 5), (b1, blk (nums .u64 [f0, f1, f2, f3, f4]) 152)]) (Fit.eq (by rw [prts_zero]; rfl)) (fun _ h => h) ?_
 have hN := fv_bit k0 k1 k2 k3 k4
 have hfl : [f0, f1, f2, f3, f4].length = 5 := rfl
 have hfb : ∀ x ∈ [f0, f1, f2, f3, f4], x < 2251799813685248 := by intro x hx; simp only [List.mem_cons, List.not_mem_nil, or_false] at hx; rcases hx with rfl | rfl | rfl | rfl | rfl <;> assumption
 generalize [f0, f1, f2, f3, f4] = fs at *
 rw [← hF]
 generalize fv f0 f1 f2 f3 f4 = X at *
 refine XC.loop (α := Nat) (fun i => [(1, .pointer (some ⟨b1, 0, none⟩)), (6, .slice (some ⟨b55, 0, none⟩) 32 32), (56, .int .i64 (i : Int))]) (fun i => [(b55, blk (nums .u8 (prts 8 32 X i)) 5), (b1, blk (nums .u64 fs) 152)]) (fun _ => []) (fun i => i ≤ 255) (fun i => 255 - i) 0 (by decide) (kq 1 (kq 6 (kq 56 kn))) .rfl (fun _ h => h) ?_
 rintro i hi
 refine XC.reg ?_
 refine XL.q (q_bin rfl rfl rfl) rfl ?_
 refine XL.fin (kq 1 (kq 6 (kq 56 (kq 57 kn)))) ?_
 refine XC.seq ?_
 refine XC.cond rfl (fun hc => ?_) (fun hc => ?_)
 ·
  have hlt : i < 255 := by simp at hc; omega
  have hbit := hN i hlt
  rw [← Nat.shiftRight_eq_div_pow] at hbit
  have hb2 : X / 2 ^ i % 2 < 2 := Nat.mod_lt _ (by decide)
  have hps := prts_succ (w := 8) (n := 32) (N := X) (i := i) (by decide) (by omega)
  have hpg := prts_get (w := 8) (n := 32) (N := X) (i := i) (j := i / 8) (by omega)
  have hpl := prt_lt 8 X i (i / 8)
  have hsm := shl_small (w := 8) hb2 (Nat.mod_lt i (by decide : 0 < 8))
  have hpb : fs.getD (i / 51) 0 < 2251799813685248 := getD_lt hfb (by decide)
  have hsr := Nat.shiftRight_le (fs.getD (i / 51) 0) (i % 51)
  rw [← hpg] at hps hpl
  generalize X / 2 ^ i % 2 = bt at *
  have hmo : bt <<< (i % 8) % 2 ^ IntKind.u8.bits = bt <<< (i % 8) := Nat.mod_eq_of_lt hsm
  have hto : IntKind.u8.wrap (bt : Int) = (bt : Int) := by rw [wrap8, Nat.mod_eq_of_lt (by omega)]
  refine XC.skip ?_
  refine nx (kq 1 (kq 6 (kq 56 kn))) ?_
  refine XC.seq ?_
  refine XC.block ?_
  refine XC.reg ?_
  refine mv_ (as_ ?_)
  refine XL.fin (kq 1 (kq 6 (kq 7 (kq 56 kn)))) ?_
  refine XC.drawF1 [0, 1, 2, 3, 4, 5, 6, 7, 8, 9, 10, 11, 12, 13, 14, 15, 16, 17, 18] [(0, 0), (1, 0), (2, 0), (3, 0), (4, 1), (5, 0), (6, 0), (7, 0), (8, 1), (9, 0), (10, 0), (11, 0), (12, 0), (13, 0), (14, 0), (15, 0), (16, 0), (17, 0), (18, 0), (19, 2)] (by kernel_rfl) (by kernel_rfl) fun hs => ?_
  refine XF.q hs rfl qm_ rfl ?_
  refine XF.q hs rfl qm_ rfl ?_
  refine XF.q hs rfl (q_quoD 8 rfl rfl rfl (by decide) (wrapI (by omega))) rfl ?_
  refine XF.q hs rfl (q_idxS (e := 5) (sz := 1) (i := i / 8) rfl rfl (by kernel_rfl) (by kernel_rfl) rfl (by omega)) rfl ?_
  refine XF.r hs rfl (q_ldN (i / 8) rfl (by kernel_rfl) At.mem (by omega) (by rw [prts_len]; omega)) rfl ?_
  refine XF.q hs rfl qm_ rfl ?_
  refine XF.q hs rfl (q_quoD 51 rfl rfl rfl (by decide) (wrapI (by omega))) rfl ?_
  refine XF.q hs rfl (q_idxA (e := 28) (n := 5) (sz := 1) (i := i / 51) rfl rfl (by kernel_rfl) (by kernel_rfl) rfl (by omega)) rfl ?_
  refine XF.r hs rfl (q_ldN (i / 51) rfl (by kernel_rfl) At.mem (by omega) (by omega)) rfl ?_
  refine XF.q hs rfl qm_ rfl ?_
  refine XF.q hs rfl (q_remD 51 rfl rfl rfl (by decide)) rfl ?_
  refine XF.q hs rfl (q_shrN (i % 51) rfl rfl rfl (by show _ ≤ 64; omega)) rfl ?_
  refine XF.q hs rfl (hbit ▸ q_andD 1 2 rfl rfl rfl rfl rfl (by show _ < 18446744073709551616; omega) (by decide)) rfl ?_
  refine XF.q hs rfl (q_convN bt rfl (by kernel_rfl) hto) rfl ?_
  refine XF.q hs rfl qm_ rfl ?_
  refine XF.q hs rfl (q_remD 8 rfl rfl rfl (by decide)) rfl ?_
  refine XF.q hs rfl (hmo ▸ q_shlN rfl (i % 8) rfl rfl rfl (by show _ ≤ 8; omega)) rfl ?_
  refine XF.q hs rfl (q_or rfl rfl rfl hpl hsm) rfl ?_
  refine XF.q hs rfl (q_idxS (e := 5) (sz := 1) (i := i / 8) rfl rfl (by kernel_rfl) (by kernel_rfl) rfl (by omega)) rfl ?_
  refine XF.tl rfl rfl rfl (l_stN (i / 8) rfl rfl (by kernel_rfl) (by omega) (by rw [prts_len]; omega) UpC.upd ?_)
  refine XF.nil ?_
  refine nb ?_
  refine nx (kq 1 (kq 6 (kq 56 kn))) ?_
  refine XC.reg1 ?_
  refine XL.q (q_num ((i + 1 : Nat) : Int) rfl rfl (add64 (by omega) (by omega) (by omega))) rfl ?_
  refine mv_ ?_
  refine XL.nil ?_
  exact rn (i + 1) (by omega) (by omega) (kq 1 (kq 6 (kq 56 kn))) (Fit.eq (by rw [hps])) (fun _ h => h)
 ·
  have hlt : i = 255 := by simp at hc; omega
  subst hlt
  refine XC.exit ?_
  refine te ?_
  refine re ?_
  refine be rfl ?_
  refine nx (kq 6 kn) ?_
  refine XC.reg ?_
  refine mv_ (as_ ?_)
  refine XL.fin (kq 2 kn) ?_
  refine XC.ret ?_
  exact ⟨_, [_], [], res1 rfl rfl, List.Sublist.cons_cons _ (List.nil_sublist _), by simp, rfl, Sl.fresh (by rw [nums_len, prts_len]) (by decide)⟩

end Go.Proofs.YtphcaiplgpmnnaaGreatDoor
/- The walks of package field: Same, Zero, Odd. -/
namespace Go.Proofs.YtphcaiplgpmnnaaGreatDoor
open Go.Px
theorem txt_prts {x y : Nat} (hx : x < p25) (hy : y < p25) : ((txt (prts 8 32 x 255)).toList == (txt (prts 8 32 y 255)).toList) = decide (x = y) := by
  by_cases h : x = y
  · subst h; simp
  · have : (txt (prts 8 32 x 255)).toList ≠ (txt (prts 8 32 y 255)).toList := by
      rw [ByteArray.toList_eq, ByteArray.toList_eq]
      intro e
      refine h (prts_inj hx hy (txt_inj (prts_lt x 255) (prts_lt y 255) ?_))
      have := congrArg List.toArray e
      simp only [Array.toArray_toList] at this
      unfold txt at this ⊢
      exact congrArg ByteArray.mk this
    rw [beq_false_of_ne this]; simp [h]

theorem fsame_spec (v u : Value) (x y : Nat) (hx : Fe v x) (hy : Fe u y) (A : Mem) : FnV Tryz.prog 141 [v, u] A (.bool (decide (x = y))) := by
 have hx0 := hx
 have hxl := hx.lt
 obtain ⟨a, b, c, d, e, rfl, -⟩ := hx
 have hy0 := hy
 have hyl := hy.lt
 obtain ⟨a2, b2, c2, d2, e2, rfl, -⟩ := hy
 refine FnX.enter (N := 12) Tryz.func141 rfl rfl rfl fun w => ?_
 refine XC.keep (kq 0 (kq 1 kn)) ?_
 refine XC.reg ?_
 refine XL.lo rfl (bx_ fun b2 => ?_)
 refine XL.lo rfl (bx_ fun b3 => ?_)
 refine as_ ?_
 refine XL.fin (kq 2 (kq 3 kn)) ?_
 refine XC.drawF [0, 1, 2, 3, 4, 5, 6, 7] [(0, 1), (3, 1), (1, 2), (2, 1), (4, 2), (5, 1), (6, 0), (7, 0)] (by kernel_rfl) (by kernel_rfl) fun hs => ?_
 refine XF.r hs rfl (qw_ 5) rfl ?_
 refine XF.r hs rfl (qw_ 5) rfl ?_
 refine XF.call rfl (aS rfl a0) (by kernel_rfl) (fbytes_spec _ _ hx0 _) rfl ?_
 rintro r1 M1 J1 ⟨rfl, h1⟩
 refine XF.r hs rfl (q_toStr (h1.rd fun _ h => by simp [h]) rfl (by kernel_rfl)) rfl ?_
 refine XF.call rfl (aS rfl a0) (by kernel_rfl) (fbytes_spec _ _ hy0 _) rfl ?_
 rintro r2 M2 J2 ⟨rfl, h2⟩
 refine XF.r hs rfl (q_toStr (h2.rd fun _ h => by simp [h]) rfl (by kernel_rfl)) rfl ?_
 refine XF.q hs rfl (q_strEq rfl rfl) rfl ?_
 refine XF.q hs rfl (q_assign rfl) rfl ?_
 refine XF.fin (kq 4 kn) ?_
 refine XC.ret ?_
 refine ⟨_, [], [], res1 rfl rfl, List.nil_sublist _, by simp, by rw [txt_prts hxl hyl], rfl, rfl⟩

theorem fzero_spec (v : Value) (x : Nat) (hx : Fe v x) (A : Mem) : FnV Tryz.prog 165 [v] A (.bool (decide (x = 0))) := by
 have hx0 := hx
 have hxl := hx.lt
 obtain ⟨a, b, c, d, e, rfl, -⟩ := hx
 refine FnX.enter (N := 6) Tryz.func165 rfl rfl rfl fun w => ?_
 refine XC.keep (kq 0 kn) ?_
 refine XC.reg ?_
 refine XL.lo rfl (bx_ fun b1 => ?_)
 refine as_ ?_
 refine XL.fin (kq 1 kn) ?_
 refine XC.reg ?_
 refine XL.q (qw_ 5) rfl ?_
 refine XL.q (q_build (place := fun i => some (i * 1, 1)) (z := [.int .u64 0, .int .u64 0, .int .u64 0, .int .u64 0, .int .u64 0]) (fun _ => by kernel_rfl) e0 bd0) rfl ?_
 refine XL.callV (aS rfl (aS rfl a0)) (by kernel_rfl) (fsame_spec _ _ _ _ hx0 fe_zero _) rfl ?_
 refine as_ ?_
 refine XL.fin (kq 2 kn) ?_
 refine XC.ret ?_
 refine ⟨_, [], [], res1 rfl rfl, List.nil_sublist _, by simp, rfl, rfl, rfl⟩

theorem fodd_spec (v : Value) (x : Nat) (hx : Fe v x) (A : Mem) : FnV Tryz.prog 136 [v] A (.bool (decide (x % 2 = 1))) := by
 have hx0 := hx
 have hxl := hx.lt
 obtain ⟨a, b, c, d, e, rfl, -⟩ := hx
 refine FnX.enter (N := 9) Tryz.func136 rfl rfl rfl fun w => ?_
 refine XC.keep (kq 0 kn) ?_
 refine XC.reg ?_
 refine XL.lo rfl (bx_ fun b1 => ?_)
 refine as_ ?_
 refine XL.fin (kq 1 kn) ?_
 refine XC.reg ?_
 refine XL.q (qw_ 5) rfl ?_
 refine XL.call (aS rfl a0) (by kernel_rfl) (fbytes_spec _ _ hx0 _) rfl ?_
 rintro r1 M1 J1 ⟨rfl, h1⟩
 refine XL.q (q_atV (h1.rd fun _ h => h) rfl rfl (by kernel_rfl) 0 rfl (by decide)) rfl ?_
 refine XL.q (q_ldVN (h1.rd fun _ h => by simp [h]) rfl (by kernel_rfl) (by decide)) rfl ?_
 refine XL.q (q_andD 1 2 rfl rfl rfl rfl rfl (getD_lt (prts_lt x 255) (by decide)) (by decide)) rfl ?_
 refine XL.q (q_bin rfl rfl rfl) rfl ?_
 refine as_ ?_
 refine XL.fin (kq 2 kn) ?_
 refine XC.ret ?_
 refine ⟨_, [], [], res1 rfl rfl, List.nil_sublist _, by simp, ?_, rfl, rfl⟩
 rw [prts_get (by decide), prt]
 simp only [Nat.reducePow, Nat.reduceMul, Nat.div_one]
 congr 1
 unfold p25 at hxl
 have e : x % 57896044618658097711785492504343953926634992332820282019728792003956564819968 % 256 % 2 = x % 2 := by omega
 rw [e]
 rcases Nat.mod_two_eq_zero_or_one x with h | h <;> rw [h] <;> rfl

end Go.Proofs.YtphcaiplgpmnnaaGreatDoor
/- The walks of package field: Power. -/
namespace Go.Proofs.YtphcaiplgpmnnaaGreatDoor
open Go.Px
/-- x to the power of the number N's bits from i on, modulo p. -/
def pwE (x N i : Nat) : Nat := x ^ (N / 2 ^ i) % p25
theorem pwE_step (x N i : Nat) : pwE x N i = (if N / 2 ^ i % 2 = 1 then pwE x N (i + 1) * pwE x N (i + 1) % p25 * (x % p25) % p25 else pwE x N (i + 1) * pwE x N (i + 1) % p25) := by
  have h : N / 2 ^ i = 2 * (N / 2 ^ (i + 1)) + N / 2 ^ i % 2 := by
    rw [Nat.pow_succ, ← Nat.div_div_eq_div_mul]; omega
  unfold pwE
  have hb : N / 2 ^ i % 2 = 0 ∨ N / 2 ^ i % 2 = 1 := by omega
  rcases hb with hb | hb
  · rw [if_neg (by omega)]
    conv => lhs; rw [h, hb, Nat.add_zero, Nat.two_mul, Nat.pow_add, Nat.mul_mod]
  · rw [if_pos hb]
    conv => lhs; rw [h, hb, Nat.two_mul, Nat.pow_add, Nat.pow_add, Nat.pow_one, Nat.mul_mod, Nat.mul_mod (x ^ _)]

theorem fpower_spec (v : Value) (x : Nat) (hx : Fe v x) (es : List Nat) (hes : es.length = 32) (he256 : ∀ y ∈ es, y < 256) (A : Mem) : FnX Tryz.prog 159 [v, .agg (nums .u8 es).toArray] [] A fun r M J => M = [] ∧ J = [] ∧ Fe r (x ^ bv es % p25) := by
 have hx0 := hx
 have hxl := hx.lt
 obtain ⟨a, b, c, d, e, rfl, -⟩ := hx
 refine FnX.enter (N := 27) Tryz.func159 rfl rfl rfl fun w => ?_
 refine XC.keep (kq 0 (kq 1 kn)) ?_
 refine XC.reg ?_
 refine XL.lo rfl (bx_ fun b2 => ?_)
 refine XL.lo rfl (bx_ fun b3 => ?_)
 refine XL.lo rfl (l_alloc (cs := [.int .u64 0, .int .u64 0, .int .u64 0, .int .u64 0, .int .u64 0]) (by kernel_rfl) rfl fun b4 => ?_)
 refine XL.fin (kq 2 (kq 3 (kq 4 kn))) ?_
 refine XC.reg ?_
 refine XL.call (aS rfl a0) (by kernel_rfl) (fnum_spec 1 (by decide) _) rfl ?_
 rintro r1 M1 J1 ⟨rfl, rfl, hr1⟩
 have hr10 := hr1
 obtain ⟨o0, o1, o2, o3, o4, rfl, -⟩ := hr1
 refine XL.lo rfl (l_alloc (cs := [.int .u64 0, .int .u64 0, .int .u64 0, .int .u64 0, .int .u64 0]) (by kernel_rfl) rfl fun b5 => ?_)
 refine XL.lo rfl (l_storeW rfl rfl Cel.cel (by kernel_rfl) (lnS (lnS (lnS (lnS (lnS (ln0)))))) (allS rfl (allS rfl (allS rfl (allS rfl (allS rfl (all0)))))) UpC.upd ?_)
 refine XL.fin (kq 2 (kq 3 (kq 4 (kq 5 kn)))) ?_
 refine XC.seq ?_
 refine XC.reg ?_
 refine as_ ?_
 refine XL.fin (kq 2 (kq 3 (kq 4 (kq 5 (kq 6 kn))))) ?_
 refine XC.block ?_
 refine XC.loop (α := Nat × Nat × Nat × Nat × Nat × Nat) (fun y => [(2, .pointer (some ⟨b2, 0, none⟩)), (3, .pointer (some ⟨b3, 0, none⟩)), (4, .pointer (some ⟨b4, 0, none⟩)), (5, .pointer (some ⟨b5, 0, none⟩)), (6, .int .i64 ((y.1 : Int) - 1))]) (fun y => [(b5, blk [.int .u64 (y.2.1 : Int), .int .u64 (y.2.2.1 : Int), .int .u64 (y.2.2.2.1 : Int), .int .u64 (y.2.2.2.2.1 : Int), .int .u64 (y.2.2.2.2.2 : Int)] 152), (b4, blk [.int .u64 0, .int .u64 0, .int .u64 0, .int .u64 0, .int .u64 0] 152), (b3, blk (nums .u8 es) 157), (b2, blk [.int .u64 (a : Int), .int .u64 (b : Int), .int .u64 (c : Int), .int .u64 (d : Int), .int .u64 (e : Int)] 152)]) (fun _ => []) (fun y => y.1 ≤ 256 ∧ Fe (el y.2.1 y.2.2.1 y.2.2.2.1 y.2.2.2.2.1 y.2.2.2.2.2) (pwE x (bv es) y.1)) (fun y => y.1) (256, o0, o1, o2, o3, o4) ⟨Nat.le_refl _, by rw [show pwE x (bv es) 256 = 1 by unfold pwE; rw [Nat.div_eq_of_lt (by have := bv_lt he256; rw [hes] at this; exact this)]; rfl]; exact hr10⟩ (kq 2 (kq 3 (kq 4 (kq 5 (kq 6 kn))))) .rfl (fun _ h => h) ?_
 rintro ⟨j, o0, o1, o2, o3, o4⟩ ⟨hj, ho⟩
 dsimp only at hj ho ⊢
 refine XC.seq ?_
 refine XC.reg ?_
 refine mv_ ?_
 refine XL.q (q_bin rfl rfl rfl) rfl ?_
 refine XL.fin (kq 2 (kq 3 (kq 4 (kq 5 (kq 6 (kq 9 kn)))))) ?_
 refine XC.cond rfl (fun hc => ?_) (fun hc => ?_)
 ·
  have hj0 : 0 < j := by simp at hc; omega
  obtain ⟨i, rfl⟩ : ∃ i, j = i + 1 := ⟨j - 1, by omega⟩
  have ei : ((i + 1 : Nat) : Int) - 1 = (i : Int) := by omega
  rw [ei]
  have hps := pwE_step x (bv es) i
  have hbit := bv_bit he256 i
  rw [← Nat.shiftRight_eq_div_pow] at hbit
  have hpb : es.getD (i / 8) 0 < 256 := getD_lt he256 (by decide)
  have hsr := Nat.shiftRight_le (es.getD (i / 8) 0) (i % 8)
  have hbt : bv es / 2 ^ i % 2 < 2 := Nat.mod_lt _ (by decide)
  generalize bv es / 2 ^ i % 2 = bt at *
  refine XC.skip ?_
  refine nx (kq 2 (kq 3 (kq 4 (kq 5 (kq 6 kn))))) ?_
  refine XC.seq ?_
  refine XC.block ?_
  refine XC.reg ?_
  refine XL.q (qw_ 5) rfl ?_
  refine XL.call (aS rfl a0) (by kernel_rfl) (fsquare_spec _ _ ho _) rfl ?_
  rintro r2 M2 J2 ⟨rfl, rfl, hr2⟩
  have hr20 := hr2
  obtain ⟨s0, s1, s2, s3, s4, rfl, -⟩ := hr2
  refine XL.lo rfl (l_storeW rfl rfl Cel.cel (by kernel_rfl) (lnS (lnS (lnS (lnS (lnS (ln0)))))) (allS rfl (allS rfl (allS rfl (allS rfl (allS rfl (all0)))))) UpC.upd ?_)
  refine XL.fin (kq 2 (kq 3 (kq 4 (kq 5 (kq 6 kn))))) ?_
  refine XC.reg ?_
  refine mv_ ?_
  refine XL.q (q_quoD 8 rfl rfl rfl (by decide) (wrapI (by omega))) rfl ?_
  refine XL.q (q_idxA (e := 5) (n := 32) (sz := 1) (i := i / 8) rfl rfl (by kernel_rfl) (by kernel_rfl) rfl (by omega)) rfl ?_
  refine XL.q (q_ldN (i / 8) rfl (by kernel_rfl) At.mem (by omega) (by omega)) rfl ?_
  refine mv_ ?_
  refine XL.q (q_remD 8 rfl rfl rfl (by decide)) rfl ?_
  refine XL.q (q_shrN (i % 8) rfl rfl rfl (by show _ ≤ 8; omega)) rfl ?_
  refine XL.q (hbit ▸ q_andD 1 2 rfl rfl rfl rfl rfl (by show _ < 256; omega) (by decide)) rfl ?_
  refine XL.q (q_bin rfl rfl rfl) rfl ?_
  refine XL.fin (kq 2 (kq 3 (kq 4 (kq 5 (kq 6 (kq 22 kn)))))) ?_
  refine XC.cond rfl (fun hc => ?_) (fun hc => ?_)
  ·
   have hb1 : bt = 1 := by simp at hc; omega
   rw [if_pos hb1] at hps
   refine XC.reg1 ?_
   refine XL.q (qw_ 5) rfl ?_
   refine XL.q (qw_ 5) rfl ?_
   refine XL.call (aS rfl (aS rfl a0)) (by kernel_rfl) (fmul_spec _ _ _ _ hr20 hx0 _) rfl ?_
   rintro r3 M3 J3 ⟨rfl, rfl, hr3⟩
   rw [Nat.mod_eq_of_lt hxl] at hps
   rw [← hps] at hr3
   have hr30 := hr3
   obtain ⟨t0, t1, t2, t3, t4, rfl, -⟩ := hr3
   refine XL.lo rfl (l_storeW rfl rfl Cel.cel (by kernel_rfl) (lnS (lnS (lnS (lnS (lnS (ln0)))))) (allS rfl (allS rfl (allS rfl (allS rfl (allS rfl (all0)))))) UpC.upd ?_)
   refine XL.nil ?_
   refine nb ?_
   refine nx (kq 2 (kq 3 (kq 4 (kq 5 (kq 6 kn))))) ?_
   refine XC.reg1 ?_
   refine mv_ ?_
   refine XL.q (q_num ((i : Int) - 1) rfl rfl (sub64 rfl (by omega) (by omega))) rfl ?_
   refine as_ ?_
   refine XL.nil ?_
   exact rn (i, t0, t1, t2, t3, t4) ⟨by dsimp only; omega, hr30⟩ (by dsimp only; omega) (kq 2 (kq 3 (kq 4 (kq 5 (kq 6 kn))))) .rfl (fun _ h => h)
  ·
   have hb1 : ¬ bt = 1 := by simp at hc; omega
   rw [if_neg hb1] at hps
   refine XC.skip ?_
   refine nb ?_
   refine nx (kq 2 (kq 3 (kq 4 (kq 5 (kq 6 kn))))) ?_
   refine XC.reg1 ?_
   refine mv_ ?_
   refine XL.q (q_num ((i : Int) - 1) rfl rfl (sub64 rfl (by omega) (by omega))) rfl ?_
   refine as_ ?_
   refine XL.nil ?_
   exact rn (i, s0, s1, s2, s3, s4) ⟨by dsimp only; omega, by dsimp only; rw [hps]; exact hr20⟩ (by dsimp only; omega) (kq 2 (kq 3 (kq 4 (kq 5 (kq 6 kn))))) .rfl (fun _ h => h)
 ·
  have hj0 : j = 0 := by simp at hc; omega
  subst hj0
  refine XC.exit ?_
  refine te ?_
  refine re ?_
  refine be rfl ?_
  refine nx (kq 4 (kq 5 kn)) ?_
  refine XC.reg ?_
  refine XL.q (qw_ 5) rfl ?_
  refine XL.lo rfl (l_storeW rfl rfl Cel.cel (by kernel_rfl) (lnS (lnS (lnS (lnS (lnS (ln0)))))) (allS rfl (allS rfl (allS rfl (allS rfl (allS rfl (all0)))))) UpC.upd ?_)
  refine XL.fin (kq 4 kn) ?_
  refine XC.ret ?_
  refine ⟨_, [], [], resC rfl rfl (by kernel_rfl) At.mem (by rfl), List.nil_sublist _, by simp, rfl, rfl, ?_⟩
  have : pwE x (bv es) 0 = x ^ bv es % p25 := by unfold pwE; rw [Nat.pow_zero, Nat.div_one]
  rw [← this]; exact ho

end Go.Proofs.YtphcaiplgpmnnaaGreatDoor
/- The walks of package field: near, Inv, Root. -/
namespace Go.Proofs.YtphcaiplgpmnnaaGreatDoor
open Go.Px
theorem ones_bit {n i : Nat} (h : i < n) : (2 ^ n - 1) / 2 ^ i % 2 = 1 := by
  have := Nat.testBit_two_pow_sub_one n i
  rw [Nat.testBit_eq_decide_div_mod_eq] at this
  simpa [h] using this
theorem prts_head {n : Nat} (h : 8 ≤ n) : (prts 8 32 (2 ^ n - 1) n).getD 0 0 = 255 := by
  rw [prts_get (by decide), prt, Nat.mul_zero, Nat.pow_zero, Nat.div_one]
  obtain ⟨m, rfl⟩ : ∃ m, n = m + 8 := ⟨n - 8, by omega⟩
  have h1 := Nat.two_pow_pos m
  have e : (2 ^ (m + 8) - 1) % 2 ^ (m + 8) = 2 ^ (m + 8) - 1 := Nat.mod_eq_of_lt (Nat.sub_lt (Nat.two_pow_pos _) (by decide))
  rw [e, Nat.pow_add]
  simp only [Nat.reducePow]
  omega
theorem bv_set0 {p : List Nat} (x : Nat) (h : 0 < p.length) : bv (p.set 0 x) + p.getD 0 0 = bv p + x := by
  cases p with
  | nil => simp at h
  | cons b r => simp [bv]; omega
theorem bv_prts_n (N n : Nat) (h : n ≤ 256) : bv (prts 8 32 N n) = N % 2 ^ n := by
  unfold prts prt
  rw [bv_digits, Nat.mod_eq_of_lt]
  exact Nat.lt_of_lt_of_le (Nat.mod_lt _ (Nat.two_pow_pos _)) (Nat.pow_le_pow_right (by decide) (by omega))

theorem near_spec (n d : Nat) (hn : 8 ≤ n) (hn2 : n ≤ 256) (hd : 1 < d) (hd2 : d ≤ 256) (A : Mem) : FnX Tryz.prog 160 [.int .i64 (n : Int), .int .u16 (d : Int)] [] A fun r M J => M = [] ∧ J = [] ∧ ∃ es : List Nat, r = .agg (nums .u8 es).toArray ∧ es.length = 32 ∧ (∀ y ∈ es, y < 256) ∧ bv es = 2 ^ n - d := by
  refine FnX.enter (N := 47) Tryz.func160 rfl rfl rfl fun w => ?_
  refine XC.keep (kq 0 (kq 1 kn)) ?_
  refine XC.reg ?_
  refine XL.lo rfl (l_alloc (cs := [.int .u8 0, .int .u8 0, .int .u8 0, .int .u8 0, .int .u8 0, .int .u8 0, .int .u8 0, .int .u8 0, .int .u8 0, .int .u8 0, .int .u8 0, .int .u8 0, .int .u8 0, .int .u8 0, .int .u8 0, .int .u8 0, .int .u8 0, .int .u8 0, .int .u8 0, .int .u8 0, .int .u8 0, .int .u8 0, .int .u8 0, .int .u8 0, .int .u8 0, .int .u8 0, .int .u8 0, .int .u8 0, .int .u8 0, .int .u8 0, .int .u8 0, .int .u8 0]) (by kernel_rfl) rfl fun b4 => ?_)
  refine XL.fin (kq 0 (kq 1 (kq 4 kn))) ?_
  refine XC.reg ?_
  refine XL.lo rfl (l_alloc (cs := [.int .u8 0, .int .u8 0, .int .u8 0, .int .u8 0, .int .u8 0, .int .u8 0, .int .u8 0, .int .u8 0, .int .u8 0, .int .u8 0, .int .u8 0, .int .u8 0, .int .u8 0, .int .u8 0, .int .u8 0, .int .u8 0, .int .u8 0, .int .u8 0, .int .u8 0, .int .u8 0, .int .u8 0, .int .u8 0, .int .u8 0, .int .u8 0, .int .u8 0, .int .u8 0, .int .u8 0, .int .u8 0, .int .u8 0, .int .u8 0, .int .u8 0, .int .u8 0]) (by kernel_rfl) rfl fun b5 => ?_)
  refine XL.fin (kq 0 (kq 1 (kq 4 (kq 5 kn)))) ?_
  refine XC.seq ?_
  refine XC.reg ?_
  refine mv_ (mv_ ?_)
  refine XL.fin (kq 1 (kq 4 (kq 5 (kq 9 (kq 10 kn))))) ?_
  refine XC.block ?_
  refine XC.fit (M' := [(b5, blk (nums .u8 (prts 8 32 (2 ^ n - 1) 0)) 157), (b4, blk [.int .u8 0, .int .u8 0, .int .u8 0, .int .u8 0, .int .u8 0, .int .u8 0, .int .u8 0, .int .u8 0, .int .u8 0, .int .u8 0, .int .u8 0, .int .u8 0, .int .u8 0, .int .u8 0, .int .u8 0, .int .u8 0, .int .u8 0, .int .u8 0, .int .u8 0, .int .u8 0, .int .u8 0, .int .u8 0, .int .u8 0, .int .u8 0, .int .u8 0, .int .u8 0, .int .u8 0, .int .u8 0, .int .u8 0, .int .u8 0, .int .u8 0, .int .u8 0] 157)]) (Fit.eq (by rw [prts_zero]; rfl)) (fun _ h => h) ?_
  refine XC.loop (α := Nat) (fun i => [(1, .int .u16 (d : Int)), (4, .pointer (some ⟨b4, 0, none⟩)), (5, .pointer (some ⟨b5, 0, none⟩)), (9, .int .i64 (n : Int)), (10, .int .i64 (i : Int))]) (fun i => [(b5, blk (nums .u8 (prts 8 32 (2 ^ n - 1) i)) 157), (b4, blk [.int .u8 0, .int .u8 0, .int .u8 0, .int .u8 0, .int .u8 0, .int .u8 0, .int .u8 0, .int .u8 0, .int .u8 0, .int .u8 0, .int .u8 0, .int .u8 0, .int .u8 0, .int .u8 0, .int .u8 0, .int .u8 0, .int .u8 0, .int .u8 0, .int .u8 0, .int .u8 0, .int .u8 0, .int .u8 0, .int .u8 0, .int .u8 0, .int .u8 0, .int .u8 0, .int .u8 0, .int .u8 0, .int .u8 0, .int .u8 0, .int .u8 0, .int .u8 0] 157)]) (fun _ => []) (fun i => i ≤ n) (fun i => n - i) 0 (Nat.zero_le _) (kq 1 (kq 4 (kq 5 (kq 9 (kq 10 kn))))) .rfl (fun _ h => h) ?_
  rintro i hi
  refine XC.reg ?_
  refine XL.q (q_bin rfl rfl rfl) rfl ?_
  refine XL.fin (kq 1 (kq 4 (kq 5 (kq 9 (kq 10 (kq 11 kn)))))) ?_
  refine XC.seq ?_
  refine XC.cond rfl (fun hc => ?_) (fun hc => ?_)
  ·
    have hlt : i < n := by simp at hc; omega
    have hps := prts_succ (w := 8) (n := 32) (N := 2 ^ n - 1) (i := i) (by decide) (by omega)
    have hpg := prts_get (w := 8) (n := 32) (N := 2 ^ n - 1) (i := i) (j := i / 8) (by omega)
    have hpl := prt_lt 8 (2 ^ n - 1) i (i / 8)
    rw [ones_bit hlt] at hps
    rw [← hpg] at hps hpl
    have hsm := shl_small (b := 1) (w := 8) (by decide) (Nat.mod_lt i (by decide : 0 < 8))
    have hmo : 1 <<< (i % 8) % 2 ^ IntKind.u8.bits = 1 <<< (i % 8) := Nat.mod_eq_of_lt hsm
    refine XC.skip ?_
    refine nx (kq 1 (kq 4 (kq 5 (kq 9 (kq 10 kn))))) ?_
    refine XC.seq ?_
    refine XC.block ?_
    refine XC.reg ?_
    refine mv_ (as_ ?_)
    refine XL.fin (kq 1 (kq 4 (kq 5 (kq 6 (kq 9 (kq 10 kn)))))) ?_
    refine XC.drawF1 [0, 1, 2, 3, 4, 5, 6, 7, 8] [(0, 0), (1, 0), (2, 0), (3, 1), (4, 0), (5, 0), (6, 0), (7, 0), (8, 0), (9, 2)] (by kernel_rfl) (by kernel_rfl) fun hs => ?_
    refine XF.q hs rfl qm_ rfl ?_
    refine XF.q hs rfl (q_quoD 8 rfl rfl rfl (by decide) (wrapI (by omega))) rfl ?_
    refine XF.q hs rfl (q_idxA (e := 5) (n := 32) (sz := 1) (i := i / 8) rfl rfl (by kernel_rfl) (by kernel_rfl) rfl (by omega)) rfl ?_
    refine XF.r hs rfl (q_ldN (i / 8) rfl (by kernel_rfl) At.mem (by omega) (by rw [prts_len]; omega)) rfl ?_
    refine XF.q hs rfl qm_ rfl ?_
    refine XF.q hs rfl (q_remD 8 rfl rfl rfl (by decide)) rfl ?_
    refine XF.q hs rfl (hmo ▸ q_shlN (a := 1) rfl (i % 8) rfl rfl rfl (by show _ ≤ 8; omega)) rfl ?_
    refine XF.q hs rfl (q_or rfl rfl rfl hpl hsm) rfl ?_
    refine XF.q hs rfl (q_idxA (e := 5) (n := 32) (sz := 1) (i := i / 8) rfl rfl (by kernel_rfl) (by kernel_rfl) rfl (by omega)) rfl ?_
    refine XF.tl rfl rfl rfl (l_stN (i / 8) rfl rfl (by kernel_rfl) (by omega) (by rw [prts_len]; omega) UpC.upd ?_)
    refine XF.nil ?_
    refine nb ?_
    refine nx (kq 1 (kq 4 (kq 5 (kq 9 (kq 10 kn))))) ?_
    refine XC.reg1 ?_
    refine XL.q (q_num ((i + 1 : Nat) : Int) rfl rfl (add64 (by omega) (by omega) (by omega))) rfl ?_
    refine mv_ ?_
    refine XL.nil ?_
    exact rn (i + 1) (by omega) (by omega) (kq 1 (kq 4 (kq 5 (kq 9 (kq 10 kn))))) (Fit.eq (by rw [hps])) (fun _ h => h)
  ·
    have hlt : i = n := by simp at hc; omega
    subst hlt
    refine XC.exit ?_
    refine te ?_
    refine re ?_
    refine be rfl ?_
    refine nx (kq 1 (kq 4 (kq 5 kn))) ?_
    have hhd := prts_head (n := i) (by omega)
    have hbn := bv_prts_n (2 ^ i - 1) i (by omega)
    have hpl := prts_len 8 32 (2 ^ i - 1) i
    have hpw : 256 ≤ 2 ^ i := (show 256 = 2 ^ 8 from rfl) ▸ Nat.pow_le_pow_right (by decide) (by omega)
    refine XC.reg ?_
    refine mv_ ?_
    refine XL.q (q_subS 65536 (b := 1) rfl rfl rfl rfl rfl rfl (by omega) (by omega)) rfl ?_
    refine as_ ?_
    refine XL.fin (kq 1 (kq 4 (kq 5 kn))) ?_
    refine XC.seq ?_
    refine XC.reg ?_
    refine as_ ?_
    refine XL.fin (kq 1 (kq 4 (kq 5 (kq 7 kn)))) ?_
    refine XC.block ?_
    refine XC.rounds 3 ?_
    refine XR.step ?_
    refine XC.seq ?_
    refine XC.reg ?_
    refine mv_ ?_
    refine XL.q (q_cmp true rfl rfl (gtT (by omega))) rfl ?_
    refine XL.fin (kq 1 (kq 4 (kq 5 (kq 7 (kq 26 kn))))) ?_
    refine XC.condT rfl ?_
    refine XC.skip ?_
    refine nx (kq 1 (kq 4 (kq 5 (kq 7 kn)))) ?_
    refine XC.seq ?_
    refine XC.block ?_
    refine XC.reg ?_
    refine mv_ ?_
    refine XL.q (qi_ 0 5 32 1 0) rfl ?_
    refine XL.q (hhd ▸ q_ldN 0 rfl (by kernel_rfl) At.mem rfl (by omega)) rfl ?_
    refine XL.q (q_convN (k' := .u16) 255 rfl (by kernel_rfl) (by decide)) rfl ?_
    refine mv_ ?_
    refine XL.q (q_andD 8 256 rfl rfl rfl rfl rfl (by show _ < 65536; first | assumption | exact Nat.mod_lt _ (by decide) | omega) (by decide)) rfl ?_
    refine XL.q (q_subS 65536 (a := 255) rfl rfl rfl rfl rfl rfl (by decide) (by omega)) rfl ?_
    refine as_ ?_
    refine XL.fin (kq 1 (kq 4 (kq 5 (kq 7 (kq 8 kn))))) ?_
    refine XC.reg ?_
    refine mv_ (mv_ ?_)
    refine XL.q (q_to8 rfl (by kernel_rfl)) rfl ?_
    refine XL.q (qi_ 0 5 32 1 0) rfl ?_
    refine XL.lo rfl (l_stN 0 rfl rfl (by kernel_rfl) rfl (by omega) UpC.upd ?_)
    refine XL.fin (kq 1 (kq 4 (kq 5 (kq 7 (kq 8 kn))))) ?_
    refine XC.reg ?_
    refine mv_ ?_
    refine XL.q (q_shrD 8 256 rfl rfl rfl rfl (by decide)) rfl ?_
    refine as_ ?_
    refine XL.fin (kq 1 (kq 4 (kq 5 (kq 7 (kq 8 kn))))) ?_
    refine XC.reg ?_
    refine mv_ ?_
    refine XL.q (q_cmp false rfl rfl (gtF (by omega))) rfl ?_
    refine XL.fin (kq 1 (kq 4 (kq 5 (kq 7 (kq 43 kn))))) ?_
    refine XC.condF rfl ?_
    refine XC.skip ?_
    refine nb ?_
    refine nx (kq 1 (kq 4 (kq 5 (kq 7 kn)))) ?_
    refine XC.reg1 ?_
    refine mv_ ?_
    refine XL.q (q_num (1 : Int) rfl rfl (add64 (by decide) (by decide) (by decide))) rfl ?_
    refine as_ ?_
    refine XL.nil ?_
    refine un (kq 1 (kq 4 (kq 5 (kq 7 kn)))) ?_
    refine XR.step ?_
    refine XC.seq ?_
    refine XC.reg ?_
    refine mv_ ?_
    refine XL.q (q_cmp false rfl rfl (gtF (by omega))) rfl ?_
    refine XL.fin (kq 1 (kq 4 (kq 5 (kq 7 (kq 26 kn))))) ?_
    refine XC.condF rfl ?_
    refine XC.exit ?_
    refine te ?_
    refine ue ?_
    refine be rfl ?_
    refine nx (kq 4 (kq 5 kn)) ?_
    refine XC.reg ?_
    refine XL.q (q_loadW (n := 32) (cs := nums .u8 ((prts 8 32 (2 ^ i - 1) i).set 0 ((255 - (d - 1) % 256) % 256))) rfl (by kernel_rfl) At.mem (by rw [nums_len, List.length_set, hpl])) rfl ?_
    refine XL.lo rfl (l_storeW (vs := nums .u8 ((prts 8 32 (2 ^ i - 1) i).set 0 ((255 - (d - 1) % 256) % 256))) rfl rfl rfl (by rw [nums_len, List.length_set, hpl]; kernel_rfl) (by rw [nums_len, List.length_set, hpl]; rfl) nums_one UpC.upd ?_)
    refine XL.fin (kq 4 kn) ?_
    refine XC.ret ?_
    refine ⟨_, [], [], resC rfl rfl (by kernel_rfl) At.mem (by rw [nums_len, List.length_set, hpl]), List.nil_sublist _, by simp, rfl, rfl, _, rfl, by rw [List.length_set, hpl], ?_, ?_⟩
    · intro y hy
      rcases List.mem_or_eq_of_mem_set hy with h | rfl
      · exact prts_lt _ _ y h
      · exact Nat.mod_lt _ (by decide)
    · have h0 := bv_set0 (p := prts 8 32 (2 ^ i - 1) i) ((255 - (d - 1) % 256) % 256) (by omega)
      rw [hhd, hbn, Nat.mod_eq_of_lt (a := 2 ^ i - 1) (by omega)] at h0
      omega

theorem finv_spec (v : Value) (x : Nat) (hx : Fe v x) (A : Mem) : FnX Tryz.prog 134 [v] [] A fun r M J => M = [] ∧ J = [] ∧ ∃ n, n + 1 = p25 - 1 ∧ Fe r (x ^ n % p25) := by
 have hx0 := hx
 obtain ⟨a, b, c, d, e, rfl, -⟩ := hx
 refine FnX.enter (N := 6) Tryz.func134 rfl rfl rfl fun w => ?_
 refine XC.keep (kq 0 kn) ?_
 refine XC.reg ?_
 refine XL.lo rfl (bx_ fun b1 => ?_)
 refine XL.lo rfl (l_alloc (cs := [.int .u64 0, .int .u64 0, .int .u64 0, .int .u64 0, .int .u64 0]) (by kernel_rfl) rfl fun b2 => ?_)
 refine XL.fin (kq 1 (kq 2 kn)) ?_
 refine XC.drawF [0, 1, 2] [(0, 1), (1, 2), (2, 2), (3, 2)] (by kernel_rfl) (by kernel_rfl) fun hs => ?_
 refine XF.r hs rfl (qw_ 5) rfl ?_
 refine XF.call rfl (aS rfl (aS rfl a0)) (by kernel_rfl) (near_spec 255 21 (by decide) (by decide) (by decide) (by decide) _) rfl ?_
 rintro rn1 Mn Jn ⟨rfl, rfl, es, rfl, hel, he256, hbv⟩
 refine XF.call rfl (aS rfl (aS rfl a0)) (by kernel_rfl) (fpower_spec _ _ hx0 es hel he256 _) rfl ?_
 rintro r1 M1 J1 ⟨rfl, rfl, hr⟩
 have hbv1 : bv es + 1 = p25 - 1 := by rw [hbv]; decide
 have hr0 := hr
 obtain ⟨a1, b1, c1, d1, e1, rfl, -⟩ := hr
 refine XF.tl rfl rfl rfl (l_storeW rfl rfl Cel.cel (by kernel_rfl) (lnS (lnS (lnS (lnS (lnS (ln0)))))) (allS rfl (allS rfl (allS rfl (allS rfl (allS rfl (all0)))))) UpC.upd ?_)
 refine XF.fin (kq 2 kn) ?_
 refine XC.ret ?_
 exact ⟨_, [], [], resC rfl rfl (by kernel_rfl) At.mem (by rfl), List.nil_sublist _, by simp, rfl, rfl, _, hbv1, hr0⟩

def rtp (x n : Nat) : Nat := x ^ n % p25
def rt1 (x : Nat) : Nat := rtp x (2 ^ 252 - 2)
def rt2 (x : Nat) : Nat := rt1 x * rtp 2 (2 ^ 253 - 5) % p25
theorem rtp_eq {x n m : Nat} (h : n = m) : x ^ n % p25 = rtp x m := by subst h; rfl
theorem rt1_eq {x n : Nat} (h : n = 2 ^ 252 - 2) : x ^ n % p25 = rt1 x := by unfold rt1; exact rtp_eq h
/-- What Root answers. -/
def Rt (r : Value) (x : Nat) : Prop := ∃ u b, r = .tuple #[u, .bool b] ∧ ((rt1 x * rt1 x % p25 = x ∧ b = true ∧ Fe u (rt1 x)) ∨ (rt1 x * rt1 x % p25 ≠ x ∧ rt2 x * rt2 x % p25 = x ∧ b = true ∧ Fe u (rt2 x)) ∨ (rt1 x * rt1 x % p25 ≠ x ∧ rt2 x * rt2 x % p25 ≠ x ∧ b = false ∧ Fe u 0))

theorem froot_spec (v : Value) (x : Nat) (hx : Fe v x) (A : Mem) : FnX Tryz.prog 164 [v] [] A fun r M J => M = [] ∧ J = [] ∧ Rt r x := by
 have hx0 := hx
 obtain ⟨a, b, c, d, e, rfl, -⟩ := hx
 refine FnX.enter (N := 24) Tryz.func164 rfl rfl rfl fun w => ?_
 refine XC.keep (kq 0 kn) ?_
 refine XC.reg ?_
 refine XL.lo rfl (bx_ fun b1 => ?_)
 refine XL.lo rfl (l_alloc (cs := [.int .u64 0, .int .u64 0, .int .u64 0, .int .u64 0, .int .u64 0]) (by kernel_rfl) rfl fun b2 => ?_)
 refine as_ ?_
 refine XL.fin (kq 1 (kq 2 kn)) ?_
 refine XC.drawF [0, 1, 2, 3] [(0, 1), (1, 3), (2, 3), (3, 4), (4, 2)] (by kernel_rfl) (by kernel_rfl) fun hs => ?_
 refine XF.r hs rfl (qw_ 5) rfl ?_
 refine XF.groupO [⟨1, 6, fun v B _ => B = [] ∧ ∃ es : List Nat, v = .agg (nums .u8 es).toArray ∧ es.length = 32 ∧ (∀ y ∈ es, y < 256) ∧ bv es = 2 ^ 252 - 2⟩, ⟨2, 7, fun v B _ => B = [] ∧ Fe v (rt1 x)⟩, ⟨3, 4, fun v B _ => ∃ b, v = .pointer (some ⟨b, 0, none⟩) ∧ B = [(b, blk [.int .u64 0, .int .u64 0, .int .u64 0, .int .u64 0, .int .u64 0] 152)]⟩]
  (allS (fun _ _ _ _ _ h => h) (allS (fun _ _ _ _ _ h => h) (allS (fun _ _ _ _ _ h => h) (all0)))) (show List.Nodup [6, 7, 4] by decide) (show List.Nodup [1, 2, 3] by decide) (allS (blt_lt rfl) (allS (blt_lt rfl) (allS (blt_lt rfl) (all0))))
  (allS ⟨_, rfl, fun vs bs R w hb ha => ⟨.inl rfl, ?_⟩⟩ (allS ⟨_, rfl, fun vs bs R w hb ha => ⟨.inl rfl, ?_⟩⟩ (allS ⟨_, rfl, fun vs bs R w hb ha => ⟨.inl rfl, ?_⟩⟩ (all0)))) ?_
 ·
  refine l_call0 (aS rfl (aS rfl a0)) (by kernel_rfl) (near_spec 252 2 (by decide) (by decide) (by decide) (by decide) _) rfl ?_
  rintro r M1 J1 ⟨rfl, rfl, hh⟩
  exact ⟨_, rfl, rfl, hh⟩
 ·
  have g1 := ha _ (List.mem_of_getElem? (i := 0) rfl) (by kernel_rfl)
  replace g1 : (fun v B _ => B = [] ∧ ∃ es : List Nat, v = .agg (nums .u8 es).toArray ∧ es.length = 32 ∧ (∀ y ∈ es, y < 256) ∧ bv es = 2 ^ 252 - 2) (vs 1) (bs 1) R := g1
  dsimp only at g1
  obtain ⟨-, es, hes, hel, he256, hbv⟩ := g1
  refine l_call0 (aS rfl (aS (by rw [← hes]; rfl) a0)) (by kernel_rfl) (fpower_spec _ _ hx0 es hel he256 _) rfl ?_
  rintro r M1 J1 ⟨rfl, rfl, hh⟩
  rw [rt1_eq hbv] at hh
  exact ⟨_, rfl, rfl, hh⟩
 ·
  exact l_alloc (cs := [.int .u64 0, .int .u64 0, .int .u64 0, .int .u64 0, .int .u64 0]) (by kernel_rfl) rfl fun b => ⟨_, rfl, b, rfl, rfl⟩
 intro vs bs Jn0 hφ
 have g1 := ofH hφ
 dsimp only at g1
 replace hφ := ofT hφ
 have g2 := ofH hφ
 dsimp only at g2
 replace hφ := ofT hφ
 have g3 := ofH hφ
 dsimp only at g3
 clear hφ
 dsimp only [gEnvO, ownOf, List.map, List.flatten, List.cons_append, List.nil_append]
 generalize bs 1 = B6 at *
 generalize bs 2 = B7 at *
 generalize bs 3 = B4 at *
 generalize vs 1 = u6 at *
 generalize vs 2 = u7 at *
 generalize vs 3 = u4 at *
 obtain ⟨rfl, -⟩ := g1
 obtain ⟨rfl, hr0⟩ := g2
 obtain ⟨b4, rfl, rfl⟩ := g3
 have hr := hr0
 obtain ⟨a1, b1, c1, d1, e1, rfl, -⟩ := hr
 dsimp only [List.append_eq, List.nil_append, List.cons_append]
 refine XF.tl rfl rfl rfl (l_storeW rfl rfl Cel.cel (by kernel_rfl) (lnS (lnS (lnS (lnS (lnS (ln0)))))) (allS rfl (allS rfl (allS rfl (allS rfl (allS rfl (all0)))))) UpC.upd ?_)
 refine XF.fin (kq 1 (kq 2 (kq 4 kn))) ?_
 refine XC.seq ?_
 refine XC.drawF [0, 1, 2, 3] [(0, 1), (2, 1), (1, 2), (3, 2)] (by kernel_rfl) (by kernel_rfl) fun hs => ?_
 refine XF.r hs rfl (qw_ 5) rfl ?_
 refine XF.r hs rfl (qw_ 5) rfl ?_
 refine XF.call rfl (aS rfl a0) (by kernel_rfl) (fsquare_spec _ _ hr0 _) rfl ?_
 rintro r2 M2 J2 ⟨rfl, rfl, hr2⟩
 have hr20 := hr2
 obtain ⟨a2, b2, c2, d2, e2, rfl, -⟩ := hr2
 refine XF.callV rfl (aS rfl (aS rfl a0)) (by kernel_rfl) (fsame_spec _ _ _ _ hr20 hx0 _) rfl ?_
 refine XF.fin (kq 1 (kq 2 (kq 4 (kq 11 kn)))) ?_
 refine XC.cond rfl (fun hc => ?_) (fun hc => ?_)
 ·
  have h1 : rt1 x * rt1 x % p25 = x := by simpa using hc
  refine XC.reg ?_
  refine XL.q (qw_ 5) rfl ?_
  refine XL.lo rfl (l_storeW rfl rfl Cel.cel (by kernel_rfl) (lnS (lnS (lnS (lnS (lnS (ln0)))))) (allS rfl (allS rfl (allS rfl (allS rfl (allS rfl (all0)))))) UpC.upd ?_)
  refine as_ ?_
  refine XL.fin (kq 2 (kq 3 kn)) ?_
  refine XC.ret ?_
  refine tr ?_
  exact ⟨_, [], [], resC1 rfl rfl rfl (by kernel_rfl) At.mem (by rfl), List.nil_sublist _, by simp, rfl, rfl, _, _, rfl, .inl ⟨h1, rfl, hr0⟩⟩
 ·
  have h1 : rt1 x * rt1 x % p25 ≠ x := by simpa using hc
  refine XC.skip ?_
  refine nx (kq 1 (kq 2 (kq 4 kn))) ?_
  refine XC.drawF [0, 1, 2, 3, 4] [(0, 1), (1, 2), (2, 2), (3, 2), (4, 2), (5, 2)] (by kernel_rfl) (by kernel_rfl) fun hs => ?_
  refine XF.r hs rfl (qw_ 5) rfl ?_
  refine XF.call rfl (aS rfl a0) (by kernel_rfl) (fnum_spec 2 (by decide) _) rfl ?_
  rintro r3 M3 J3 ⟨rfl, rfl, hr3⟩
  refine XF.call rfl (aS rfl (aS rfl a0)) (by kernel_rfl) (near_spec 253 5 (by decide) (by decide) (by decide) (by decide) _) rfl ?_
  rintro rn2 Mn Jn ⟨rfl, rfl, es, rfl, hel, he256, hbv⟩
  refine XF.call rfl (aS rfl (aS rfl a0)) (by kernel_rfl) (fpower_spec _ _ hr3 es hel he256 _) rfl ?_
  rintro r4 M4 J4 ⟨rfl, rfl, hr4⟩
  rw [rtp_eq hbv] at hr4
  refine XF.call rfl (aS rfl (aS rfl a0)) (by kernel_rfl) (fmul_spec _ _ _ _ hr0 hr4 _) rfl ?_
  rintro r5 M5 J5 ⟨rfl, rfl, hr5⟩
  rw [← rt2.eq_1] at hr5
  have hr50 := hr5
  obtain ⟨a5, b5, c5, d5, e5, rfl, -⟩ := hr5
  refine XF.tl rfl rfl rfl (l_storeW rfl rfl Cel.cel (by kernel_rfl) (lnS (lnS (lnS (lnS (lnS (ln0)))))) (allS rfl (allS rfl (allS rfl (allS rfl (allS rfl (all0)))))) UpC.upd ?_)
  refine XF.fin (kq 1 (kq 2 (kq 4 kn))) ?_
  refine XC.seq ?_
  refine XC.drawF [0, 1, 2, 3] [(0, 1), (2, 1), (1, 2), (3, 2)] (by kernel_rfl) (by kernel_rfl) fun hs => ?_
  refine XF.r hs rfl (qw_ 5) rfl ?_
  refine XF.r hs rfl (qw_ 5) rfl ?_
  refine XF.call rfl (aS rfl a0) (by kernel_rfl) (fsquare_spec _ _ hr50 _) rfl ?_
  rintro r6 M6 J6 ⟨rfl, rfl, hr6⟩
  have hr60 := hr6
  obtain ⟨a6, b6, c6, d6, e6, rfl, -⟩ := hr6
  refine XF.callV rfl (aS rfl (aS rfl a0)) (by kernel_rfl) (fsame_spec _ _ _ _ hr60 hx0 _) rfl ?_
  refine XF.fin (kq 2 (kq 4 (kq 21 kn))) ?_
  refine XC.cond rfl (fun hc => ?_) (fun hc => ?_)
  ·
   have h2 : rt2 x * rt2 x % p25 = x := by simpa using hc
   refine XC.reg ?_
   refine XL.q (qw_ 5) rfl ?_
   refine XL.lo rfl (l_storeW rfl rfl Cel.cel (by kernel_rfl) (lnS (lnS (lnS (lnS (lnS (ln0)))))) (allS rfl (allS rfl (allS rfl (allS rfl (allS rfl (all0)))))) UpC.upd ?_)
   refine as_ ?_
   refine XL.fin (kq 2 (kq 3 kn)) ?_
   refine XC.ret ?_
   refine tr ?_
   exact ⟨_, [], [], resC1 rfl rfl rfl (by kernel_rfl) At.mem (by rfl), List.nil_sublist _, by simp, rfl, rfl, _, _, rfl, .inr (.inl ⟨h1, h2, rfl, hr50⟩)⟩
  ·
   have h2 : rt2 x * rt2 x % p25 ≠ x := by simpa using hc
   refine XC.skip ?_
   refine nx (kq 2 kn) ?_
   refine XC.reg ?_
   refine XL.q (q_build (place := fun i => some (i * 1, 1)) (z := [.int .u64 0, .int .u64 0, .int .u64 0, .int .u64 0, .int .u64 0]) (fun _ => by kernel_rfl) e0 bd0) rfl ?_
   refine XL.lo rfl (l_storeW rfl rfl Cel.cel (by kernel_rfl) (lnS (lnS (lnS (lnS (lnS (ln0)))))) (allS rfl (allS rfl (allS rfl (allS rfl (allS rfl (all0)))))) UpC.upd ?_)
   refine as_ ?_
   refine XL.fin (kq 2 (kq 3 kn)) ?_
   refine XC.ret ?_
   exact ⟨_, [], [], resC1 rfl rfl rfl (by kernel_rfl) At.mem (by rfl), List.nil_sublist _, by simp, rfl, rfl, _, _, rfl, .inr (.inr ⟨h1, h2, rfl, fe_zero⟩)⟩

end Go.Proofs.YtphcaiplgpmnnaaGreatDoor
