/- Part 4 of the texts of this claim, one behind the other. -/
import Derived.Test.YthmnlkpikgglbaaGreatDoorB3
import Derived.LoopN
set_option linter.unusedVariables false
set_option linter.unusedSimpArgs false
set_option linter.unusedVariables false
set_option linter.unusedSimpArgs false
namespace Go.Px

def isPr (n : Nat) : Bool := decide (1 < n) && (List.range n).all fun i => decide (i < 2) || n % i != 0
theorem isPr_no {n i : Nat} (h2 : 2 ≤ i) (hi : i < n) (h : n % i = 0) : isPr n = false := by
  rw [isPr, Bool.and_eq_false_iff]
  right
  rw [List.all_eq_false]
  exact ⟨i, List.mem_range.2 hi, by simp [h]; omega⟩
theorem isPr_yes {n : Nat} (h : ∀ j, 2 ≤ j → j < n → n % j ≠ 0) : isPr n = decide (1 < n) := by
  have : ((List.range n).all fun i => decide (i < 2) || n % i != 0) = true := by
    rw [List.all_eq_true]
    intro j hj
    have := List.mem_range.1 hj
    by_cases h2 : j < 2
    · simp [h2]
    · simp [h2]; exact h j (by omega) this
  rw [isPr, this, Bool.and_true]
def rootStep (k p lo b : Nat) : Nat := if (lo + 2 ^ b) ^ k ≤ p * xp k then lo + 2 ^ b else lo
def rootD (k p : Nat) : Nat → Nat → Nat
  | 0, lo => lo
  | j + 1, lo => rootD k p j (rootStep k p lo j)
def root (k p : Nat) : Nat := rootD k p 40 0 % 4294967296
def rl (k n : Nat) : List Nat := ((List.range n).filter isPr).map (root k)
theorem rl_no {k p : Nat} (h : isPr p = false) : rl k (p + 1) = rl k p := by
  simp [rl, List.range_succ, h]
theorem rl_yes {k p : Nat} (h : isPr p = true) : rl k (p + 1) = rl k p ++ [root k p] := by
  simp [rl, List.range_succ, h]
theorem rl_pre (k p : Nat) : ∀ d, ∃ t, rl k (p + d) = rl k p ++ t
  | 0 => ⟨[], by simp⟩
  | d + 1 => by
    obtain ⟨t, ht⟩ := rl_pre k p d
    cases h : isPr (p + d) with
    | false => exact ⟨t, by rw [← Nat.add_assoc, rl_no h, ht]⟩
    | true => exact ⟨t ++ [root k (p + d)], by rw [← Nat.add_assoc, rl_yes h, ht, List.append_assoc]⟩
theorem rl_take {k p : Nat} (h : p ≤ 312) : (rl k 312).take (rl k p).length = rl k p := by
  obtain ⟨t, ht⟩ := rl_pre k p (312 - p)
  rw [show p + (312 - p) = 312 by omega] at ht
  rw [ht, List.take_left]
theorem rl_count (k : Nat) : (rl k 312).length = 64 := by
  unfold rl
  rw [List.length_map]
  decide +kernel
theorem rl_lt (k n : Nat) : ∀ x ∈ rl k n, x < 4294967296 := by
  intro x hx
  obtain ⟨y, _, rfl⟩ := List.mem_map.1 hx
  exact Nat.mod_lt _ (by decide)
theorem add_shl {lo j : Nat} (hj : j < 40) (h : lo + 2 ^ (j + 1) ≤ 1099511627776) : (lo + (1 <<< j) % 18446744073709551616) % 18446744073709551616 = lo + 2 ^ j := by
  rw [Nat.shiftLeft_eq, Nat.one_mul]
  have : 2 ^ (j + 1) = 2 * 2 ^ j := by rw [Nat.pow_succ]; omega
  rw [Nat.mod_eq_of_lt (show 2 ^ j < 18446744073709551616 by omega)]
  exact Nat.mod_eq_of_lt (by omega)
theorem rootStep_le {k p lo j : Nat} (h : lo + 2 ^ (j + 1) ≤ 1099511627776) : rootStep k p lo j + 2 ^ j ≤ 1099511627776 := by
  have : 2 ^ (j + 1) = 2 * 2 ^ j := by rw [Nat.pow_succ]; omega
  unfold rootStep; split <;> omega
theorem roots_k : (rl 3 312).take 64 = kTab := by decide +kernel
theorem roots_h : (rl 2 312).take 8 = hFirst.list := by decide +kernel

/-! ### The words of a block, one by one -/
def pw (P : List Nat) (i : Nat) : Nat → Nat
  | 0 => 0
  | j + 1 => pw P i j * 256 + P.getD (4 * i + j) 0
theorem pw_four (P : List Nat) (i : Nat) : pw P i 4 = word P i := by simp [pw, word]
theorem pw_lt {P : List Nat} (h : ∀ j, P.getD j 0 < 256) (i : Nat) : ∀ j, pw P i j < 256 ^ j
  | 0 => by simp [pw]
  | j + 1 => by
    have h1 := pw_lt h i j
    have h2 := h (4 * i + j)
    rw [pw, Nat.pow_succ]
    omega
def wAt (P : List Nat) (i : Nat) : List Nat := wx (words P (min i 16)) (i - 16)
theorem wAt_len (P : List Nat) (i : Nat) : (wAt P i).length = i := by
  unfold wAt; rw [wx_len, words_len]; omega
theorem wAt_low {P : List Nat} {i : Nat} (h : i < 16) : wAt P (i + 1) = wAt P i ++ [word P i] := by
  unfold wAt
  rw [show min (i + 1) 16 = i + 1 by omega, show min i 16 = i by omega, show i + 1 - 16 = 0 by omega, show i - 16 = 0 by omega]
  exact words_succ P i
theorem wAt_high {P : List Nat} {i : Nat} (h : 16 ≤ i) : wAt P (i + 1) = wAt P i ++ [wnext (wAt P i) i] := by
  unfold wAt
  rw [show min (i + 1) 16 = 16 by omega, show min i 16 = 16 by omega, show i + 1 - 16 = (i - 16) + 1 by omega, wx, words_len, show 16 + (i - 16) = i by omega]
theorem wAt_lt {P : List Nat} (h : ∀ x ∈ P, x < 256) (i : Nat) : ∀ x ∈ wAt P i, x < 4294967296 := wx_lt (words_lt h _) _
theorem blockP_get {m : List Nat} {a k : Nat} (h : k < 64) : ((m.drop a).take 64).getD k 0 = m.getD (a + k) 0 := by
  simp [List.getD, List.getElem?_take, h]
theorem step_alt (s : S8) (k w : Nat) : (tmp1 s k w + (bs0 s.a + maj s.a s.b s.c) % 4294967296) % 4294967296 = (s.step k w).a := by
  simp only [S8.step]; omega
theorem plus_list (s r : S8) (i : Nat) (h : i < 8) : (s.plus r).list.getD i 0 = (s.list.getD i 0 + r.list.getD i 0) % 4294967296 := by
  have : i = 0 ∨ i = 1 ∨ i = 2 ∨ i = 3 ∨ i = 4 ∨ i = 5 ∨ i = 6 ∨ i = 7 := by omega
  rcases this with rfl | rfl | rfl | rfl | rfl | rfl | rfl | rfl <;> rfl
end Go.Px

/-
  HKDF's expand, in plain lists. No program in sight.
-/
set_option linter.unusedVariables false
set_option linter.unusedSimpArgs false
namespace Go.Px

def exp (key info : List Nat) : Nat → List Nat × List Nat
  | 0 => ([], [])
  | i + 1 => ((exp key info i).1 ++ hmac key ((exp key info i).2 ++ (info ++ [(i + 1) % 256])), hmac key ((exp key info i).2 ++ (info ++ [(i + 1) % 256])))
theorem sha256_len (p : List Nat) : (sha256 p).length = 32 := by simp [sha256, S8.bytes, S8.list, out4]
theorem exp_len (key info : List Nat) : ∀ i, (exp key info i).1.length = 32 * i
  | 0 => rfl
  | i + 1 => by rw [exp, List.length_append, exp_len key info i, hmac, sha256_len]; omega
theorem exp_pre (key info : List Nat) (i : Nat) : ∀ d, ∃ t, (exp key info (i + d)).1 = (exp key info i).1 ++ t
  | 0 => ⟨[], by simp⟩
  | d + 1 => by
    obtain ⟨t, ht⟩ := exp_pre key info i d
    exact ⟨_, by rw [← Nat.add_assoc, exp]; simp only; rw [ht, List.append_assoc]⟩
def rds (n : Int) : Nat := min 255 ((n.toNat + 31) / 32)
def expand (key info : List Nat) (n : Int) : List Nat := (exp key info (rds n)).1.take n.toNat
theorem expand_len (key info : List Nat) (n : Int) : (expand key info n).length = min n.toNat 8160 := by
  unfold expand; rw [List.length_take, exp_len]; unfold rds; omega
theorem exp_take (key info : List Nat) {i j k : Nat} (h : i ≤ j) (hk : k ≤ 32 * i) : (exp key info j).1.take k = (exp key info i).1.take k := by
  obtain ⟨t, ht⟩ := exp_pre key info i (j - i)
  rw [show i + (j - i) = j by omega] at ht
  rw [ht, List.take_append_of_le_length (by rw [exp_len]; exact hk)]
/-- The first bytes are the same, however many are asked. -/
theorem expand_same (key info : List Nat) (n m : Int) (k : Nat) (h1 : k ≤ (expand key info n).length) (h2 : k ≤ (expand key info m).length) : (expand key info n).take k = (expand key info m).take k := by
  rw [expand_len] at h1 h2
  unfold expand
  rw [List.take_take, List.take_take, Nat.min_eq_left (by omega), Nat.min_eq_left (by omega)]
  rcases Nat.le_total (rds n) (rds m) with h | h
  · exact (exp_take key info h (by unfold rds; omega)).symm
  · exact exp_take key info h (by unfold rds; omega)
end Go.Px

/- The walks of sha.Expand and pawlref02.Expand. -/
set_option linter.unusedVariables false
set_option linter.unusedSimpArgs false
namespace Go.Proofs.YthmnlkpikgglbaaGreatDoor
open Go.Px
theorem xperm {M B D : Mem} (x y : Nat × Obj) : (M ++ (x :: y :: (B ++ D))).Perm (B ++ ((M ++ [x, y]) ++ D)) := by
  have h : M ++ (x :: y :: (B ++ D)) = (M ++ [x, y]) ++ (B ++ D) := by simp
  rw [h]
  exact List.perm_append_comm_assoc _ _ _
theorem hmac_lt (key p : List Nat) : ∀ x ∈ hmac key p, x < 256 := sha_lt _
theorem hmac_len (key p : List Nat) : (hmac key p).length = 32 := sha_len _
theorem exp2_lt (key info : List Nat) : ∀ i, ∀ x ∈ (exp key info i).2, x < 256
  | 0 => by simp [exp]
  | i + 1 => hmac_lt _ _
theorem exp2_len (key info : List Nat) (i : Nat) : (exp key info i).2.length ≤ 32 := by
  cases i with
  | zero => simp [exp]
  | succ i => rw [exp, hmac_len]; decide
theorem exp1_lt (key info : List Nat) : ∀ i, ∀ x ∈ (exp key info i).1, x < 256
  | 0 => by simp [exp]
  | i + 1 => fun x hx => (List.mem_append.1 hx).elim (exp1_lt key info i x) (hmac_lt _ _ x)

set_option maxRecDepth 100000 in
theorem expand_spec (kv iv : Value) (key info : List Nat) (n : Int) (A : Mem) (hkey : Rd A 1 kv key.length (nums .u8 key)) (hk256 : ∀ x ∈ key, x < 256) (hk31 : key.length ≤ 1073741824) (hinfo : Rd A 1 iv info.length (nums .u8 info)) (hi256 : ∀ x ∈ info, x < 256) (hi31 : info.length ≤ 536870912) (hn : n < 1000000) (hn0 : -1000000 < n) {ef ek : TypeId} {ff fk : Nat × Nat} (h0 : (0, Obj.cells (nums .u32 hFirst.list).toArray ef ff) ∈ A) (h1 : (3, Obj.cells (nums .u32 kTab).toArray ek fk) ∈ A) :
    FnX Tryz.prog 42 [kv, iv, .int .i64 n] [] A fun r M J => J = [] ∧ Rd M 1 r (expand key info n).length (nums .u8 (expand key info n)) := by
  haveI := hinfo.cel
  refine FnX.enter (N := 40) Tryz.func42 rfl rfl rfl fun w => ?_
  refine XC.keep (kp 0 rfl (kp 1 rfl (kp 2 rfl kn))) ?_
  refine XC.reg ?_
  refine XL.q (q_assign rfl) rfl ?_
  refine XL.fin (kp 0 rfl (kp 1 rfl (kp 2 rfl kn))) ?_
  refine XC.reg ?_
  refine XL.q (q_assign rfl) rfl ?_
  refine XL.q (q_assign rfl) rfl ?_
  refine XL.fin (kp 0 rfl (kp 1 rfl (kp 2 rfl (kp 7 rfl (kp 8 rfl kn))))) ?_
  refine XC.seq ?_
  refine XC.reg ?_
  refine XL.q (q_assign rfl) rfl ?_
  refine XL.fin (kp 0 rfl (kp 1 rfl (kp 2 rfl (kp 7 rfl (kp 8 rfl (kp 9 rfl kn)))))) ?_
  refine XC.block ?_
  refine XC.loop (α := Nat × Value × Value × Mem × Mem) (fun x => [(0, kv), (1, iv), (2, .int .i64 n), (7, x.2.1), (8, x.2.2.1), (9, .int .i64 ((x.1 + 1 : Nat) : Int))]) (fun x => x.2.2.2.1 ++ x.2.2.2.2) (fun _ => []) (fun x => x.1 ≤ rds n ∧ Sl 1 x.2.1 (32 * x.1) (nums .u8 (exp key info x.1).1) x.2.2.2.1 ∧ Sl 1 x.2.2.1 (exp key info x.1).2.length (nums .u8 (exp key info x.1).2) x.2.2.2.2) (fun x => rds n - x.1) (0, .slice none 0 0, .slice none 0 0, [], []) ⟨Nat.zero_le _, Sl.nil, Sl.nil⟩ (kp 0 rfl (kp 1 rfl (kp 2 rfl (kp 7 rfl (kp 8 rfl (kp 9 rfl kn)))))) .rfl (fun _ h => h) ?_
  rintro ⟨i, ov, lv, Bo, Bl⟩ ⟨hi, ho, hl⟩
  dsimp only at hi ho hl ⊢
  have hrd : rds n = min 255 ((n.toNat + 31) / 32) := rfl
  have hl32 := exp2_len key info i
  haveI := hl.cel
  refine XC.seq ?_
  by_cases h32 : (n : Int) ≤ ((32 * i : Nat) : Int)
  ·
    refine XC.reg ?_
    refine XL.q (q_move rfl) rfl ?_
    refine XL.q (q_lenV (ho.rd fun _ h => h) rfl (by kernel_rfl)) rfl ?_
    refine XL.q (q_move rfl) rfl ?_
    refine XL.q (q_cmp false rfl rfl (ltF (by omega))) rfl ?_
    refine XL.q (q_move rfl) rfl ?_
    refine XL.gn rfl rfl rfl rfl ?_
    refine XL.gn rfl rfl rfl rfl ?_
    refine XL.q (q_pickF rfl rfl) rfl ?_
    refine XL.fin (kp 0 rfl (kp 1 rfl (kp 2 rfl (kp 7 rfl (kp 8 rfl (kp 9 rfl (kp 17 rfl kn))))))) ?_
    refine XC.condF rfl ?_
    refine XC.exit ?_
    refine te ?_
    refine re ?_
    refine be rfl ?_
    refine nx (kp 2 rfl (kp 7 rfl kn)) ?_
    refine XC.reg ?_
    refine XL.q (q_move rfl) rfl ?_
    refine XL.q (q_move rfl) rfl ?_
    refine XL.q (q_lenV (ho.rd fun _ h => h) rfl (by kernel_rfl)) rfl ?_
    refine XL.q (q_minR (if ((32 * i : Nat) : Int) < n then ((32 * i : Nat) : Int) else n) rfl rfl rfl) rfl ?_
    have hend : i = rds n := by omega
    subst hend
    refine XL.q (q_maxR ((min n.toNat (32 * rds n) : Nat) : Int) rfl rfl (by split <;> split <;> omega)) rfl ?_
    have hkl : min n.toNat (32 * rds n) = (expand key info n).length := by rw [expand_len]; omega
    obtain ⟨pp, cc, rfl, hpc⟩ := ho.val
    refine XL.q (q_assign rfl) rfl ?_
    refine XL.fin (kp 2 rfl (kp 7 rfl kn)) ?_
    refine XC.reg ?_
    refine XL.q (q_move rfl) rfl ?_
    refine XL.q (q_move rfl) rfl ?_
    refine XL.q (q_move rfl) rfl ?_
    refine XL.q (q_slice (e := 5) (sz := 1) rfl (by kernel_rfl) (by kernel_rfl) o0 (o1 (min n.toNat (32 * rds n)) rfl rfl) (o1 (min n.toNat (32 * rds n)) rfl rfl) (by simp) (by simp; omega) (by simp) (by simp)) rfl ?_
    refine XL.q (q_assign rfl) rfl ?_
    refine XL.fin (kp 6 rfl kn) ?_
    refine XC.ret ?_
    refine ⟨_, Bo, [], res1 rfl rfl, List.sublist_append_left _ _, by simp, rfl, ?_⟩
    have := Rd.part (ho.rd fun _ h => h) 0 (min n.toNat (32 * rds n)) (min n.toNat (32 * rds n)) (Nat.zero_le _) (Nat.min_le_right _ _) (Nat.le_refl _)
    refine rd_eq this (by simpa using hkl) ?_
    rw [Nat.zero_mul, List.drop_zero, Nat.sub_zero, Nat.mul_one, ← nums_take]
    have e : ((exp key info (rds n)).1).take (min n.toNat (32 * rds n)) = expand key info n := by
      unfold expand
      rw [List.take_eq_take_iff, exp_len]; omega
    rw [e]
  ·
    refine XC.reg ?_
    refine XL.q (q_move rfl) rfl ?_
    refine XL.q (q_lenV (ho.rd fun _ h => h) rfl (by kernel_rfl)) rfl ?_
    refine XL.q (q_move rfl) rfl ?_
    refine XL.q (q_cmp true rfl rfl (ltT (by omega))) rfl ?_
    refine XL.q (q_move rfl) rfl ?_
    refine XL.gy rfl rfl (OpQ.opL (q_move rfl) rfl ?_)
    refine XL.gy rfl rfl (OpQ.opL (q_bin rfl rfl rfl) rfl ?_)
    refine XL.q (q_pickT rfl rfl) rfl ?_
    refine XL.fin (kp 0 rfl (kp 1 rfl (kp 2 rfl (kp 7 rfl (kp 8 rfl (kp 9 rfl (kp 17 rfl kn))))))) ?_
    refine XC.cond rfl (fun hc => ?_) (fun hc => ?_)
    ·
      have hlt : i < 255 := by simp at hc; omega
      refine XC.skip ?_
      refine nx (kp 0 rfl (kp 1 rfl (kp 2 rfl (kp 7 rfl (kp 8 rfl (kp 9 rfl kn)))))) ?_
      refine XC.seq ?_
      refine XC.block ?_
      refine XC.reg ?_
      refine XL.q (q_move rfl) rfl ?_
      refine XL.q (q_move rfl) rfl ?_
      refine XL.q (q_move rfl) rfl ?_
      refine XL.q (q_move rfl) rfl ?_
      refine XL.q (q_to8 rfl (by kernel_rfl)) rfl ?_
      refine XL.lo rfl (l_buildSlice (e := 5) (sz := 1) (z := [.int .u8 0]) (by kernel_rfl) (eS rfl e0) (bdS 0 1 rfl (by rfl) bd0) rfl fun b25 => ?_)
      refine XL.lo rfl (l_buildSlice (e := 23) (sz := 1) (z := [.slice none 0 0, .slice none 0 0, .slice none 0 0]) (by kernel_rfl) (eS rfl (eS rfl (eS rfl e0))) (bdS 0 1 rfl (by rfl) (bdS 1 1 rfl (by rfl) (bdS 2 1 rfl (by rfl) bd0))) rfl fun b26 => ?_)
      refine XL.lo rfl (l_call (Mc := []) (R := _ :: _ :: (Bo ++ Bl)) (aS rfl (aS rfl a0)) (by kernel_rfl) (.refl _) (mac_spec _ _ key [(exp key info i).2, info, [(i + 1) % 256]] _ (hkey.mono fun _ h => mA h) hk256 hk31 (Parts.of (Rd.whole (n := 3) m0 (by rfl)) rfl (.cons (exp2_lt _ _ _) (hl.rd fun _ h => by simp [h]) (.cons hi256 (hinfo.mono fun _ h => mA h) (.cons (by intro x hx; simp at hx; subst hx; exact Nat.mod_lt _ (by decide)) (Rd.whole (n := 1) (cs := nums .u8 [(i + 1) % 256]) At.mem (by rfl)) .nil)))) (by simp; omega) (by simp) (mA h0) (mA h1)) rfl ?_)
      rintro r27 M27 J1 ⟨rfl, h27⟩
      rw [show [(exp key info i).2, info, [(i + 1) % 256]].flatten = (exp key info i).2 ++ (info ++ [(i + 1) % 256]) from by simp] at h27
      refine XL.q (q_assign rfl) rfl ?_
      refine XL.fin (kp 0 rfl (kp 1 rfl (kp 2 rfl (kp 7 rfl (kp 8 rfl (kp 9 rfl kn)))))) ?_
      refine XC.reg1 ?_
      refine XL.q (q_move rfl) rfl ?_
      refine XL.q (q_move rfl) rfl ?_
      refine XL.lo rfl (l_append (e := 5) (sz := 1) (by_ := 1) (m := 32) (B := Bo) (M0 := (M27 ++ [_, _]) ++ Bl) rfl rfl (by kernel_rfl) rfl ho (h27.rd fun _ h => by simp [h]) nums_one (xperm _ _) (by unfold maxLen; omega) (by omega) rfl fun ov1 Bo1 ho1 => ?_)
      refine XL.q (q_assign rfl) rfl ?_
      refine XL.nil ?_
      refine nb ?_
      refine nx (kp 0 rfl (kp 1 rfl (kp 2 rfl (kp 7 rfl (kp 8 rfl (kp 9 rfl kn)))))) ?_
      refine XC.reg1 ?_
      refine XL.q (q_move rfl) rfl ?_
      refine XL.q (q_num ((i + 1 + 1 : Nat) : Int) rfl rfl (add64 (by omega) (by omega) (by omega))) rfl ?_
      refine XL.q (q_assign rfl) rfl ?_
      refine XL.nil ?_
      refine rn (i + 1, ov1, r27, Bo1, M27) ⟨by dsimp only; omega, sl_eq ho1 (by dsimp only; omega) (by rw [← nums_append]; rfl), sl_eq h27 (by dsimp only; rw [exp, hmac_len]) rfl⟩ (by dsimp only; omega) (kp 0 rfl (kp 1 rfl (kp 2 rfl (kp 7 rfl (kp 8 rfl (kp 9 rfl kn)))))) (Fit.sub (List.Sublist.append (List.Sublist.refl _) ((List.sublist_append_left _ _).trans (List.sublist_append_left _ _)))) (fun _ h => h)
    ·
      have hend : i = rds n := by simp at hc; omega
      refine XC.exit ?_
      refine te ?_
      refine re ?_
      refine be rfl ?_
      refine nx (kp 2 rfl (kp 7 rfl kn)) ?_
      refine XC.reg ?_
      refine XL.q (q_move rfl) rfl ?_
      refine XL.q (q_move rfl) rfl ?_
      refine XL.q (q_lenV (ho.rd fun _ h => h) rfl (by kernel_rfl)) rfl ?_
      refine XL.q (q_minR (if ((32 * i : Nat) : Int) < n then ((32 * i : Nat) : Int) else n) rfl rfl rfl) rfl ?_
      subst hend
      refine XL.q (q_maxR ((min n.toNat (32 * rds n) : Nat) : Int) rfl rfl (by split <;> split <;> omega)) rfl ?_
      have hkl : min n.toNat (32 * rds n) = (expand key info n).length := by rw [expand_len]; omega
      obtain ⟨pp, cc, rfl, hpc⟩ := ho.val
      refine XL.q (q_assign rfl) rfl ?_
      refine XL.fin (kp 2 rfl (kp 7 rfl kn)) ?_
      refine XC.reg ?_
      refine XL.q (q_move rfl) rfl ?_
      refine XL.q (q_move rfl) rfl ?_
      refine XL.q (q_move rfl) rfl ?_
      refine XL.q (q_slice (e := 5) (sz := 1) rfl (by kernel_rfl) (by kernel_rfl) o0 (o1 (min n.toNat (32 * rds n)) rfl rfl) (o1 (min n.toNat (32 * rds n)) rfl rfl) (by simp) (by simp; omega) (by simp) (by simp)) rfl ?_
      refine XL.q (q_assign rfl) rfl ?_
      refine XL.fin (kp 6 rfl kn) ?_
      refine XC.ret ?_
      refine ⟨_, Bo, [], res1 rfl rfl, List.sublist_append_left _ _, by simp, rfl, ?_⟩
      have := Rd.part (ho.rd fun _ h => h) 0 (min n.toNat (32 * rds n)) (min n.toNat (32 * rds n)) (Nat.zero_le _) (Nat.min_le_right _ _) (Nat.le_refl _)
      refine rd_eq this (by simpa using hkl) ?_
      rw [Nat.zero_mul, List.drop_zero, Nat.sub_zero, Nat.mul_one, ← nums_take]
      have e : ((exp key info (rds n)).1).take (min n.toNat (32 * rds n)) = expand key info n := by
        unfold expand
        rw [List.take_eq_take_iff, exp_len]; omega
      rw [e]

end Go.Proofs.YthmnlkpikgglbaaGreatDoor
/-
  Drawn regions, the second form: what isn't of K stands still. XK: the general one. XF: nothing that is there changes.
-/
set_option linter.unusedVariables false
set_option linter.unusedSimpArgs false
namespace Go.Px
/-- What isn't of K stands still. -/
def Sk (K : Nat → Prop) (w w' : World) : Prop := ∀ b, b < w.heap.size → ¬ K b → w'.heap[b]? = w.heap[b]?
theorem Sk.fx {K : Nat → Prop} {w w' : World} (h : Sk K w w') {R : Mem} (hR : ∀ x ∈ R, ¬ K x.1) (hw : Fx R w) : Fx R w' := fun b o hb => by
  have h1 := hw b o hb
  rw [h b (lt_of_heap h1) (hR _ hb)]; exact h1

def XK (C : Cx) (os : List Oper) (Q : XQ) (K : Nat → Prop) (n0 : Nat) (nd : List Nat) (plan : List (Nat × Nat)) (l : Env) (M J : Mem) : Prop :=
  ∀ listed, Closed os.toArray listed → planOk os.toArray nd plan listed = true → ∀ a w, Ag C.N l a → St C M J w → n0 ≤ w.heap.size →
    wpAnyS C.P os.toArray (noPanicX (lift C Q)) (Sk K) nd.contains plan.length listed a w

section plan
variable {C : Cx} {Q : XQ} {l : Env} {M J : Mem} {os : List Oper} {K : Nat → Prop} {n0 : Nat} {nd : List Nat} {plan : List (Nat × Nat)}

theorem readOk_skp {T : World → Prop} {S : World → World → Prop} {ops : Array Oper} {nd : List Nat} {listed : Array Bool} {i : Nat} (h : readOk ops nd listed i = true) (hT : ∀ w w', T w → S w w' → T w') (j : Nat) (hlt : j < ops.size) (hji : j ≠ i) (hun : listed.getD j true = false) : anc ops ops.size j i = true ∨ ∀ w w', T w → (nd.contains j = true → S w w') → T w' := by
  have h1 := List.all_eq_true.1 h j (List.mem_range.2 hlt)
  simp only [Bool.or_eq_true, beq_iff_eq, hji, hun, false_or, Bool.false_eq_true] at h1
  rcases h1 with h1 | h1
  · exact .inr fun w w' hS hw => hT w w' hS (hw h1)
  · exact .inl h1

/-- Into a drawn region: Mv are the blocks that may change, and what is new counts as such if 'nv'. -/
theorem XC.drawK1 {id : Nat} (Mv Ms : Mem) (nv : Bool) (nd : List Nat) (plan : List (Nat × Nat)) (hm : C.P.follows .mixedOrders = true) (hp : planGood os nd plan = true) (hM : M.Perm (Mv ++ Ms))
    (h : Region.noSelect os.toArray = true → ∀ (K : Nat → Prop) n0, (∀ x ∈ Mv, K x.1) → (∀ x ∈ Ms ++ (J ++ C.A), ¬ K x.1) → (nv = true → ∀ b, n0 ≤ b → K b) → XK C os Q K n0 nd plan l (Mv ++ Ms) J) : XC C (.region id os.toArray true) Q l M J := by
  intro a w ha hw0
  have hw := hw0.perm hM
  simp only [planGood, Bool.and_eq_true, beq_iff_eq] at hp
  obtain ⟨⟨h1, h3⟩, h4⟩ := hp
  refine Code.wp_mono (Q := noPanicX (lift C Q)) (fun e a w h => by cases e <;> first | exact h | exact h.elim) ?_
  let K : Nat → Prop := fun b => b ∈ Mv.map Prod.fst ∨ (nv = true ∧ w.heap.size ≤ b)
  refine wp_region_any hm (wpAny_of_S (S := Sk K) (need := nd.contains) _ _ _ _ ?_)
  have hK1 : ∀ x ∈ Mv, K x.1 := fun x hx => .inl (List.mem_map_of_mem (f := Prod.fst) hx)
  have hcal := hw.callee (.refl _)
  have hK2 : ∀ x ∈ Ms ++ (J ++ C.A), ¬ K x.1 := by
    rintro ⟨b, o⟩ hx hk
    have h5 := hcal.sepA b o hx
    rcases hk with hk | ⟨_, hk⟩
    · exact h5.1 hk
    · exact absurd h5.2 (Nat.not_lt.2 hk)
  have := h h1 K w.heap.size hK1 hK2 (fun hn b hb => .inr ⟨hn, hb⟩) (Array.replicate os.length false) (fun j oj _ hl => by simp [Array.getElem?_replicate] at hl; split at hl <;> simp at hl) h4 a _ ha hw.drew (Nat.le_refl _)
  rw [h3] at this
  simpa using this
theorem XC.drawK {id : Nat} {c2 : Code} (Mv Ms : Mem) (nv : Bool) (nd : List Nat) (plan : List (Nat × Nat)) (hm : C.P.follows .mixedOrders = true) (hp : planGood os nd plan = true) (hM : M.Perm (Mv ++ Ms))
    (h : Region.noSelect os.toArray = true → ∀ (K : Nat → Prop) n0, (∀ x ∈ Mv, K x.1) → (∀ x ∈ Ms ++ (J ++ C.A), ¬ K x.1) → (nv = true → ∀ b, n0 ≤ b → K b) → XK C os (thenX C c2 Q) K n0 nd plan l (Mv ++ Ms) J) : XC C (.seq (.region id os.toArray true) c2) Q l M J :=
  XC.seq (XC.drawK1 Mv Ms nv nd plan hm hp hM h)

theorem XK.nil (h : Q .normal l M J) : XK C os Q K n0 nd [] l M J := by
  intro listed hcl hp a w ha hw hf
  simp only [planOk, List.isEmpty_iff] at hp
  exact ⟨hp, l, M, J, ha, hw, h⟩
theorem XK.fin {c : Code} {l' : Env} (hk : Keep l l') (h : XC C c Q l' M J) : XK C os (thenX C c Q) K n0 nd [] l M J := XK.nil (XC.keep hk h)
theorem XK.keep {l' : Env} (hk : Keep l l') (h : XK C os Q K n0 nd plan l' M J) : XK C os Q K n0 nd plan l M J := fun listed hcl hp a w ha hw hn => h listed hcl hp a w (ha.sub hk.lk) hw hn
theorem XK.perm {M' : Mem} (hM : M.Perm M') (h : XK C os Q K n0 nd plan l M' J) : XK C os Q K n0 nd plan l M J := fun listed hcl hp a w ha hw hn => h listed hcl hp a w ha (hw.perm hM) hn
theorem XK.drop {M' : Mem} (hM : M'.Sublist M) (h : XK C os Q K n0 nd plan l M' J) : XK C os Q K n0 nd plan l M J := fun listed hcl hp a w ha hw hn => h listed hcl hp a w ha (hw.drop hM (fun _ h => h)) hn

/-- A reading operation is taken first. -/
theorem XK.take1 {i d : Nat} {op : Op} {ty : TypeId} {pos : String} {af : Array Edge} {g : Option (Nat × Bool)} {v : Value} {R : Mem} (hs : Region.noSelect os.toArray = true)
    (hget : nth os i = some ⟨some d, op, ty, pos, af, g⟩) (hR : ∀ x ∈ R, x ∈ M ++ (J ++ C.A)) (hn : ∀ x ∈ R, ¬ K x.1)
    (hy : ∀ a, Ag C.N l a → YieldsIf C.P os.toArray (Fx R) ⟨some d, op, ty, pos, af, g⟩ v a) (hd : Nat.blt d C.N = true)
    (h : XK C os Q K n0 nd plan ((d, v) :: l) M J) : XK C os Q K n0 nd ((i, 1) :: plan) l M J := by
  intro listed hcl hp a w ha hw hf
  simp only [planOk, Bool.and_eq_true] at hp
  obtain ⟨⟨⟨h1, h2⟩, h5⟩, h4⟩ := hp
  have hi : os.toArray[i]? = some ⟨some d, op, ty, pos, af, g⟩ := by rw [nth_eq] at hget; simpa using hget
  have hr : i ∈ Region.ready .any os.toArray listed := by simpa using h1
  exact wpAnyS_first (S := Sk K) (T := Fx R) (N := os.toArray.size) hi (Region.noSelect_spec hs) (fun _ _ _ h => h) (fun _ _ _ _ => rfl) _ listed a w hcl (Region.free_spec hi h2) (readOk_skp h5 fun w w' hT hS => hS.fx hn hT) hr (hy a ha) (fun b o hb => hw.fx b o (hR _ hb))
    (h _ (closed_set hcl hr) h4 _ w (ha.put (blt_lt hd) v) hw hf)
theorem XK.take0 {i d : Nat} {op : Op} {ty : TypeId} {pos : String} {af : Array Edge} {g : Option (Nat × Bool)} {v : Value} (hs : Region.noSelect os.toArray = true)
    (hget : nth os i = some ⟨some d, op, ty, pos, af, g⟩)
    (hy : ∀ a, Ag C.N l a → YieldsIf C.P os.toArray (fun _ => True) ⟨some d, op, ty, pos, af, g⟩ v a) (hd : Nat.blt d C.N = true)
    (h : XK C os Q K n0 nd plan ((d, v) :: l) M J) : XK C os Q K n0 nd ((i, 0) :: plan) l M J := by
  intro listed hcl hp a w ha hw hf
  simp only [planOk, Bool.and_eq_true] at hp
  obtain ⟨⟨h1, h2⟩, h4⟩ := hp
  have hi : os.toArray[i]? = some ⟨some d, op, ty, pos, af, g⟩ := by rw [nth_eq] at hget; simpa using hget
  have hr : i ∈ Region.ready .any os.toArray listed := by simpa using h1
  exact wpAnyS_first (S := Sk K) (T := fun _ => True) (N := 0) hi (Region.noSelect_spec hs) (fun _ _ _ h => h) (fun _ _ _ _ => rfl) _ listed a w hcl (Region.free_spec hi h2) (fun _ _ _ _ => .inr fun _ _ _ _ => trivial) hr (hy a ha) trivial
    (h _ (closed_set hcl hr) h4 _ w (ha.put (blt_lt hd) v) hw hf)

section ops
variable {i d j t : Nat} {op : Op} {ty : TypeId} {pos : String} {af : Array Edge} {b b' : Bool} {v : Value} {oj : Oper} {R : Mem}
theorem XK.q (hs : Region.noSelect os.toArray = true) (hget : nth os i = some ⟨some d, op, ty, pos, af, none⟩) (hq : OpQ C.P [] ⟨some d, op, ty, pos, af, none⟩ l v) (hd : Nat.blt d C.N = true)
    (h : XK C os Q K n0 nd plan ((d, v) :: l) M J) : XK C os Q K n0 nd ((i, 0) :: plan) l M J :=
  XK.take0 hs hget (fun a ha => .inl ⟨rfl, fun w hw => hq C.N a w ha (fun _ _ hb => by cases hb)⟩) hd h
theorem XK.r (hs : Region.noSelect os.toArray = true) (hget : nth os i = some ⟨some d, op, ty, pos, af, none⟩) (hR : ∀ x ∈ R, x ∈ M ++ (J ++ C.A)) (hn : ∀ x ∈ R, ¬ K x.1) (hq : OpQ C.P R ⟨some d, op, ty, pos, af, none⟩ l v) (hd : Nat.blt d C.N = true)
    (h : XK C os Q K n0 nd plan ((d, v) :: l) M J) : XK C os Q K n0 nd ((i, 1) :: plan) l M J :=
  XK.take1 hs hget hR hn (fun a ha => .inl ⟨rfl, fun w hw => hq C.N a w ha hw⟩) hd h
theorem XK.qg (hs : Region.noSelect os.toArray = true) (hget : nth os i = some ⟨some d, op, ty, pos, af, some (j, b)⟩) (hj : nth os j = some oj) (ht : oj.dst = some t) (hl : lk l t = some (.bool b)) (hq : OpQ C.P [] ⟨some d, op, ty, pos, af, some (j, b)⟩ l v) (hd : Nat.blt d C.N = true)
    (h : XK C os Q K n0 nd plan ((d, v) :: l) M J) : XK C os Q K n0 nd ((i, 0) :: plan) l M J :=
  XK.take0 hs hget (fun a ha => .inl ⟨wantedY (i := i) ha hj ht hl, fun w hw => hq C.N a w ha (fun _ _ hb => by cases hb)⟩) hd h
theorem XK.rg (hs : Region.noSelect os.toArray = true) (hget : nth os i = some ⟨some d, op, ty, pos, af, some (j, b)⟩) (hj : nth os j = some oj) (ht : oj.dst = some t) (hl : lk l t = some (.bool b)) (hR : ∀ x ∈ R, x ∈ M ++ (J ++ C.A)) (hn : ∀ x ∈ R, ¬ K x.1) (hq : OpQ C.P R ⟨some d, op, ty, pos, af, some (j, b)⟩ l v) (hd : Nat.blt d C.N = true)
    (h : XK C os Q K n0 nd plan ((d, v) :: l) M J) : XK C os Q K n0 nd ((i, 1) :: plan) l M J :=
  XK.take1 hs hget hR hn (fun a ha => .inl ⟨wantedY (i := i) ha hj ht hl, fun w hw => hq C.N a w ha hw⟩) hd h
theorem XK.qn (hs : Region.noSelect os.toArray = true) (hget : nth os i = some ⟨some d, op, ty, pos, af, some (j, b)⟩) (hj : nth os j = some oj) (ht : oj.dst = some t) (hl : lk l t = some (.bool b')) (hb : (b' == b) = false) (hd : Nat.blt d C.N = true)
    (h : XK C os Q K n0 nd plan ((d, undef) :: l) M J) : XK C os Q K n0 nd ((i, 0) :: plan) l M J :=
  XK.take0 hs hget (fun a ha => .inr ⟨wantedN (i := i) ha hj ht hl hb, rfl⟩) hd h
theorem XK.rn (hs : Region.noSelect os.toArray = true) (hget : nth os i = some ⟨some d, op, ty, pos, af, some (j, b)⟩) (hj : nth os j = some oj) (ht : oj.dst = some t) (hl : lk l t = some (.bool b')) (hb : (b' == b) = false) (hd : Nat.blt d C.N = true)
    (h : XK C os Q K n0 nd plan ((d, undef) :: l) M J) : XK C os Q K n0 nd ((i, 1) :: plan) l M J :=
  XK.take1 (R := []) hs hget (fun _ h => by cases h) (fun _ h => by cases h) (fun a ha => .inr ⟨wantedN (i := i) ha hj ht hl hb, rfl⟩) hd h
theorem XK.qu (hs : Region.noSelect os.toArray = true) (hget : nth os i = some ⟨some d, op, ty, pos, af, some (j, b)⟩) (hj : nth os j = some oj) (ht : oj.dst = some t) (hl : lk l t = some undef) (hd : Nat.blt d C.N = true)
    (h : XK C os Q K n0 nd plan ((d, undef) :: l) M J) : XK C os Q K n0 nd ((i, 0) :: plan) l M J :=
  XK.take0 hs hget (fun a ha => .inr ⟨wantedU (i := i) ha hj ht hl, rfl⟩) hd h
theorem XK.ru (hs : Region.noSelect os.toArray = true) (hget : nth os i = some ⟨some d, op, ty, pos, af, some (j, b)⟩) (hj : nth os j = some oj) (ht : oj.dst = some t) (hl : lk l t = some undef) (hd : Nat.blt d C.N = true)
    (h : XK C os Q K n0 nd plan ((d, undef) :: l) M J) : XK C os Q K n0 nd ((i, 1) :: plan) l M J :=
  XK.take1 (R := []) hs hget (fun _ h => by cases h) (fun _ h => by cases h) (fun a ha => .inr ⟨wantedU (i := i) ha hj ht hl, rfl⟩) hd h
end ops

/-- A loud operation that works on the blocks Mc alone. -/
theorem XK.loud {i : Nat} {o : Oper} {Mc R : Mem} (hget : nth os i = some o) (hw' : ∀ a, Ag C.N l a → Region.wanted o (yielded os.toArray a.tmps) = true) (hM : M.Perm (Mc ++ R)) (hK : ∀ x ∈ Mc, K x.1)
    (h : ∀ w, OpL ⟨C.P, w, Mc.map Prod.fst, R ++ (J ++ C.A), C.N⟩ o l Mc [] (fun l' M' J' => ((∀ b, n0 ≤ b → K b) → ∀ x ∈ M', K x.1) → XK C os Q K n0 nd plan l' (M' ++ R) (J' ++ J))) :
    XK C os Q K n0 nd ((i, 2) :: plan) l M J := by
  intro listed hcl hp a w ha hw hf
  simp only [planOk, Bool.and_eq_true, beq_iff_eq] at hp
  obtain ⟨h1, h2⟩ := hp
  have hi : os.toArray[i]? = some o := by rw [nth_eq] at hget; simpa using hget
  refine ⟨fun h0 => (by rw [h1] at h0; cases h0), fun j hj => ?_⟩
  have hr := hj
  rw [h1] at hj
  simp only [List.mem_singleton] at hj
  subst hj
  unfold wpOp
  simp only [hi]
  rw [if_pos (hw' a ha)]
  refine .inl (Oper.wp_mono ?_ (h w _ a w ha (hw.callee hM).cx))
  rintro a' w' ⟨l', M', J', ha', hs', hk⟩
  have hsz : w.heap.size ≤ w'.heap.size := hs'.size
  refine ⟨fun _ b hb hnk => hs'.frame b hb fun hm => ?_, hk ?_ _ (closed_set hcl hr) h2 a' w' ha' (hw.back hM hs'.cx) (Nat.le_trans hf hsz)⟩
  · obtain ⟨x, hx, e⟩ := List.mem_map.1 hm
    exact hnk (e ▸ hK x hx)
  · rintro hup ⟨b, o'⟩ hx
    rcases hs'.own b o' (by simp [hx]) with h6 | h6
    · obtain ⟨x, hx, e⟩ := List.mem_map.1 h6
      exact e ▸ hK x hx
    · exact hup b (Nat.le_trans hf h6)
theorem XK.lo {i : Nat} {o : Oper} (Mc R : Mem) (hget : nth os i = some o) (hg : o.guard = none) (hM : M.Perm (Mc ++ R)) (hK : ∀ x ∈ Mc, K x.1)
    (h : ∀ w, OpL ⟨C.P, w, Mc.map Prod.fst, R ++ (J ++ C.A), C.N⟩ o l Mc [] (fun l' M' J' => ((∀ b, n0 ≤ b → K b) → ∀ x ∈ M', K x.1) → XK C os Q K n0 nd plan l' (M' ++ R) (J' ++ J))) :
    XK C os Q K n0 nd ((i, 2) :: plan) l M J := XK.loud hget (fun a ha => by simp [Region.wanted, hg]) hM hK h
theorem XK.lg {i j t : Nat} {d : Option Nat} {op : Op} {ty : TypeId} {pos : String} {af : Array Edge} {b : Bool} {oj : Oper} (Mc R : Mem) (hget : nth os i = some ⟨d, op, ty, pos, af, some (j, b)⟩) (hj : nth os j = some oj) (ht : oj.dst = some t) (hl : lk l t = some (.bool b)) (hM : M.Perm (Mc ++ R)) (hK : ∀ x ∈ Mc, K x.1)
    (h : ∀ w, OpL ⟨C.P, w, Mc.map Prod.fst, R ++ (J ++ C.A), C.N⟩ ⟨d, op, ty, pos, af, some (j, b)⟩ l Mc [] (fun l' M' J' => ((∀ b, n0 ≤ b → K b) → ∀ x ∈ M', K x.1) → XK C os Q K n0 nd plan l' (M' ++ R) (J' ++ J))) :
    XK C os Q K n0 nd ((i, 2) :: plan) l M J := XK.loud hget (fun a ha => by
      have hj' : os.toArray[j]? = some oj := by rw [nth_eq] at hj; simpa using hj
      simp only [Region.wanted, yielded, hj', Option.bind_some, ht, ha.slot _ _ hl]; simp) hM hK h
/-- A loud operation that isn't asked. -/
theorem XK.skip {i d : Nat} {op : Op} {ty : TypeId} {pos : String} {af : Array Edge} {g : Option (Nat × Bool)} (hget : nth os i = some ⟨some d, op, ty, pos, af, g⟩) (hw' : ∀ a, Ag C.N l a → Region.wanted ⟨some d, op, ty, pos, af, g⟩ (yielded os.toArray a.tmps) = false) (hd : Nat.blt d C.N = true)
    (h : XK C os Q K n0 nd plan ((d, undef) :: l) M J) : XK C os Q K n0 nd ((i, 2) :: plan) l M J := by
  intro listed hcl hp a w ha hw hf
  simp only [planOk, Bool.and_eq_true, beq_iff_eq] at hp
  obtain ⟨h1, h2⟩ := hp
  have hi : os.toArray[i]? = some ⟨some d, op, ty, pos, af, g⟩ := by rw [nth_eq] at hget; simpa using hget
  refine ⟨fun h0 => (by rw [h1] at h0; cases h0), fun j hj => ?_⟩
  have hr := hj
  rw [h1] at hj
  simp only [List.mem_singleton] at hj
  subst hj
  unfold wpOp
  simp only [hi]
  rw [if_neg (by rw [hw' a ha]; simp)]
  exact ⟨fun _ _ _ _ => rfl, h _ (closed_set hcl hr) h2 _ w (ha.put (blt_lt hd) undef) hw hf⟩
theorem XK.ln {i d j t : Nat} {op : Op} {ty : TypeId} {pos : String} {af : Array Edge} {b b' : Bool} {oj : Oper} (hget : nth os i = some ⟨some d, op, ty, pos, af, some (j, b)⟩) (hj : nth os j = some oj) (ht : oj.dst = some t) (hl : lk l t = some (.bool b')) (hb : (b' == b) = false) (hd : Nat.blt d C.N = true)
    (h : XK C os Q K n0 nd plan ((d, undef) :: l) M J) : XK C os Q K n0 nd ((i, 2) :: plan) l M J :=
  XK.skip hget (fun a ha => wantedN (i := i) ha hj ht hl hb) hd h
theorem XK.lu {i d j t : Nat} {op : Op} {ty : TypeId} {pos : String} {af : Array Edge} {b : Bool} {oj : Oper} (hget : nth os i = some ⟨some d, op, ty, pos, af, some (j, b)⟩) (hj : nth os j = some oj) (ht : oj.dst = some t) (hl : lk l t = some undef) (hd : Nat.blt d C.N = true)
    (h : XK C os Q K n0 nd plan ((d, undef) :: l) M J) : XK C os Q K n0 nd ((i, 2) :: plan) l M J :=
  XK.skip hget (fun a ha => wantedU (i := i) ha hj ht hl) hd h
theorem XK.split {t : Nat} {b : Bool} (hl : lk l t = some (.bool b)) (h1 : b = true → XK C os Q K n0 nd plan ((t, .bool true) :: l) M J) (h2 : b = false → XK C os Q K n0 nd plan ((t, .bool false) :: l) M J) :
    XK C os Q K n0 nd plan l M J := by
  intro listed hcl hp a w ha hw hf
  have key : ∀ b', b = b' → Ag C.N ((t, .bool b') :: l) a := by
    rintro b' rfl
    refine ha.sub ?_
    intro i v hi
    simp only [lk] at hi
    by_cases e : t = i
    · subst e; simp at hi; subst hi; exact hl
    · simpa only [beq_ne e, cond_false] using hi
  cases b
  · exact h2 rfl listed hcl hp a w (key _ rfl) hw hf
  · exact h1 rfl listed hcl hp a w (key _ rfl) hw hf
end plan

/-! ### Nothing that is there changes -/
def XF (C : Cx) (os : List Oper) (Q : XQ) (nd : List Nat) (plan : List (Nat × Nat)) (l : Env) (M J : Mem) : Prop := XK C os Q (fun _ => False) 0 nd plan l M J
section free
variable {C : Cx} {Q : XQ} {l : Env} {M J : Mem} {os : List Oper} {nd : List Nat} {plan : List (Nat × Nat)}
theorem XC.drawF1 {id : Nat} (nd : List Nat) (plan : List (Nat × Nat)) (hm : C.P.follows .mixedOrders = true) (hp : planGood os nd plan = true) (h : Region.noSelect os.toArray = true → XF C os Q nd plan l M J) : XC C (.region id os.toArray true) Q l M J := by
  intro a w ha hw
  simp only [planGood, Bool.and_eq_true, beq_iff_eq] at hp
  obtain ⟨⟨h1, h3⟩, h4⟩ := hp
  refine Code.wp_mono (Q := noPanicX (lift C Q)) (fun e a w h => by cases e <;> first | exact h | exact h.elim) ?_
  refine wp_region_any hm (wpAny_of_S (S := Sk fun _ => False) (need := nd.contains) _ _ _ _ ?_)
  have := h h1 (Array.replicate os.length false) (fun j oj _ hl => by simp [Array.getElem?_replicate] at hl; split at hl <;> simp at hl) h4 a _ ha hw.drew (Nat.zero_le _)
  rw [h3] at this
  simpa using this
theorem XC.drawF {id : Nat} {c2 : Code} (nd : List Nat) (plan : List (Nat × Nat)) (hm : C.P.follows .mixedOrders = true) (hp : planGood os nd plan = true) (h : Region.noSelect os.toArray = true → XF C os (thenX C c2 Q) nd plan l M J) : XC C (.seq (.region id os.toArray true) c2) Q l M J :=
  XC.seq (XC.drawF1 nd plan hm hp h)
theorem XF.nil (h : Q .normal l M J) : XF C os Q nd [] l M J := XK.nil h
theorem XF.fin {c : Code} {l' : Env} (hk : Keep l l') (h : XC C c Q l' M J) : XF C os (thenX C c Q) nd [] l M J := XK.fin hk h
theorem XF.split {t : Nat} {b : Bool} (hl : lk l t = some (.bool b)) (h1 : b = true → XF C os Q nd plan ((t, .bool true) :: l) M J) (h2 : b = false → XF C os Q nd plan ((t, .bool false) :: l) M J) : XF C os Q nd plan l M J := XK.split hl h1 h2
theorem XF.keep {l' : Env} (hk : Keep l l') (h : XF C os Q nd plan l' M J) : XF C os Q nd plan l M J := XK.keep hk h
section ops
variable {i d j t : Nat} {op : Op} {ty : TypeId} {pos : String} {af : Array Edge} {b b' : Bool} {v : Value} {oj : Oper}
theorem XF.q (hs : Region.noSelect os.toArray = true) (hget : nth os i = some ⟨some d, op, ty, pos, af, none⟩) (hq : OpQ C.P [] ⟨some d, op, ty, pos, af, none⟩ l v) (hd : Nat.blt d C.N = true)
    (h : XF C os Q nd plan ((d, v) :: l) M J) : XF C os Q nd ((i, 0) :: plan) l M J := XK.q hs hget hq hd h
theorem XF.r (hs : Region.noSelect os.toArray = true) (hget : nth os i = some ⟨some d, op, ty, pos, af, none⟩) (hq : OpQ C.P (M ++ (J ++ C.A)) ⟨some d, op, ty, pos, af, none⟩ l v) (hd : Nat.blt d C.N = true)
    (h : XF C os Q nd plan ((d, v) :: l) M J) : XF C os Q nd ((i, 1) :: plan) l M J := XK.r hs hget (fun _ h => h) (fun _ _ h => h) hq hd h
theorem XF.qg (hs : Region.noSelect os.toArray = true) (hget : nth os i = some ⟨some d, op, ty, pos, af, some (j, b)⟩) (hj : nth os j = some oj) (ht : oj.dst = some t) (hl : lk l t = some (.bool b)) (hq : OpQ C.P [] ⟨some d, op, ty, pos, af, some (j, b)⟩ l v) (hd : Nat.blt d C.N = true)
    (h : XF C os Q nd plan ((d, v) :: l) M J) : XF C os Q nd ((i, 0) :: plan) l M J := XK.qg hs hget hj ht hl hq hd h
theorem XF.rg (hs : Region.noSelect os.toArray = true) (hget : nth os i = some ⟨some d, op, ty, pos, af, some (j, b)⟩) (hj : nth os j = some oj) (ht : oj.dst = some t) (hl : lk l t = some (.bool b)) (hq : OpQ C.P (M ++ (J ++ C.A)) ⟨some d, op, ty, pos, af, some (j, b)⟩ l v) (hd : Nat.blt d C.N = true)
    (h : XF C os Q nd plan ((d, v) :: l) M J) : XF C os Q nd ((i, 1) :: plan) l M J := XK.rg hs hget hj ht hl (fun _ h => h) (fun _ _ h => h) hq hd h
theorem XF.qn (hs : Region.noSelect os.toArray = true) (hget : nth os i = some ⟨some d, op, ty, pos, af, some (j, b)⟩) (hj : nth os j = some oj) (ht : oj.dst = some t) (hl : lk l t = some (.bool b')) (hb : (b' == b) = false) (hd : Nat.blt d C.N = true)
    (h : XF C os Q nd plan ((d, undef) :: l) M J) : XF C os Q nd ((i, 0) :: plan) l M J := XK.qn hs hget hj ht hl hb hd h
theorem XF.rn (hs : Region.noSelect os.toArray = true) (hget : nth os i = some ⟨some d, op, ty, pos, af, some (j, b)⟩) (hj : nth os j = some oj) (ht : oj.dst = some t) (hl : lk l t = some (.bool b')) (hb : (b' == b) = false) (hd : Nat.blt d C.N = true)
    (h : XF C os Q nd plan ((d, undef) :: l) M J) : XF C os Q nd ((i, 1) :: plan) l M J := XK.rn hs hget hj ht hl hb hd h
theorem XF.ln (hs : Region.noSelect os.toArray = true) (hget : nth os i = some ⟨some d, op, ty, pos, af, some (j, b)⟩) (hj : nth os j = some oj) (ht : oj.dst = some t) (hl : lk l t = some (.bool b')) (hb : (b' == b) = false) (hd : Nat.blt d C.N = true)
    (h : XF C os Q nd plan ((d, undef) :: l) M J) : XF C os Q nd ((i, 2) :: plan) l M J := XK.ln hget hj ht hl hb hd h
theorem XF.qu (hs : Region.noSelect os.toArray = true) (hget : nth os i = some ⟨some d, op, ty, pos, af, some (j, b)⟩) (hj : nth os j = some oj) (ht : oj.dst = some t) (hl : lk l t = some undef) (hd : Nat.blt d C.N = true)
    (h : XF C os Q nd plan ((d, undef) :: l) M J) : XF C os Q nd ((i, 0) :: plan) l M J := XK.qu hs hget hj ht hl hd h
theorem XF.ru (hs : Region.noSelect os.toArray = true) (hget : nth os i = some ⟨some d, op, ty, pos, af, some (j, b)⟩) (hj : nth os j = some oj) (ht : oj.dst = some t) (hl : lk l t = some undef) (hd : Nat.blt d C.N = true)
    (h : XF C os Q nd plan ((d, undef) :: l) M J) : XF C os Q nd ((i, 1) :: plan) l M J := XK.ru hs hget hj ht hl hd h
theorem XF.lu (hs : Region.noSelect os.toArray = true) (hget : nth os i = some ⟨some d, op, ty, pos, af, some (j, b)⟩) (hj : nth os j = some oj) (ht : oj.dst = some t) (hl : lk l t = some undef) (hd : Nat.blt d C.N = true)
    (h : XF C os Q nd plan ((d, undef) :: l) M J) : XF C os Q nd ((i, 2) :: plan) l M J := XK.lu hget hj ht hl hd h
end ops
/-- A loud operation that makes new blocks alone. -/
theorem XF.lo {i : Nat} {o : Oper} (hget : nth os i = some o) (hg : o.guard = none)
    (h : ∀ w, OpL ⟨C.P, w, [], M ++ (J ++ C.A), C.N⟩ o l [] [] (fun l' M' J' => XF C os Q nd plan l' (M' ++ M) (J' ++ J))) : XF C os Q nd ((i, 2) :: plan) l M J :=
  XK.lo [] M hget hg (.refl _) (fun _ h => by cases h) fun w => (h w).mono fun _ _ _ hh _ => hh
theorem XF.lg {i j t : Nat} {d : Option Nat} {op : Op} {ty : TypeId} {pos : String} {af : Array Edge} {b : Bool} {oj : Oper} (hget : nth os i = some ⟨d, op, ty, pos, af, some (j, b)⟩) (hj : nth os j = some oj) (ht : oj.dst = some t) (hl : lk l t = some (.bool b))
    (h : ∀ w, OpL ⟨C.P, w, [], M ++ (J ++ C.A), C.N⟩ ⟨d, op, ty, pos, af, some (j, b)⟩ l [] [] (fun l' M' J' => XF C os Q nd plan l' (M' ++ M) (J' ++ J))) : XF C os Q nd ((i, 2) :: plan) l M J :=
  XK.lg [] M hget hj ht hl (.refl _) (fun _ h => by cases h) fun w => (h w).mono fun _ _ _ hh _ => hh
end free

/-! ### What comes last in a drawn region may change what is there -/
section tails
variable {C : Cx} {Q : XQ} {l : Env} {M J : Mem} {os : List Oper} {K : Nat → Prop} {n0 : Nat} {nd : List Nat} {plan : List (Nat × Nat)}
theorem XK.last {i : Nat} {o : Oper} (hget : nth os i = some o) (hw' : ∀ a, Ag C.N l a → Region.wanted o (yielded os.toArray a.tmps) = true) (hnd : nd.contains i = false)
    (h : OpL C o l M J (fun l' M' J' => XK C os Q K 0 nd plan l' M' J')) : XK C os Q K 0 nd ((i, 2) :: plan) l M J := by
  intro listed hcl hp a w ha hw hf
  simp only [planOk, Bool.and_eq_true, beq_iff_eq] at hp
  obtain ⟨h1, h2⟩ := hp
  have hi : os.toArray[i]? = some o := by rw [nth_eq] at hget; simpa using hget
  refine ⟨fun h0 => (by rw [h1] at h0; cases h0), fun j hj => ?_⟩
  have hr := hj
  rw [h1] at hj
  simp only [List.mem_singleton] at hj
  subst hj
  unfold wpOp
  simp only [hi]
  rw [if_pos (hw' a ha)]
  refine .inl (Oper.wp_mono ?_ (h _ a w ha hw))
  rintro a' w' ⟨l', M', J', ha', hs', hk⟩
  exact ⟨fun hn => absurd hn (by rw [hnd]; decide), hk _ (closed_set hcl hr) h2 a' w' ha' hs' (Nat.zero_le _)⟩
theorem XF.tl {i : Nat} {o : Oper} (hget : nth os i = some o) (hg : o.guard = none) (hnd : nd.contains i = false) (h : OpL C o l M J (fun l' M' J' => XF C os Q nd plan l' M' J')) : XF C os Q nd ((i, 2) :: plan) l M J :=
  XK.last hget (fun a ha => by simp [Region.wanted, hg]) hnd h
theorem XF.tg {i j t : Nat} {d : Option Nat} {op : Op} {ty : TypeId} {pos : String} {af : Array Edge} {b : Bool} {oj : Oper} (hget : nth os i = some ⟨d, op, ty, pos, af, some (j, b)⟩) (hj : nth os j = some oj) (ht : oj.dst = some t) (hl : lk l t = some (.bool b)) (hnd : nd.contains i = false) (h : OpL C ⟨d, op, ty, pos, af, some (j, b)⟩ l M J (fun l' M' J' => XF C os Q nd plan l' M' J')) : XF C os Q nd ((i, 2) :: plan) l M J :=
  XK.last hget (fun a ha => by
    have hj' : os.toArray[j]? = some oj := by rw [nth_eq] at hj; simpa using hj
    simp only [Region.wanted, yielded, hj', Option.bind_some, ht, ha.slot _ _ hl]; simp) hnd h
end tails

/-! ### A loop, round by round -/
def XR (C : Cx) (c : Code) (Q : XQ) (n : Nat) (l : Env) (M J : Mem) : Prop := ∀ a w, Ag C.N l a → St C M J w → Code.rounds C.P c (lift C Q) n a w
def unX (C : Cx) (c : Code) (Q : XQ) (n : Nat) : XQ
  | .normal, l, M, J => XR C c Q n l M J
  | e, l, M, J => Q e l M J
section unroll
variable {C : Cx} {Q : XQ} {l l' : Env} {M J : Mem} {c : Code} {n : Nat}
theorem XC.rounds (n : Nat) (h : XR C c Q n l M J) : XC C (.loop c) Q l M J := fun a w ha hw => wp_loop_rounds n (h a w ha hw)
theorem XR.step (h : XC C c (unX C c Q n) l M J) : XR C c Q (n + 1) l M J := by
  intro a w ha hw
  refine Code.wp_mono ?_ (h a w ha hw)
  rintro e a' w' ⟨l', M', J', ha', hw', hq⟩
  cases e with
  | normal => exact hq a' w' ha' hw'
  | _ => exact ⟨l', M', J', ha', hw', hq⟩
theorem un (hk : Keep l l') (h : XR C c Q n l' M J) : unX C c Q n .normal l M J := fun a w ha hw => h a w (ha.sub hk.lk) hw
theorem ue {i : Nat} (h : Q (.exit i) l M J) : unX C c Q n (.exit i) l M J := h
theorem ur (h : Q .ret l M J) : unX C c Q n .ret l M J := h
end unroll

/-! ### A call that gets no blocks -/
section call
variable {C : Cx} {Q : XQ} {l : Env} {M J : Mem} {d i j t : Nat} {ty : TypeId} {pos : String} {af : Array Edge} {b : Bool} {f : FuncId} {xs : List Operand} {vs : List Value} {ts : Array TypeId} {post : Value → Mem → Mem → Prop} {K : Env → Mem → Mem → Prop} {g : Option (Nat × Bool)}
theorem l_call0 (hx : Evs l xs vs) (hc : callable C.P f = true)
    (hf : FnX C.P f vs [] (M ++ (J ++ C.A)) post) (hd : Nat.blt d C.N = true) (k : ∀ v M' J', post v M' J' → K ((d, v) :: l) (M' ++ M) (J' ++ J)) :
    OpL C ⟨some d, .call { callee := .value (.func f), args := xs.toArray, argTypes := ts }, ty, pos, af, g⟩ l M J K := l_call (Mc := []) (R := M) hx hc (.refl _) hf hd k
theorem XL.call {ops : Array Oper} {rest : List Oper} (hx : Evs l xs vs) (hc : callable C.P f = true) (hf : FnX C.P f vs [] (M ++ (J ++ C.A)) post) (hd : Nat.blt d C.N = true)
    (k : ∀ v M' J', post v M' J' → XL C ops rest Q ((d, v) :: l) (M' ++ M) (J' ++ J)) :
    XL C ops (⟨some d, .call { callee := .value (.func f), args := xs.toArray, argTypes := ts }, ty, pos, af, none⟩ :: rest) Q l M J := XL.lo rfl (l_call0 hx hc hf hd k)
theorem XL.callg {ops : Array Oper} {rest : List Oper} (ht : (ops[j]?).bind (·.dst) = some t) (hl : lk l t = some (.bool b)) (hx : Evs l xs vs) (hc : callable C.P f = true) (hf : FnX C.P f vs [] (M ++ (J ++ C.A)) post) (hd : Nat.blt d C.N = true)
    (k : ∀ v M' J', post v M' J' → XL C ops rest Q ((d, v) :: l) (M' ++ M) (J' ++ J)) :
    XL C ops (⟨some d, .call { callee := .value (.func f), args := xs.toArray, argTypes := ts }, ty, pos, af, some (j, b)⟩ :: rest) Q l M J := XL.gy ht hl (l_call0 hx hc hf hd k)
variable {os : List Oper} {nd : List Nat} {plan : List (Nat × Nat)} {oj : Oper}
theorem XF.call (hget : nth os i = some ⟨some d, .call { callee := .value (.func f), args := xs.toArray, argTypes := ts }, ty, pos, af, none⟩) (hx : Evs l xs vs) (hc : callable C.P f = true) (hf : FnX C.P f vs [] (M ++ (J ++ C.A)) post) (hd : Nat.blt d C.N = true)
    (k : ∀ v M' J', post v M' J' → XF C os Q nd plan ((d, v) :: l) (M' ++ M) (J' ++ J)) : XF C os Q nd ((i, 2) :: plan) l M J :=
  XF.lo hget rfl fun w => l_call0 hx hc hf hd fun v M' J' hp => by simpa using k v M' J' hp
theorem XF.callg (hget : nth os i = some ⟨some d, .call { callee := .value (.func f), args := xs.toArray, argTypes := ts }, ty, pos, af, some (j, b)⟩) (hj : nth os j = some oj) (ht : oj.dst = some t) (hl : lk l t = some (.bool b)) (hx : Evs l xs vs) (hc : callable C.P f = true) (hf : FnX C.P f vs [] (M ++ (J ++ C.A)) post) (hd : Nat.blt d C.N = true)
    (k : ∀ v M' J', post v M' J' → XF C os Q nd plan ((d, v) :: l) (M' ++ M) (J' ++ J)) : XF C os Q nd ((i, 2) :: plan) l M J :=
  XF.lg hget hj ht hl fun w => l_call0 hx hc hf hd fun v M' J' hp => by simpa using k v M' J' hp
/-- .. and only computes. -/
theorem XL.callV {ops : Array Oper} {rest : List Oper} {v : Value} (hx : Evs l xs vs) (hc : callable C.P f = true) (hf : FnV C.P f vs (M ++ (J ++ C.A)) v) (hd : Nat.blt d C.N = true) (k : XL C ops rest Q ((d, v) :: l) M J) :
    XL C ops (⟨some d, .call { callee := .value (.func f), args := xs.toArray, argTypes := ts }, ty, pos, af, none⟩ :: rest) Q l M J := XL.call hx hc hf hd fun r M' J' h => by obtain ⟨rfl, rfl, rfl⟩ := h; exact k
theorem XL.callVg {ops : Array Oper} {rest : List Oper} {v : Value} (ht : (ops[j]?).bind (·.dst) = some t) (hl : lk l t = some (.bool b)) (hx : Evs l xs vs) (hc : callable C.P f = true) (hf : FnV C.P f vs (M ++ (J ++ C.A)) v) (hd : Nat.blt d C.N = true) (k : XL C ops rest Q ((d, v) :: l) M J) :
    XL C ops (⟨some d, .call { callee := .value (.func f), args := xs.toArray, argTypes := ts }, ty, pos, af, some (j, b)⟩ :: rest) Q l M J := XL.callg ht hl hx hc hf hd fun r M' J' h => by obtain ⟨rfl, rfl, rfl⟩ := h; exact k
theorem XF.callV {v : Value} (hget : nth os i = some ⟨some d, .call { callee := .value (.func f), args := xs.toArray, argTypes := ts }, ty, pos, af, none⟩) (hx : Evs l xs vs) (hc : callable C.P f = true) (hf : FnV C.P f vs (M ++ (J ++ C.A)) v) (hd : Nat.blt d C.N = true)
    (k : XF C os Q nd plan ((d, v) :: l) M J) : XF C os Q nd ((i, 2) :: plan) l M J := XF.call hget hx hc hf hd fun r M' J' h => by obtain ⟨rfl, rfl, rfl⟩ := h; exact k
theorem XF.callVg {v : Value} (hget : nth os i = some ⟨some d, .call { callee := .value (.func f), args := xs.toArray, argTypes := ts }, ty, pos, af, some (j, b)⟩) (hj : nth os j = some oj) (ht : oj.dst = some t) (hl : lk l t = some (.bool b)) (hx : Evs l xs vs) (hc : callable C.P f = true) (hf : FnV C.P f vs (M ++ (J ++ C.A)) v) (hd : Nat.blt d C.N = true)
    (k : XF C os Q nd plan ((d, v) :: l) M J) : XF C os Q nd ((i, 2) :: plan) l M J := XF.callg hget hj ht hl hx hc hf hd fun r M' J' h => by obtain ⟨rfl, rfl, rfl⟩ := h; exact k
end call
end Go.Px

/-
  Groups of operations of a drawn region that come up in any order; each makes new blocks alone, which are read only behind it.
-/
set_option linter.unusedVariables false
set_option linter.unusedSimpArgs false
namespace Go.Px
/-- A member: its number, its slot, what it yields (with the facts that are there). -/
structure Gm where
  i : Nat
  d : Nat
  φ : Value → Mem → Prop
def gEnv (G : List Gm) (vs : Nat → Value) : Env := G.map fun g => (g.d, vs g.i)
def enc : List Nat → List (Nat × Nat)
  | [] => []
  | [i] => [(i, 4)]
  | i :: j :: r => (i, 3) :: enc (j :: r)

inductive GOk (ops : Array Oper) : Array Bool → List Nat → Array Bool → Prop
  | nil {A : Array Bool} : GOk ops A [] A
  | cons {A B : Array Bool} {i : Nat} {r : List Nat} (hr : i ∈ Region.ready .any ops A) (ho : ∀ j, j < ops.size → A.getD j true = false → j ∉ i :: r → anc ops ops.size j i = true) (h : GOk ops (A.setIfInBounds i true) r B) : GOk ops A (i :: r) B
theorem grp_enc (i : Nat) (r : List Nat) (plan : List (Nat × Nat)) : grp (enc (i :: r) ++ plan) = i :: r := by
  induction r generalizing i with
  | nil => rfl
  | cons j r ih => simp only [enc, List.cons_append, grp]; rw [ih j]
theorem enc_ok {ops : Array Oper} {nd : List Nat} {plan : List (Nat × Nat)} : ∀ {is : List Nat} {A : Array Bool}, planOk ops nd (enc is ++ plan) A = true → ∃ B, GOk ops A is B ∧ planOk ops nd plan B = true
  | [], A, h => ⟨A, .nil, h⟩
  | [i], A, h => by
    simp only [enc, List.cons_append, List.nil_append, planOk, grpOk, Bool.and_eq_true, List.all_eq_true, List.mem_range, Bool.or_eq_true] at h
    refine ⟨_, .cons (by simpa using h.1.1) (fun j hj hu hn => ?_) .nil, h.2⟩
    rcases h.1.2 j hj with (h1 | h1) | h1
    · rw [hu] at h1; cases h1
    · exact absurd (by simpa using h1) hn
    · exact h1
  | i :: j :: r, A, h => by
    simp only [enc, List.cons_append, planOk, grpOk, Bool.and_eq_true, List.all_eq_true, List.mem_range, Bool.or_eq_true, grp_enc] at h
    obtain ⟨B, hB, hp⟩ := enc_ok (is := j :: r) h.2
    refine ⟨B, .cons (by simpa using h.1.1) (fun j hj hu hn => ?_) hB, hp⟩
    rcases h.1.2 j hj with (h1 | h1) | h1
    · rw [hu] at h1; cases h1
    · exact absurd (by simpa using h1) hn
    · exact h1

def mark (A : Array Bool) (X : List Nat) : Array Bool := X.foldl (fun B i => B.setIfInBounds i true) A
theorem mark_get (X : List Nat) : ∀ (A : Array Bool) (j : Nat), (mark A X)[j]? = if j ∈ X ∧ j < A.size then some true else A[j]? := by
  induction X with
  | nil => intro A j; simp [mark]
  | cons i X ih =>
    intro A j
    have := ih (A.setIfInBounds i true) j
    simp only [mark, List.foldl_cons] at this ⊢
    rw [this]
    simp only [Array.size_setIfInBounds, List.mem_cons]
    by_cases h1 : j < A.size
    · by_cases h2 : j ∈ X
      · simp [h1, h2]
      · by_cases h3 : i = j
        · subst h3; simp [h1, h2]
        · have h3' : j ≠ i := fun h => h3 h.symm
          simp [h1, h2, h3, h3', Array.getElem?_setIfInBounds]
    · simp [h1]
theorem mark_snoc (A : Array Bool) (X : List Nat) (i : Nat) : mark A (X ++ [i]) = (mark A X).setIfInBounds i true := by simp [mark]
theorem mark_eq {A : Array Bool} {X Y : List Nat} (h : ∀ j, j ∈ X ↔ j ∈ Y) : mark A X = mark A Y := by
  apply Array.ext_getElem?
  intro j; rw [mark_get, mark_get]; simp only [h]
theorem mark_getD_f {A : Array Bool} {X : List Nat} {j : Nat} : (mark A X).getD j true = false ↔ (A.getD j true = false ∧ ¬ (j ∈ X ∧ j < A.size)) := by
  have := mark_get X A j
  simp only [Array.getD_eq_getD_getElem?, this]
  split
  · simp_all
  · simp_all
theorem mark_getD_t {A : Array Bool} {X : List Nat} {j : Nat} (h : (mark A X).getD j false = true) : A.getD j false = true ∨ j ∈ X := by
  have := mark_get X A j
  simp only [Array.getD_eq_getD_getElem?, this] at h ⊢
  split at h
  · rename_i hh; exact .inr hh.1
  · exact .inl h
theorem GOk.mark {ops : Array Oper} {A B : Array Bool} {is : List Nat} (h : GOk ops A is B) : B = mark A is := by
  induction h with
  | nil => rfl
  | cons _ _ _ ih => rw [ih]; rfl
theorem ready_un {ops : Array Oper} {A : Array Bool} {i : Nat} (h : i ∈ Region.ready .any ops A) : A.getD i true = false := (mem_ready.1 h).1
theorem ready_lt {ops : Array Oper} {A : Array Bool} {i : Nat} (h : i ∈ Region.ready .any ops A) : i < ops.size := by
  obtain ⟨_, oj, hoj, _⟩ := mem_ready.1 h
  exact (Array.getElem?_eq_some_iff.1 hoj).1
/-- Whoever isn't of the group waits for all of it. -/
theorem GOk.outer {ops : Array Oper} {A B : Array Bool} {is : List Nat} (h : GOk ops A is B) : ∀ i ∈ is, ∀ j, j < ops.size → A.getD j true = false → j ∉ is → anc ops ops.size j i = true := by
  induction h with
  | nil => intro i hi; cases hi
  | @cons A B i r hr ho h ih =>
    intro k hk j hj hu hn
    rcases List.mem_cons.1 hk with rfl | hk
    · exact ho j hj hu hn
    · have hne : i ≠ j := fun e => hn (e ▸ List.mem_cons_self)
      exact ih k hk j hj (by rw [getD_set_ne true hne]; exact hu) (fun hm => hn (List.mem_cons_of_mem _ hm))
/-- Who is first of those that are missing is ready. -/
theorem ready_more {ops : Array Oper} {A A' : Array Bool} {i : Nat} (hr : i ∈ Region.ready .any ops A) (hu : A'.getD i true = false) (hm : ∀ j, A.getD j false = true → A'.getD j false = true) : i ∈ Region.ready .any ops A' := by
  obtain ⟨h1, oj, hoj, hall⟩ := mem_ready.1 hr
  exact mem_ready.2 ⟨hu, oj, hoj, fun e he hb => hm _ (hall e he hb)⟩
theorem getD_f_lt {A : Array Bool} {i : Nat} (h : A.getD i true = false) : i < A.size := by
  rcases Nat.lt_or_ge i A.size with h1 | h1
  · exact h1
  · simp [Array.getElem?_eq_none h1] at h
theorem GOk.first {ops : Array Oper} {A B : Array Bool} {is : List Nat} (h : GOk ops A is B) {A' : Array Bool} (hsz : A'.size = A.size) (hm : ∀ j, A.getD j false = true → A'.getD j false = true) {k : Nat} (hk : k ∈ is) (hk' : A'.getD k true = false) : ∃ i, i ∈ Region.ready .any ops A' := by
  induction h generalizing k with
  | nil => cases hk
  | @cons A B i r hr ho h ih =>
    by_cases hi : A'.getD i true = false
    · exact ⟨i, ready_more hr hi hm⟩
    · rcases List.mem_cons.1 hk with rfl | hk
      · exact absurd hk' hi
      · refine ih (by simpa using hsz) (fun j hj => ?_) hk hk'
        by_cases e : i = j
        · subst e
          have hlt := getD_f_lt (ready_un hr)
          have hlt' : i < A'.size := by omega
          simp [hlt'] at hi ⊢; exact hi
        · rw [getD_set_ne false e] at hj
          exact hm j hj
theorem mark_size (A : Array Bool) (X : List Nat) : (mark A X).size = A.size := by
  induction X generalizing A with
  | nil => rfl
  | cons i X ih => simp only [mark, List.foldl_cons] at ih ⊢; rw [ih]; simp
theorem mark_mono {A : Array Bool} {X : List Nat} {j : Nat} (h : A.getD j false = true) : (mark A X).getD j false = true := by
  have := mark_get X A j
  simp only [Array.getD_eq_getD_getElem?, this] at h ⊢
  split
  · rfl
  · exact h
theorem St.freezeAll {C : Cx} {M J : Mem} {w : World} : ∀ {B : Mem}, St C (B ++ M) J w → St C M (B ++ J) w
  | [], h => h
  | x :: B, h => by
    have h1 := St.freezeAll (B := B) (h.freeze)
    exact h1.drop (List.Sublist.refl _) fun y hy => by
      simp only [List.cons_append, List.mem_cons, List.mem_append] at hy ⊢
      rcases hy with hy | hy | hy <;> simp [hy]

theorem nodup_le {X : List Nat} : ∀ {Y : List Nat}, X.Nodup → (∀ x ∈ X, x ∈ Y) → X.length ≤ Y.length := by
  induction X with
  | nil => intros; simp
  | cons x X ih =>
    intro Y hn hs
    simp only [List.nodup_cons] at hn
    have h1 := ih (Y := Y.erase x) hn.2 fun z hz => (List.mem_erase_of_ne (fun e => hn.1 (by rw [← e]; exact hz))).2 (hs z (List.mem_cons_of_mem _ hz))
    have h2 := List.length_erase_of_mem (hs x List.mem_cons_self)
    have h3 : 0 < Y.length := List.length_pos_of_mem (hs x List.mem_cons_self)
    simp only [List.length_cons]; omega
theorem nodup_all {X Y : List Nat} (hn : X.Nodup) (hs : ∀ x ∈ X, x ∈ Y) (hl : Y.length ≤ X.length) : ∀ y ∈ Y, y ∈ X := by
  intro y hy
  apply Classical.byContradiction
  intro hno
  have := nodup_le (X := y :: X) (Y := Y) (List.nodup_cons.2 ⟨hno, hn⟩) (fun z hz => by
    rcases List.mem_cons.1 hz with rfl | hz
    · exact hy
    · exact hs z hz)
  simp at this; omega
theorem gm_inj {G : List Gm} (h : (G.map (·.i)).Nodup) {g g' : Gm} (hg : g ∈ G) (hg' : g' ∈ G) (e : g.i = g'.i) : g = g' := by
  induction G with
  | nil => cases hg
  | cons x G ih =>
    simp only [List.map_cons, List.nodup_cons] at h
    rcases List.mem_cons.1 hg with h1 | h1 <;> rcases List.mem_cons.1 hg' with h2 | h2
    · rw [h1, h2]
    · exact absurd (by rw [← h1, e]; exact List.mem_map_of_mem (f := Gm.i) h2) h.1
    · exact absurd (by rw [← h2, ← e]; exact List.mem_map_of_mem (f := Gm.i) h1) h.1
    · exact ih h.2 h1 h2

theorem gEnv_set {N : Nat} {G : List Gm} {l : Env} {vs : Nat → Value} {a : Act} {g : Gm} (hg : g ∈ G) (hd : (G.map (·.d)).Nodup) (hi : (G.map (·.i)).Nodup) {v : Value} (h : Ag N ((g.d, v) :: (gEnv G vs ++ l)) a) :
    Ag N (gEnv G (fun k => if k = g.i then v else vs k) ++ l) a := by
  refine h.sub ?_
  have key : ∀ (G : List Gm), g ∈ G → (G.map (·.d)).Nodup → (G.map (·.i)).Nodup → ∀ k u, lk (gEnv G (fun k => if k = g.i then v else vs k) ++ l) k = some u → lk ((g.d, v) :: (gEnv G vs ++ l)) k = some u := by
    intro G
    have step : ∀ (G : List Gm), (∀ x ∈ G, x.i ≠ g.i) → gEnv G (fun k => if k = g.i then v else vs k) = gEnv G vs := by
      intro G hG
      exact List.map_congr_left fun x hx => by simp [hG x hx]
    induction G with
    | nil => intro h; cases h
    | cons x G ih =>
      intro hm hd hi k u hk
      simp only [List.map_cons, List.nodup_cons] at hd hi
      rcases List.mem_cons.1 hm with rfl | hm
      · have e := step G fun x hx e => hi.1 (e ▸ List.mem_map_of_mem (f := Gm.i) hx)
        simp only [gEnv, List.map_cons, List.cons_append, lk] at hk ⊢
        by_cases h1 : g.d = k
        · subst h1; simpa using hk
        · simp only [beq_ne h1, cond_false] at hk ⊢
          rw [show List.map (fun g_1 => (g_1.d, if g_1.i = g.i then v else vs g_1.i)) G = gEnv G vs from e] at hk
          exact hk
      · have hne : x.i ≠ g.i := fun e => hi.1 (e ▸ List.mem_map_of_mem (f := Gm.i) hm)
        have hned : x.d ≠ g.d := fun e => hd.1 (e ▸ List.mem_map_of_mem (f := Gm.d) hm)
        simp only [gEnv, List.map_cons, List.cons_append, lk, hne, if_false] at hk ⊢
        by_cases h1 : g.d = k
        · subst h1
          simp only [beq_ne hned, cond_false] at hk
          have := ih hm hd.2 hi.2 g.d u hk
          simp only [lk] at this ⊢
          simpa using this
        · simp only [beq_ne h1, cond_false]
          by_cases h2 : x.d = k
          · subst h2; simpa using hk
          · simp only [beq_ne h2, cond_false] at hk ⊢
            have := ih hm hd.2 hi.2 k u hk
            simp only [lk, beq_ne h1, cond_false] at this
            exact this
  exact key G hg hd hi

section group
variable {C : Cx} {Q : XQ} {l : Env} {M J : Mem} {os : List Oper} {K : Nat → Prop} {n0 : Nat} {nd : List Nat} {plan : List (Nat × Nat)}
/-- Is an operation asked, in a state? -/
def Asked (os : List Oper) (l : Env) (o : Oper) : Prop := o.guard = none ∨ ∃ j t b oj, o.guard = some (j, b) ∧ nth os j = some oj ∧ oj.dst = some t ∧ lk l t = some (.bool b)
theorem Asked.wanted {o : Oper} (h : Asked os l o) {a : Act} (ha : Ag C.N l a) : Region.wanted o (yielded os.toArray a.tmps) = true := by
  rcases h with h | ⟨j, t, b, oj, h1, h2, h3, h4⟩
  · simp [Region.wanted, h]
  · have hj' : os.toArray[j]? = some oj := by rw [nth_eq] at h2; simpa using h2
    simp only [Region.wanted, h1, yielded, hj', Option.bind_some, h3, ha.slot _ _ h4]; simp
/-- What a member owes: with what those yield that it waits for. -/
def Owes (C : Cx) (os : List Oper) (l : Env) (M J : Mem) (G : List Gm) (g : Gm) : Prop :=
  ∃ o, nth os g.i = some o ∧ ∀ (vs : Nat → Value) (R : Mem) (w : World), (∀ x ∈ M ++ (J ++ C.A), x ∈ R) → (∀ g' ∈ G, anc os.toArray os.toArray.size g.i g'.i = true → g'.φ (vs g'.i) R) →
    Asked os (gEnv G vs ++ l) o ∧ OpL ⟨C.P, w, [], R, C.N⟩ o (gEnv G vs ++ l) [] [] (fun l' M' J' => ∃ v, l' = (g.d, v) :: (gEnv G vs ++ l) ∧ g.φ v (M' ++ (J' ++ R)))
def Grows (φ : Value → Mem → Prop) : Prop := ∀ v R R', (∀ x ∈ R, x ∈ R') → φ v R → φ v R'

theorem group_go {G : List Gm} (hmono : ∀ g ∈ G, Grows g.φ) (hd : (G.map (·.d)).Nodup) (hi : (G.map (·.i)).Nodup) (hdN : ∀ g ∈ G, g.d < C.N) (hob : ∀ g ∈ G, Owes C os l M J G g) {A B : Array Bool} (hok : GOk os.toArray A (G.map (·.i)) B)
    (hfin : ∀ (vs : Nat → Value) Jn a w, (∀ g ∈ G, g.φ (vs g.i) (M ++ ((Jn ++ J) ++ C.A))) → Ag C.N (gEnv G vs ++ l) a → St C M (Jn ++ J) w → n0 ≤ w.heap.size → wpAnyS C.P os.toArray (noPanicX (lift C Q)) (Sk K) nd.contains plan.length B a w) :
    ∀ (n : Nat) (X : List Nat) (vs : Nat → Value) (Jn : Mem) (a : Act) (w : World), X.Nodup → (∀ i ∈ X, i ∈ G.map (·.i)) → n + X.length = G.length → Closed os.toArray (mark A X) →
      (∀ g ∈ G, g.i ∈ X → g.φ (vs g.i) (M ++ ((Jn ++ J) ++ C.A))) → Ag C.N (gEnv G vs ++ l) a → St C M (Jn ++ J) w → n0 ≤ w.heap.size →
      wpAnyS C.P os.toArray (noPanicX (lift C Q)) (Sk K) nd.contains (n + plan.length) (mark A X) a w := by
  intro n
  induction n with
  | zero =>
    intro X vs Jn a w hnd hX hlen hcl hφ ha hw hn
    have hall : ∀ i, i ∈ X ↔ i ∈ G.map (·.i) := fun i => ⟨hX i, nodup_all hnd hX (by simp; omega) i⟩
    rw [Nat.zero_add, mark_eq hall, ← hok.mark]
    exact hfin vs Jn a w (fun g hg => hφ g hg ((hall _).2 (List.mem_map_of_mem (f := Gm.i) hg))) ha hw hn
  | succ n ih =>
    intro X vs Jn a w hnd hX hlen hcl hφ ha hw hn
    have hmiss : ∃ k ∈ G.map (·.i), k ∉ X := by
      apply Classical.byContradiction
      intro hno
      have hs : ∀ k ∈ G.map (·.i), k ∈ X := fun k hk => Classical.byContradiction fun h => hno ⟨k, hk, h⟩
      have := nodup_le hi hs
      simp at this; omega
    obtain ⟨k, hkG, hkX⟩ := hmiss
    have hun : ∀ i ∈ G.map (·.i), A.getD i true = false := by
      have : ∀ {is A B}, GOk os.toArray A is B → ∀ i ∈ is, A.getD i true = false := by
        intro is A B h
        induction h with
        | nil => intro i hi; cases hi
        | @cons A B i r hr ho h ih =>
          intro k hk
          rcases List.mem_cons.1 hk with rfl | hk
          · exact ready_un hr
          · have h2 := ih k hk
            by_cases e : i = k
            · subst e; exact ready_un hr
            · rwa [getD_set_ne true e] at h2
      exact this hok
    have hkun : (mark A X).getD k true = false := mark_getD_f.2 ⟨hun k hkG, fun h => hkX h.1⟩
    rw [show n + 1 + plan.length = (n + plan.length) + 1 by omega]
    refine ⟨fun h0 => ?_, fun i hir => ?_⟩
    · obtain ⟨i, hir⟩ := hok.first (mark_size A X) (fun j hj => mark_mono hj) hkG hkun
      rw [h0] at hir; cases hir
    · have hiG : i ∈ G.map (·.i) := by
        apply Classical.byContradiction
        intro hno
        have h1 := mark_getD_f.1 (ready_un hir)
        have h2 := hok.outer k hkG i (ready_lt hir) h1.1 hno
        exact not_both hkun (anc_ready hcl h2 hir)
      obtain ⟨g, hg, rfl⟩ := List.mem_map.1 hiG
      have hiX : g.i ∉ X := fun h => (mark_getD_f.1 (ready_un hir)).2 ⟨h, getD_f_lt (hun _ hiG)⟩
      obtain ⟨o, hget, howe⟩ := hob g hg
      have hi' : os.toArray[g.i]? = some o := by rw [nth_eq] at hget; simpa using hget
      obtain ⟨hask, hop⟩ := howe vs (M ++ ((Jn ++ J) ++ C.A)) w (fun x hx => by simp only [List.mem_append] at hx ⊢; rcases hx with h | h | h <;> simp [h]) (fun g' hg' hanc => hφ g' hg' (by
        have h3 := anc_ready hcl hanc hir
        rcases mark_getD_t h3 with h4 | h4
        · exact (not_both (hun _ (List.mem_map_of_mem (f := Gm.i) hg')) h4).elim
        · exact h4))
      unfold wpOp
      simp only [hi']
      rw [if_pos (hask.wanted ha)]
      have hcal := hw.callee (Mc := []) (R := M) (.refl _)
      refine .inl (Oper.wp_mono ?_ (hop _ a w ha hcal.cx))
      rintro a' w' ⟨l', M', J', ha', hs', v, rfl, hφv⟩
      have hsz : w.heap.size ≤ w'.heap.size := hs'.size
      have hb := hw.back (Mc := []) (R := M) (.refl _) hs'.cx
      have hfr := St.freezeAll hb
      have hfr2 : St C M ((M' ++ (J' ++ Jn)) ++ J) w' := hfr.drop (List.Sublist.refl _) fun x hx => by
        simp only [List.mem_append] at hx ⊢
        rcases hx with (h | h | h) | h <;> simp [h]
      refine ⟨fun _ b hb' hnk => hs'.frame b hb' (by simp), ?_⟩
      rw [← mark_snoc]
      refine ih (X ++ [g.i]) (fun k => if k = g.i then v else vs k) (M' ++ (J' ++ Jn)) a' w' ?_ ?_ (by simp; omega) ?_ ?_ (gEnv_set hg hd hi ha') hfr2 (Nat.le_trans hn hsz)
      · rw [List.nodup_append]; exact ⟨hnd, by simp, fun x hx y hy e => hiX (by simp at hy; subst hy; exact e ▸ hx)⟩
      · intro j hj
        rcases List.mem_append.1 hj with hj | hj
        · exact hX j hj
        · simp at hj; subst hj; exact hiG
      · rw [mark_snoc]; exact closed_set hcl hir
      · intro g' hg' hm
        by_cases e : g'.i = g.i
        · have : g' = g := gm_inj hi hg' hg e
          subst this
          simp only [if_true]
          exact hmono g' hg' _ _ _ (fun x hx => by simp only [List.mem_append] at hx ⊢; rcases hx with h | h | h | ((h | h) | h) <;> simp [h]) hφv
        · simp only [e, if_false]
          have hm' : g'.i ∈ X := by simpa [e] using hm
          exact hmono g' hg' _ _ _ (fun x hx => by simp only [List.mem_append] at hx ⊢; rcases hx with h | (h | h) | h <;> simp [h]) (hφ g' hg' hm')

theorem XK.group (G : List Gm) (hmono : ∀ g ∈ G, Grows g.φ) (hd : (G.map (·.d)).Nodup) (hi : (G.map (·.i)).Nodup) (hdN : ∀ g ∈ G, g.d < C.N) (hob : ∀ g ∈ G, Owes C os l M J G g)
    (h : ∀ (vs : Nat → Value) Jn, (∀ g ∈ G, g.φ (vs g.i) (M ++ ((Jn ++ J) ++ C.A))) → XK C os Q K n0 nd plan (gEnv G vs ++ l) M (Jn ++ J)) : XK C os Q K n0 nd (enc (G.map (·.i)) ++ plan) l M J := by
  intro listed hcl hp a w ha hw hn
  obtain ⟨B, hok, hp2⟩ := enc_ok hp
  have hBcl : Closed os.toArray B := by
    have : ∀ {A is B}, GOk os.toArray A is B → Closed os.toArray A → Closed os.toArray B := by
      intro A is B h
      induction h with
      | nil => exact id
      | cons hr _ _ ih => exact fun hc => ih (closed_set hc hr)
    exact this hok hcl
  have hlen : (enc (G.map (·.i)) ++ plan).length = G.length + plan.length := by
    have : ∀ is : List Nat, (enc is).length = is.length := by
      intro is
      induction is with
      | nil => rfl
      | cons i r ih => cases r with
        | nil => rfl
        | cons j r => simp only [enc, List.length_cons] at ih ⊢; rw [ih]
    simp [this]
  rw [hlen]
  -- the slots' own content, to begin with
  let vs : Nat → Value := fun k => match G.find? (fun g => g.i == k) with
    | some g => (a.tmps[g.d]?).getD undef
    | none => undef
  have hag : Ag C.N (gEnv G vs ++ l) a := by
    refine ⟨ha.defers, ha.size, ?_⟩
    intro k u hk
    have key : ∀ G' : List Gm, (∀ g ∈ G', g ∈ G) → lk (gEnv G' vs ++ l) k = some u → a.tmps[k]? = some u := by
      intro G'
      induction G' with
      | nil => intro _ h; exact ha.slot k u h
      | cons g G' ih =>
        intro hs h
        simp only [gEnv, List.map_cons, List.cons_append, lk] at h
        by_cases e : g.d = k
        · subst e
          simp at h
          have hf : G.find? (fun x => x.i == g.i) = some g := by
            have hgG := hs g List.mem_cons_self
            cases hq : G.find? (fun x => x.i == g.i) with
            | none => have := List.find?_eq_none.1 hq g hgG; simp at this
            | some x =>
              have h1 := List.find?_some hq
              have h2 := List.mem_of_find?_eq_some hq
              rw [gm_inj hi h2 hgG (by simpa using h1)]
          have hlt : g.d < a.tmps.size := by rw [ha.size]; exact hdN g (hs g List.mem_cons_self)
          rw [← h]
          show a.tmps[g.d]? = some (vs g.i)
          simp only [vs, hf, Array.getElem?_eq_getElem hlt, Option.getD_some]
        · simp only [beq_ne e, cond_false] at h
          exact ih (fun x hx => hs x (List.mem_cons_of_mem _ hx)) h
    exact key G (fun _ h => h) hk
  exact group_go (n0 := n0) (K := K) hmono hd hi hdN hob hok (fun vs Jn a w hφ ha hw hn => h vs Jn hφ B hBcl hp2 a w ha hw hn) G.length [] vs [] a w .nil (fun _ h => by cases h) (by simp) hcl (fun _ _ h => by cases h) hag hw hn
theorem XF.group (G : List Gm) (hmono : ∀ g ∈ G, Grows g.φ) (hd : (G.map (·.d)).Nodup) (hi : (G.map (·.i)).Nodup) (hdN : ∀ g ∈ G, g.d < C.N) (hob : ∀ g ∈ G, Owes C os l M J G g)
    (h : ∀ (vs : Nat → Value) Jn, (∀ g ∈ G, g.φ (vs g.i) (M ++ ((Jn ++ J) ++ C.A))) → XF C os Q nd plan (gEnv G vs ++ l) M (Jn ++ J)) : XF C os Q nd (enc (G.map (·.i)) ++ plan) l M J := XK.group G hmono hd hi hdN hob h
end group
/-- An append to a slice that has no room left: whose it is doesn't matter. -/
theorem run_append_full {P : Program} {t e ty : TypeId} {sz by_ n m : Nat} {p : Option Addr} {u : Value} {xs ys : List Value} {R : Mem} {w : World} (ht : elemT P t = some (e, sz, by_)) (hszp : 0 < sz)
    (hs : Rd R sz (.slice p n n) n xs) (hr : Rd R sz u m ys) (hw : Fx R w) (hm : 0 < m) (hmax : n + m ≤ maxLen) (hbytes : (n + m) * by_ ≤ 140737488355328) :
    ∃ v' o', (Builtin.append_ #[t, t] ty #[.slice p n n, u]).run P w = .ok v' (w.drew.alloc o') ∧ Sl sz v' (n + m) (xs ++ ys) [(w.heap.size, o')] := by
  obtain ⟨i, z, hu, hi, hz, hzs, his, hib⟩ := elemT_spec ht
  obtain ⟨pu, cu, rfl, hul, huc, hub⟩ := hr
  obtain ⟨p', c', e1, hxl, _, hsb⟩ := hs
  cases e1
  have hsmall : n + m ≤ 9223372036854775807 := by simp only [maxLen] at hmax; omega
  subst his; subst hib
  obtain ⟨bu, ou, csu, eu, fru, rfl, hbu, hxu⟩ : ∃ (b o : Nat) (cs : List Value) (e : TypeId) (fr : Nat × Nat), pu = some ⟨b, o, none⟩ ∧ (b, Obj.cells cs.toArray e fr) ∈ R ∧ ∀ j u, ys[j]? = some u → cs[o + j]? = some u := by
    rcases hub with h | h
    · omega
    · exact h
  have hnews : ∀ j u, ys[j]? = some u → w.cell? ((⟨bu, ou, none⟩ : Addr).add j) = some u := fun j u hj => by rw [Addr.add_mid, cell_fx hw hbu]; simpa using hxu j u hj
  have made : ∀ (r : Value) (cap' : Nat), r = .slice (some ⟨w.heap.size, 0, none⟩) (n + m) cap' → n + m ≤ cap' → cap' ≤ maxLen →
      Sl i.size r (n + m) (xs ++ ys) [(w.heap.size, .cells (xs.toArray ++ ys.toArray ++ Builtin.zeroCells z.cells (cap' - (n + m))) e (0, 0))] := by
    intro r cap' hr' hc1 hc2
    refine .inr ⟨w.heap.size, 0, cap', (xs.toArray ++ ys.toArray ++ Builtin.zeroCells z.cells (cap' - (n + m))).toList, e, hr', by simp [blk], hc1, hc2, ?_, ?_, ?_⟩
    · simp only [Array.length_toList, Array.size_append, List.size_toArray, size_zeroCells, hzs, hxl, hul, ← Nat.add_mul, Nat.zero_add]
      refine Nat.mul_le_mul_right _ ?_
      omega
    · simp [hxl, hul, Nat.add_mul]
    · intro j u hj
      have hlt : j < (xs ++ ys).length := (List.getElem?_eq_some_iff.1 hj).1
      rw [Nat.zero_add]
      simp only [Array.toList_append, List.append_assoc]
      rw [← List.append_assoc, List.getElem?_append_left (by simpa using hlt)]
      exact hj
  have hge := grownCap_ge w (n + m) n e
  have hcm : grownCap w (n + m) n e ≤ maxLen := grownCap_le_maxLen w (n + m) n e hmax
  cases p with
  | none =>
    obtain rfl : n = 0 := by
      rcases hsb with h | ⟨_, _, _, _, _, h, _⟩
      · exact h
      · cases h
    obtain rfl : xs = [] := List.eq_nil_of_length_eq_zero (by simpa using hxl)
    have hrn := run_append_nil (P := P) w t ty e i z hu hi hz ⟨bu, ou, none⟩ m cu ys hul hnews (by omega) (by omega) (by simp at hbytes; omega)
    rw [Nat.zero_add] at hge hcm
    refine ⟨_, _, hrn, ?_⟩
    have := made _ (grownCap w m 0 e) (by rw [Nat.zero_add]) (by omega) hcm
    simpa using this
  | some pa =>
    have hold : ∀ j q, xs[j]? = some q → w.cell? (pa.add j) = some q := by
      intro j q hj
      rcases hsb with h | ⟨b, o, cs, e', fr, h, hb, hx⟩
      · subst h
        have : xs = [] := List.eq_nil_of_length_eq_zero (by simpa using hxl)
        subst this; simp at hj
      · cases h
        rw [Addr.add_mid, cell_fx hw hb]; simpa using hx j q hj
    have hrg := run_append_grow (P := P) w t ty e i z hu hi hz pa n n xs hxl hold ⟨bu, ou, none⟩ m cu ys hul hnews (by omega) (by omega) (growslice_fits (by omega) hbytes)
    exact ⟨_, _, hrg, made _ _ rfl hge hcm⟩
theorem l_appendF {C : Cx} {l : Env} {M J : Mem} {K : Env → Mem → Mem → Prop} {d : Nat} {ty : TypeId} {pos : String} {af : Array Edge} {g : Option (Nat × Bool)} {x y : Operand} {t e : TypeId} {sz by_ n m : Nat} {p : Option Addr} {u : Value} {xs ys : List Value}
    (hx : ev l x = some (.slice p n n)) (hy : ev l y = some u) (ht : elemT C.P t = some (e, sz, by_)) (hsz : Nat.blt 0 sz = true)
    (hs : Rd (M ++ (J ++ C.A)) sz (.slice p n n) n xs) (hr : Rd (M ++ (J ++ C.A)) sz u m ys) (hmax : n + m ≤ maxLen) (hbytes : (n + m) * by_ ≤ 140737488355328) (hd : Nat.blt d C.N = true)
    (k : ∀ v' B', Rd (B' ++ (M ++ (J ++ C.A))) sz v' (n + m) (xs ++ ys) → (0 < m → Sl sz v' (n + m) (xs ++ ys) B') → K ((d, v') :: l) (B' ++ M) J) :
    OpL C ⟨some d, .call { callee := .builtin .append, args := #[x, y], argTypes := #[t, t] }, ty, pos, af, g⟩ l M J K := by
  intro Qp a w ha hw
  rcases Nat.eq_zero_or_pos m with hm | hm
  · subst hm
    obtain ⟨i, z, hu, hi, hz, hzs, his, hib⟩ := elemT_spec ht
    obtain ⟨pu, cu, rfl, hul, huc, hub⟩ := hr
    have hys : ys = [] := List.eq_nil_of_length_eq_zero (by simpa using hul)
    subst hys
    have hf := first_rd (P := C.P) (m := 0) (c2 := cu) (⟨pu, cu, rfl, hul, huc, hub⟩ : Rd (M ++ (J ++ C.A)) sz (.slice pu 0 cu) 0 []) hw.fx
    subst his
    have hexec : (execOp a.eval ⟨some d, .call { callee := .builtin .append, args := #[x, y], argTypes := #[t, t] }, ty, pos, af, g⟩).run C.P w = .ok (.value (.slice p n n)) w := by
      simp only [execOp, resolve, invoke, builtin, ha.ev hx, ha.ev hy]
      cases p <;> simp [ha.ev hx, ha.ev hy, Builtin.append_, run_underlying hu, sizeOf, typeInfo, hi, Builtin.lenOf, hf, storeCells]
      all_goals (rcases Nat.eq_zero_or_pos n with h0 | h0 <;> simp_all)
    unfold Oper.wp
    rw [hexec]
    exact ⟨_, M, J, ha.put (blt_lt hd) _, hw, k _ [] (by simpa using hs) (fun h => absurd h (by decide))⟩
  · obtain ⟨v', o', hrun, hsl⟩ := run_append_full (P := C.P) (ty := ty) ht (blt_lt hsz) hs hr hw.fx hm hmax hbytes
    have hexec : (execOp a.eval ⟨some d, .call { callee := .builtin .append, args := #[x, y], argTypes := #[t, t] }, ty, pos, af, g⟩).run C.P w = .ok (.value v') (w.drew.alloc o') := by
      simp [execOp, resolve, invoke, builtin, ha.ev hx, ha.ev hy, hrun]
    unfold Oper.wp
    rw [hexec]
    exact ⟨_, _, J, ha.put (blt_lt hd) v', St.alloc (w := w.drew) hw.drew o', k v' _ (hsl.rd fun _ h => List.mem_append_left _ h) (fun _ => hsl)⟩
theorem ln0 {α : Type} : ([] : List α).length = ([] : List α).length := rfl
theorem lnS {α : Type} {x y : α} {r s : List α} (h : r.length = s.length) : (x :: r).length = (y :: s).length := by rw [List.length_cons, List.length_cons, h]
theorem all0 {α : Type} {p : α → Prop} : ∀ x ∈ ([] : List α), p x := fun _ h => by cases h
theorem allS {α : Type} {p : α → Prop} {y : α} {r : List α} (h : p y) (hr : ∀ x ∈ r, p x) : ∀ x ∈ y :: r, p x := fun x hx => (List.mem_cons.1 hx).elim (fun e => e ▸ h) (hr x)
theorem ofH {α : Type} {p : α → Prop} {y : α} {r : List α} (h : ∀ x ∈ y :: r, p x) : p y := h y List.mem_cons_self
theorem ofT {α : Type} {p : α → Prop} {y : α} {r : List α} (h : ∀ x ∈ y :: r, p x) : ∀ x ∈ r, p x := fun x hx => h x (List.mem_cons_of_mem _ hx)
theorem growsRd {n : Nat} {xs : List Value} : Grows fun v R => Rd R 1 v n xs := fun _ _ _ h hp => hp.mono h
theorem growsEq {u : Value} : Grows fun v _ => v = u := fun _ _ _ _ hp => hp
end Go.Px

