/- The walks of sha.Expand and pawlref02.Expand. -/
import Derived.Test.YthmnlkpikgglbaaGreatDoorSha3
import Derived.Test.YthmnlkpikgglbaaGreatDoorExpL
set_option linter.unusedVariables false
set_option linter.unusedSimpArgs false
namespace Go.Proofs.YthmnlkpikgglbaaGreatDoor
open Go.Px
theorem xperm {M B D : Mem} (x y : Nat × Obj) : (M ++ (x :: y :: (B ++ D))).Perm (B ++ ((M ++ [x, y]) ++ D)) := by
  have h : M ++ (x :: y :: (B ++ D)) = (M ++ [x, y]) ++ (B ++ D) := by simp
  rw [h]
  exact List.perm_append_comm_assoc _ _ _
theorem hmac_lt (key p : List Nat) : ∀ x ∈ hmac key p, x < 256 := sha_lt _
theorem hmac_len (key p : List Nat) : (hmac key p).length = 32 := sha_len _
theorem exp2_lt (key info : List Nat) : ∀ i, ∀ x ∈ (exp key info i).2, x < 256
  | 0 => by simp [exp]
  | i + 1 => hmac_lt _ _
theorem exp2_len (key info : List Nat) (i : Nat) : (exp key info i).2.length ≤ 32 := by
  cases i with
  | zero => simp [exp]
  | succ i => rw [exp, hmac_len]; decide
theorem exp1_lt (key info : List Nat) : ∀ i, ∀ x ∈ (exp key info i).1, x < 256
  | 0 => by simp [exp]
  | i + 1 => fun x hx => (List.mem_append.1 hx).elim (exp1_lt key info i x) (hmac_lt _ _ x)

set_option maxRecDepth 100000 in
theorem expand_spec (kv iv : Value) (key info : List Nat) (n : Int) (A : Mem) (hkey : Rd A 1 kv key.length (nums .u8 key)) (hk256 : ∀ x ∈ key, x < 256) (hk31 : key.length ≤ 1073741824) (hinfo : Rd A 1 iv info.length (nums .u8 info)) (hi256 : ∀ x ∈ info, x < 256) (hi31 : info.length ≤ 536870912) (hn : n < 1000000) (hn0 : -1000000 < n) {ef ek : TypeId} {ff fk : Nat × Nat} (h0 : (0, Obj.cells (nums .u32 hFirst.list).toArray ef ff) ∈ A) (h1 : (3, Obj.cells (nums .u32 kTab).toArray ek fk) ∈ A) :
    FnX Tryz.prog 42 [kv, iv, .int .i64 n] [] A fun r M J => J = [] ∧ Rd M 1 r (expand key info n).length (nums .u8 (expand key info n)) := by
  haveI := hinfo.cel
  refine FnX.enter (N := 40) Tryz.func42 rfl rfl rfl fun w => ?_
  refine XC.keep (kp 0 rfl (kp 1 rfl (kp 2 rfl kn))) ?_
  refine XC.reg ?_
  refine XL.q (q_assign rfl) rfl ?_
  refine XL.fin (kp 0 rfl (kp 1 rfl (kp 2 rfl kn))) ?_
  refine XC.reg ?_
  refine XL.q (q_assign rfl) rfl ?_
  refine XL.q (q_assign rfl) rfl ?_
  refine XL.fin (kp 0 rfl (kp 1 rfl (kp 2 rfl (kp 7 rfl (kp 8 rfl kn))))) ?_
  refine XC.seq ?_
  refine XC.reg ?_
  refine XL.q (q_assign rfl) rfl ?_
  refine XL.fin (kp 0 rfl (kp 1 rfl (kp 2 rfl (kp 7 rfl (kp 8 rfl (kp 9 rfl kn)))))) ?_
  refine XC.block ?_
  refine XC.loop (α := Nat × Value × Value × Mem × Mem) (fun x => [(0, kv), (1, iv), (2, .int .i64 n), (7, x.2.1), (8, x.2.2.1), (9, .int .i64 ((x.1 + 1 : Nat) : Int))]) (fun x => x.2.2.2.1 ++ x.2.2.2.2) (fun _ => []) (fun x => x.1 ≤ rds n ∧ Sl 1 x.2.1 (32 * x.1) (nums .u8 (exp key info x.1).1) x.2.2.2.1 ∧ Sl 1 x.2.2.1 (exp key info x.1).2.length (nums .u8 (exp key info x.1).2) x.2.2.2.2) (fun x => rds n - x.1) (0, .slice none 0 0, .slice none 0 0, [], []) ⟨Nat.zero_le _, Sl.nil, Sl.nil⟩ (kp 0 rfl (kp 1 rfl (kp 2 rfl (kp 7 rfl (kp 8 rfl (kp 9 rfl kn)))))) .rfl (fun _ h => h) ?_
  rintro ⟨i, ov, lv, Bo, Bl⟩ ⟨hi, ho, hl⟩
  dsimp only at hi ho hl ⊢
  have hrd : rds n = min 255 ((n.toNat + 31) / 32) := rfl
  have hl32 := exp2_len key info i
  haveI := hl.cel
  refine XC.seq ?_
  by_cases h32 : (n : Int) ≤ ((32 * i : Nat) : Int)
  ·
    refine XC.reg ?_
    refine XL.q (q_move rfl) rfl ?_
    refine XL.q (q_lenV (ho.rd fun _ h => h) rfl (by kernel_rfl)) rfl ?_
    refine XL.q (q_move rfl) rfl ?_
    refine XL.q (q_cmp false rfl rfl (ltF (by omega))) rfl ?_
    refine XL.q (q_move rfl) rfl ?_
    refine XL.gn rfl rfl rfl rfl ?_
    refine XL.gn rfl rfl rfl rfl ?_
    refine XL.q (q_pickF rfl rfl) rfl ?_
    refine XL.fin (kp 0 rfl (kp 1 rfl (kp 2 rfl (kp 7 rfl (kp 8 rfl (kp 9 rfl (kp 17 rfl kn))))))) ?_
    refine XC.condF rfl ?_
    refine XC.exit ?_
    refine te ?_
    refine re ?_
    refine be rfl ?_
    refine nx (kp 2 rfl (kp 7 rfl kn)) ?_
    refine XC.reg ?_
    refine XL.q (q_move rfl) rfl ?_
    refine XL.q (q_move rfl) rfl ?_
    refine XL.q (q_lenV (ho.rd fun _ h => h) rfl (by kernel_rfl)) rfl ?_
    refine XL.q (q_minR (if ((32 * i : Nat) : Int) < n then ((32 * i : Nat) : Int) else n) rfl rfl rfl) rfl ?_
    have hend : i = rds n := by omega
    subst hend
    refine XL.q (q_maxR ((min n.toNat (32 * rds n) : Nat) : Int) rfl rfl (by split <;> split <;> omega)) rfl ?_
    have hkl : min n.toNat (32 * rds n) = (expand key info n).length := by rw [expand_len]; omega
    obtain ⟨pp, cc, rfl, hpc⟩ := ho.val
    refine XL.q (q_assign rfl) rfl ?_
    refine XL.fin (kp 2 rfl (kp 7 rfl kn)) ?_
    refine XC.reg ?_
    refine XL.q (q_move rfl) rfl ?_
    refine XL.q (q_move rfl) rfl ?_
    refine XL.q (q_move rfl) rfl ?_
    refine XL.q (q_slice (e := 5) (sz := 1) rfl (by kernel_rfl) (by kernel_rfl) o0 (o1 (min n.toNat (32 * rds n)) rfl rfl) (o1 (min n.toNat (32 * rds n)) rfl rfl) (by simp) (by simp; omega) (by simp) (by simp)) rfl ?_
    refine XL.q (q_assign rfl) rfl ?_
    refine XL.fin (kp 6 rfl kn) ?_
    refine XC.ret ?_
    refine ⟨_, Bo, [], res1 rfl rfl, List.sublist_append_left _ _, by simp, rfl, ?_⟩
    have := Rd.part (ho.rd fun _ h => h) 0 (min n.toNat (32 * rds n)) (min n.toNat (32 * rds n)) (Nat.zero_le _) (Nat.min_le_right _ _) (Nat.le_refl _)
    refine rd_eq this (by simpa using hkl) ?_
    rw [Nat.zero_mul, List.drop_zero, Nat.sub_zero, Nat.mul_one, ← nums_take]
    have e : ((exp key info (rds n)).1).take (min n.toNat (32 * rds n)) = expand key info n := by
      unfold expand
      rw [List.take_eq_take_iff, exp_len]; omega
    rw [e]
  ·
    refine XC.reg ?_
    refine XL.q (q_move rfl) rfl ?_
    refine XL.q (q_lenV (ho.rd fun _ h => h) rfl (by kernel_rfl)) rfl ?_
    refine XL.q (q_move rfl) rfl ?_
    refine XL.q (q_cmp true rfl rfl (ltT (by omega))) rfl ?_
    refine XL.q (q_move rfl) rfl ?_
    refine XL.gy rfl rfl (OpQ.opL (q_move rfl) rfl ?_)
    refine XL.gy rfl rfl (OpQ.opL (q_bin rfl rfl rfl) rfl ?_)
    refine XL.q (q_pickT rfl rfl) rfl ?_
    refine XL.fin (kp 0 rfl (kp 1 rfl (kp 2 rfl (kp 7 rfl (kp 8 rfl (kp 9 rfl (kp 17 rfl kn))))))) ?_
    refine XC.cond rfl (fun hc => ?_) (fun hc => ?_)
    ·
      have hlt : i < 255 := by simp at hc; omega
      refine XC.skip ?_
      refine nx (kp 0 rfl (kp 1 rfl (kp 2 rfl (kp 7 rfl (kp 8 rfl (kp 9 rfl kn)))))) ?_
      refine XC.seq ?_
      refine XC.block ?_
      refine XC.reg ?_
      refine XL.q (q_move rfl) rfl ?_
      refine XL.q (q_move rfl) rfl ?_
      refine XL.q (q_move rfl) rfl ?_
      refine XL.q (q_move rfl) rfl ?_
      refine XL.q (q_to8 rfl (by kernel_rfl)) rfl ?_
      refine XL.lo rfl (l_buildSlice (e := 5) (sz := 1) (z := [.int .u8 0]) (by kernel_rfl) (eS rfl e0) (bdS 0 1 rfl (by rfl) bd0) rfl fun b25 => ?_)
      refine XL.lo rfl (l_buildSlice (e := 23) (sz := 1) (z := [.slice none 0 0, .slice none 0 0, .slice none 0 0]) (by kernel_rfl) (eS rfl (eS rfl (eS rfl e0))) (bdS 0 1 rfl (by rfl) (bdS 1 1 rfl (by rfl) (bdS 2 1 rfl (by rfl) bd0))) rfl fun b26 => ?_)
      refine XL.lo rfl (l_call (Mc := []) (R := _ :: _ :: (Bo ++ Bl)) (aS rfl (aS rfl a0)) (by kernel_rfl) (.refl _) (mac_spec _ _ key [(exp key info i).2, info, [(i + 1) % 256]] _ (hkey.mono fun _ h => mA h) hk256 hk31 (Parts.of (Rd.whole (n := 3) m0 (by rfl)) rfl (.cons (exp2_lt _ _ _) (hl.rd fun _ h => by simp [h]) (.cons hi256 (hinfo.mono fun _ h => mA h) (.cons (by intro x hx; simp at hx; subst hx; exact Nat.mod_lt _ (by decide)) (Rd.whole (n := 1) (cs := nums .u8 [(i + 1) % 256]) At.mem (by rfl)) .nil)))) (by simp; omega) (by simp) (mA h0) (mA h1)) rfl ?_)
      rintro r27 M27 J1 ⟨rfl, h27⟩
      rw [show [(exp key info i).2, info, [(i + 1) % 256]].flatten = (exp key info i).2 ++ (info ++ [(i + 1) % 256]) from by simp] at h27
      refine XL.q (q_assign rfl) rfl ?_
      refine XL.fin (kp 0 rfl (kp 1 rfl (kp 2 rfl (kp 7 rfl (kp 8 rfl (kp 9 rfl kn)))))) ?_
      refine XC.reg1 ?_
      refine XL.q (q_move rfl) rfl ?_
      refine XL.q (q_move rfl) rfl ?_
      refine XL.lo rfl (l_append (e := 5) (sz := 1) (by_ := 1) (m := 32) (B := Bo) (M0 := (M27 ++ [_, _]) ++ Bl) rfl rfl (by kernel_rfl) rfl ho (h27.rd fun _ h => by simp [h]) nums_one (xperm _ _) (by unfold maxLen; omega) (by omega) rfl fun ov1 Bo1 ho1 => ?_)
      refine XL.q (q_assign rfl) rfl ?_
      refine XL.nil ?_
      refine nb ?_
      refine nx (kp 0 rfl (kp 1 rfl (kp 2 rfl (kp 7 rfl (kp 8 rfl (kp 9 rfl kn)))))) ?_
      refine XC.reg1 ?_
      refine XL.q (q_move rfl) rfl ?_
      refine XL.q (q_num ((i + 1 + 1 : Nat) : Int) rfl rfl (add64 (by omega) (by omega) (by omega))) rfl ?_
      refine XL.q (q_assign rfl) rfl ?_
      refine XL.nil ?_
      refine rn (i + 1, ov1, r27, Bo1, M27) ⟨by dsimp only; omega, sl_eq ho1 (by dsimp only; omega) (by rw [← nums_append]; rfl), sl_eq h27 (by dsimp only; rw [exp, hmac_len]) rfl⟩ (by dsimp only; omega) (kp 0 rfl (kp 1 rfl (kp 2 rfl (kp 7 rfl (kp 8 rfl (kp 9 rfl kn)))))) (Fit.sub (List.Sublist.append (List.Sublist.refl _) ((List.sublist_append_left _ _).trans (List.sublist_append_left _ _)))) (fun _ h => h)
    ·
      have hend : i = rds n := by simp at hc; omega
      refine XC.exit ?_
      refine te ?_
      refine re ?_
      refine be rfl ?_
      refine nx (kp 2 rfl (kp 7 rfl kn)) ?_
      refine XC.reg ?_
      refine XL.q (q_move rfl) rfl ?_
      refine XL.q (q_move rfl) rfl ?_
      refine XL.q (q_lenV (ho.rd fun _ h => h) rfl (by kernel_rfl)) rfl ?_
      refine XL.q (q_minR (if ((32 * i : Nat) : Int) < n then ((32 * i : Nat) : Int) else n) rfl rfl rfl) rfl ?_
      subst hend
      refine XL.q (q_maxR ((min n.toNat (32 * rds n) : Nat) : Int) rfl rfl (by split <;> split <;> omega)) rfl ?_
      have hkl : min n.toNat (32 * rds n) = (expand key info n).length := by rw [expand_len]; omega
      obtain ⟨pp, cc, rfl, hpc⟩ := ho.val
      refine XL.q (q_assign rfl) rfl ?_
      refine XL.fin (kp 2 rfl (kp 7 rfl kn)) ?_
      refine XC.reg ?_
      refine XL.q (q_move rfl) rfl ?_
      refine XL.q (q_move rfl) rfl ?_
      refine XL.q (q_move rfl) rfl ?_
      refine XL.q (q_slice (e := 5) (sz := 1) rfl (by kernel_rfl) (by kernel_rfl) o0 (o1 (min n.toNat (32 * rds n)) rfl rfl) (o1 (min n.toNat (32 * rds n)) rfl rfl) (by simp) (by simp; omega) (by simp) (by simp)) rfl ?_
      refine XL.q (q_assign rfl) rfl ?_
      refine XL.fin (kp 6 rfl kn) ?_
      refine XC.ret ?_
      refine ⟨_, Bo, [], res1 rfl rfl, List.sublist_append_left _ _, by simp, rfl, ?_⟩
      have := Rd.part (ho.rd fun _ h => h) 0 (min n.toNat (32 * rds n)) (min n.toNat (32 * rds n)) (Nat.zero_le _) (Nat.min_le_right _ _) (Nat.le_refl _)
      refine rd_eq this (by simpa using hkl) ?_
      rw [Nat.zero_mul, List.drop_zero, Nat.sub_zero, Nat.mul_one, ← nums_take]
      have e : ((exp key info (rds n)).1).take (min n.toNat (32 * rds n)) = expand key info n := by
        unfold expand
        rw [List.take_eq_take_iff, exp_len]; omega
      rw [e]
