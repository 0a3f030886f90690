/- The walks of bits.RotateLeft32 and sha.block. -/
import Derived.Test.YthmnlkpikgglbaaGreatDoorRows
import Derived.Test.YthmnlkpikgglbaaGreatDoorShaL
set_option linter.unusedVariables false
namespace Go.Proofs.YthmnlkpikgglbaaGreatDoor
open Go.Px

set_option maxRecDepth 100000 in
theorem rot_spec (x n : Nat) (k : Int) (A : Mem) (hx : x < 4294967296) (h0 : 0 < n) (hn : n < 32) (hk : k = -(n : Int)) : FnV Tryz.prog 157 [.int .u32 (x : Int), .int .i64 k] A (.int .u32 (rotr x n : Nat)) := by
  refine FnX.enter (N := 17) Tryz.func157 rfl rfl rfl fun w => ?_
  refine XC.keep (kp 0 rfl (kp 1 rfl kn)) ?_
  refine XC.reg ?_
  refine XL.q (q_assign rfl) rfl ?_
  refine XL.fin (kp 0 rfl (kp 1 rfl kn)) ?_
  refine XC.reg ?_
  refine XL.q (q_move rfl) rfl ?_
  refine XL.q (q_convR (k' := .u64) ((18446744073709551616 - n : Nat) : Int) rfl (by kernel_rfl) (by unfold IntKind.wrap; simp [IntKind.bits, IntKind.signed]; omega)) rfl ?_
  refine XL.q (q_num ((32 - n : Nat) : Int) rfl rfl ((andU (k := .u64) (b := 31) rfl (by show _ < 2 ^ 64; omega) (by decide)).trans (by rw [Nat.and_two_pow_sub_one_eq_mod _ 5, show (18446744073709551616 - n) % 2 ^ 5 = 32 - n by omega]))) rfl ?_
  refine XL.q (q_assign rfl) rfl ?_
  refine XL.fin (kp 0 rfl (kp 5 rfl kn)) ?_
  refine XC.reg ?_
  refine XL.q (q_move rfl) rfl ?_
  refine XL.q (q_move rfl) rfl ?_
  refine XL.q (q_shl32 (32 - n) rfl rfl rfl (by omega)) rfl ?_
  refine XL.q (q_move rfl) rfl ?_
  refine XL.q (q_move rfl) rfl ?_
  refine XL.q (q_num ((n : Nat) : Int) rfl rfl ((subU (k := .u64) (a := 32) (b := 32 - n) rfl n (by show _ ≤ 2 ^ 64; omega) (by show (32 + (18446744073709551616 - (32 - n))) % 18446744073709551616 = n; omega)))) rfl ?_
  refine XL.q (q_shrN n rfl rfl rfl (by show n ≤ 32; omega)) rfl ?_
  refine XL.q (q_or32 rfl rfl mod32 (shr32 hx)) rfl ?_
  refine XL.q (q_assign rfl) rfl ?_
  refine XL.fin (kp 4 rfl kn) ?_
  refine XC.ret ?_
  exact ⟨_, [], [], res1 rfl rfl, List.nil_sublist _, by simp, by rw [Nat.or_comm]; rfl, rfl, rfl⟩

/-- A state's cells. -/
abbrev cells8 (s : S8) : List Value := [.int .u32 (s.a : Int), .int .u32 (s.b : Int), .int .u32 (s.c : Int), .int .u32 (s.d : Int), .int .u32 (s.e : Int), .int .u32 (s.f : Int), .int .u32 (s.g : Int), .int .u32 (s.h : Int)]
def plusAt (s r : S8) (i : Nat) : List Nat := (s.plus r).list.take i ++ s.list.drop i
theorem plusAt_len (s r : S8) (i : Nat) (h : i ≤ 8) : (plusAt s r i).length = 8 := by simp [plusAt, S8.list]; omega
theorem plusAt_get (s r : S8) (i : Nat) (h : i < 8) : (plusAt s r i).getD i 0 = s.list.getD i 0 := by
  have : i = 0 ∨ i = 1 ∨ i = 2 ∨ i = 3 ∨ i = 4 ∨ i = 5 ∨ i = 6 ∨ i = 7 := by omega
  rcases this with rfl | rfl | rfl | rfl | rfl | rfl | rfl | rfl <;> rfl
theorem plusAt_succ (s r : S8) (i : Nat) (h : i < 8) : (plusAt s r i).set i ((s.list.getD i 0 + r.list.getD i 0) % 4294967296) = plusAt s r (i + 1) := by
  have : i = 0 ∨ i = 1 ∨ i = 2 ∨ i = 3 ∨ i = 4 ∨ i = 5 ∨ i = 6 ∨ i = 7 := by omega
  rcases this with rfl | rfl | rfl | rfl | rfl | rfl | rfl | rfl <;> rfl
theorem wnext_ext {w : List Nat} {us : List Nat} {i : Nat} (h : w.length = i) (h16 : 16 ≤ i) (h64 : i < 64) :
    ((((w ++ us).getD (i - 16) 0 + sg0 ((w ++ us).getD (i - 15) 0)) % 4294967296 + (w ++ us).getD (i - 7) 0) % 4294967296 + sg1 ((w ++ us).getD (i - 2) 0)) % 4294967296 = wnext w i := by
  rw [getD_app (by omega), getD_app (by omega), getD_app (by omega), getD_app (by omega)]; rfl

set_option maxRecDepth 100000 in
theorem block_spec (s : S8) (hs0 : s.ok) (p : List Nat) (hb : ∀ x ∈ p, x < 256) (v : Value) (A : Mem) (hv : Rd A 1 v 64 (nums .u8 p)) {ek : TypeId} {fk : Nat × Nat} (hk : (3, Obj.cells (nums .u32 kTab).toArray ek fk) ∈ A) :
    FnV Tryz.prog 128 [.agg (nums .u32 s.list).toArray, v] A (.agg (nums .u32 (shaBlock kTab s p).list).toArray) := by
  have hg : ∀ j, p.getD j 0 < 256 := fun j => getD_lt hb (by decide)
  refine FnX.enter (N := 207) Tryz.func128 rfl rfl rfl fun w => ?_
  refine XC.keep (kp 0 rfl (kp 1 rfl kn)) ?_
  refine XC.reg ?_
  refine XL.lo rfl (l_box (cs := nums .u32 s.list) rfl rfl rfl fun b2 => ?_)
  refine XL.lo rfl (l_alloc (cs := [.int .u32 0, .int .u32 0, .int .u32 0, .int .u32 0, .int .u32 0, .int .u32 0, .int .u32 0, .int .u32 0]) (by kernel_rfl) rfl fun b4 => ?_)
  refine XL.fin (kp 1 rfl (kp 2 rfl (kp 4 rfl kn))) ?_
  refine XC.reg ?_
  refine XL.lo rfl (l_alloc (cs := nums .u32 (List.replicate 64 0)) (by kernel_rfl) rfl fun b5 => ?_)
  refine XL.fin (kp 1 rfl (kp 2 rfl (kp 4 rfl (kp 5 rfl kn)))) ?_
  refine XC.seq ?_
  refine XC.reg ?_
  refine XL.q (q_move rfl) rfl ?_
  refine XL.fin (kp 1 rfl (kp 2 rfl (kp 4 rfl (kp 5 rfl (kp 20 rfl kn))))) ?_
  refine XC.block ?_
  obtain ⟨bp, op, cp, csp, ep, frp, rfl, hmem, hcs⟩ := hv.nums (by decide)
  refine XC.loop (α := Nat) (fun i => [(1, .slice (some ⟨bp, op, none⟩) 64 cp), (2, .pointer (some ⟨b2, 0, none⟩)), (4, .pointer (some ⟨b4, 0, none⟩)), (5, .pointer (some ⟨b5, 0, none⟩)), (20, .int .i64 (i : Int))]) (fun i => [(b5, blk (nums .u32 (words p i ++ List.replicate (64 - i) 0)) _), (b4, blk (cells8 ⟨0, 0, 0, 0, 0, 0, 0, 0⟩) _), (b2, blk (nums .u32 s.list) _)]) (fun _ => []) (fun i => i ≤ 16) (fun i => 16 - i) 0 (Nat.zero_le _) (kp 1 rfl (kp 2 rfl (kp 4 rfl (kp 5 rfl (kp 20 rfl kn))))) .rfl (fun _ h => h) ?_
  intro i hi
  try dsimp only at hi ⊢
  refine XC.reg ?_
  refine XL.q (q_bin rfl rfl rfl) rfl ?_
  refine XL.fin (kp 1 rfl (kp 2 rfl (kp 4 rfl (kp 5 rfl (kp 20 rfl (kp 21 rfl kn)))))) ?_
  refine XC.seq ?_
  refine XC.cond rfl (fun hc => ?_) (fun hc => ?_)
  ·
    have hlt : i < 16 := by simp at hc; omega
    refine XC.skip ?_
    refine nx (kp 1 rfl (kp 2 rfl (kp 4 rfl (kp 5 rfl (kp 20 rfl kn))))) ?_
    refine XC.seq ?_
    refine XC.block ?_
    refine XC.reg ?_
    refine XL.q (q_move rfl) rfl ?_
    refine XL.q (q_assign rfl) rfl ?_
    refine XL.fin (kp 1 rfl (kp 2 rfl (kp 4 rfl (kp 5 rfl (kp 6 rfl (kp 20 rfl kn)))))) ?_
    refine XC.draw1 (_) [0, 1, 2, 3, 4, 5, 6, 7, 8, 9, 10, 11, 12, 13, 14, 15, 16, 17, 18, 19, 20, 21, 22, 23, 24, 25, 26, 27, 28, 29, 30, 31, 32, 33, 34] [(0, 0), (1, 0), (2, 0), (3, 0), (4, 0), (5, 1), (6, 0), (7, 0), (8, 0), (9, 0), (10, 0), (11, 0), (12, 0), (13, 1), (14, 0), (15, 0), (16, 0), (17, 0), (18, 0), (19, 0), (20, 0), (21, 0), (22, 1), (23, 0), (24, 0), (25, 0), (26, 0), (27, 0), (28, 0), (29, 0), (30, 0), (31, 1), (32, 0), (33, 0), (34, 0), (35, 2)] (by kernel_rfl) (by kernel_rfl) (fun _ h => h) fun hs => ?_
    refine XP.q hs rfl (q_move rfl) rfl ?_
    refine XP.q hs rfl (q_move rfl) rfl ?_
    refine XP.q hs rfl (q_move rfl) rfl ?_
    refine XP.q hs rfl (q_num ((4 * i : Nat) : Int) rfl rfl (mul64 (by omega) (by omega) (by omega))) rfl ?_
    refine XP.q hs rfl (q_idxS (i := 4 * i) (e := 5) (sz := 1) rfl rfl (by kernel_rfl) (by kernel_rfl) rfl (by omega)) rfl ?_
    refine XP.r hs rfl (q_load rfl (by kernel_rfl) (mA hmem) (hcs (4 * i) (by omega))) rfl ?_
    refine XP.q hs rfl (q_same (k' := .u32) rfl (by kernel_rfl) (by show _ < 2147483648; have := hg (4 * i); omega)) rfl ?_
    refine XP.q hs rfl (q_shl32 24 rfl rfl rfl (by decide)) rfl ?_
    refine XP.q hs rfl (q_move rfl) rfl ?_
    refine XP.q hs rfl (q_move rfl) rfl ?_
    refine XP.q hs rfl (q_num ((4 * i : Nat) : Int) rfl rfl (mul64 (by omega) (by omega) (by omega))) rfl ?_
    refine XP.q hs rfl (q_num ((4 * i + 1 : Nat) : Int) rfl rfl (add64 (by omega) (by omega) (by omega))) rfl ?_
    refine XP.q hs rfl (q_idxS (i := 4 * i + 1) (e := 5) (sz := 1) rfl rfl (by kernel_rfl) (by kernel_rfl) rfl (by omega)) rfl ?_
    refine XP.r hs rfl (q_load rfl (by kernel_rfl) (mA hmem) (hcs (4 * i + 1) (by omega))) rfl ?_
    refine XP.q hs rfl (q_same (k' := .u32) rfl (by kernel_rfl) (by show _ < 2147483648; have := hg (4 * i + 1); omega)) rfl ?_
    refine XP.q hs rfl (q_shl32 16 rfl rfl rfl (by decide)) rfl ?_
    refine XP.q hs rfl (q_or32 rfl rfl mod32 mod32) rfl ?_
    refine XP.q hs rfl (q_move rfl) rfl ?_
    refine XP.q hs rfl (q_move rfl) rfl ?_
    refine XP.q hs rfl (q_num ((4 * i : Nat) : Int) rfl rfl (mul64 (by omega) (by omega) (by omega))) rfl ?_
    refine XP.q hs rfl (q_num ((4 * i + 2 : Nat) : Int) rfl rfl (add64 (by omega) (by omega) (by omega))) rfl ?_
    refine XP.q hs rfl (q_idxS (i := 4 * i + 2) (e := 5) (sz := 1) rfl rfl (by kernel_rfl) (by kernel_rfl) rfl (by omega)) rfl ?_
    refine XP.r hs rfl (q_load rfl (by kernel_rfl) (mA hmem) (hcs (4 * i + 2) (by omega))) rfl ?_
    refine XP.q hs rfl (q_same (k' := .u32) rfl (by kernel_rfl) (by show _ < 2147483648; have := hg (4 * i + 2); omega)) rfl ?_
    refine XP.q hs rfl (q_shl32 8 rfl rfl rfl (by decide)) rfl ?_
    refine XP.q hs rfl (q_or32 rfl rfl (or32 mod32 mod32) mod32) rfl ?_
    refine XP.q hs rfl (q_move rfl) rfl ?_
    refine XP.q hs rfl (q_move rfl) rfl ?_
    refine XP.q hs rfl (q_num ((4 * i : Nat) : Int) rfl rfl (mul64 (by omega) (by omega) (by omega))) rfl ?_
    refine XP.q hs rfl (q_num ((4 * i + 3 : Nat) : Int) rfl rfl (add64 (by omega) (by omega) (by omega))) rfl ?_
    refine XP.q hs rfl (q_idxS (i := 4 * i + 3) (e := 5) (sz := 1) rfl rfl (by kernel_rfl) (by kernel_rfl) rfl (by omega)) rfl ?_
    refine XP.r hs rfl (q_load rfl (by kernel_rfl) (mA hmem) (hcs (4 * i + 3) (by omega))) rfl ?_
    refine XP.q hs rfl (q_same (k' := .u32) rfl (by kernel_rfl) (by show _ < 2147483648; have := hg (4 * i + 3); omega)) rfl ?_
    refine XP.q hs rfl (q_or32 rfl rfl (or32 (or32 mod32 mod32) mod32) (by have := hg (4 * i + 3); omega)) rfl ?_
    refine XP.q hs rfl (q_idxA (i := i) (e := 53) (n := 64) (sz := 1) rfl rfl (by kernel_rfl) (by kernel_rfl) rfl (by omega)) rfl ?_
    refine XP.tl rfl rfl rfl (l_stN (ws := words p i ++ List.replicate (64 - i) 0) i rfl rfl (by kernel_rfl) (by omega) (by simp [words_len]; omega) UpC.upd ?_)
    refine XP.nil ?_
    refine nb ?_
    refine nx (kp 1 rfl (kp 2 rfl (kp 4 rfl (kp 5 rfl (kp 20 rfl kn))))) ?_
    refine XC.reg1 ?_
    refine XL.q (q_num ((i + 1 : Nat) : Int) rfl rfl (add64 (by omega) (by omega) (by omega))) rfl ?_
    refine XL.q (q_move rfl) rfl ?_
    refine XL.nil ?_
    refine rn (i + 1) (by omega) (by omega) (kp 1 rfl (kp 2 rfl (kp 4 rfl (kp 5 rfl (kp 20 rfl kn))))) (Fit.eq ?_) (fun _ h => h)
    rw [word_or (hg _) (hg _) (hg _) (hg _), set_ext (words_len p i) (by omega), words_succ]; rfl
  ·
    have hlt : i = 16 := by simp at hc; omega
    subst hlt
    refine XC.exit ?_
    refine te ?_
    refine re ?_
    refine be rfl ?_
    refine nx (kp 2 rfl (kp 4 rfl (kp 5 rfl kn))) ?_
    refine XC.seq ?_
    refine XC.reg ?_
    refine XL.q (q_assign rfl) rfl ?_
    refine XL.fin (kp 2 rfl (kp 4 rfl (kp 5 rfl (kp 7 rfl kn)))) ?_
    refine XC.block ?_
    generalize hW0 : words p 16 = W0
    have hW0l : W0.length = 16 := by rw [← hW0]; exact words_len _ _
    have hW0b : ∀ x ∈ W0, x < 4294967296 := by rw [← hW0]; exact words_lt hb _
    refine XC.loop (α := Nat) (fun i => [(2, .pointer (some ⟨b2, 0, none⟩)), (4, .pointer (some ⟨b4, 0, none⟩)), (5, .pointer (some ⟨b5, 0, none⟩)), (7, .int .i64 (i : Int))]) (fun i => [(b5, blk (nums .u32 (wx W0 (i - 16) ++ List.replicate (64 - i) 0)) _), (b4, blk (cells8 ⟨0, 0, 0, 0, 0, 0, 0, 0⟩) _), (b2, blk (nums .u32 s.list) _)]) (fun _ => []) (fun i => 16 ≤ i ∧ i ≤ 64) (fun i => 64 - i) 16 (by decide) (kp 2 rfl (kp 4 rfl (kp 5 rfl (kp 7 rfl kn)))) .rfl (fun _ h => h) ?_
    rintro i ⟨hi, hi2⟩
    have hwl := wx_len W0 (i - 16)
    have hwb : ∀ j, (wx W0 (i - 16) ++ List.replicate (64 - i) 0).getD j 0 < 4294967296 := fun j => getD_lt (fun x hx => by
      rcases List.mem_append.1 hx with hx | hx
      · exact wx_lt hW0b _ _ hx
      · rw [(List.mem_replicate.1 hx).2]; decide) (by decide)
    have hll : (wx W0 (i - 16) ++ List.replicate (64 - i) 0).length = 64 := by simp [wx_len, hW0l]; omega
    try dsimp only
    refine XC.seq ?_
    refine XC.reg ?_
    refine XL.q (q_move rfl) rfl ?_
    refine XL.q (q_bin rfl rfl rfl) rfl ?_
    refine XL.fin (kp 2 rfl (kp 4 rfl (kp 5 rfl (kp 7 rfl (kp 60 rfl kn))))) ?_
    refine XC.cond rfl (fun hc => ?_) (fun hc => ?_)
    ·
      have hlt : i < 64 := by simp at hc; omega
      refine XC.skip ?_
      refine nx (kp 2 rfl (kp 4 rfl (kp 5 rfl (kp 7 rfl kn)))) ?_
      refine XC.seq ?_
      refine XC.block ?_
      refine XC.draw (_) [0, 1, 2, 3, 4, 5, 6, 7, 8, 9] [(0, 0), (1, 0), (2, 0), (3, 1), (4, 0), (5, 0), (6, 0), (7, 1), (8, 0), (9, 0)] (by kernel_rfl) (by kernel_rfl) (fun _ h => h) fun hs => ?_
      refine XP.q hs rfl (q_move rfl) rfl ?_
      refine XP.q hs rfl (q_num ((i - 15 : Nat) : Int) rfl rfl (sub64 (by omega) (by omega) (by omega))) rfl ?_
      refine XP.q hs rfl (q_idxA (i := i - 15) (e := 53) (n := 64) (sz := 1) rfl rfl (by kernel_rfl) (by kernel_rfl) rfl (by omega)) rfl ?_
      refine XP.r hs rfl (q_ldN (i - 15) rfl (by kernel_rfl) At.mem (by omega) (by omega)) rfl ?_
      refine XP.q hs rfl (q_move rfl) rfl ?_
      refine XP.q hs rfl (q_num ((i - 2 : Nat) : Int) rfl rfl (sub64 (by omega) (by omega) (by omega))) rfl ?_
      refine XP.q hs rfl (q_idxA (i := i - 2) (e := 53) (n := 64) (sz := 1) rfl rfl (by kernel_rfl) (by kernel_rfl) rfl (by omega)) rfl ?_
      refine XP.r hs rfl (q_ldN (i - 2) rfl (by kernel_rfl) At.mem (by omega) (by omega)) rfl ?_
      refine XP.q hs rfl (q_assign rfl) rfl ?_
      refine XP.q hs rfl (q_assign rfl) rfl ?_
      refine XP.fin (kp 2 rfl (kp 4 rfl (kp 5 rfl (kp 7 rfl (kp 8 rfl (kp 9 rfl kn)))))) ?_
      refine XC.reg ?_
      refine XL.q (q_move rfl) rfl ?_
      refine XL.cv (aS rfl (aS rfl a0)) (by kernel_rfl) (rot_spec _ 7 _ _ (hwb _) (by decide) (by decide) rfl) rfl ?_
      refine XL.q (q_move rfl) rfl ?_
      refine XL.cv (aS rfl (aS rfl a0)) (by kernel_rfl) (rot_spec _ 18 _ _ (hwb _) (by decide) (by decide) rfl) rfl ?_
      refine XL.q (q_xor32 rfl rfl (rotr_lt (hwb _)) (rotr_lt (hwb _))) rfl ?_
      refine XL.q (q_move rfl) rfl ?_
      refine XL.q (q_shrN 3 rfl rfl rfl (by decide)) rfl ?_
      refine XL.q (q_xor32 rfl rfl (xor32 (rotr_lt (hwb _)) (rotr_lt (hwb _))) (shr32 (hwb _))) rfl ?_
      refine XL.q (q_assign rfl) rfl ?_
      refine XL.fin (kp 2 rfl (kp 4 rfl (kp 5 rfl (kp 7 rfl (kp 9 rfl (kp 10 rfl kn)))))) ?_
      refine XC.reg ?_
      refine XL.q (q_move rfl) rfl ?_
      refine XL.cv (aS rfl (aS rfl a0)) (by kernel_rfl) (rot_spec _ 17 _ _ (hwb _) (by decide) (by decide) rfl) rfl ?_
      refine XL.q (q_move rfl) rfl ?_
      refine XL.cv (aS rfl (aS rfl a0)) (by kernel_rfl) (rot_spec _ 19 _ _ (hwb _) (by decide) (by decide) rfl) rfl ?_
      refine XL.q (q_xor32 rfl rfl (rotr_lt (hwb _)) (rotr_lt (hwb _))) rfl ?_
      refine XL.q (q_move rfl) rfl ?_
      refine XL.q (q_shrN 10 rfl rfl rfl (by decide)) rfl ?_
      refine XL.q (q_xor32 rfl rfl (xor32 (rotr_lt (hwb _)) (rotr_lt (hwb _))) (shr32 (hwb _))) rfl ?_
      refine XL.q (q_assign rfl) rfl ?_
      refine XL.fin (kp 2 rfl (kp 4 rfl (kp 5 rfl (kp 7 rfl (kp 10 rfl (kp 11 rfl kn)))))) ?_
      refine XC.draw1 (_) [0, 1, 2, 3, 4, 5, 6, 7, 8, 9, 10, 11, 12, 13, 14] [(0, 0), (1, 0), (2, 0), (3, 0), (4, 1), (5, 0), (6, 0), (7, 0), (8, 0), (9, 0), (10, 1), (11, 0), (12, 0), (13, 0), (14, 0), (15, 2)] (by kernel_rfl) (by kernel_rfl) (fun _ h => h) fun hs => ?_
      refine XP.q hs rfl (q_move rfl) rfl ?_
      refine XP.q hs rfl (q_move rfl) rfl ?_
      refine XP.q hs rfl (q_num ((i - 16 : Nat) : Int) rfl rfl (sub64 (by omega) (by omega) (by omega))) rfl ?_
      refine XP.q hs rfl (q_idxA (i := i - 16) (e := 53) (n := 64) (sz := 1) rfl rfl (by kernel_rfl) (by kernel_rfl) rfl (by omega)) rfl ?_
      refine XP.r hs rfl (q_ldN (i - 16) rfl (by kernel_rfl) At.mem (by omega) (by omega)) rfl ?_
      refine XP.q hs rfl (q_move rfl) rfl ?_
      refine XP.q hs rfl (q_add32 rfl rfl) rfl ?_
      refine XP.q hs rfl (q_move rfl) rfl ?_
      refine XP.q hs rfl (q_num ((i - 7 : Nat) : Int) rfl rfl (sub64 (by omega) (by omega) (by omega))) rfl ?_
      refine XP.q hs rfl (q_idxA (i := i - 7) (e := 53) (n := 64) (sz := 1) rfl rfl (by kernel_rfl) (by kernel_rfl) rfl (by omega)) rfl ?_
      refine XP.r hs rfl (q_ldN (i - 7) rfl (by kernel_rfl) At.mem (by omega) (by omega)) rfl ?_
      refine XP.q hs rfl (q_add32 rfl rfl) rfl ?_
      refine XP.q hs rfl (q_move rfl) rfl ?_
      refine XP.q hs rfl (q_add32 rfl rfl) rfl ?_
      refine XP.q hs rfl (q_idxA (i := i) (e := 53) (n := 64) (sz := 1) rfl rfl (by kernel_rfl) (by kernel_rfl) rfl (by omega)) rfl ?_
      refine XP.tl rfl rfl rfl (l_stN (ws := wx W0 (i - 16) ++ List.replicate (64 - i) 0) i rfl rfl (by kernel_rfl) (by omega) (by omega) UpC.upd ?_)
      refine XP.nil ?_
      refine nb ?_
      refine nx (kp 2 rfl (kp 4 rfl (kp 5 rfl (kp 7 rfl kn)))) ?_
      refine XC.reg1 ?_
      refine XL.q (q_move rfl) rfl ?_
      refine XL.q (q_num ((i + 1 : Nat) : Int) rfl rfl (add64 (by omega) (by omega) (by omega))) rfl ?_
      refine XL.q (q_assign rfl) rfl ?_
      refine XL.nil ?_
      refine rn (i + 1) ⟨by omega, by omega⟩ (by omega) (kp 2 rfl (kp 4 rfl (kp 5 rfl (kp 7 rfl kn)))) (Fit.eq ?_) (fun _ h => h)
      have e := wnext_ext (us := List.replicate (64 - i) 0) (show (wx W0 (i - 16)).length = i by omega) hi hlt
      unfold sg0 sg1 at e
      rw [e, set_ext (by omega) hlt, show i + 1 - 16 = (i - 16) + 1 by omega, wx, show W0.length + (i - 16) = i by omega]
    ·
      have hlt : i = 64 := by simp at hc; omega
      subst hlt
      refine XC.exit ?_
      refine te ?_
      refine re ?_
      refine be rfl ?_
      refine nx (kp 2 rfl (kp 4 rfl (kp 5 rfl kn))) ?_
      refine XC.reg ?_
      refine XL.ldW (n := 8) rfl (by kernel_rfl) (by rfl) rfl ?_
      refine XL.lo rfl (l_alloc (cs := [.int .u32 0, .int .u32 0, .int .u32 0, .int .u32 0, .int .u32 0, .int .u32 0, .int .u32 0, .int .u32 0]) (by kernel_rfl) rfl fun b12 => ?_)
      refine XL.stW rfl rfl (by kernel_rfl) (by rfl) nums_one ?_
      refine XL.fin (kp 2 rfl (kp 4 rfl (kp 5 rfl (kp 12 rfl kn)))) ?_
      refine XC.seq ?_
      refine XC.reg ?_
      refine XL.q (q_move rfl) rfl ?_
      refine XL.fin (kp 2 rfl (kp 4 rfl (kp 5 rfl (kp 12 rfl (kp 103 rfl kn))))) ?_
      refine XC.block ?_
      generalize hW : wx W0 48 = W
      have hWl : W.length = 64 := by rw [← hW, wx_len]; omega
      have hWb : ∀ j, W.getD j 0 < 4294967296 := fun j => getD_lt (by rw [← hW]; exact wx_lt hW0b _) (by decide)
      have hkt : ∀ j, kTab.getD j 0 < 4294967296 := fun j => getD_lt ktab_lt (by decide)
      refine XC.loop (α := Nat) (fun i => [(2, .pointer (some ⟨b2, 0, none⟩)), (4, .pointer (some ⟨b4, 0, none⟩)), (5, .pointer (some ⟨b5, 0, none⟩)), (12, .pointer (some ⟨b12, 0, none⟩)), (103, .int .i64 (i : Int))]) (fun i => [(b12, blk (cells8 (rounds kTab W s i)) _), (b5, blk (nums .u32 W) _), (b4, blk (cells8 ⟨0, 0, 0, 0, 0, 0, 0, 0⟩) _), (b2, blk (nums .u32 s.list) _)]) (fun _ => []) (fun i => i ≤ 64) (fun i => 64 - i) 0 (Nat.zero_le _) (kp 2 rfl (kp 4 rfl (kp 5 rfl (kp 12 rfl (kp 103 rfl kn))))) (Fit.eq (by rw [show List.replicate (64 - 64) 0 = [] from rfl, List.append_nil]; rfl)) (fun _ h => h) ?_
      intro i hi
      have hro := hs0.rounds kTab W i
      generalize hr : rounds kTab W s i = r at hro
      rw [S8.ok_iff] at hro
      obtain ⟨ra, rb, rc, rd, re', rf, rg, rh⟩ := hro
      try dsimp only at hi ⊢
      refine XC.reg ?_
      refine XL.q (q_bin rfl rfl rfl) rfl ?_
      refine XL.fin (kp 2 rfl (kp 4 rfl (kp 5 rfl (kp 12 rfl (kp 103 rfl (kp 104 rfl kn)))))) ?_
      refine XC.seq ?_
      refine XC.cond rfl (fun hc => ?_) (fun hc => ?_)
      ·
        have hlt : i < 64 := by simp at hc; omega
        refine XC.skip ?_
        refine nx (kp 2 rfl (kp 4 rfl (kp 5 rfl (kp 12 rfl (kp 103 rfl kn))))) ?_
        refine XC.seq ?_
        refine XC.block ?_
        refine XC.reg ?_
        refine XL.q (q_move rfl) rfl ?_
        refine XL.q (q_assign rfl) rfl ?_
        refine XL.fin (kp 2 rfl (kp 4 rfl (kp 5 rfl (kp 12 rfl (kp 13 rfl (kp 103 rfl kn)))))) ?_
        refine XC.draw (_) [0, 1, 2, 3, 4, 5, 6, 7, 8, 10, 11] [(0, 0), (1, 1), (3, 0), (4, 1), (7, 0), (8, 1), (2, 2), (5, 2), (6, 0), (9, 2), (10, 0), (11, 0)] (by kernel_rfl) (by kernel_rfl) (fun _ h => h) fun hs => ?_
        refine XP.q hs rfl (q_idxA (i := 4) (e := 53) (n := 8) (sz := 1) rfl rfl (by kernel_rfl) (by kernel_rfl) rfl (by decide)) rfl ?_
        refine XP.r hs rfl (q_load rfl (by kernel_rfl) At.mem (by rfl)) rfl ?_
        refine XP.q hs rfl (q_idxA (i := 4) (e := 53) (n := 8) (sz := 1) rfl rfl (by kernel_rfl) (by kernel_rfl) rfl (by decide)) rfl ?_
        refine XP.r hs rfl (q_load rfl (by kernel_rfl) At.mem (by rfl)) rfl ?_
        refine XP.q hs rfl (q_idxA (i := 4) (e := 53) (n := 8) (sz := 1) rfl rfl (by kernel_rfl) (by kernel_rfl) rfl (by decide)) rfl ?_
        refine XP.r hs rfl (q_load rfl (by kernel_rfl) At.mem (by rfl)) rfl ?_
        refine XP.lo rfl rfl (l_callV (aS rfl (aS rfl a0)) (by kernel_rfl) (rot_spec _ 6 _ _ re' (by decide) (by decide) rfl) rfl ⟨fun _ h => h, ?_⟩)
        refine XP.lo rfl rfl (l_callV (aS rfl (aS rfl a0)) (by kernel_rfl) (rot_spec _ 11 _ _ re' (by decide) (by decide) rfl) rfl ⟨fun _ h => h, ?_⟩)
        refine XP.q hs rfl (q_xor32 rfl rfl (rotr_lt re') (rotr_lt re')) rfl ?_
        refine XP.tl rfl rfl rfl (l_callV (aS rfl (aS rfl a0)) (by kernel_rfl) (rot_spec _ 25 _ _ re' (by decide) (by decide) rfl) rfl ?_)
        refine XP.q hs rfl (q_xor32 rfl rfl (xor32 (rotr_lt re') (rotr_lt re')) (rotr_lt re')) rfl ?_
        refine XP.q hs rfl (q_assign rfl) rfl ?_
        refine XP.fin (kp 2 rfl (kp 4 rfl (kp 5 rfl (kp 12 rfl (kp 13 rfl (kp 14 rfl (kp 103 rfl kn))))))) ?_
        refine XC.reg ?_
        refine XL.q (q_idxA (i := 4) (e := 53) (n := 8) (sz := 1) rfl rfl (by kernel_rfl) (by kernel_rfl) rfl (by decide)) rfl ?_
        refine XL.ld rfl (by kernel_rfl) (by rfl) rfl ?_
        refine XL.q (q_idxA (i := 5) (e := 53) (n := 8) (sz := 1) rfl rfl (by kernel_rfl) (by kernel_rfl) rfl (by decide)) rfl ?_
        refine XL.ld rfl (by kernel_rfl) (by rfl) rfl ?_
        refine XL.q (q_and32 rfl rfl re' rf) rfl ?_
        refine XL.q (q_idxA (i := 4) (e := 53) (n := 8) (sz := 1) rfl rfl (by kernel_rfl) (by kernel_rfl) rfl (by decide)) rfl ?_
        refine XL.ld rfl (by kernel_rfl) (by rfl) rfl ?_
        refine XL.q (q_com32 rfl re') rfl ?_
        refine XL.q (q_idxA (i := 6) (e := 53) (n := 8) (sz := 1) rfl rfl (by kernel_rfl) (by kernel_rfl) rfl (by decide)) rfl ?_
        refine XL.ld rfl (by kernel_rfl) (by rfl) rfl ?_
        refine XL.q (q_and32 rfl rfl (xor32 (by decide) re') rg) rfl ?_
        refine XL.q (q_xor32 rfl rfl (and32 re') (and32 (xor32 (by decide) re'))) rfl ?_
        refine XL.q (q_assign rfl) rfl ?_
        refine XL.fin (kp 2 rfl (kp 4 rfl (kp 5 rfl (kp 12 rfl (kp 13 rfl (kp 14 rfl (kp 15 rfl (kp 103 rfl kn)))))))) ?_
        refine XC.draw (_) [0, 1, 2, 3, 4, 5, 6, 7, 8, 9, 10, 11, 12, 13, 14] [(0, 0), (1, 1), (2, 0), (3, 0), (4, 0), (5, 0), (6, 0), (7, 0), (8, 1), (9, 0), (10, 0), (11, 0), (12, 1), (13, 0), (14, 0)] (by kernel_rfl) (by kernel_rfl) (fun _ h => h) fun hs => ?_
        refine XP.q hs rfl (q_idxA (i := 7) (e := 53) (n := 8) (sz := 1) rfl rfl (by kernel_rfl) (by kernel_rfl) rfl (by decide)) rfl ?_
        refine XP.r hs rfl (q_load rfl (by kernel_rfl) At.mem (by rfl)) rfl ?_
        refine XP.q hs rfl (q_move rfl) rfl ?_
        refine XP.q hs rfl (q_add32 rfl rfl) rfl ?_
        refine XP.q hs rfl (q_move rfl) rfl ?_
        refine XP.q hs rfl (q_add32 rfl rfl) rfl ?_
        refine XP.q hs rfl (q_move rfl) rfl ?_
        refine XP.q hs rfl (q_idxA (i := i) (e := 53) (n := 64) (sz := 1) rfl rfl (by kernel_rfl) (by kernel_rfl) rfl (by omega)) rfl ?_
        refine XP.r hs rfl (q_ldN i rfl (by kernel_rfl) (mA hk) (by omega) (show i < 64 from hlt)) rfl ?_
        refine XP.q hs rfl (q_add32 rfl rfl) rfl ?_
        refine XP.q hs rfl (q_move rfl) rfl ?_
        refine XP.q hs rfl (q_idxA (i := i) (e := 53) (n := 64) (sz := 1) rfl rfl (by kernel_rfl) (by kernel_rfl) rfl (by omega)) rfl ?_
        refine XP.r hs rfl (q_ldN i rfl (by kernel_rfl) At.mem (by omega) (by omega)) rfl ?_
        refine XP.q hs rfl (q_add32 rfl rfl) rfl ?_
        refine XP.q hs rfl (q_assign rfl) rfl ?_
        refine XP.fin (kp 2 rfl (kp 4 rfl (kp 5 rfl (kp 12 rfl (kp 16 rfl (kp 103 rfl kn)))))) ?_
        refine XC.draw (_) [0, 1, 2, 3, 4, 5, 6, 7, 8, 10, 11] [(0, 0), (1, 1), (3, 0), (4, 1), (7, 0), (8, 1), (2, 2), (5, 2), (6, 0), (9, 2), (10, 0), (11, 0)] (by kernel_rfl) (by kernel_rfl) (fun _ h => h) fun hs => ?_
        refine XP.q hs rfl (q_idxA (i := 0) (e := 53) (n := 8) (sz := 1) rfl rfl (by kernel_rfl) (by kernel_rfl) rfl (by decide)) rfl ?_
        refine XP.r hs rfl (q_load rfl (by kernel_rfl) At.mem (by rfl)) rfl ?_
        refine XP.q hs rfl (q_idxA (i := 0) (e := 53) (n := 8) (sz := 1) rfl rfl (by kernel_rfl) (by kernel_rfl) rfl (by decide)) rfl ?_
        refine XP.r hs rfl (q_load rfl (by kernel_rfl) At.mem (by rfl)) rfl ?_
        refine XP.q hs rfl (q_idxA (i := 0) (e := 53) (n := 8) (sz := 1) rfl rfl (by kernel_rfl) (by kernel_rfl) rfl (by decide)) rfl ?_
        refine XP.r hs rfl (q_load rfl (by kernel_rfl) At.mem (by rfl)) rfl ?_
        refine XP.lo rfl rfl (l_callV (aS rfl (aS rfl a0)) (by kernel_rfl) (rot_spec _ 2 _ _ ra (by decide) (by decide) rfl) rfl ⟨fun _ h => h, ?_⟩)
        refine XP.lo rfl rfl (l_callV (aS rfl (aS rfl a0)) (by kernel_rfl) (rot_spec _ 13 _ _ ra (by decide) (by decide) rfl) rfl ⟨fun _ h => h, ?_⟩)
        refine XP.q hs rfl (q_xor32 rfl rfl (rotr_lt ra) (rotr_lt ra)) rfl ?_
        refine XP.tl rfl rfl rfl (l_callV (aS rfl (aS rfl a0)) (by kernel_rfl) (rot_spec _ 22 _ _ ra (by decide) (by decide) rfl) rfl ?_)
        refine XP.q hs rfl (q_xor32 rfl rfl (xor32 (rotr_lt ra) (rotr_lt ra)) (rotr_lt ra)) rfl ?_
        refine XP.q hs rfl (q_assign rfl) rfl ?_
        refine XP.fin (kp 2 rfl (kp 4 rfl (kp 5 rfl (kp 12 rfl (kp 16 rfl (kp 17 rfl (kp 103 rfl kn))))))) ?_
        refine XC.reg ?_
        refine XL.q (q_idxA (i := 0) (e := 53) (n := 8) (sz := 1) rfl rfl (by kernel_rfl) (by kernel_rfl) rfl (by decide)) rfl ?_
        refine XL.ld rfl (by kernel_rfl) (by rfl) rfl ?_
        refine XL.q (q_idxA (i := 1) (e := 53) (n := 8) (sz := 1) rfl rfl (by kernel_rfl) (by kernel_rfl) rfl (by decide)) rfl ?_
        refine XL.ld rfl (by kernel_rfl) (by rfl) rfl ?_
        refine XL.q (q_and32 rfl rfl ra rb) rfl ?_
        refine XL.q (q_idxA (i := 0) (e := 53) (n := 8) (sz := 1) rfl rfl (by kernel_rfl) (by kernel_rfl) rfl (by decide)) rfl ?_
        refine XL.ld rfl (by kernel_rfl) (by rfl) rfl ?_
        refine XL.q (q_idxA (i := 2) (e := 53) (n := 8) (sz := 1) rfl rfl (by kernel_rfl) (by kernel_rfl) rfl (by decide)) rfl ?_
        refine XL.ld rfl (by kernel_rfl) (by rfl) rfl ?_
        refine XL.q (q_and32 rfl rfl ra rc) rfl ?_
        refine XL.q (q_xor32 rfl rfl (and32 ra) (and32 ra)) rfl ?_
        refine XL.q (q_idxA (i := 1) (e := 53) (n := 8) (sz := 1) rfl rfl (by kernel_rfl) (by kernel_rfl) rfl (by decide)) rfl ?_
        refine XL.ld rfl (by kernel_rfl) (by rfl) rfl ?_
        refine XL.q (q_idxA (i := 2) (e := 53) (n := 8) (sz := 1) rfl rfl (by kernel_rfl) (by kernel_rfl) rfl (by decide)) rfl ?_
        refine XL.ld rfl (by kernel_rfl) (by rfl) rfl ?_
        refine XL.q (q_and32 rfl rfl rb rc) rfl ?_
        refine XL.q (q_xor32 rfl rfl (xor32 (and32 ra) (and32 ra)) (and32 rb)) rfl ?_
        refine XL.q (q_assign rfl) rfl ?_
        refine XL.fin (kp 2 rfl (kp 4 rfl (kp 5 rfl (kp 12 rfl (kp 16 rfl (kp 17 rfl (kp 18 rfl (kp 103 rfl kn)))))))) ?_
        refine XC.reg1 ?_
        refine XL.q (q_move rfl) rfl ?_
        refine XL.q (q_move rfl) rfl ?_
        refine XL.q (q_add32 rfl rfl) rfl ?_
        refine XL.q (q_move rfl) rfl ?_
        refine XL.q (q_add32 rfl rfl) rfl ?_
        refine XL.q (q_idxA (i := 0) (e := 53) (n := 8) (sz := 1) rfl rfl (by kernel_rfl) (by kernel_rfl) rfl (by decide)) rfl ?_
        refine XL.ld rfl (by kernel_rfl) (by rfl) rfl ?_
        refine XL.q (q_idxA (i := 1) (e := 53) (n := 8) (sz := 1) rfl rfl (by kernel_rfl) (by kernel_rfl) rfl (by decide)) rfl ?_
        refine XL.ld rfl (by kernel_rfl) (by rfl) rfl ?_
        refine XL.q (q_idxA (i := 2) (e := 53) (n := 8) (sz := 1) rfl rfl (by kernel_rfl) (by kernel_rfl) rfl (by decide)) rfl ?_
        refine XL.ld rfl (by kernel_rfl) (by rfl) rfl ?_
        refine XL.q (q_idxA (i := 3) (e := 53) (n := 8) (sz := 1) rfl rfl (by kernel_rfl) (by kernel_rfl) rfl (by decide)) rfl ?_
        refine XL.ld rfl (by kernel_rfl) (by rfl) rfl ?_
        refine XL.q (q_move rfl) rfl ?_
        refine XL.q (q_add32 rfl rfl) rfl ?_
        refine XL.q (q_idxA (i := 4) (e := 53) (n := 8) (sz := 1) rfl rfl (by kernel_rfl) (by kernel_rfl) rfl (by decide)) rfl ?_
        refine XL.ld rfl (by kernel_rfl) (by rfl) rfl ?_
        refine XL.q (q_idxA (i := 5) (e := 53) (n := 8) (sz := 1) rfl rfl (by kernel_rfl) (by kernel_rfl) rfl (by decide)) rfl ?_
        refine XL.ld rfl (by kernel_rfl) (by rfl) rfl ?_
        refine XL.q (q_idxA (i := 6) (e := 53) (n := 8) (sz := 1) rfl rfl (by kernel_rfl) (by kernel_rfl) rfl (by decide)) rfl ?_
        refine XL.ld rfl (by kernel_rfl) (by rfl) rfl ?_
        refine XL.q (q_build (place := fun i => some (i * 1, 1)) (z := [.int .u32 0, .int .u32 0, .int .u32 0, .int .u32 0, .int .u32 0, .int .u32 0, .int .u32 0, .int .u32 0]) (fun _ => by kernel_rfl) (eS rfl (eS rfl (eS rfl (eS rfl (eS rfl (eS rfl (eS rfl (eS rfl e0)))))))) (bdS 0 1 rfl (by rfl) (bdS 1 1 rfl (by rfl) (bdS 2 1 rfl (by rfl) (bdS 3 1 rfl (by rfl) (bdS 4 1 rfl (by rfl) (bdS 5 1 rfl (by rfl) (bdS 6 1 rfl (by rfl) (bdS 7 1 rfl (by rfl) bd0))))))))) rfl ?_
        refine XL.stW rfl rfl (by kernel_rfl) (by rfl) (by simp [Value.oneCell']) ?_
        refine XL.nil ?_
        refine nb ?_
        refine nx (kp 2 rfl (kp 4 rfl (kp 5 rfl (kp 12 rfl (kp 103 rfl kn))))) ?_
        refine XC.reg1 ?_
        refine XL.q (q_num ((i + 1 : Nat) : Int) rfl rfl (add64 (by omega) (by omega) (by omega))) rfl ?_
        refine XL.q (q_move rfl) rfl ?_
        refine XL.nil ?_
        refine rn (i + 1) (by omega) (by omega) (kp 2 rfl (kp 4 rfl (kp 5 rfl (kp 12 rfl (kp 103 rfl kn))))) (Fit.eq ?_) (fun _ h => h)
        rw [rounds, hr]; rfl
      ·
        have hlt : i = 64 := by simp at hc; omega
        subst hlt
        refine XC.exit ?_
        refine te ?_
        refine re ?_
        refine be rfl ?_
        refine nx (kp 2 rfl (kp 4 rfl (kp 12 rfl kn))) ?_
        refine XC.seq ?_
        refine XC.reg ?_
        refine XL.q (q_move rfl) rfl ?_
        refine XL.fin (kp 2 rfl (kp 4 rfl (kp 12 rfl (kp 194 rfl kn)))) ?_
        refine XC.block ?_
        refine XC.loop (α := Nat) (fun i => [(2, .pointer (some ⟨b2, 0, none⟩)), (4, .pointer (some ⟨b4, 0, none⟩)), (12, .pointer (some ⟨b12, 0, none⟩)), (194, .int .i64 (i : Int))]) (fun i => [(b12, blk (nums .u32 r.list) _), (b5, blk (nums .u32 W) _), (b4, blk (cells8 ⟨0, 0, 0, 0, 0, 0, 0, 0⟩) _), (b2, blk (nums .u32 (plusAt s r i)) _)]) (fun _ => []) (fun i => i ≤ 8) (fun i => 8 - i) 0 (Nat.zero_le _) (kp 2 rfl (kp 4 rfl (kp 12 rfl (kp 194 rfl kn)))) .rfl (fun _ h => h) ?_
        intro i hi
        try dsimp only at hi ⊢
        refine XC.reg ?_
        refine XL.q (q_bin rfl rfl rfl) rfl ?_
        refine XL.fin (kp 2 rfl (kp 4 rfl (kp 12 rfl (kp 194 rfl (kp 195 rfl kn))))) ?_
        refine XC.seq ?_
        refine XC.cond rfl (fun hc => ?_) (fun hc => ?_)
        ·
          have hlt : i < 8 := by simp at hc; omega
          refine XC.skip ?_
          refine nx (kp 2 rfl (kp 4 rfl (kp 12 rfl (kp 194 rfl kn)))) ?_
          refine XC.seq ?_
          refine XC.block ?_
          refine XC.reg ?_
          refine XL.q (q_move rfl) rfl ?_
          refine XL.q (q_assign rfl) rfl ?_
          refine XL.fin (kp 2 rfl (kp 4 rfl (kp 12 rfl (kp 19 rfl (kp 194 rfl kn))))) ?_
          refine XC.draw1 (_) [0, 1, 2, 3, 4, 5, 6, 7] [(0, 0), (1, 0), (2, 1), (3, 0), (4, 0), (5, 1), (6, 0), (7, 0), (8, 2)] (by kernel_rfl) (by kernel_rfl) (fun _ h => h) fun hs => ?_
          refine XP.q hs rfl (q_move rfl) rfl ?_
          refine XP.q hs rfl (q_idxA (i := i) (e := 53) (n := 8) (sz := 1) rfl rfl (by kernel_rfl) (by kernel_rfl) rfl (by omega)) rfl ?_
          refine XP.r hs rfl (q_ldN i rfl (by kernel_rfl) At.mem (by omega) (by rw [plusAt_len _ _ _ hi]; exact hlt)) rfl ?_
          refine XP.q hs rfl (q_move rfl) rfl ?_
          refine XP.q hs rfl (q_idxA (i := i) (e := 53) (n := 8) (sz := 1) rfl rfl (by kernel_rfl) (by kernel_rfl) rfl (by omega)) rfl ?_
          refine XP.r hs rfl (q_ldN i rfl (by kernel_rfl) At.mem (by omega) (show i < 8 from hlt)) rfl ?_
          refine XP.q hs rfl (q_add32 rfl rfl) rfl ?_
          refine XP.q hs rfl (q_idxA (i := i) (e := 53) (n := 8) (sz := 1) rfl rfl (by kernel_rfl) (by kernel_rfl) rfl (by omega)) rfl ?_
          refine XP.tl rfl rfl rfl (l_stN (ws := plusAt s r i) i rfl rfl (by kernel_rfl) (by omega) (by rw [plusAt_len _ _ _ hi]; exact hlt) UpC.upd ?_)
          refine XP.nil ?_
          refine nb ?_
          refine nx (kp 2 rfl (kp 4 rfl (kp 12 rfl (kp 194 rfl kn)))) ?_
          refine XC.reg1 ?_
          refine XL.q (q_num ((i + 1 : Nat) : Int) rfl rfl (add64 (by omega) (by omega) (by omega))) rfl ?_
          refine XL.q (q_move rfl) rfl ?_
          refine XL.nil ?_
          refine rn (i + 1) (by omega) (by omega) (kp 2 rfl (kp 4 rfl (kp 12 rfl (kp 194 rfl kn)))) (Fit.eq ?_) (fun _ h => h)
          rw [plusAt_get _ _ _ hlt, plusAt_succ _ _ _ hlt]
        ·
          have hlt : i = 8 := by simp at hc; omega
          subst hlt
          refine XC.exit ?_
          refine te ?_
          refine re ?_
          refine be rfl ?_
          refine nx (kp 2 rfl (kp 4 rfl kn)) ?_
          refine XC.reg ?_
          refine XL.ldW (n := 8) rfl (by kernel_rfl) (by rfl) rfl ?_
          refine XL.stW rfl rfl (by kernel_rfl) (by rfl) nums_one ?_
          refine XL.fin (kp 4 rfl kn) ?_
          refine XC.ret ?_
          refine ⟨_, [], [], resC (n := 8) rfl rfl (by kernel_rfl) m2 rfl, List.nil_sublist _, by simp, ?_, rfl, rfl⟩
          unfold shaBlock; rw [hW0, hW, hr]; rfl
