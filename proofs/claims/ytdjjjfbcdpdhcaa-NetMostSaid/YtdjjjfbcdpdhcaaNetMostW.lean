/- The walk of the law NetMost. -/
import Derived.Test.YtdjjjfbcdpdhcaaNet
set_option linter.unusedVariables false
namespace Go.Proofs.Ytdjjjfbcdpdhcaa
open Go.Px

set_option maxRecDepth 4000 in
theorem last_snoc (l : List (List Value)) (x : List Value) : last (last l ++ [x]) = last (l ++ [x]) := by
  by_cases h : l.length ≤ 256
  · have e : last l = l := by unfold last; rw [show l.length - 256 = 0 from by omega, List.drop_zero]
    rw [e]
  · have e0 : (last l).length = 256 := by unfold last; rw [List.length_drop]; exact Nat.sub_sub_self (by omega)
    have e1 : (last l ++ [x]).length - 256 = 1 := by rw [List.length_append, e0]; exact Nat.add_sub_cancel_left _ _
    have e2 : (l ++ [x]).length - 256 = (l.length - 256) + 1 := by simp only [List.length_append, List.length_cons, List.length_nil]; omega
    have e3 : 1 ≤ (last l).length := by rw [e0]; decide
    show List.drop ((last l ++ [x]).length - 256) (last l ++ [x]) = List.drop ((l ++ [x]).length - 256) (l ++ [x])
    rw [e1, e2, List.drop_append_of_le_length e3, List.drop_append_of_le_length (by omega)]
    unfold last
    rw [List.drop_drop]
/-- The rows behind i puts. -/
def rowsAt (i : Nat) : List (List Value) := last ((List.range i).map fun j : Nat => pk j)
theorem rowsAt_succ (i : Nat) : last (rowsAt i ++ [pk i]) = rowsAt (i + 1) := by
  unfold rowsAt; rw [last_snoc, List.range_succ]; simp
theorem rowsAt_rows (i : Nat) : Rows (rowsAt i) := last_rows (fun r hr => by
  obtain ⟨n, _, rfl⟩ := List.mem_map.1 hr
  exact ⟨pk_len _, pk_one _⟩)
theorem rowsAt_len (i : Nat) : (rowsAt i).length = min i 256 := by unfold rowsAt last; simp; omega
theorem rowsAt_head (i : Nat) (h : 0 < i) : (rowsAt i)[0]? = some (pk ((i - 256 : Nat) : Int)) := by
  unfold rowsAt last
  simp only [List.length_map, List.length_range, List.getElem?_drop, Nat.add_zero, List.getElem?_map]
  rw [List.getElem?_range (by omega)]; rfl

theorem double_any (b : Nat) (i : Int) (M A : Mem) (rows : List (List Value)) (row : List Value) (hM : NetM b rows M) (hR : Rows rows) (h256 : rows.length ≤ 256) (hrow : rows[plc i rows.length]? = some row) :
    FnX Try.prog 9 [.pointer (some ⟨b, 0, none⟩), .int .i64 i] M A fun v M J => J = [] ∧ v = .bool (decide (rows.length < 256)) ∧ NetM b (if rows.length < 256 then rows ++ [row] else rows) M := by
  by_cases h : rows.length < 256
  · refine (double_spec b i M A rows row hM hR h hrow).mono ?_
    rintro v M J ⟨rfl, rfl, hn⟩
    exact ⟨rfl, by simp [h], by rw [if_pos h]; exact hn⟩
  · obtain ⟨p, c, e, hb⟩ := hM.blk
    refine (FnV.frame (double_full b rows.length c p e i (M ++ A) (List.mem_append_left _ hb) (by omega) (by omega))).mono ?_
    rintro v M' J ⟨rfl, rfl, rfl⟩
    exact ⟨rfl, by simp [h], by rw [if_neg h]; exact hM⟩
theorem plc0 (n : Nat) : plc 0 n = 0 := by simp [plc]

set_option maxRecDepth 4000 in
theorem netMost_spec (m : Nat) (hm : m < 65536) (A : Mem) : FnV Try.prog 3 [.int .u16 m] A (.bool true) := by
  refine FnX.enter (N := 53) Try.func3 rfl rfl rfl fun w => ?_
  refine XC.keep (kp 0 rfl kn) ?_
  refine XC.reg ?_
  refine XL.q (q_assign rfl) rfl ?_
  refine XL.fin (kp 0 rfl kn) ?_
  refine XC.seq ?_
  refine XC.reg ?_
  refine XL.cv a0 (by kernel_rfl) (awake_spec _) rfl ?_
  refine XL.q (q_not rfl) rfl ?_
  refine XL.fin (kp 0 rfl (kp 11 rfl kn)) ?_
  refine XC.condF rfl ?_
  refine XC.skip ?_
  refine nx (kp 0 rfl kn) ?_
  refine XC.reg ?_
  refine XL.q (q_build (place := fun x => #[(0, 1)][x]?) (z := [.slice none 0 0]) (fun _ => by kernel_rfl) e0 bd0) rfl ?_
  refine XL.lo rfl (l_box rfl rfl rfl fun b13 => ?_)
  refine XL.q (q_assign rfl) rfl ?_
  refine XL.fin (kp 0 rfl (kp 3 rfl kn)) ?_
  refine XC.reg ?_
  refine XL.q (q_move rfl) rfl ?_
  refine XL.q (q_convR (k' := .i64) (m : Int) rfl (by kernel_rfl) (wrap_i64 (by omega) (by omega))) rfl ?_
  refine XL.q (q_rem rfl rfl (by decide)) rfl ?_
  refine XL.q (q_num ((200 + m % 120 : Nat) : Int) rfl rfl (add64 (by rw [Int.tmod_eq_emod_of_nonneg (by omega)]; omega) (by omega) (by omega))) rfl ?_
  generalize hkk : 200 + m % 120 = kk
  refine XL.q (q_assign rfl) rfl ?_
  refine XL.fin (kp 3 rfl (kp 4 rfl kn)) ?_
  refine XC.seq ?_
  refine XC.reg ?_
  refine XL.q (q_assign rfl) rfl ?_
  refine XL.fin (kp 3 rfl (kp 4 rfl (kp 5 rfl kn))) ?_
  refine XC.block ?_
  refine XC.loop (α := Nat × Mem) (fun x => [(3, .pointer (some ⟨b13, 0, none⟩)), (4, .int .i64 (kk : Int)), (5, .int .i64 (x.1 : Int))]) (fun x => x.2) (fun _ => []) (fun x => x.1 ≤ kk ∧ NetM b13 (rowsAt x.1) x.2) (fun x => kk - x.1) (0, _) ⟨Nat.zero_le _, net_new _ _⟩ (kp 3 rfl (kp 4 rfl (kp 5 rfl kn))) .rfl (fun _ h => h) ?_
  rintro ⟨i, Mi⟩ ⟨hi, hnet⟩
  dsimp only at hi hnet ⊢
  refine XC.seq ?_
  refine XC.reg ?_
  refine XL.q (q_move rfl) rfl ?_
  refine XL.q (q_move rfl) rfl ?_
  refine XL.q (q_bin rfl rfl rfl) rfl ?_
  refine XL.fin (kp 3 rfl (kp 4 rfl (kp 5 rfl (kp 20 rfl kn)))) ?_
  refine XC.cond rfl (fun hc => ?_) (fun hc => ?_)
  ·
    have hlt : i < kk := by simpa using hc
    refine XC.skip ?_
    refine nx (kp 3 rfl (kp 4 rfl (kp 5 rfl kn))) ?_
    refine XC.seq ?_
    refine XC.block ?_
    refine XC.reg1 ?_
    refine XL.q (q_move rfl) rfl ?_
    refine XL.q (q_move rfl) rfl ?_
    refine XL.cv (aS rfl a0) (by kernel_rfl) (packet_spec i _) rfl ?_
    refine XL.lo rfl (l_call (R := []) (aS rfl (aS rfl a0)) (by kernel_rfl) (by rw [List.append_nil]) (put_spec b13 Mi _ (rowsAt i) (pk i) hnet (rowsAt_rows i) (pk_len _) (pk_one _) (by rw [rowsAt_len]; omega)) rfl ?_)
    rintro _ M1 _ ⟨rfl, rfl, h1⟩
    rw [List.append_nil]
    rw [rowsAt_succ] at h1
    refine XL.nil ?_
    refine nb ?_
    refine nx (kp 3 rfl (kp 4 rfl (kp 5 rfl kn))) ?_
    refine XC.reg1 ?_
    refine XL.q (q_move rfl) rfl ?_
    refine XL.q (q_num ((i + 1 : Nat) : Int) rfl rfl (add64 (by omega) (by omega) (by omega))) rfl ?_
    refine XL.q (q_assign rfl) rfl ?_
    refine XL.nil ?_
    exact rn (i + 1, M1) ⟨by omega, h1⟩ (by dsimp only; omega) (kp 3 rfl (kp 4 rfl (kp 5 rfl kn))) .rfl (fun _ h => h)
  ·
    have hlt : i = kk := by simp at hc; omega
    subst hlt
    have hle : (rowsAt i).length ≤ 256 := by rw [rowsAt_len]; omega
    have hhd := rowsAt_head i (by omega)
    have hR1 : Rows (if (rowsAt i).length < 256 then rowsAt i ++ [pk ((i - 256 : Nat) : Int)] else rowsAt i) := by
      split
      · intro r hr; simp at hr; rcases hr with hr | rfl; exact rowsAt_rows i r hr; exact ⟨pk_len _, pk_one _⟩
      · exact rowsAt_rows i
    have hL1 : (if (rowsAt i).length < 256 then rowsAt i ++ [pk ((i - 256 : Nat) : Int)] else rowsAt i).length ≤ 256 := by split <;> (try rw [List.length_append, List.length_singleton]) <;> omega
    have hH1 : (if (rowsAt i).length < 256 then rowsAt i ++ [pk ((i - 256 : Nat) : Int)] else rowsAt i)[0]? = some (pk ((i - 256 : Nat) : Int)) := by
      split
      · rw [List.getElem?_append_left (by rw [rowsAt_len]; omega)]; exact hhd
      · exact hhd
    refine XC.exit ?_
    refine te ?_
    refine re ?_
    refine be rfl ?_
    refine nx (kp 3 rfl (kp 4 rfl kn)) ?_
    refine XC.reg ?_
    refine XL.q (q_assign rfl) rfl ?_
    refine XL.fin (kp 3 rfl (kp 4 rfl (kp 6 rfl kn))) ?_
    refine XC.seq ?_
    refine XC.reg ?_
    refine XL.q (q_move rfl) rfl ?_
    refine XL.q (q_bin rfl rfl rfl) rfl ?_
    refine XL.fin (kp 3 rfl (kp 4 rfl (kp 6 rfl (kp 28 rfl kn)))) ?_
    refine XC.cond rfl (fun hc => ?_) (fun hc => ?_)
    ·
      have hgt : 256 < i := by simp at hc; omega
      refine XC.reg1 ?_
      refine XL.q (q_move rfl) rfl ?_
      refine XL.q (q_num ((i - 256 : Nat) : Int) rfl rfl (sub64 (by omega) (by omega) (by omega))) rfl ?_
      refine XL.q (q_assign rfl) rfl ?_
      refine XL.fin (kp 3 rfl (kp 4 rfl (kp 6 rfl kn))) ?_
      refine XC.reg ?_
      refine XL.q (q_move rfl) rfl ?_
      refine XL.lo rfl (l_call (R := []) (aS rfl (aS rfl a0)) (by kernel_rfl) (by rw [List.append_nil]) (double_any b13 0 Mi _ (rowsAt i) (pk ((i - 256 : Nat) : Int)) hnet (rowsAt_rows i) hle (by rw [plc0]; exact hhd)) rfl ?_)
      rintro _ M1 _ ⟨rfl, rfl, h1⟩
      rw [List.append_nil]
      refine XL.q (q_assign rfl) rfl ?_
      refine XL.fin (kp 3 rfl (kp 4 rfl (kp 6 rfl (kp 7 rfl kn)))) ?_
      refine XC.reg ?_
      refine XL.q (q_move rfl) rfl ?_
      refine XL.lo rfl (l_call (R := []) (aS rfl (aS rfl a0)) (by kernel_rfl) (by rw [List.append_nil]) (take_spec b13 0 M1 _ _ (pk ((i - 256 : Nat) : Int)) h1 hR1 hL1 (by rw [plc0]; exact hH1)) rfl ?_)
      rintro _ M2 _ ⟨rfl, rfl, h2⟩
      rw [List.append_nil]
      refine XL.q (q_move rfl) rfl ?_
      refine XL.q (q_extract rfl rfl) rfl ?_
      refine XL.q (q_extract rfl rfl) rfl ?_
      refine XL.lo rfl (l_alloc (cs := [.int .u8 0, .int .i64 0, .int .i64 0, .int .u32 0, .int .u32 0, .int .i64 0, .slice none 0 0, .int .u64 0, .slice none 0 0, .int .u8 0, .int .i64 0, .int .i64 0, .int .u32 0, .int .u32 0, .int .i64 0, .slice none 0 0, .slice none 0 0, .slice none 0 0, .bool false]) (by kernel_rfl) rfl fun b8 => ?_)
      refine XL.stW rfl rfl (by kernel_rfl) (by rfl) (pk_one _) ?_
      refine XL.q (q_assign rfl) rfl ?_
      refine XL.fin (kp 4 rfl (kp 6 rfl (kp 7 rfl (kp 8 rfl (kp 9 rfl kn))))) ?_
      refine XC.reg ?_
      refine XL.q (q_move rfl) rfl ?_
      refine XL.q (q_move rfl) rfl ?_
      refine XL.q (q_cmp (decide (i < 256)) rfl rfl (by simp [arith]; omega)) rfl ?_
      refine XL.q (q_boolEqR true rfl rfl (by kernel_rfl) (by rw [rowsAt_len, beq_iff_eq, decide_eq_decide]; omega)) rfl ?_
      refine XL.q (q_move rfl) rfl ?_
      refine XL.gy rfl rfl (OpQ.opL (q_move rfl) rfl ?_)
      refine XL.q (q_pickT rfl rfl) rfl ?_
      refine XL.q (q_move rfl) rfl ?_
      refine XL.gy rfl rfl (OpQ.opL (q_fieldAddrN 0 (off := 0) rfl (by kernel_rfl) rfl) rfl ?_)
      refine XL.gy rfl rfl (OpQ.opL (q_fieldAddrN 3 (off := 3) rfl (by kernel_rfl) rfl) rfl ?_)
      refine XL.gy rfl rfl (OpQ.opL (q_load rfl (by kernel_rfl) At.mem (by rfl)) rfl ?_)
      refine XL.gy rfl rfl (OpQ.opL (q_convR (k' := .i64) ((i - 256 : Nat) : Int) rfl (by kernel_rfl) (by rw [wrap_u32 (by omega) (by omega), wrap_i64 (by omega) (by omega)])) rfl ?_)
      refine XL.gy rfl rfl (OpQ.opL (q_move rfl) rfl ?_)
      refine XL.gy rfl rfl (OpQ.opL (q_cmp true rfl rfl (eqT (by omega))) rfl ?_)
      refine XL.q (q_pickT rfl rfl) rfl ?_
      refine XL.q (q_assign rfl) rfl ?_
      refine XL.fin (kp 2 rfl kn) ?_
      refine XC.ret ?_
      exact ⟨_, [], [], res1 rfl rfl, List.nil_sublist _, by simp, rfl, rfl, rfl⟩
    ·
      have hgt : i ≤ 256 := by simp at hc; omega
      refine XC.skip ?_
      refine nx (kp 3 rfl (kp 4 rfl (kp 6 rfl kn))) ?_
      refine XC.reg ?_
      refine XL.q (q_move rfl) rfl ?_
      refine XL.lo rfl (l_call (R := []) (aS rfl (aS rfl a0)) (by kernel_rfl) (by rw [List.append_nil]) (double_any b13 0 Mi _ (rowsAt i) (pk ((i - 256 : Nat) : Int)) hnet (rowsAt_rows i) hle (by rw [plc0]; exact hhd)) rfl ?_)
      rintro _ M1 _ ⟨rfl, rfl, h1⟩
      rw [List.append_nil]
      refine XL.q (q_assign rfl) rfl ?_
      refine XL.fin (kp 3 rfl (kp 4 rfl (kp 6 rfl (kp 7 rfl kn)))) ?_
      refine XC.reg ?_
      refine XL.q (q_move rfl) rfl ?_
      refine XL.lo rfl (l_call (R := []) (aS rfl (aS rfl a0)) (by kernel_rfl) (by rw [List.append_nil]) (take_spec b13 0 M1 _ _ (pk ((i - 256 : Nat) : Int)) h1 hR1 hL1 (by rw [plc0]; exact hH1)) rfl ?_)
      rintro _ M2 _ ⟨rfl, rfl, h2⟩
      rw [List.append_nil]
      refine XL.q (q_move rfl) rfl ?_
      refine XL.q (q_extract rfl rfl) rfl ?_
      refine XL.q (q_extract rfl rfl) rfl ?_
      refine XL.lo rfl (l_alloc (cs := [.int .u8 0, .int .i64 0, .int .i64 0, .int .u32 0, .int .u32 0, .int .i64 0, .slice none 0 0, .int .u64 0, .slice none 0 0, .int .u8 0, .int .i64 0, .int .i64 0, .int .u32 0, .int .u32 0, .int .i64 0, .slice none 0 0, .slice none 0 0, .slice none 0 0, .bool false]) (by kernel_rfl) rfl fun b8 => ?_)
      refine XL.stW rfl rfl (by kernel_rfl) (by rfl) (pk_one _) ?_
      refine XL.q (q_assign rfl) rfl ?_
      refine XL.fin (kp 4 rfl (kp 6 rfl (kp 7 rfl (kp 8 rfl (kp 9 rfl kn))))) ?_
      refine XC.reg ?_
      refine XL.q (q_move rfl) rfl ?_
      refine XL.q (q_move rfl) rfl ?_
      refine XL.q (q_cmp (decide (i < 256)) rfl rfl (by simp [arith]; omega)) rfl ?_
      refine XL.q (q_boolEqR true rfl rfl (by kernel_rfl) (by rw [rowsAt_len, beq_iff_eq, decide_eq_decide]; omega)) rfl ?_
      refine XL.q (q_move rfl) rfl ?_
      refine XL.gy rfl rfl (OpQ.opL (q_move rfl) rfl ?_)
      refine XL.q (q_pickT rfl rfl) rfl ?_
      refine XL.q (q_move rfl) rfl ?_
      refine XL.gy rfl rfl (OpQ.opL (q_fieldAddrN 0 (off := 0) rfl (by kernel_rfl) rfl) rfl ?_)
      refine XL.gy rfl rfl (OpQ.opL (q_fieldAddrN 3 (off := 3) rfl (by kernel_rfl) rfl) rfl ?_)
      refine XL.gy rfl rfl (OpQ.opL (q_load rfl (by kernel_rfl) At.mem (by rfl)) rfl ?_)
      refine XL.gy rfl rfl (OpQ.opL (q_convR (k' := .i64) ((i - 256 : Nat) : Int) rfl (by kernel_rfl) (by rw [wrap_u32 (by omega) (by omega), wrap_i64 (by omega) (by omega)])) rfl ?_)
      refine XL.gy rfl rfl (OpQ.opL (q_move rfl) rfl ?_)
      refine XL.gy rfl rfl (OpQ.opL (q_cmp true rfl rfl (eqT (by omega))) rfl ?_)
      refine XL.q (q_pickT rfl rfl) rfl ?_
      refine XL.q (q_assign rfl) rfl ?_
      refine XL.fin (kp 2 rfl kn) ?_
      refine XC.ret ?_
      exact ⟨_, [], [], res1 rfl rfl, List.nil_sublist _, by simp, rfl, rfl, rfl⟩

end Go.Proofs.Ytdjjjfbcdpdhcaa
