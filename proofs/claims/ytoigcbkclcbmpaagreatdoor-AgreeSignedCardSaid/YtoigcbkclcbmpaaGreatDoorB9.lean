/- Part 9 of the texts of this claim, one behind the other. -/
import Derived.Test.YtoigcbkclcbmpaaGreatDoorB8
import Derived.Laws.Strings
set_option linter.unusedVariables false
set_option linter.unusedSimpArgs false
set_option maxRecDepth 100000
namespace Go.Proofs.YtoigcbkclcbmpaaGreatDoor
open Go.Px
def rdN (p : LN) : Nat := if p.length = 32 then bv p % 57896044618658097711785492504343953926634992332820282019728792003956564819968 % p25 else 0
theorem B7t (N : Nat) : fv (prt 51 N 255 0) (prt 51 N 255 1) (prt 51 N 255 2) (prt 51 N 255 3) (prt 51 N 255 4) = N % 57896044618658097711785492504343953926634992332820282019728792003956564819968 := by
  unfold fv prt
  simp only [Nat.reducePow, Nat.reduceMul]
  omega
theorem A8K (w N i j : Nat) : prt w N i j < 2 ^ w := Nat.mod_lt _ (Nat.two_pow_pos _)
theorem B1p (N i j : Nat) : prt 51 N i j < 4503599627370496 := Nat.lt_trans (A8K 51 N i j) qD
theorem A3Q {b s w : Nat} (hb : b < 2) (hs : s < w) : b <<< s < 2 ^ w := by
  rw [Nat.shiftLeft_eq]
  have h1 : 2 ^ s * 2 ≤ 2 ^ w := by rw [← Nat.pow_succ]; exact Nat.pow_le_pow_right qD hs
  have h2 : b * 2 ^ s ≤ 1 * 2 ^ s := Nat.mul_le_mul_right _ qO
  have h3 := Nat.two_pow_pos s
  omega
theorem A4G (pv : Value) (p : LN) (A : Mem) (hp : Rd A 1 pv p.length (nums .u8 p)) (hp256 : ∀ x ∈ p, x < 256) (hpl : p.length < 9223372036854775808) : FnX Tryz.prog 59 [pv] [] A fun r M J => M = [] ∧ J = [] ∧ Fe r (rdN p) := by
 refine FnX.enter (N := 33) Tryz.func59 rfl rfl rfl fun w => ?_
 refine C4 (D8 0) (A3 ?_)
 refine A6 rfl (C5 (cs := [A7, A7, A7, A7, A7]) kR rfl fun b2 => ?_)
 refine A0 (D5 0 2) (A3 ?_)
 refine A6 rfl (C5 (cs := [A7, A7, A7, A7, A7]) kR rfl fun b3 => ?_)
 refine A0 (E2 0 2 3) (A5 (A3 (mv_ ?_)))
 refine A4 (A0O hp rfl kR) rfl ?_
 refine A4 (F1 rfl rfl rfl) rfl ?_
 refine A0 (E7 0 2 3 7) ?_
 refine C7 rfl ?_ ?_ <;> intro hc
 ·
  have h32 : p.length ≠ 32 := by simp at hc; omega
  refine A3 ?_
  refine A4 (qw_ 5) rfl ?_
  refine A6 rfl (A8 rfl rfl Cel.cel kR ln5 al5 UpC.upd ?_)
  refine A0 (D8 2) (C3 (tr ?_))
  refine ⟨_, [], [], A1x rfl rfl kR At.mem qR, List.nil_sublist _, by simp, rfl, rfl, 0, 0, 0, 0, 0, rfl, by decide, by decide, by decide, by decide, by decide, ?_⟩
  rw [rdN, if_neg h32]; rfl
 ·
  have h32 : p.length = 32 := by simp at hc; omega
  have hN := A6L hp256
  refine A9 (nx (E2 0 2 3) (A5 (A3 (mv_ (A0 (E7 0 2 3 9) (C0 ?_))))))
  refine A0p (M' := [(b3, blk (nums .u64 (X3 51 5 (bv p) 0)) 113), (b2, blk [.int .u64 0, .int .u64 0, .int .u64 0, .int .u64 0, .int .u64 0] 113)]) (Fit.eq (by rw [A3O]; rfl)) qI ?_
  refine F2 (α := Nat) (fun i => [(0, pv), (2, (vP b2)), (3, (vP b3)), (9, .int .i64 (i : Int))]) (fun i => [(b3, blk (nums .u64 (X3 51 5 (bv p) i)) 113), (b2, blk [.int .u64 0, .int .u64 0, .int .u64 0, .int .u64 0, .int .u64 0] 113)]) (fun _ => []) (fun i => i ≤ 255) (fun i => 255 - i) 0 qD (E7 0 2 3 9) .rfl qI ?_
  rintro i hi
  refine A3 ?_
  refine A4 (F1 rfl rfl rfl) rfl ?_
  refine A0 (F5 0 2 3 9 10) (A5 ?_)
  refine C7 rfl ?_ ?_ <;> intro hc
  ·
   have hlt : i < 255 := by simp at hc; omega
   have hbit := hN i
   rw [← Nat.shiftRight_eq_div_pow] at hbit
   have hb2 : bv p / 2 ^ i % 2 < 2 := Nat.mod_lt _ qD
   have hps := A3P (w := 51) (n := 5) (N := bv p) (i := i) qD qO
   have hpg := A1i (w := 51) (n := 5) (N := bv p) (i := i) (j := i / 51) qO
   have hpl := A8K 51 (bv p) i (i / 51)
   have hsm := A3Q (w := 51) hb2 (Nat.mod_lt i (by decide : 0 < 51))
   have hpb : p.getD (i / 8) 0 < 256 := getD_lt hp256 qD
   have hsr := Nat.shiftRight_le (p.getD (i / 8) 0) (i % 8)
   rw [← hpg] at hps hpl
   generalize bv p / 2 ^ i % 2 = bt at *
   have hmo : bt <<< (i % 51) % 2 ^ IntKind.u64.bits = bt <<< (i % 51) := Nat.mod_eq_of_lt (Nat.lt_trans hsm qD)
   have hto : IntKind.u64.wrap (bt : Int) = (bt : Int) := by rw [A8l, Nat.mod_eq_of_lt qO]
   refine A9 (nx (E7 0 2 3 9) (A5 (C0 (A3 (mv_ (as_ (A0 (F5 0 2 3 4 9) ?_)))))))
   refine I9 (.range 19) (zp 0 [0, 0, 0, 1, 0, 0, 0, 0, 1, 0, 0, 0, 0, 0, 0, 0, 0, 0, 0, 2]) kR kR fun hs => ?_
   refine fm_ hs ?_
   refine D1 hs rfl (A04 51 rfl rfl rfl qD (A2r qO)) rfl ?_
   refine D1 hs rfl (E5 (e := 99) (n := 5) (sz := 1) (i := i / 51) rfl rfl kR kR rfl qO) rfl ?_
   refine F7 hs rfl (Q9 (i / 51) rfl kR At.mem qO (by rw [L4]; omega)) rfl ?_
   refine fm_ hs ?_
   refine fm_ hs ?_
   refine D1 hs rfl (A04 8 rfl rfl rfl qD (A2r qO)) rfl ?_
   refine D1 hs rfl (B3r hp rfl rfl kR (i / 8) rfl qO) rfl ?_
   refine F7 hs rfl (A6g (hp.mono fun _ h => mA h) rfl kR qO) rfl ?_
   refine fm_ hs ?_
   refine D1 hs rfl (A05 8 rfl rfl rfl qD) rfl ?_
   refine D1 hs rfl (A0L (i % 8) rfl rfl rfl (by show _ ≤ 8; omega)) rfl ?_
   refine D1 hs rfl (hbit ▸ N4 1 2 rfl rfl rfl rfl rfl (by show _ < 256; omega) qD) rfl ?_
   refine D1 hs rfl (Q3 bt rfl kR hto) rfl ?_
   refine fm_ hs ?_
   refine D1 hs rfl (A05 51 rfl rfl rfl qD) rfl ?_
   refine D1 hs rfl (hmo ▸ A4o rfl (i % 51) rfl rfl rfl (by show _ ≤ 64; omega)) rfl ?_
   refine D1 hs rfl (B5A rfl rfl rfl (Nat.lt_trans hpl qD) (Nat.lt_trans hsm qD)) rfl ?_
   refine D1 hs rfl (E5 (e := 99) (n := 5) (sz := 1) (i := i / 51) rfl rfl kR kR rfl qO) rfl ?_
   refine G5 rfl rfl rfl (T7 (i / 51) rfl rfl kR qO (by rw [L4]; omega) UpC.upd ?_)
   refine V3 (nb (nx (E7 0 2 3 9) (C2 ?_)))
   refine A4 (E3 ((i + 1 : Nat) : Int) rfl rfl (G3 qO qO qO)) rfl ?_
   refine mv_ (D0 ?_)
   exact rn (i + 1) qO qO (E7 0 2 3 9) (Fit.eq (by rw [hps])) qI
  ·
   have hlt : i = 255 := by simp at hc; omega
   subst hlt
   refine E6 (te (re (be rfl (nx (D5 2 3) (A3 ?_)))))
   refine A4 (H6 (n := 5) (cs := nums .u64 (X3 51 5 (bv p) 255)) rfl kR At.mem (by rw [nums_len, L4])) rfl ?_
   refine A6 rfl (A8 (vs := nums .u64 (X3 51 5 (bv p) 255)) rfl rfl rfl (by rw [nums_len, L4]; kernel_rfl) (by rw [nums_len, L4]; rfl) E8 UpC.upd ?_)
   refine A0 (D8 2) (C3 ?_)
   refine ⟨_, [], [], A1x rfl rfl kR At.mem (by rw [nums_len, L4]), List.nil_sublist _, by simp, rfl, rfl, _, _, _, _, _, rfl, B1p _ _ _, B1p _ _ _, B1p _ _ _, B1p _ _ _, B1p _ _ _, ?_⟩
   rw [B7t, rdN, if_pos h32]
theorem Z0 (v : Value) (x : Nat) (hx : Fe v x) (A : Mem) : FnX Tryz.prog 62 [v] [] A fun r M J => J = [] ∧ Sl 1 r 32 (nums .u8 (X3 8 32 x 255)) M := by
 obtain ⟨a, b, c, d, e, rfl, ha, hb, hc, hd, he, rfl⟩ := hx
 refine FnX.enter (N := 80) Tryz.func62 rfl rfl rfl fun w => ?_
 refine C4 (D8 0) (A3 ?_)
 refine A6 rfl (bx_ fun b1 => ?_)
 refine as_ (A0 (D8 1) (A3 ?_))
 refine A4 (qw_ 5) rfl ?_
 refine C9 (aS rfl a0) kR (T9 _ _ _ _ _ qO qO qO qO qO _) rfl ?_
 rintro r3 M3 J3 ⟨rfl, rfl, a3, b3, c3, d3, e3, rfl, ha3, hb3, hc3, hd3, hv3, he3⟩
 refine C9 (aS rfl a0) kR (T9 _ _ _ _ _ qO qO qO qO qO _) rfl ?_
 rintro r4 M4 J4 ⟨rfl, rfl, a4, b4, c4, d4, e4, rfl, ha4, hb4, hc4, hd4, hv4, he4⟩
 have hz4 := A3L ha3 hb3 hc3 hd3 he3 ha4 hb4 hc4 hd4 hv4
 refine C9 (aS rfl a0) kR (T9 _ _ _ _ _ qO qO qO qO qO _) rfl ?_
 rintro r5 M5 J5 ⟨rfl, rfl, a5, b5, c5, d5, e5, rfl, ha5, hb5, hc5, hd5, hv5, he5⟩
 have hz5 := A3L ha4 hb4 hc4 hd4 he4 ha5 hb5 hc5 hd5 hv5
 have hx5 : fv a5 b5 c5 d5 e5 % p25 = fv a b c d e % p25 := by rw [N6 hv5, N6 hv4, N6 hv3]
 have hV5 := B9C ha5 hb5 hc5 hd5 hz5
 clear hv3 hv4 hv5 he3 he4 he5 hz4 ha3 hb3 hc3 hd3 ha4 hb4 hc4 hd4
 refine A6 rfl (A8 rfl rfl Cel.cel kR ln5 al5 UpC.upd ?_)
 refine A0 (D8 1) (A3 ?_)
 refine A4 (qi_ 0 99 5 1 0) rfl ?_
 refine A4 ql_ rfl ?_
 refine A4 (I6 18446744073709551616 (b := 19) rfl rfl rfl rfl rfl rfl) rfl ?_
 refine A4 (P5 51 2251799813685248 rfl rfl rfl rfl qD) rfl ?_
 refine as_ (A0 (D5 1 3) (A5 (A3 (as_ (A0 (E2 1 3 4) (C0 ?_))))))
 refine Y7 5 ?_
 refine H3 ?_
 refine A5 (A3 (mv_ ?_))
 refine A4 (F4 true rfl rfl (ltT qD)) rfl ?_
 refine A0 (E7 1 3 4 17) ?_
 refine E0 rfl ?_
 refine A9 (nx (E2 1 3 4) (A5 (C0 (C2 (mv_ ?_)))))
 refine A4 (qi_ 1 99 5 1 1) rfl ?_
 refine A4 ql_ rfl ?_
 refine mv_ ?_
 refine A4 (I6 18446744073709551616 rfl rfl rfl rfl rfl rfl) rfl ?_
 refine A4 (P5 51 2251799813685248 rfl rfl rfl rfl qD) rfl ?_
 refine as_ (D0 (nb (nx (E2 1 3 4) (C2 (mv_ ?_)))))
 refine A4 (E3 (2 : Int) rfl rfl (G3 qD qD qD)) rfl ?_
 refine as_ (D0 ?_)
 refine un (E2 1 3 4) ?_
 refine H3 ?_
 refine A5 (A3 (mv_ ?_))
 refine A4 (F4 true rfl rfl (ltT qD)) rfl ?_
 refine A0 (E7 1 3 4 17) ?_
 refine E0 rfl ?_
 refine A9 (nx (E2 1 3 4) (A5 (C0 (C2 (mv_ ?_)))))
 refine A4 (qi_ 2 99 5 1 2) rfl ?_
 refine A4 ql_ rfl ?_
 refine mv_ ?_
 refine A4 (I6 18446744073709551616 rfl rfl rfl rfl rfl rfl) rfl ?_
 refine A4 (P5 51 2251799813685248 rfl rfl rfl rfl qD) rfl ?_
 refine as_ (D0 (nb (nx (E2 1 3 4) (C2 (mv_ ?_)))))
 refine A4 (E3 (3 : Int) rfl rfl (G3 qD qD qD)) rfl ?_
 refine as_ (D0 ?_)
 refine un (E2 1 3 4) ?_
 refine H3 ?_
 refine A5 (A3 (mv_ ?_))
 refine A4 (F4 true rfl rfl (ltT qD)) rfl ?_
 refine A0 (E7 1 3 4 17) ?_
 refine E0 rfl ?_
 refine A9 (nx (E2 1 3 4) (A5 (C0 (C2 (mv_ ?_)))))
 refine A4 (qi_ 3 99 5 1 3) rfl ?_
 refine A4 ql_ rfl ?_
 refine mv_ ?_
 refine A4 (I6 18446744073709551616 rfl rfl rfl rfl rfl rfl) rfl ?_
 refine A4 (P5 51 2251799813685248 rfl rfl rfl rfl qD) rfl ?_
 refine as_ (D0 (nb (nx (E2 1 3 4) (C2 (mv_ ?_)))))
 refine A4 (E3 (4 : Int) rfl rfl (G3 qD qD qD)) rfl ?_
 refine as_ (D0 ?_)
 refine un (E2 1 3 4) ?_
 refine H3 ?_
 refine A5 (A3 (mv_ ?_))
 refine A4 (F4 true rfl rfl (ltT qD)) rfl ?_
 refine A0 (E7 1 3 4 17) ?_
 refine E0 rfl ?_
 refine A9 (nx (E2 1 3 4) (A5 (C0 (C2 (mv_ ?_)))))
 refine A4 (qi_ 4 99 5 1 4) rfl ?_
 refine A4 ql_ rfl ?_
 refine mv_ ?_
 refine A4 (I6 18446744073709551616 rfl rfl rfl rfl rfl rfl) rfl ?_
 refine A4 (P5 51 2251799813685248 rfl rfl rfl rfl qD) rfl ?_
 refine as_ (D0 (nb (nx (E2 1 3 4) (C2 (mv_ ?_)))))
 refine A4 (E3 (5 : Int) rfl rfl (G3 qD qD qD)) rfl ?_
 refine as_ (D0 ?_)
 refine un (E2 1 3 4) ?_
 refine H3 ?_
 refine A5 (A3 (mv_ ?_))
 refine A4 (F4 false rfl rfl (ltF qD)) rfl ?_
 refine A0 (E7 1 3 4 17) ?_
 refine D3 rfl ?_
 refine E6 (te (ue (be rfl (nx (D5 1 3) ?_))))
 obtain ⟨q, hqe, hq⟩ := B7r ha5 hb5 hc5 hd5 hz5
 rw [← hqe]
 clear hqe
 refine A3 ?_
 refine A4 (qi_ 0 99 5 1 0) rfl ?_
 refine A4 ql_ rfl ?_
 refine mv_ ?_
 refine A4 (S7 18446744073709551616 (a := 19) rfl rfl rfl rfl rfl rfl) rfl ?_
 refine A4 (I6 18446744073709551616 rfl rfl rfl rfl rfl rfl) rfl ?_
 refine A4 (qi_ 0 99 5 1 0) rfl ?_
 refine A6 rfl (D6 rfl rfl rfl kR SetC.set UpC.upd ?_)
 refine A0 (D8 1) (A5 (A3 (mv_ (A0 (D5 1 32) (C0 ?_)))))
 refine Y7 5 ?_
 refine H3 ?_
 refine A3 ?_
 refine A4 (F4 true rfl rfl (ltT qD)) rfl ?_
 refine A0 (E2 1 32 33) (A5 ?_)
 refine E0 rfl ?_
 refine A9 (nx (D5 1 32) (A5 (C0 (A3 (mv_ (as_ (A0 (E2 1 5 32) ?_)))))))
 refine D2 (.range 10) (zp 0 [0, 0, 0, 1, 0, 0, 1, 0, 0, 0, 2]) kR kR fun hs => ?_
 refine fm_ hs ?_
 refine D1 hs rfl (E3 (1 : Int) rfl rfl (G3 qD qD qD)) rfl ?_
 refine D1 hs rfl (qi_ 1 99 5 1 1) rfl ?_
 refine F7 hs rfl ql_ rfl ?_
 refine fm_ hs ?_
 refine D1 hs rfl (qi_ 0 99 5 1 0) rfl ?_
 refine F7 hs rfl ql_ rfl ?_
 refine D1 hs rfl (P5 51 2251799813685248 rfl rfl rfl rfl qD) rfl ?_
 refine D1 hs rfl (I6 18446744073709551616 rfl rfl rfl rfl rfl rfl) rfl ?_
 refine D1 hs rfl (qi_ 1 99 5 1 1) rfl ?_
 refine G5 rfl rfl rfl (D6 rfl rfl rfl kR SetC.set UpC.upd ?_)
 refine E4 (E2 1 5 32) (C2 (mv_ ?_))
 refine A4 (qi_ 0 99 5 1 0) rfl ?_
 refine A4 ql_ rfl ?_
 refine A4 (N4 51 2251799813685248 rfl rfl rfl rfl rfl (by show _ < 18446744073709551616; first | assumption | exact Nat.mod_lt _ qD | omega) qD) rfl ?_
 refine A4 (qi_ 0 99 5 1 0) rfl ?_
 refine A6 rfl (D6 rfl rfl rfl kR SetC.set UpC.upd ?_)
 refine D0 (nb (nx (D5 1 32) (C2 ?_)))
 refine A4 (E3 (1 : Int) rfl rfl (G3 qD qD qD)) rfl ?_
 refine mv_ (D0 ?_)
 refine un (D5 1 32) ?_
 refine H3 ?_
 refine A3 ?_
 refine A4 (F4 true rfl rfl (ltT qD)) rfl ?_
 refine A0 (E2 1 32 33) (A5 ?_)
 refine E0 rfl ?_
 refine A9 (nx (D5 1 32) (A5 (C0 (A3 (mv_ (as_ (A0 (E2 1 5 32) ?_)))))))
 refine D2 (.range 10) (zp 0 [0, 0, 0, 1, 0, 0, 1, 0, 0, 0, 2]) kR kR fun hs => ?_
 refine fm_ hs ?_
 refine D1 hs rfl (E3 (2 : Int) rfl rfl (G3 qD qD qD)) rfl ?_
 refine D1 hs rfl (qi_ 2 99 5 1 2) rfl ?_
 refine F7 hs rfl ql_ rfl ?_
 refine fm_ hs ?_
 refine D1 hs rfl (qi_ 1 99 5 1 1) rfl ?_
 refine F7 hs rfl ql_ rfl ?_
 refine D1 hs rfl (P5 51 2251799813685248 rfl rfl rfl rfl qD) rfl ?_
 refine D1 hs rfl (I6 18446744073709551616 rfl rfl rfl rfl rfl rfl) rfl ?_
 refine D1 hs rfl (qi_ 2 99 5 1 2) rfl ?_
 refine G5 rfl rfl rfl (D6 rfl rfl rfl kR SetC.set UpC.upd ?_)
 refine E4 (E2 1 5 32) (C2 (mv_ ?_))
 refine A4 (qi_ 1 99 5 1 1) rfl ?_
 refine A4 ql_ rfl ?_
 refine A4 (N4 51 2251799813685248 rfl rfl rfl rfl rfl (by show _ < 18446744073709551616; first | assumption | exact Nat.mod_lt _ qD | omega) qD) rfl ?_
 refine A4 (qi_ 1 99 5 1 1) rfl ?_
 refine A6 rfl (D6 rfl rfl rfl kR SetC.set UpC.upd ?_)
 refine D0 (nb (nx (D5 1 32) (C2 ?_)))
 refine A4 (E3 (2 : Int) rfl rfl (G3 qD qD qD)) rfl ?_
 refine mv_ (D0 ?_)
 refine un (D5 1 32) ?_
 refine H3 ?_
 refine A3 ?_
 refine A4 (F4 true rfl rfl (ltT qD)) rfl ?_
 refine A0 (E2 1 32 33) (A5 ?_)
 refine E0 rfl ?_
 refine A9 (nx (D5 1 32) (A5 (C0 (A3 (mv_ (as_ (A0 (E2 1 5 32) ?_)))))))
 refine D2 (.range 10) (zp 0 [0, 0, 0, 1, 0, 0, 1, 0, 0, 0, 2]) kR kR fun hs => ?_
 refine fm_ hs ?_
 refine D1 hs rfl (E3 (3 : Int) rfl rfl (G3 qD qD qD)) rfl ?_
 refine D1 hs rfl (qi_ 3 99 5 1 3) rfl ?_
 refine F7 hs rfl ql_ rfl ?_
 refine fm_ hs ?_
 refine D1 hs rfl (qi_ 2 99 5 1 2) rfl ?_
 refine F7 hs rfl ql_ rfl ?_
 refine D1 hs rfl (P5 51 2251799813685248 rfl rfl rfl rfl qD) rfl ?_
 refine D1 hs rfl (I6 18446744073709551616 rfl rfl rfl rfl rfl rfl) rfl ?_
 refine D1 hs rfl (qi_ 3 99 5 1 3) rfl ?_
 refine G5 rfl rfl rfl (D6 rfl rfl rfl kR SetC.set UpC.upd ?_)
 refine E4 (E2 1 5 32) (C2 (mv_ ?_))
 refine A4 (qi_ 2 99 5 1 2) rfl ?_
 refine A4 ql_ rfl ?_
 refine A4 (N4 51 2251799813685248 rfl rfl rfl rfl rfl (by show _ < 18446744073709551616; first | assumption | exact Nat.mod_lt _ qD | omega) qD) rfl ?_
 refine A4 (qi_ 2 99 5 1 2) rfl ?_
 refine A6 rfl (D6 rfl rfl rfl kR SetC.set UpC.upd ?_)
 refine D0 (nb (nx (D5 1 32) (C2 ?_)))
 refine A4 (E3 (3 : Int) rfl rfl (G3 qD qD qD)) rfl ?_
 refine mv_ (D0 ?_)
 refine un (D5 1 32) ?_
 refine H3 ?_
 refine A3 ?_
 refine A4 (F4 true rfl rfl (ltT qD)) rfl ?_
 refine A0 (E2 1 32 33) (A5 ?_)
 refine E0 rfl ?_
 refine A9 (nx (D5 1 32) (A5 (C0 (A3 (mv_ (as_ (A0 (E2 1 5 32) ?_)))))))
 refine D2 (.range 10) (zp 0 [0, 0, 0, 1, 0, 0, 1, 0, 0, 0, 2]) kR kR fun hs => ?_
 refine fm_ hs ?_
 refine D1 hs rfl (E3 (4 : Int) rfl rfl (G3 qD qD qD)) rfl ?_
 refine D1 hs rfl (qi_ 4 99 5 1 4) rfl ?_
 refine F7 hs rfl ql_ rfl ?_
 refine fm_ hs ?_
 refine D1 hs rfl (qi_ 3 99 5 1 3) rfl ?_
 refine F7 hs rfl ql_ rfl ?_
 refine D1 hs rfl (P5 51 2251799813685248 rfl rfl rfl rfl qD) rfl ?_
 refine D1 hs rfl (I6 18446744073709551616 rfl rfl rfl rfl rfl rfl) rfl ?_
 refine D1 hs rfl (qi_ 4 99 5 1 4) rfl ?_
 refine G5 rfl rfl rfl (D6 rfl rfl rfl kR SetC.set UpC.upd ?_)
 refine E4 (E2 1 5 32) (C2 (mv_ ?_))
 refine A4 (qi_ 3 99 5 1 3) rfl ?_
 refine A4 ql_ rfl ?_
 refine A4 (N4 51 2251799813685248 rfl rfl rfl rfl rfl (by show _ < 18446744073709551616; first | assumption | exact Nat.mod_lt _ qD | omega) qD) rfl ?_
 refine A4 (qi_ 3 99 5 1 3) rfl ?_
 refine A6 rfl (D6 rfl rfl rfl kR SetC.set UpC.upd ?_)
 refine D0 (nb (nx (D5 1 32) (C2 ?_)))
 refine A4 (E3 (4 : Int) rfl rfl (G3 qD qD qD)) rfl ?_
 refine mv_ (D0 ?_)
 refine un (D5 1 32) ?_
 refine H3 ?_
 refine A3 ?_
 refine A4 (F4 false rfl rfl (ltF qD)) rfl ?_
 refine A0 (E2 1 32 33) (A5 ?_)
 refine D3 rfl ?_
 refine E6 (te (ue (be rfl (nx (D8 1) (A3 ?_)))))
 refine A4 (qi_ 4 99 5 1 4) rfl ?_
 refine A4 ql_ rfl ?_
 refine A4 (N4 51 2251799813685248 rfl rfl rfl rfl rfl (by show _ < 18446744073709551616; first | assumption | exact Nat.mod_lt _ qD | omega) qD) rfl ?_
 refine A4 (qi_ 4 99 5 1 4) rfl ?_
 refine A6 rfl (D6 rfl rfl rfl kR SetC.set UpC.upd ?_)
 refine A0 (D8 1) (A3 ?_)
 refine A6 rfl (A3t (e := 5) (k := .u8) (by_ := 1) 32 rfl rfl kR rfl rfl qD qD rfl fun b55 => ?_)
 obtain ⟨f0, f1, f2, f3, f4, g0, g1, g2, g3, g4, k0, k1, k2, k3, k4, hF⟩ := B1l ha5 hb5 hc5 hd5 hz5 hq
 rw [← g0, ← g1, ← g2, ← g3, ← g4]
 clear g0 g1 g2 g3 g4
 rw [hx5] at hF
 refine as_ (A0 (D5 1 6) (A5 (A3 (mv_ (A0 (E2 1 6 56) (C0 ?_))))))
 refine A0p (M' := [(b55, blk (nums .u8 (X3 8 32 (fv f0 f1 f2 f3 f4) 0)) 5), (b1, blk (nums .u64 [f0, f1, f2, f3, f4]) 113)]) (Fit.eq (by rw [A3O]; rfl)) qI ?_
 have hN := B9D k0 k1 k2 k3 k4
 have hfl : [f0, f1, f2, f3, f4].length = 5 := rfl
 have hfb : ∀ x ∈ [f0, f1, f2, f3, f4], x < 2251799813685248 := by intro x hx; simp only [List.mem_cons, List.not_mem_nil, or_false] at hx; rcases hx with rfl | rfl | rfl | rfl | rfl <;> assumption
 generalize [f0, f1, f2, f3, f4] = fs at *
 rw [← hF]
 generalize fv f0 f1 f2 f3 f4 = X at *
 refine F2 (α := Nat) (fun i => [(1, (vP b1)), (6, .slice (some ⟨b55, 0, none⟩) 32 32), (56, .int .i64 (i : Int))]) (fun i => [(b55, blk (nums .u8 (X3 8 32 X i)) 5), (b1, blk (nums .u64 fs) 113)]) (fun _ => []) (fun i => i ≤ 255) (fun i => 255 - i) 0 qD (E2 1 6 56) .rfl qI ?_
 rintro i hi
 refine A3 ?_
 refine A4 (F1 rfl rfl rfl) rfl ?_
 refine A0 (E7 1 6 56 57) (A5 ?_)
 refine C7 rfl ?_ ?_ <;> intro hc
 ·
  have hlt : i < 255 := by simp at hc; omega
  have hbit := hN i hlt
  rw [← Nat.shiftRight_eq_div_pow] at hbit
  have hb2 : X / 2 ^ i % 2 < 2 := Nat.mod_lt _ qD
  have hps := A3P (w := 8) (n := 32) (N := X) (i := i) qD qO
  have hpg := A1i (w := 8) (n := 32) (N := X) (i := i) (j := i / 8) qO
  have hpl := A8K 8 X i (i / 8)
  have hsm := A3Q (w := 8) hb2 (Nat.mod_lt i (by decide : 0 < 8))
  have hpb : fs.getD (i / 51) 0 < 2251799813685248 := getD_lt hfb qD
  have hsr := Nat.shiftRight_le (fs.getD (i / 51) 0) (i % 51)
  rw [← hpg] at hps hpl
  generalize X / 2 ^ i % 2 = bt at *
  have hmo : bt <<< (i % 8) % 2 ^ IntKind.u8.bits = bt <<< (i % 8) := Nat.mod_eq_of_lt hsm
  have hto : IntKind.u8.wrap (bt : Int) = (bt : Int) := by rw [B82, Nat.mod_eq_of_lt qO]
  refine A9 (nx (E2 1 6 56) (A5 (C0 (A3 (mv_ (as_ (A0 (E7 1 6 7 56) ?_)))))))
  refine I9 (.range 19) (zp 0 [0, 0, 0, 0, 1, 0, 0, 0, 1, 0, 0, 0, 0, 0, 0, 0, 0, 0, 0, 2]) kR kR fun hs => ?_
  refine fm_ hs ?_
  refine fm_ hs ?_
  refine D1 hs rfl (A04 8 rfl rfl rfl qD (A2r qO)) rfl ?_
  refine D1 hs rfl (Q6 (e := 5) (sz := 1) (i := i / 8) rfl rfl kR kR rfl qO) rfl ?_
  refine F7 hs rfl (Q9 (i / 8) rfl kR At.mem qO (by rw [L4]; omega)) rfl ?_
  refine fm_ hs ?_
  refine D1 hs rfl (A04 51 rfl rfl rfl qD (A2r qO)) rfl ?_
  refine D1 hs rfl (E5 (e := 99) (n := 5) (sz := 1) (i := i / 51) rfl rfl kR kR rfl qO) rfl ?_
  refine F7 hs rfl (Q9 (i / 51) rfl kR At.mem qO qO) rfl ?_
  refine fm_ hs ?_
  refine D1 hs rfl (A05 51 rfl rfl rfl qD) rfl ?_
  refine D1 hs rfl (A0L (i % 51) rfl rfl rfl (by show _ ≤ 64; omega)) rfl ?_
  refine D1 hs rfl (hbit ▸ N4 1 2 rfl rfl rfl rfl rfl (by show _ < 18446744073709551616; omega) qD) rfl ?_
  refine D1 hs rfl (Q3 bt rfl kR hto) rfl ?_
  refine fm_ hs ?_
  refine D1 hs rfl (A05 8 rfl rfl rfl qD) rfl ?_
  refine D1 hs rfl (hmo ▸ A4o rfl (i % 8) rfl rfl rfl (by show _ ≤ 8; omega)) rfl ?_
  refine D1 hs rfl (B5A rfl rfl rfl hpl hsm) rfl ?_
  refine D1 hs rfl (Q6 (e := 5) (sz := 1) (i := i / 8) rfl rfl kR kR rfl qO) rfl ?_
  refine G5 rfl rfl rfl (T7 (i / 8) rfl rfl kR qO (by rw [L4]; omega) UpC.upd ?_)
  refine V3 (nb (nx (E2 1 6 56) (C2 ?_)))
  refine A4 (E3 ((i + 1 : Nat) : Int) rfl rfl (G3 qO qO qO)) rfl ?_
  refine mv_ (D0 ?_)
  exact rn (i + 1) qO qO (E2 1 6 56) (Fit.eq (by rw [hps])) qI
 ·
  have hlt : i = 255 := by simp at hc; omega
  subst hlt
  refine E6 (te (re (be rfl (nx (D8 6) (A3 (mv_ (as_ (A0 (D8 2) ?_))))))))
  refine C3 ?_
  exact ⟨_, [_], [], K2 rfl rfl, List.Sublist.cons_cons _ (List.nil_sublist _), by simp, rfl, Sl.fresh (by rw [nums_len, L4]) qD⟩

theorem B4d {x y : Nat} (hx : x < p25) (hy : y < p25) : ((txt (X3 8 32 x 255)).toList == (txt (X3 8 32 y 255)).toList) = decide (x = y) := by
  by_cases h : x = y
  · subst h; simp
  · have : (txt (X3 8 32 x 255)).toList ≠ (txt (X3 8 32 y 255)).toList := by
      rw [ByteArray.toList_eq, ByteArray.toList_eq]
      intro e
      refine h (B4c hx hy (A7w (A0F x 255) (A0F y 255) ?_))
      have := congrArg List.toArray e
      simp only [Array.toArray_toList] at this
      unfold txt at this ⊢
      exact congrArg ByteArray.mk this
    rw [beq_false_of_ne this]; simp [h]
theorem A0v (v u : Value) (x y : Nat) (hx : Fe v x) (hy : Fe u y) (A : Mem) : FnV Tryz.prog 104 [v, u] A (.bool (decide (x = y))) := by
 have hx0 := hx
 have hxl := hx.lt
 obtain ⟨a, b, c, d, e, rfl, -⟩ := hx
 have hy0 := hy
 have hyl := hy.lt
 obtain ⟨a2, b2, c2, d2, e2, rfl, -⟩ := hy
 refine FnX.enter (N := 12) Tryz.func104 rfl rfl rfl fun w => ?_
 refine C4 (D5 0 1) (A3 ?_)
 refine A6 rfl (bx_ fun b2 => ?_)
 refine A6 rfl (bx_ fun b3 => ?_)
 refine as_ (A0 (D5 2 3) ?_)
 refine D2 (.range 8) [(0, 1), (3, 1), (1, 2), (2, 1), (4, 2), (5, 1), (6, 0), (7, 0)] kR kR fun hs => ?_
 refine F7 hs rfl (qw_ 5) rfl ?_
 refine F7 hs rfl (qw_ 5) rfl ?_
 refine G1 rfl (aS rfl a0) kR (Z0 _ _ hx0 _) rfl ?_
 rintro r1 M1 J1 ⟨rfl, h1⟩
 refine F7 hs rfl (A3s (h1.rd fun _ h => by simp [h]) rfl kR) rfl ?_
 refine G1 rfl (aS rfl a0) kR (Z0 _ _ hy0 _) rfl ?_
 rintro r2 M2 J2 ⟨rfl, h2⟩
 refine F7 hs rfl (A3s (h2.rd fun _ h => by simp [h]) rfl kR) rfl ?_
 refine D1 hs rfl (B0g rfl rfl) rfl ?_
 refine fa_ hs ?_
 refine E4 (D8 4) (C3 ?_)
 refine ⟨_, [], [], K2 rfl rfl, List.nil_sublist _, by simp, by rw [B4d hxl hyl], rfl, rfl⟩
theorem A9P (v : Value) (x : Nat) (hx : Fe v x) (A : Mem) : FnV Tryz.prog 112 [v] A (.bool (decide (x = 0))) := by
 have hx0 := hx
 have hxl := hx.lt
 obtain ⟨a, b, c, d, e, rfl, -⟩ := hx
 refine FnX.enter (N := 6) Tryz.func112 rfl rfl rfl fun w => ?_
 refine C4 (D8 0) (A3 ?_)
 refine A6 rfl (bx_ fun b1 => ?_)
 refine as_ (A0 (D8 1) (A3 ?_))
 refine A4 (qw_ 5) rfl ?_
 refine A4 (F3 (place := fun i => some (i * 1, 1)) (z := [A7, A7, A7, A7, A7]) (fun _ => by kernel_rfl) e0 bd0) rfl ?_
 refine F6 (aS rfl (aS rfl a0)) kR (A0v _ _ _ _ hx0 K8 _) rfl ?_
 refine as_ (A0 (D8 2) (C3 ?_))
 refine ⟨_, [], [], K2 rfl rfl, List.nil_sublist _, by simp, rfl, rfl, rfl⟩
theorem A3R (v : Value) (x : Nat) (hx : Fe v x) (A : Mem) : FnV Tryz.prog 95 [v] A (.bool (decide (x % 2 = 1))) := by
 have hx0 := hx
 have hxl := hx.lt
 obtain ⟨a, b, c, d, e, rfl, -⟩ := hx
 refine FnX.enter (N := 9) Tryz.func95 rfl rfl rfl fun w => ?_
 refine C4 (D8 0) (A3 ?_)
 refine A6 rfl (bx_ fun b1 => ?_)
 refine as_ (A0 (D8 1) (A3 ?_))
 refine A4 (qw_ 5) rfl ?_
 refine C9 (aS rfl a0) kR (Z0 _ _ hx0 _) rfl ?_
 rintro r1 M1 J1 ⟨rfl, h1⟩
 refine A4 (B3r (h1.rd fun _ h => h) rfl rfl kR 0 rfl qD) rfl ?_
 refine A4 (A6g (h1.rd fun _ h => by simp [h]) rfl kR qD) rfl ?_
 refine A4 (N4 1 2 rfl rfl rfl rfl rfl (getD_lt (A0F x 255) qD) qD) rfl ?_
 refine A4 (F1 rfl rfl rfl) rfl ?_
 refine as_ (A0 (D8 2) (C3 ?_))
 refine ⟨_, [], [], K2 rfl rfl, List.nil_sublist _, by simp, ?_, rfl, rfl⟩
 rw [A1i qD, prt]
 simp only [Nat.reducePow, Nat.reduceMul, Nat.div_one]
 congr 1
 unfold p25 at hxl
 have e : x % 57896044618658097711785492504343953926634992332820282019728792003956564819968 % 256 % 2 = x % 2 := by omega
 rw [e]
 rcases Nat.mod_two_eq_zero_or_one x with h | h <;> rw [h] <;> rfl

def pwE (x N i : Nat) : Nat := x ^ (N / 2 ^ i) % p25
theorem B4e (x N i : Nat) : pwE x N i = (if N / 2 ^ i % 2 = 1 then pwE x N (i + 1) * pwE x N (i + 1) % p25 * (x % p25) % p25 else pwE x N (i + 1) * pwE x N (i + 1) % p25) := by
  have h : N / 2 ^ i = 2 * (N / 2 ^ (i + 1)) + N / 2 ^ i % 2 := by
    rw [Nat.pow_succ, ← Nat.div_div_eq_div_mul]; omega
  unfold pwE
  have hb : N / 2 ^ i % 2 = 0 ∨ N / 2 ^ i % 2 = 1 := by omega
  rcases hb with hb | hb
  · rw [if_neg qO]
    conv => lhs; rw [h, hb, Nat.add_zero, Nat.two_mul, Nat.pow_add, Nat.mul_mod]
  · rw [if_pos hb]
    conv => lhs; rw [h, hb, Nat.two_mul, Nat.pow_add, Nat.pow_add, Nat.pow_one, Nat.mul_mod, Nat.mul_mod (x ^ _)]
theorem A1G (v : Value) (x : Nat) (hx : Fe v x) (es : LN) (hes : es.length = 32) (he256 : ∀ y ∈ es, y < 256) (A : Mem) : FnX Tryz.prog 91 [v, .agg (nums .u8 es).toArray] [] A fun r M J => M = [] ∧ J = [] ∧ Fe r (x ^ bv es % p25) := by
 have hx0 := hx
 have hxl := hx.lt
 obtain ⟨a, b, c, d, e, rfl, -⟩ := hx
 refine FnX.enter (N := 27) Tryz.func91 rfl rfl rfl fun w => ?_
 refine C4 (D5 0 1) (A3 ?_)
 refine A6 rfl (bx_ fun b2 => ?_)
 refine A6 rfl (bx_ fun b3 => ?_)
 refine A6 rfl (C5 (cs := [A7, A7, A7, A7, A7]) kR rfl fun b4 => ?_)
 refine A0 (E2 2 3 4) (A3 ?_)
 refine C9 (aS rfl a0) kR (A3N 1 qD _) rfl ?_
 rintro r1 M1 J1 ⟨rfl, rfl, hr1⟩
 have hr10 := hr1
 obtain ⟨o0, o1, o2, o3, o4, rfl, -⟩ := hr1
 refine A6 rfl (C5 (cs := [A7, A7, A7, A7, A7]) kR rfl fun b5 => ?_)
 refine A6 rfl (A8 rfl rfl Cel.cel kR ln5 al5 UpC.upd ?_)
 refine A0 (E7 2 3 4 5) (A5 (A3 (as_ (A0 (F5 2 3 4 5 6) (C0 ?_)))))
 refine F2 (α := Nat × Nat × Nat × Nat × Nat × Nat) (fun y => [(2, (vP b2)), (3, (vP b3)), (4, (vP b4)), (5, (vP b5)), (6, .int .i64 ((y.1 : Int) - 1))]) (fun y => [(b5, blk [.int .u64 (y.2.1 : Int), .int .u64 (y.2.2.1 : Int), .int .u64 (y.2.2.2.1 : Int), .int .u64 (y.2.2.2.2.1 : Int), .int .u64 (y.2.2.2.2.2 : Int)] 113), (b4, blk [.int .u64 0, .int .u64 0, .int .u64 0, .int .u64 0, .int .u64 0] 113), (b3, blk (nums .u8 es) 110), (b2, blk [.int .u64 (a : Int), .int .u64 (b : Int), .int .u64 (c : Int), .int .u64 (d : Int), .int .u64 (e : Int)] 113)]) (fun _ => []) (fun y => y.1 ≤ 256 ∧ Fe (el y.2.1 y.2.2.1 y.2.2.2.1 y.2.2.2.2.1 y.2.2.2.2.2) (pwE x (bv es) y.1)) (fun y => y.1) (256, o0, o1, o2, o3, o4) ⟨Nat.le_refl _, by rw [show pwE x (bv es) 256 = 1 by unfold pwE; rw [Nat.div_eq_of_lt (by have := B7s he256; rw [hes] at this; exact this)]; rfl]; exact hr10⟩ (F5 2 3 4 5 6) .rfl qI ?_
 rintro ⟨j, o0, o1, o2, o3, o4⟩ ⟨hj, ho⟩
 dsimp only at hj ho ⊢
 refine A5 (A3 (mv_ ?_))
 refine A4 (F1 rfl rfl rfl) rfl ?_
 refine A0 (I1 2 3 4 5 6 9) ?_
 refine C7 rfl ?_ ?_ <;> intro hc
 ·
  have hj0 : 0 < j := by simp at hc; omega
  obtain ⟨i, rfl⟩ : ∃ i, j = i + 1 := ⟨j - 1, by omega⟩
  have ei : ((i + 1 : Nat) : Int) - 1 = (i : Int) := by omega
  rw [ei]
  have hps := B4e x (bv es) i
  have hbit := A6L he256 i
  rw [← Nat.shiftRight_eq_div_pow] at hbit
  have hpb : es.getD (i / 8) 0 < 256 := getD_lt he256 qD
  have hsr := Nat.shiftRight_le (es.getD (i / 8) 0) (i % 8)
  have hbt : bv es / 2 ^ i % 2 < 2 := Nat.mod_lt _ qD
  generalize bv es / 2 ^ i % 2 = bt at *
  refine A9 (nx (F5 2 3 4 5 6) (A5 (C0 (A3 ?_))))
  refine A4 (qw_ 5) rfl ?_
  refine C9 (aS rfl a0) kR (A0g _ _ ho _) rfl ?_
  rintro r2 M2 J2 ⟨rfl, rfl, hr2⟩
  have hr20 := hr2
  obtain ⟨s0, s1, s2, s3, s4, rfl, -⟩ := hr2
  refine A6 rfl (A8 rfl rfl Cel.cel kR ln5 al5 UpC.upd ?_)
  refine A0 (F5 2 3 4 5 6) (A3 (mv_ ?_))
  refine A4 (A04 8 rfl rfl rfl qD (A2r qO)) rfl ?_
  refine A4 (E5 (e := 5) (n := 32) (sz := 1) (i := i / 8) rfl rfl kR kR rfl qO) rfl ?_
  refine A4 (Q9 (i / 8) rfl kR At.mem qO qO) rfl ?_
  refine mv_ ?_
  refine A4 (A05 8 rfl rfl rfl qD) rfl ?_
  refine A4 (A0L (i % 8) rfl rfl rfl (by show _ ≤ 8; omega)) rfl ?_
  refine A4 (hbit ▸ N4 1 2 rfl rfl rfl rfl rfl (by show _ < 256; omega) qD) rfl ?_
  refine A4 (F1 rfl rfl rfl) rfl ?_
  refine A0 (I1 2 3 4 5 6 22) ?_
  refine C7 rfl ?_ ?_ <;> intro hc
  ·
   have hb1 : bt = 1 := by simp at hc; omega
   rw [if_pos hb1] at hps
   refine C2 ?_
   refine A4 (qw_ 5) rfl ?_
   refine A4 (qw_ 5) rfl ?_
   refine C9 (aS rfl (aS rfl a0)) kR (A17 _ _ _ _ hr20 hx0 _) rfl ?_
   rintro r3 M3 J3 ⟨rfl, rfl, hr3⟩
   rw [Nat.mod_eq_of_lt hxl] at hps
   rw [← hps] at hr3
   have hr30 := hr3
   obtain ⟨t0, t1, t2, t3, t4, rfl, -⟩ := hr3
   refine A6 rfl (A8 rfl rfl Cel.cel kR ln5 al5 UpC.upd ?_)
   refine D0 (nb (nx (F5 2 3 4 5 6) (C2 (mv_ ?_))))
   refine A4 (E3 ((i : Int) - 1) rfl rfl (Z9 rfl qO qO)) rfl ?_
   refine as_ (D0 ?_)
   exact rn (i, t0, t1, t2, t3, t4) ⟨by dsimp only; omega, hr30⟩ (by dsimp only; omega) (F5 2 3 4 5 6) .rfl qI
  ·
   have hb1 : ¬ bt = 1 := by simp at hc; omega
   rw [if_neg hb1] at hps
   refine A9 (nb (nx (F5 2 3 4 5 6) (C2 (mv_ ?_))))
   refine A4 (E3 ((i : Int) - 1) rfl rfl (Z9 rfl qO qO)) rfl ?_
   refine as_ (D0 ?_)
   exact rn (i, s0, s1, s2, s3, s4) ⟨by dsimp only; omega, by dsimp only; rw [hps]; exact hr20⟩ (by dsimp only; omega) (F5 2 3 4 5 6) .rfl qI
 ·
  have hj0 : j = 0 := by simp at hc; omega
  subst hj0
  refine E6 (te (re (be rfl (nx (D5 4 5) (A3 ?_)))))
  refine A4 (qw_ 5) rfl ?_
  refine A6 rfl (A8 rfl rfl Cel.cel kR ln5 al5 UpC.upd ?_)
  refine A0 (D8 4) (C3 ?_)
  refine ⟨_, [], [], A1x rfl rfl kR At.mem qR, List.nil_sublist _, by simp, rfl, rfl, ?_⟩
  have : pwE x (bv es) 0 = x ^ bv es % p25 := by unfold pwE; rw [Nat.pow_zero, Nat.div_one]
  rw [← this]; exact ho

theorem B4f {n i : Nat} (h : i < n) : (2 ^ n - 1) / 2 ^ i % 2 = 1 := by
  have := Nat.testBit_two_pow_sub_one n i
  rw [Nat.testBit_eq_decide_div_mod_eq] at this
  simpa [h] using this
theorem B1q {n : Nat} (h : 8 ≤ n) : (X3 8 32 (2 ^ n - 1) n).getD 0 0 = 255 := by
  rw [A1i qD, prt, Nat.mul_zero, Nat.pow_zero, Nat.div_one]
  obtain ⟨m, rfl⟩ : ∃ m, n = m + 8 := ⟨n - 8, by omega⟩
  have h1 := Nat.two_pow_pos m
  have e : (2 ^ (m + 8) - 1) % 2 ^ (m + 8) = 2 ^ (m + 8) - 1 := Nat.mod_eq_of_lt (Nat.sub_lt (Nat.two_pow_pos _) qD)
  rw [e, Nat.pow_add]
  simp only [Nat.reducePow]
  omega
theorem B7u {p : LN} (x : Nat) (h : 0 < p.length) : bv (p.set 0 x) + p.getD 0 0 = bv p + x := by
  cases p with
  | nil => simp at h
  | cons b r => simp [bv]; omega
theorem B1r (N n : Nat) (h : n ≤ 256) : bv (X3 8 32 N n) = N % 2 ^ n := by
  unfold X3 prt
  rw [A18, Nat.mod_eq_of_lt]
  exact Nat.lt_of_lt_of_le (Nat.mod_lt _ (Nat.two_pow_pos _)) (Nat.pow_le_pow_right qD qO)
theorem A3S (n d : Nat) (hn : 8 ≤ n) (hn2 : n ≤ 256) (hd : 1 < d) (hd2 : d ≤ 256) (A : Mem) : FnX Tryz.prog 92 [.int .i64 (n : Int), .int .u16 (d : Int)] [] A fun r M J => M = [] ∧ J = [] ∧ ∃ es : LN, r = .agg (nums .u8 es).toArray ∧ es.length = 32 ∧ (∀ y ∈ es, y < 256) ∧ bv es = 2 ^ n - d := by
  refine FnX.enter (N := 47) Tryz.func92 rfl rfl rfl fun w => ?_
  refine C4 (D5 0 1) (A3 ?_)
  refine A6 rfl (C5 (cs := [zu8, zu8, zu8, zu8, zu8, zu8, zu8, zu8, zu8, zu8, zu8, zu8, zu8, zu8, zu8, zu8, zu8, zu8, zu8, zu8, zu8, zu8, zu8, zu8, zu8, zu8, zu8, zu8, zu8, zu8, zu8, zu8]) kR rfl fun b4 => ?_)
  refine A0 (E2 0 1 4) (A3 ?_)
  refine A6 rfl (C5 (cs := [zu8, zu8, zu8, zu8, zu8, zu8, zu8, zu8, zu8, zu8, zu8, zu8, zu8, zu8, zu8, zu8, zu8, zu8, zu8, zu8, zu8, zu8, zu8, zu8, zu8, zu8, zu8, zu8, zu8, zu8, zu8, zu8]) kR rfl fun b5 => ?_)
  refine A0 (E7 0 1 4 5) (A5 (A3 (mv_ (mv_ (A0 (F5 1 4 5 9 10) (C0 ?_))))))
  refine A0p (M' := [(b5, blk (nums .u8 (X3 8 32 (2 ^ n - 1) 0)) 110), (b4, blk [.int .u8 0, .int .u8 0, .int .u8 0, .int .u8 0, .int .u8 0, .int .u8 0, .int .u8 0, .int .u8 0, .int .u8 0, .int .u8 0, .int .u8 0, .int .u8 0, .int .u8 0, .int .u8 0, .int .u8 0, .int .u8 0, .int .u8 0, .int .u8 0, .int .u8 0, .int .u8 0, .int .u8 0, .int .u8 0, .int .u8 0, .int .u8 0, .int .u8 0, .int .u8 0, .int .u8 0, .int .u8 0, .int .u8 0, .int .u8 0, .int .u8 0, .int .u8 0] 110)]) (Fit.eq (by rw [A3O]; rfl)) qI ?_
  refine F2 (α := Nat) (fun i => [(1, .int .u16 (d : Int)), (4, (vP b4)), (5, (vP b5)), (9, .int .i64 (n : Int)), (10, .int .i64 (i : Int))]) (fun i => [(b5, blk (nums .u8 (X3 8 32 (2 ^ n - 1) i)) 110), (b4, blk [.int .u8 0, .int .u8 0, .int .u8 0, .int .u8 0, .int .u8 0, .int .u8 0, .int .u8 0, .int .u8 0, .int .u8 0, .int .u8 0, .int .u8 0, .int .u8 0, .int .u8 0, .int .u8 0, .int .u8 0, .int .u8 0, .int .u8 0, .int .u8 0, .int .u8 0, .int .u8 0, .int .u8 0, .int .u8 0, .int .u8 0, .int .u8 0, .int .u8 0, .int .u8 0, .int .u8 0, .int .u8 0, .int .u8 0, .int .u8 0, .int .u8 0, .int .u8 0] 110)]) (fun _ => []) (fun i => i ≤ n) (fun i => n - i) 0 (Nat.zero_le _) (F5 1 4 5 9 10) .rfl qI ?_
  rintro i hi
  refine A3 ?_
  refine A4 (F1 rfl rfl rfl) rfl ?_
  refine A0 (I1 1 4 5 9 10 11) (A5 ?_)
  refine C7 rfl ?_ ?_ <;> intro hc
  ·
    have hlt : i < n := by simp at hc; omega
    have hps := A3P (w := 8) (n := 32) (N := 2 ^ n - 1) (i := i) qD qO
    have hpg := A1i (w := 8) (n := 32) (N := 2 ^ n - 1) (i := i) (j := i / 8) qO
    have hpl := A8K 8 (2 ^ n - 1) i (i / 8)
    rw [B4f hlt] at hps
    rw [← hpg] at hps hpl
    have hsm := A3Q (b := 1) (w := 8) qD (Nat.mod_lt i (by decide : 0 < 8))
    have hmo : 1 <<< (i % 8) % 2 ^ IntKind.u8.bits = 1 <<< (i % 8) := Nat.mod_eq_of_lt hsm
    refine A9 (nx (F5 1 4 5 9 10) (A5 (C0 (A3 (mv_ (as_ (A0 (I1 1 4 5 6 9 10) ?_)))))))
    refine I9 (.range 9) (zp 0 [0, 0, 0, 1, 0, 0, 0, 0, 0, 2]) kR kR fun hs => ?_
    refine fm_ hs ?_
    refine D1 hs rfl (A04 8 rfl rfl rfl qD (A2r qO)) rfl ?_
    refine D1 hs rfl (E5 (e := 5) (n := 32) (sz := 1) (i := i / 8) rfl rfl kR kR rfl qO) rfl ?_
    refine F7 hs rfl (Q9 (i / 8) rfl kR At.mem qO (by rw [L4]; omega)) rfl ?_
    refine fm_ hs ?_
    refine D1 hs rfl (A05 8 rfl rfl rfl qD) rfl ?_
    refine D1 hs rfl (hmo ▸ A4o (a := 1) rfl (i % 8) rfl rfl rfl (by show _ ≤ 8; omega)) rfl ?_
    refine D1 hs rfl (B5A rfl rfl rfl hpl hsm) rfl ?_
    refine D1 hs rfl (E5 (e := 5) (n := 32) (sz := 1) (i := i / 8) rfl rfl kR kR rfl qO) rfl ?_
    refine G5 rfl rfl rfl (T7 (i / 8) rfl rfl kR qO (by rw [L4]; omega) UpC.upd ?_)
    refine V3 (nb (nx (F5 1 4 5 9 10) (C2 ?_)))
    refine A4 (E3 ((i + 1 : Nat) : Int) rfl rfl (G3 qO qO qO)) rfl ?_
    refine mv_ (D0 ?_)
    exact rn (i + 1) qO qO (F5 1 4 5 9 10) (Fit.eq (by rw [hps])) qI
  ·
    have hlt : i = n := by simp at hc; omega
    subst hlt
    refine E6 (te (re (be rfl (nx (E2 1 4 5) ?_))))
    have hhd := B1q (n := i) qO
    have hbn := B1r (2 ^ i - 1) i qO
    have hpl := L4 8 32 (2 ^ i - 1) i
    have hpw : 256 ≤ 2 ^ i := (show 256 = 2 ^ 8 from rfl) ▸ Nat.pow_le_pow_right qD qO
    refine A3 (mv_ ?_)
    refine A4 (B5E 65536 (b := 1) rfl rfl rfl rfl rfl rfl qO qO) rfl ?_
    refine as_ (A0 (E2 1 4 5) (A5 (A3 (as_ (A0 (E7 1 4 5 7) (C0 ?_))))))
    refine Y7 3 ?_
    refine H3 ?_
    refine A5 (A3 (mv_ ?_))
    refine A4 (F4 true rfl rfl (gtT qO)) rfl ?_
    refine A0 (F5 1 4 5 7 26) ?_
    refine E0 rfl ?_
    refine A9 (nx (E7 1 4 5 7) (A5 (C0 (A3 (mv_ ?_)))))
    refine A4 (qi_ 0 5 32 1 0) rfl ?_
    refine A4 (hhd ▸ Q9 0 rfl kR At.mem rfl qO) rfl ?_
    refine A4 (Q3 (k' := .u16) 255 rfl kR qD) rfl ?_
    refine mv_ ?_
    refine A4 (N4 8 256 rfl rfl rfl rfl rfl (by show _ < 65536; first | assumption | exact Nat.mod_lt _ qD | omega) qD) rfl ?_
    refine A4 (B5E 65536 (a := 255) rfl rfl rfl rfl rfl rfl qD qO) rfl ?_
    refine as_ (A0 (F5 1 4 5 7 8) (A3 (mv_ (mv_ ?_))))
    refine A4 (A3o rfl kR) rfl ?_
    refine A4 (qi_ 0 5 32 1 0) rfl ?_
    refine A6 rfl (T7 0 rfl rfl kR rfl qO UpC.upd ?_)
    refine A0 (F5 1 4 5 7 8) (A3 (mv_ ?_))
    refine A4 (P5 8 256 rfl rfl rfl rfl qD) rfl ?_
    refine as_ (A0 (F5 1 4 5 7 8) (A3 (mv_ ?_)))
    refine A4 (F4 false rfl rfl (gtF qO)) rfl ?_
    refine A0 (F5 1 4 5 7 43) ?_
    refine D3 rfl ?_
    refine A9 (nb (nx (E7 1 4 5 7) (C2 (mv_ ?_))))
    refine A4 (E3 (1 : Int) rfl rfl (G3 qD qD qD)) rfl ?_
    refine as_ (D0 ?_)
    refine un (E7 1 4 5 7) ?_
    refine H3 ?_
    refine A5 (A3 (mv_ ?_))
    refine A4 (F4 false rfl rfl (gtF qO)) rfl ?_
    refine A0 (F5 1 4 5 7 26) ?_
    refine D3 rfl ?_
    refine E6 (te (ue (be rfl (nx (D5 4 5) (A3 ?_)))))
    refine A4 (H6 (n := 32) (cs := nums .u8 ((X3 8 32 (2 ^ i - 1) i).set 0 ((255 - (d - 1) % 256) % 256))) rfl kR At.mem (by rw [nums_len, List.length_set, hpl])) rfl ?_
    refine A6 rfl (A8 (vs := nums .u8 ((X3 8 32 (2 ^ i - 1) i).set 0 ((255 - (d - 1) % 256) % 256))) rfl rfl rfl (by rw [nums_len, List.length_set, hpl]; kernel_rfl) (by rw [nums_len, List.length_set, hpl]; rfl) E8 UpC.upd ?_)
    refine A0 (D8 4) (C3 ?_)
    refine ⟨_, [], [], A1x rfl rfl kR At.mem (by rw [nums_len, List.length_set, hpl]), List.nil_sublist _, by simp, rfl, rfl, _, rfl, by rw [List.length_set, hpl], ?_, ?_⟩
    · intro y hy
      rcases List.mem_or_eq_of_mem_set hy with h | rfl
      · exact A0F _ _ y h
      · exact Nat.mod_lt _ qD
    · have h0 := B7u (p := X3 8 32 (2 ^ i - 1) i) ((255 - (d - 1) % 256) % 256) qO
      rw [hhd, hbn, Nat.mod_eq_of_lt (a := 2 ^ i - 1) qO] at h0
      omega
theorem B1s (v : Value) (x : Nat) (hx : Fe v x) (A : Mem) : FnX Tryz.prog 64 [v] [] A fun r M J => M = [] ∧ J = [] ∧ ∃ n, n + 1 = p25 - 1 ∧ Fe r (x ^ n % p25) := by
 have hx0 := hx
 obtain ⟨a, b, c, d, e, rfl, -⟩ := hx
 refine FnX.enter (N := 6) Tryz.func64 rfl rfl rfl fun w => ?_
 refine C4 (D8 0) (A3 ?_)
 refine A6 rfl (bx_ fun b1 => ?_)
 refine A6 rfl (C5 (cs := [A7, A7, A7, A7, A7]) kR rfl fun b2 => ?_)
 refine A0 (D5 1 2) ?_
 refine D2 [0, 1, 2] [(0, 1), (1, 2), (2, 2), (3, 2)] kR kR fun hs => ?_
 refine F7 hs rfl (qw_ 5) rfl ?_
 refine G1 rfl (aS rfl (aS rfl a0)) kR (A3S 255 21 qD qD qD qD _) rfl ?_
 rintro rn1 Mn Jn ⟨rfl, rfl, es, rfl, hel, he256, hbv⟩
 refine G1 rfl (aS rfl (aS rfl a0)) kR (A1G _ _ hx0 es hel he256 _) rfl ?_
 rintro r1 M1 J1 ⟨rfl, rfl, hr⟩
 have hbv1 : bv es + 1 = p25 - 1 := by rw [hbv]; decide
 have hr0 := hr
 obtain ⟨a1, b1, c1, d1, e1, rfl, -⟩ := hr
 refine G5 rfl rfl rfl (A8 rfl rfl Cel.cel kR ln5 al5 UpC.upd ?_)
 refine E4 (D8 2) (C3 ?_)
 exact ⟨_, [], [], A1x rfl rfl kR At.mem qR, List.nil_sublist _, by simp, rfl, rfl, _, hbv1, hr0⟩
def rtp (x n : Nat) : Nat := x ^ n % p25
def rt1 (x : Nat) : Nat := rtp x (2 ^ 252 - 2)
def rt2 (x : Nat) : Nat := rt1 x * rtp 2 (2 ^ 253 - 5) % p25
theorem B1t {x n m : Nat} (h : n = m) : x ^ n % p25 = rtp x m := by subst h; rfl
theorem B5W {x n : Nat} (h : n = 2 ^ 252 - 2) : x ^ n % p25 = rt1 x := by unfold rt1; exact B1t h
def Rt (r : Value) (x : Nat) : Prop := ∃ u b, r = .tuple #[u, .bool b] ∧ ((rt1 x * rt1 x % p25 = x ∧ b = true ∧ Fe u (rt1 x)) ∨ (rt1 x * rt1 x % p25 ≠ x ∧ rt2 x * rt2 x % p25 = x ∧ b = true ∧ Fe u (rt2 x)) ∨ (rt1 x * rt1 x % p25 ≠ x ∧ rt2 x * rt2 x % p25 ≠ x ∧ b = false ∧ Fe u 0))
theorem A9Q (v : Value) (x : Nat) (hx : Fe v x) (A : Mem) : FnX Tryz.prog 111 [v] [] A fun r M J => M = [] ∧ J = [] ∧ Rt r x := by
 have hx0 := hx
 obtain ⟨a, b, c, d, e, rfl, -⟩ := hx
 refine FnX.enter (N := 24) Tryz.func111 rfl rfl rfl fun w => ?_
 refine C4 (D8 0) (A3 ?_)
 refine A6 rfl (bx_ fun b1 => ?_)
 refine A6 rfl (C5 (cs := [A7, A7, A7, A7, A7]) kR rfl fun b2 => ?_)
 refine as_ (A0 (D5 1 2) ?_)
 refine D2 [0, 1, 2, 3] (zp 0 [1, 3, 3, 4, 2]) kR kR fun hs => ?_
 refine F7 hs rfl (qw_ 5) rfl ?_
 refine N5 [⟨1, 6, fun v B _ => B = [] ∧ ∃ es : LN, v = .agg (nums .u8 es).toArray ∧ es.length = 32 ∧ (∀ y ∈ es, y < 256) ∧ bv es = 2 ^ 252 - 2⟩, ⟨2, 7, fun v B _ => B = [] ∧ Fe v (rt1 x)⟩, ⟨3, 4, fun v B _ => ∃ b, v = (vP b) ∧ B = [(b, blk [.int .u64 0, .int .u64 0, .int .u64 0, .int .u64 0, .int .u64 0] 113)]⟩]
  (C1 (fun _ _ _ _ _ h => h) (C1 (fun _ _ _ _ _ h => h) (C1 (fun _ _ _ _ _ h => h) (K7)))) (show List.Nodup [6, 7, 4] by decide) (show List.Nodup [1, 2, 3] by decide) (C1 (C8 rfl) (C1 (C8 rfl) (C1 (C8 rfl) (K7))))
  (C1 ⟨_, rfl, fun vs bs R w hb ha => ⟨.inl rfl, ?_⟩⟩ (C1 ⟨_, rfl, fun vs bs R w hb ha => ⟨.inl rfl, ?_⟩⟩ (C1 ⟨_, rfl, fun vs bs R w hb ha => ⟨.inl rfl, ?_⟩⟩ (K7)))) ?_
 ·
  refine D7 (aS rfl (aS rfl a0)) kR (A3S 252 2 qD qD qD qD _) rfl ?_
  rintro r M1 J1 ⟨rfl, rfl, hh⟩
  exact ⟨_, rfl, rfl, hh⟩
 ·
  have g1 := ha _ (List.mem_of_getElem? (i := 0) rfl) kR
  replace g1 : (fun v B _ => B = [] ∧ ∃ es : LN, v = .agg (nums .u8 es).toArray ∧ es.length = 32 ∧ (∀ y ∈ es, y < 256) ∧ bv es = 2 ^ 252 - 2) (vs 1) (bs 1) R := g1
  dsimp only at g1
  obtain ⟨-, es, hes, hel, he256, hbv⟩ := g1
  refine D7 (aS rfl (aS (by rw [← hes]; rfl) a0)) kR (A1G _ _ hx0 es hel he256 _) rfl ?_
  rintro r M1 J1 ⟨rfl, rfl, hh⟩
  rw [B5W hbv] at hh
  exact ⟨_, rfl, rfl, hh⟩
 ·
  exact C5 (cs := [A7, A7, A7, A7, A7]) kR rfl fun b => ⟨_, rfl, b, rfl, rfl⟩
 intro vs bs Jn0 hφ
 have g1 := ofH hφ
 dsimp only at g1
 replace hφ := ofT hφ
 have g2 := ofH hφ
 dsimp only at g2
 replace hφ := ofT hφ
 have g3 := ofH hφ
 dsimp only at g3
 clear hφ
 dsimp only [U9, Q4, List.map, List.flatten, List.cons_append, List.nil_append]
 generalize bs 1 = B6 at *
 generalize bs 2 = B7 at *
 generalize bs 3 = B4 at *
 generalize vs 1 = u6 at *
 generalize vs 2 = u7 at *
 generalize vs 3 = u4 at *
 obtain ⟨rfl, -⟩ := g1
 obtain ⟨rfl, hr0⟩ := g2
 obtain ⟨b4, rfl, rfl⟩ := g3
 have hr := hr0
 obtain ⟨a1, b1, c1, d1, e1, rfl, -⟩ := hr
 dsimp only [List.append_eq, List.nil_append, List.cons_append]
 refine G5 rfl rfl rfl (A8 rfl rfl Cel.cel kR ln5 al5 UpC.upd ?_)
 refine E4 (E2 1 2 4) (A5 ?_)
 refine D2 [0, 1, 2, 3] [(0, 1), (2, 1), (1, 2), (3, 2)] kR kR fun hs => ?_
 refine F7 hs rfl (qw_ 5) rfl ?_
 refine F7 hs rfl (qw_ 5) rfl ?_
 refine G1 rfl (aS rfl a0) kR (A0g _ _ hr0 _) rfl ?_
 rintro r2 M2 J2 ⟨rfl, rfl, hr2⟩
 have hr20 := hr2
 obtain ⟨a2, b2, c2, d2, e2, rfl, -⟩ := hr2
 refine T6 rfl (aS rfl (aS rfl a0)) kR (A0v _ _ _ _ hr20 hx0 _) rfl ?_
 refine E4 (E7 1 2 4 11) ?_
 refine C7 rfl ?_ ?_ <;> intro hc
 ·
  have h1 : rt1 x * rt1 x % p25 = x := by simpa using hc
  refine A3 ?_
  refine A4 (qw_ 5) rfl ?_
  refine A6 rfl (A8 rfl rfl Cel.cel kR ln5 al5 UpC.upd ?_)
  refine as_ (A0 (D5 2 3) (C3 (tr ?_)))
  exact ⟨_, [], [], A1m rfl rfl rfl kR At.mem qR, List.nil_sublist _, by simp, rfl, rfl, _, _, rfl, .inl ⟨h1, rfl, hr0⟩⟩
 ·
  have h1 : rt1 x * rt1 x % p25 ≠ x := by simpa using hc
  refine A9 (nx (E2 1 2 4) ?_)
  refine D2 [0, 1, 2, 3, 4] (zp 0 [1, 2, 2, 2, 2, 2]) kR kR fun hs => ?_
  refine F7 hs rfl (qw_ 5) rfl ?_
  refine G1 rfl (aS rfl a0) kR (A3N 2 qD _) rfl ?_
  rintro r3 M3 J3 ⟨rfl, rfl, hr3⟩
  refine G1 rfl (aS rfl (aS rfl a0)) kR (A3S 253 5 qD qD qD qD _) rfl ?_
  rintro rn2 Mn Jn ⟨rfl, rfl, es, rfl, hel, he256, hbv⟩
  refine G1 rfl (aS rfl (aS rfl a0)) kR (A1G _ _ hr3 es hel he256 _) rfl ?_
  rintro r4 M4 J4 ⟨rfl, rfl, hr4⟩
  rw [B1t hbv] at hr4
  refine G1 rfl (aS rfl (aS rfl a0)) kR (A17 _ _ _ _ hr0 hr4 _) rfl ?_
  rintro r5 M5 J5 ⟨rfl, rfl, hr5⟩
  rw [← rt2.eq_1] at hr5
  have hr50 := hr5
  obtain ⟨a5, b5, c5, d5, e5, rfl, -⟩ := hr5
  refine G5 rfl rfl rfl (A8 rfl rfl Cel.cel kR ln5 al5 UpC.upd ?_)
  refine E4 (E2 1 2 4) (A5 ?_)
  refine D2 [0, 1, 2, 3] [(0, 1), (2, 1), (1, 2), (3, 2)] kR kR fun hs => ?_
  refine F7 hs rfl (qw_ 5) rfl ?_
  refine F7 hs rfl (qw_ 5) rfl ?_
  refine G1 rfl (aS rfl a0) kR (A0g _ _ hr50 _) rfl ?_
  rintro r6 M6 J6 ⟨rfl, rfl, hr6⟩
  have hr60 := hr6
  obtain ⟨a6, b6, c6, d6, e6, rfl, -⟩ := hr6
  refine T6 rfl (aS rfl (aS rfl a0)) kR (A0v _ _ _ _ hr60 hx0 _) rfl ?_
  refine E4 (E2 2 4 21) ?_
  refine C7 rfl ?_ ?_ <;> intro hc
  ·
   have h2 : rt2 x * rt2 x % p25 = x := by simpa using hc
   refine A3 ?_
   refine A4 (qw_ 5) rfl ?_
   refine A6 rfl (A8 rfl rfl Cel.cel kR ln5 al5 UpC.upd ?_)
   refine as_ (A0 (D5 2 3) (C3 (tr ?_)))
   exact ⟨_, [], [], A1m rfl rfl rfl kR At.mem qR, List.nil_sublist _, by simp, rfl, rfl, _, _, rfl, .inr (.inl ⟨h1, h2, rfl, hr50⟩)⟩
  ·
   have h2 : rt2 x * rt2 x % p25 ≠ x := by simpa using hc
   refine A9 (nx (D8 2) (A3 ?_))
   refine A4 (F3 (place := fun i => some (i * 1, 1)) (z := [A7, A7, A7, A7, A7]) (fun _ => by kernel_rfl) e0 bd0) rfl ?_
   refine A6 rfl (A8 rfl rfl Cel.cel kR ln5 al5 UpC.upd ?_)
   refine as_ (A0 (D5 2 3) (C3 ?_))
   exact ⟨_, [], [], A1m rfl rfl rfl kR At.mem qR, List.nil_sublist _, by simp, rfl, rfl, _, _, rfl, .inr (.inr ⟨h1, h2, rfl, K8⟩)⟩

end Go.Proofs.YtoigcbkclcbmpaaGreatDoor
namespace Go.Px
def IsPr (p : Nat) : Prop := 2 ≤ p ∧ ∀ d, d ∣ p → d = 1 ∨ d = p
theorem IsPr.cop {p a : Nat} (h : IsPr p) (ha : ¬ p ∣ a) : Nat.Coprime p a := by
  rcases h.2 _ (Nat.gcd_dvd_left p a) with h1 | h1
  · exact h1
  · exact absurd (h1 ▸ Nat.gcd_dvd_right p a) ha
theorem IsPr.mul {p a b : Nat} (h : IsPr p) (hd : p ∣ a * b) : p ∣ a ∨ p ∣ b := by
  by_cases ha : p ∣ a
  · exact .inl ha
  · exact .inr ((h.cop ha).dvd_of_dvd_mul_left hd)
theorem exPr (n : Nat) (h : 2 ≤ n) : ∃ r, IsPr r ∧ r ∣ n := by
  induction n using Nat.strongRecOn with
  | _ n ih =>
    by_cases hp : IsPr n
    · exact ⟨n, hp, Nat.dvd_refl n⟩
    · have : ∃ d, d ∣ n ∧ d ≠ 1 ∧ d ≠ n := by
        false_or_by_contra
        rename_i hc
        refine hp ⟨h, fun d hd => ?_⟩
        by_cases h1 : d = 1
        · exact .inl h1
        · by_cases h2 : d = n
          · exact .inr h2
          · exact absurd ⟨d, hd, h1, h2⟩ hc
      obtain ⟨d, hd, h1, h2⟩ := this
      have hle := Nat.le_of_dvd (by omega) hd
      have h0 : d ≠ 0 := by rintro rfl; rw [Nat.zero_dvd] at hd; omega
      obtain ⟨r, hr, hrd⟩ := ih d (by omega) (by omega)
      exact ⟨r, hr, Nat.dvd_trans hrd hd⟩
theorem IsPr.of {n : Nat} (h2 : 2 ≤ n) (h : ∀ r, IsPr r → r ∣ n → r * r ≤ n → False) : IsPr n := by
  refine ⟨h2, fun d hd => ?_⟩
  by_cases h1 : d = 1
  · exact .inl h1
  by_cases hn : d = n
  · exact .inr hn
  exfalso
  obtain ⟨e, he⟩ := hd
  have he1 : e ≠ 1 := by rintro rfl; rw [Nat.mul_one] at he; exact hn he.symm
  have hd0 : d ≠ 0 := by rintro rfl; rw [Nat.zero_mul] at he; omega
  have he0 : e ≠ 0 := by rintro rfl; rw [Nat.mul_zero] at he; omega
  rcases Nat.le_total d e with hle | hle
  · obtain ⟨r, hr, hrd⟩ := exPr d (by omega)
    have := Nat.le_of_dvd (by omega) hrd
    refine h r hr (he ▸ Nat.dvd_trans hrd (Nat.dvd_mul_right d e)) ?_
    rw [he]; exact Nat.mul_le_mul this (Nat.le_trans this hle)
  · obtain ⟨r, hr, hrd⟩ := exPr e (by omega)
    have := Nat.le_of_dvd (by omega) hrd
    refine h r hr (he ▸ Nat.dvd_trans hrd (Nat.dvd_mul_left e d)) ?_
    rw [he]; exact Nat.mul_le_mul (Nat.le_trans this hle) this
def cho : Nat → Nat → Nat
  | _, 0 => 1
  | 0, _ + 1 => 0
  | n + 1, k + 1 => cho n k + cho n (k + 1)
theorem A8L : ∀ n k, n < k → cho n k = 0
  | 0, k + 1, _ => by rw [cho]
  | n + 1, k + 1, h => by rw [cho, A8L n k (by omega), A8L n (k + 1) (by omega)]
theorem A8M : ∀ n, cho n n = 1
  | 0 => by rw [cho]
  | n + 1 => by rw [cho, A8M n, A8L n (n + 1) (by omega)]
theorem A5v : ∀ n k, (k + 1) * cho (n + 1) (k + 1) = (n + 1) * cho n k
  | 0, 0 => by simp [cho]
  | 0, k + 1 => by simp [cho]
  | n + 1, 0 => by
    have := A5v n 0
    rw [cho]
    simp only [cho, Nat.mul_one, Nat.one_mul, Nat.zero_add] at *
    omega
  | n + 1, k + 1 => by
    have h1 := A5v n k
    have h2 := A5v n (k + 1)
    rw [cho.eq_3 (n + 1) (k + 1)]
    rw [cho.eq_3 n k] at *
    generalize cho n (k + 1 + 1) = x at *
    generalize cho (n + 1) (k + 1 + 1) = z at *
    generalize cho n (k + 1) = y at *
    generalize cho n k = u at *
    grind
def S0 (f : Nat → Nat) : Nat → Nat
  | 0 => 0
  | n + 1 => S0 f n + f n
theorem A3T {f g : Nat → Nat} : ∀ n, (∀ i, i < n → f i = g i) → S0 f n = S0 g n
  | 0, _ => rfl
  | n + 1, h => by rw [S0, S0, A3T n fun i hi => h i (by omega), h n (by omega)]
theorem A6N (f g : Nat → Nat) : ∀ n, S0 (fun i => f i + g i) n = S0 f n + S0 g n
  | 0 => rfl
  | n + 1 => by rw [S0, S0, S0, A6N f g n]; omega
theorem A6O (c : Nat) (f : Nat → Nat) : ∀ n, S0 (fun i => c * f i) n = c * S0 f n
  | 0 => rfl
  | n + 1 => by rw [S0, S0, A6O c f n, Nat.mul_add]
theorem A0G (f : Nat → Nat) : ∀ n, S0 f (n + 1) = f 0 + S0 (fun i => f (i + 1)) n
  | 0 => by simp [S0]
  | n + 1 => by rw [S0, A0G f n, S0]; omega
theorem A6P {p : Nat} {f : Nat → Nat} : ∀ n, (∀ i, i < n → p ∣ f i) → p ∣ S0 f n
  | 0, _ => Nat.dvd_zero p
  | n + 1, h => by rw [S0]; exact Nat.dvd_add (A6P n fun i hi => h i (by omega)) (h n (by omega))
theorem B9I (a : Nat) : ∀ n, (a + 1) ^ n = S0 (fun k => cho n k * a ^ k) (n + 1)
  | 0 => by simp [S0, cho]
  | n + 1 => by
    rw [Nat.pow_succ, B9I a n, A0G (fun k => cho (n + 1) k * a ^ k)]
    try dsimp only
    have e : S0 (fun i => cho (n + 1) (i + 1) * a ^ (i + 1)) (n + 1) = a * S0 (fun k => cho n k * a ^ k) (n + 1) + S0 (fun i => cho n (i + 1) * a ^ (i + 1)) (n + 1) := by
      rw [← A6O, ← A6N]
      refine A3T _ fun i _ => ?_
      rw [cho, Nat.add_mul, Nat.pow_succ]
      grind
    rw [e]
    have e2 : S0 (fun i => cho n (i + 1) * a ^ (i + 1)) (n + 1) = S0 (fun i => cho n (i + 1) * a ^ (i + 1)) n := by
      rw [S0, A8L n (n + 1) (by omega), Nat.zero_mul, Nat.add_zero]
    rw [e2]
    have e3 := A0G (fun k => cho n k * a ^ k) n
    have c0 : cho n 0 = 1 := by cases n <;> rfl
    have c1 : cho (n + 1) 0 = 1 := rfl
    rw [c0] at e3
    rw [c1]
    generalize S0 (fun k => cho n k * a ^ k) (n + 1) = S at *
    generalize S0 (fun i => cho n (i + 1) * a ^ (i + 1)) n = T at *
    simp only [Nat.pow_zero, Nat.mul_one] at *
    grind
theorem B9J {p k : Nat} (h : IsPr p) (h0 : 0 < k) (hk : k < p) : p ∣ cho p k := by
  have h2 := h.1
  obtain ⟨n, rfl⟩ : ∃ n, p = n + 1 := ⟨p - 1, by omega⟩
  obtain ⟨j, rfl⟩ : ∃ j, k = j + 1 := ⟨k - 1, by omega⟩
  have e := A5v n j
  have hd : (n + 1) ∣ (j + 1) * cho (n + 1) (j + 1) := by rw [e]; exact Nat.dvd_mul_right _ _
  rcases h.mul hd with h1 | h1
  · have := Nat.le_of_dvd (by omega) h1; omega
  · exact h1
theorem B9K {p : Nat} (h : IsPr p) (a : Nat) : a ^ p % p = a % p := by
  have h2 := h.1
  induction a with
  | zero => rw [Nat.zero_pow (by omega)]
  | succ a ih =>
    obtain ⟨n, rfl⟩ : ∃ n, p = n + 1 := ⟨p - 1, by omega⟩
    rw [B9I, S0, A8M, Nat.one_mul, A0G]
    obtain ⟨c, hc⟩ : (n + 1) ∣ S0 (fun i => cho (n + 1) (i + 1) * a ^ (i + 1)) n := A6P n fun i hi => Nat.dvd_trans (B9J h (by omega) (by omega)) (Nat.dvd_mul_right _ _)
    rw [hc, show cho (n + 1) 0 * a ^ 0 = 1 from rfl]
    have e : (1 + (n + 1) * c + a ^ (n + 1)) % (n + 1) = (1 + a ^ (n + 1)) % (n + 1) := by
      rw [Nat.add_right_comm, Nat.add_mul_mod_self_left]
    rw [e, Nat.add_mod, ih, ← Nat.add_mod, Nat.add_comm]
theorem A3U {p a : Nat} (h : IsPr p) (ha : ¬ p ∣ a) : a ^ (p - 1) % p = 1 := by
  have h2 := h.1
  have hf := B9K h a
  obtain ⟨n, rfl⟩ : ∃ n, p = n + 1 := ⟨p - 1, by omega⟩
  rw [Nat.add_sub_cancel]
  have h1 : 1 ≤ a ^ n := Nat.pow_pos (Nat.pos_of_ne_zero (by rintro rfl; exact ha (Nat.dvd_zero _)))
  have hd : (n + 1) ∣ a * (a ^ n - 1) := by
    rw [Nat.mul_sub, Nat.mul_one, ← Nat.pow_succ']
    have hle : a ≤ a ^ (n + 1) := Nat.le_self_pow (by omega) a
    exact Nat.dvd_of_mod_eq_zero (Nat.sub_mod_eq_zero_of_mod_eq hf)
  rcases h.mul hd with h3 | h3
  · exact absurd h3 ha
  · obtain ⟨c, hc⟩ := h3
    rw [show a ^ n = 1 + (n + 1) * c by omega, Nat.add_mul_mod_self_left]
    exact Nat.mod_eq_of_lt (by omega)
theorem B7v {r b : Nat} (m n : Nat) (hm : b ^ m % r = 1 % r) (hn : b ^ n % r = 1 % r) : b ^ (Nat.gcd m n) % r = 1 % r := by
  induction m, n using Nat.gcd.induction with
  | H0 n => rw [Nat.gcd_zero_left]; exact hn
  | H1 m n h0 ih =>
    rw [Nat.gcd_rec]
    refine ih ?_ hm
    have e : b ^ n = (b ^ m) ^ (n / m) * b ^ (n % m) := by
      rw [← Nat.pow_mul, ← Nat.pow_add, Nat.div_add_mod]
    rw [e, Nat.mul_mod, Nat.pow_mod, hm, ← Nat.pow_mod, Nat.one_pow, ← Nat.mul_mod, Nat.one_mul] at hn
    exact hn
theorem C1J {N q a r : Nat} (hN : 2 ≤ N) (hq : IsPr q) (hqd : q * ((N - 1) / q) = N - 1) (h1 : a ^ (N - 1) % N = 1) (h2 : Nat.gcd (a ^ ((N - 1) / q) % N + (N - 1)) N = 1) (hr : IsPr r) (hrN : r ∣ N) : q ∣ r - 1 := by
  have hr2 := hr.1
  generalize hb : a ^ ((N - 1) / q) = b at *
  have hbq : b ^ q % r = 1 % r := by
    rw [← hb, ← Nat.pow_mul, Nat.mul_comm, hqd, ← Nat.mod_mod_of_dvd _ hrN, h1]
  have hnb : ¬ b % r = 1 % r := by
    intro hc
    have : r ∣ b % N + (N - 1) := by
      have e : (b % N + (N - 1)) % r = 0 := by
        obtain ⟨c, rfl⟩ := hrN
        rw [Nat.add_mod, Nat.mod_mul_right_mod, hc, ← Nat.add_mod, show 1 + (r * c - 1) = r * c by omega, Nat.mul_mod_right]
      exact Nat.dvd_of_mod_eq_zero e
    have := Nat.dvd_gcd this hrN
    rw [h2, Nat.dvd_one] at this
    omega
  have hrb : ¬ r ∣ b := by
    intro hc
    have hq1 := hq.1
    have : b ^ q % r = 0 := Nat.mod_eq_zero_of_dvd (Nat.dvd_trans hc (show b ∣ b ^ q from ⟨b ^ (q - 1), by rw [← Nat.pow_succ']; congr 1; omega⟩))
    rw [this, Nat.mod_eq_of_lt (by omega)] at hbq
    omega
  have hf := A3U hr hrb
  have hg := B7v q (r - 1) hbq (by rw [hf, Nat.mod_eq_of_lt (by omega)])
  rcases hq.2 _ (Nat.gcd_dvd_left q (r - 1)) with h3 | h3
  · rw [h3, Nat.pow_one] at hg; exact absurd hg hnb
  · exact h3 ▸ Nat.gcd_dvd_right q (r - 1)
theorem Z3 {p q m : Nat} (hp : IsPr p) (hq : IsPr q) (hne : p ≠ q) (h1 : p ∣ m) (h2 : q ∣ m) : p * q ∣ m := by
  obtain ⟨c, rfl⟩ := h1
  rcases hq.mul h2 with h | h
  · rcases hp.2 _ h with h3 | h3
    · have := hq.1; omega
    · exact absurd h3.symm hne
  · exact Nat.mul_dvd_mul_left p h
theorem A9R {N F : Nat} (hN : 2 ≤ N) (hF : N < (F + 1) * (F + 1)) (h : ∀ r, IsPr r → r ∣ N → F ∣ r - 1) : IsPr N := by
  refine IsPr.of hN fun r hr hd hle => ?_
  have h1 := hr.1
  have := Nat.le_of_dvd (by omega) (h r hr hd)
  have := Nat.mul_le_mul (show F + 1 ≤ r by omega) (show F + 1 ≤ r by omega)
  omega
def B4g (n : Nat) : Nat → Bool
  | 0 => true
  | k + 1 => (k < 2 || n % k != 0) && B4g n k
theorem A4H {n : Nat} : ∀ k, B4g n k = true → ∀ d, 2 ≤ d → d < k → ¬ d ∣ n
  | 0, _, d, _, h => by omega
  | k + 1, h, d, h2, hd => by
    rw [B4g, Bool.and_eq_true] at h
    by_cases e : d = k
    · subst e
      intro hc
      have := Nat.mod_eq_zero_of_dvd hc
      simp [this] at h
      omega
    · exact A4H k h.2 d h2 (by omega)
theorem A7M {n : Nat} (k : Nat) (h2 : 2 ≤ n) (hk : n < k * k) (h : B4g n k = true) : IsPr n := by
  refine IsPr.of h2 fun r hr hd hle => A4H k h r hr.1 ?_ hd
  rcases Nat.lt_or_ge r k with h1 | h1
  · exact h1
  · have := Nat.mul_le_mul h1 h1; omega
def pm (N : Nat) : Nat → Nat → Nat → Nat → Nat
  | 0, _, _, acc => acc
  | f + 1, b, e, acc => pm N f (b * b % N) (e / 2) (if e % 2 = 1 then acc * b % N else acc)
theorem B1u (N : Nat) : ∀ f b e acc, e < 2 ^ f → acc % N = acc → pm N f b e acc = acc * b ^ e % N
  | 0, b, e, acc, h, ha => by
    obtain rfl : e = 0 := by simpa using h
    rw [pm, Nat.pow_zero, Nat.mul_one, ha]
  | f + 1, b, e, acc, h, ha => by
    rw [pm, B1u N f _ _ _ (by rw [Nat.pow_succ] at h; omega) (by split <;> simp [ha])]
    have e2 : b ^ e = (b * b) ^ (e / 2) * b ^ (e % 2) := by
      rw [← Nat.pow_two, ← Nat.pow_mul, ← Nat.pow_add, Nat.div_add_mod]
    rw [e2]
    rcases Nat.mod_two_eq_zero_or_one e with h0 | h0
    · rw [h0, if_neg (by decide), Nat.mul_mod, ← Nat.pow_mod, ← Nat.mul_mod, Nat.pow_zero, Nat.mul_one]
    · rw [h0, if_pos rfl, Nat.mul_mod, ← Nat.pow_mod, Nat.mod_mod, ← Nat.mul_mod, Nat.pow_one, Nat.mul_assoc, Nat.mul_comm b]
theorem A6Q {N : Nat} (hN : 2 ≤ N) (f a e : Nat) (h : e < 2 ^ f) : a ^ e % N = pm N f a e 1 := by
  rw [B1u N f a e 1 h (Nat.mod_eq_of_lt (by omega)), Nat.one_mul]
def B9L (N q a : Nat) : Bool := q * ((N - 1) / q) == N - 1 && pm N 256 a (N - 1) 1 == 1 && Nat.gcd (pm N 256 a ((N - 1) / q) 1 + (N - 1)) N == 1
theorem H9 {N q a : Nat} (hN : 2 ≤ N) (hN2 : N < 2 ^ 256) (hq : IsPr q) (h : B9L N q a = true) : ∀ r, IsPr r → r ∣ N → q ∣ r - 1 := by
  simp only [B9L, Bool.and_eq_true, beq_iff_eq] at h
  obtain ⟨⟨h1, h2⟩, h3⟩ := h
  intro r hr hd
  refine C1J (a := a) hN hq h1 ?_ ?_ hr hd
  · rw [A6Q hN 256 _ _ (by omega)]; exact h2
  · rw [A6Q hN 256 _ _ (Nat.lt_of_le_of_lt (Nat.div_le_self _ _) (by omega))]; exact h3
theorem B5X : IsPr 4153 := A7M 65 (by decide) (by decide) (by decide +kernel)
theorem A8N : IsPr 430751 := A7M 657 (by decide) (by decide) (by decide +kernel)
theorem A6R : IsPr 8574133 := A7M 2929 (by decide) (by decide) (by decide +kernel)
theorem B9M : IsPr 127 := A7M 12 (by decide) (by decide) (by decide +kernel)
theorem B4h : IsPr 569003 := A7M 755 (by decide) (by decide) (by decide +kernel)
theorem A6S : IsPr 2773320623 := A9R (F := 569003) (by decide) (by decide) (H9 (a := 2) (by decide) (by decide) B4h (by decide +kernel))
theorem A19 : IsPr 72106336199 := A9R (F := 2773320623) (by decide) (by decide) (H9 (a := 2) (by decide) (by decide) A6S (by decide +kernel))
theorem A0h : IsPr 1919519569386763 := A9R (F := 8574133 * 127) (by decide) (by decide) fun s hs hd => Z3 A6R B9M (by decide) (H9 (a := 2) (by decide) (by decide) A6R (by decide +kernel) s hs hd) (H9 (a := 2) (by decide) (by decide) B9M (by decide +kernel) s hs hd)
theorem Z4 : IsPr 31757755568855353 := A9R (F := 430751 * 4153) (by decide) (by decide) fun s hs hd => Z3 A8N B5X (by decide) (H9 (a := 2) (by decide) (by decide) A8N (by decide +kernel) s hs hd) (H9 (a := 2) (by decide) (by decide) B5X (by decide +kernel) s hs hd)
theorem L3 : IsPr 75445702479781427272750846543864801 := A9R (F := 72106336199 * 1919519569386763) (by decide) (by decide) fun s hs hd => Z3 A19 A0h (by decide) (H9 (a := 2) (by decide) (by decide) A19 (by decide +kernel) s hs hd) (H9 (a := 2) (by decide) (by decide) A0h (by decide +kernel) s hs hd)
theorem H4 : IsPr 74058212732561358302231226437062788676166966415465897661863160754340907 := A9R (F := 31757755568855353 * 75445702479781427272750846543864801) (by decide) (by decide) fun s hs hd => Z3 Z4 L3 (by decide) (H9 (a := 2) (by decide) (by decide) Z4 (by decide +kernel) s hs hd) (H9 (a := 2) (by decide) (by decide) L3 (by decide +kernel) s hs hd)
theorem C03 : IsPr p25 := A9R (F := 74058212732561358302231226437062788676166966415465897661863160754340907) (by decide) (by decide) (H9 (a := 2) (by decide) (by decide) H4 (by decide +kernel))
end Go.Px

namespace Go.Proofs.YtoigcbkclcbmpaaGreatDoor
open Go.Px
def fS (x y : Nat) : Nat := (x + p25 - y) % p25
def fA (x y : Nat) : Nat := (x + y) % p25
def fM (x y : Nat) : Nat := x * y % p25
def fN (x : Nat) : Nat := (p25 - x) % p25
theorem B9N (x : Nat) : ∃ y, y = rtp x (p25 - 2) := ⟨_, rfl⟩
noncomputable def fI (x : Nat) : Nat := Classical.choose (B9N x)
theorem A5w (x : Nat) : fI x = rtp x (p25 - 2) := Classical.choose_spec (B9N x)
theorem A5x {v u : Value} {x y : Nat} (hx : Fe v x) (hy : Fe u y) (A : Mem) : FnX Tryz.prog 85 [v, u] [] A fun r M J => M = [] ∧ J = [] ∧ Fe r (fS x y) := A6I v u x y hx hy A
theorem A4h {v u : Value} {x y : Nat} (hx : Fe v x) (hy : Fe u y) (A : Mem) : FnX Tryz.prog 84 [v, u] [] A fun r M J => M = [] ∧ J = [] ∧ Fe r (fA x y) := B1m v u x y hx hy A
theorem T4 {v u : Value} {x y : Nat} (hx : Fe v x) (hy : Fe u y) (A : Mem) : FnX Tryz.prog 63 [v, u] [] A fun r M J => M = [] ∧ J = [] ∧ Fe r (fM x y) := A17 v u x y hx hy A
theorem B9O {v : Value} {x : Nat} (hx : Fe v x) (A : Mem) : FnX Tryz.prog 86 [v] [] A fun r M J => M = [] ∧ J = [] ∧ Fe r (fM x x) := A0g v x hx A
theorem B7w {v : Value} {x : Nat} (hx : Fe v x) (A : Mem) : FnX Tryz.prog 110 [v] [] A fun r M J => M = [] ∧ J = [] ∧ Fe r (fN x) := B1o v x hx A
theorem A0T (n : Nat) (hn : n < 4294967296) (A : Mem) : FnX Tryz.prog 60 [.int .u32 (n : Int)] [] A fun r M J => M = [] ∧ J = [] ∧ Fe r n := A3N n hn A
theorem B1v {v : Value} {x : Nat} (hx : Fe v x) (A : Mem) : FnX Tryz.prog 64 [v] [] A fun r M J => M = [] ∧ J = [] ∧ Fe r (fI x) :=
  (B1s v x hx A).mono fun r M J ⟨h1, h2, n, h3, h4⟩ => ⟨h1, h2, by rw [A5w, ← B1t (show n = p25 - 2 by omega)]; exact h4⟩
structure Pt where
  X : Nat
  Y : Nat
  Z : Nat
  T : Nat
def FeL (xs : LN) (P : Pt) : Prop := ∃ x0 x1 x2 x3 x4 x5 x6 x7 x8 x9 x10 x11 x12 x13 x14 x15 x16 x17 x18 x19 : Nat, xs = [x0, x1, x2, x3, x4, x5, x6, x7, x8, x9, x10, x11, x12, x13, x14, x15, x16, x17, x18, x19] ∧ Fe (el x0 x1 x2 x3 x4) P.X ∧ Fe (el x5 x6 x7 x8 x9) P.Y ∧ Fe (el x10 x11 x12 x13 x14) P.Z ∧ Fe (el x15 x16 x17 x18 x19) P.T
def FeP (V : Value) (P : Pt) : Prop := ∃ xs, V = .agg (nums .u64 xs).toArray ∧ FeL xs P
def pO : Pt := ⟨0, 1, 1, 0⟩
def dN : Nat := 37095705934669439343138083508754565189542113879843219016388785533085940283555
def d2N : Nat := 16295367250680780974490674513165176452449235426866156013048779062215315747161
theorem A2a {x n : Nat} (h : n < 2 ^ 256) : rtp x n = pm p25 256 x n 1 := A6Q qD 256 x n h
theorem C1K : fN (fM 121665 (fI 121666)) = dN := by
  rw [A5w, A2a qD]
  decide +kernel
theorem B7x : fM 2 dN = d2N := by decide +kernel
def A56 (d2 : Nat) (P Q : Pt) : Pt :=
  let a := fM (fS P.Y P.X) (fS Q.Y Q.X)
  let b := fM (fA P.Y P.X) (fA Q.Y Q.X)
  let c := fM (fM P.T d2) Q.T
  let z := fA (fM P.Z Q.Z) (fM P.Z Q.Z)
  let e := fS b a
  let f := fS z c
  let g := fA z c
  let h := fA b a
  ⟨fM e f, fM g h, fM f g, fM e h⟩

end Go.Proofs.YtoigcbkclcbmpaaGreatDoor
