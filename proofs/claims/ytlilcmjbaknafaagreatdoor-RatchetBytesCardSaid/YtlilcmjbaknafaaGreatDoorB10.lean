/- Part 10 of the texts of this claim, one behind the other. -/
import Derived.Test.YtlilcmjbaknafaaGreatDoorB9
import Derived.Laws.Strings
set_option linter.unusedVariables false
set_option linter.unusedSimpArgs false
set_option maxRecDepth 100000
namespace Go.Proofs.YtlilcmjbaknafaaGreatDoor
open Go.Px
def rdN (p : LN) : Nat := if p.length = 32 then bv p % 57896044618658097711785492504343953926634992332820282019728792003956564819968 % p25 else 0
theorem B6L (N : Nat) : fv (prt 51 N 255 0) (prt 51 N 255 1) (prt 51 N 255 2) (prt 51 N 255 3) (prt 51 N 255 4) = N % 57896044618658097711785492504343953926634992332820282019728792003956564819968 := by
  unfold fv prt
  simp only [Nat.reducePow, Nat.reduceMul]
  omega
theorem A73 (w N i j : Nat) : prt w N i j < 2 ^ w := Nat.mod_lt _ (Nat.two_pow_pos _)
theorem B0W (N i j : Nat) : prt 51 N i j < 4503599627370496 := Nat.lt_trans (A73 51 N i j) qD
theorem A3T {b s w : Nat} (hb : b < 2) (hs : s < w) : b <<< s < 2 ^ w := by
  rw [Nat.shiftLeft_eq]
  have h1 : 2 ^ s * 2 ≤ 2 ^ w := by rw [← Nat.pow_succ]; exact Nat.pow_le_pow_right qD hs
  have h2 : b * 2 ^ s ≤ 1 * 2 ^ s := Nat.mul_le_mul_right _ qO
  have h3 := Nat.two_pow_pos s
  omega
theorem A87 (pv : Value) (p : LN) (A : Mem) (hp : Rd A 1 pv p.length (nums .u8 p)) (hp256 : ∀ x ∈ p, x < 256) (hpl : p.length < 9223372036854775808) : FnX Tryz.prog 86 [pv] [] A fun r M J => M = [] ∧ J = [] ∧ Fe r (rdN p) := by
 refine FnX.enter (N := 33) Tryz.func86 rfl rfl rfl fun w => ?_
 refine B4 (D5 0) (A1 ?_)
 refine A4 rfl (C3 (cs := [E8, E8, E8, E8, E8]) kR rfl fun b2 => ?_)
 refine A0 (D3 0 2) (A1 ?_)
 refine A4 rfl (C3 (cs := [E8, E8, E8, E8, E8]) kR rfl fun b3 => ?_)
 refine A0 (D8 0 2 3) (A3 (A1 (mv_ ?_)))
 refine A2 (A0X hp rfl kR) rfl ?_
 refine A2 (D9 rfl rfl rfl) rfl ?_
 refine A0 (D7 0 2 3 7) ?_
 refine C0 rfl ?_ ?_ <;> intro hc
 ·
  have h32 : p.length ≠ 32 := by simp at hc; omega
  refine A1 ?_
  refine A2 (qw_ 5) rfl ?_
  refine A4 rfl (A8 rfl rfl Cel.cel kR ln5 al5 UpC.upd ?_)
  refine A0 (D5 2) (B0 (tr ?_))
  refine ⟨_, [], [], A4l rfl rfl kR At.mem qR, List.nil_sublist _, by simp, rfl, rfl, 0, 0, 0, 0, 0, rfl, by decide, by decide, by decide, by decide, by decide, ?_⟩
  rw [rdN, if_neg h32]; rfl
 ·
  have h32 : p.length = 32 := by simp at hc; omega
  have hN := B0T hp256
  refine A7 (nx (D8 0 2 3) (A3 (A1 (mv_ (A0 (D7 0 2 3 9) (A5 ?_))))))
  refine A1S (M' := [(b3, blk (nums .u64 (A1l 51 5 (bv p) 0)) 153), (b2, blk [.int .u64 0, .int .u64 0, .int .u64 0, .int .u64 0, .int .u64 0] 153)]) (Fit.eq (by rw [A3Q]; rfl)) qI ?_
  refine E1 (α := Nat) (fun i => [(0, pv), (2, (vP b2)), (3, (vP b3)), (9, .int .i64 (i : Int))]) (fun i => [(b3, blk (nums .u64 (A1l 51 5 (bv p) i)) 153), (b2, blk [.int .u64 0, .int .u64 0, .int .u64 0, .int .u64 0, .int .u64 0] 153)]) (fun _ => []) (fun i => i ≤ 255) (fun i => 255 - i) 0 qD (D7 0 2 3 9) .rfl qI ?_
  rintro i hi
  refine A1 ?_
  refine A2 (D9 rfl rfl rfl) rfl ?_
  refine A0 (E6 0 2 3 9 10) (A3 ?_)
  refine C0 rfl ?_ ?_ <;> intro hc
  ·
   have hlt : i < 255 := by simp at hc; omega
   have hbit := hN i
   rw [← Nat.shiftRight_eq_div_pow] at hbit
   have hb2 : bv p / 2 ^ i % 2 < 2 := Nat.mod_lt _ qD
   have hps := A3R (w := 51) (n := 5) (N := bv p) (i := i) qD qO
   have hpg := A27 (w := 51) (n := 5) (N := bv p) (i := i) (j := i / 51) qO
   have hpl := A73 51 (bv p) i (i / 51)
   have hsm := A3T (w := 51) hb2 (Nat.mod_lt i (by decide : 0 < 51))
   have hpb : p.getD (i / 8) 0 < 256 := getD_lt hp256 qD
   have hsr := Nat.shiftRight_le (p.getD (i / 8) 0) (i % 8)
   rw [← hpg] at hps hpl
   generalize bv p / 2 ^ i % 2 = bt at *
   have hmo : bt <<< (i % 51) % 2 ^ IntKind.u64.bits = bt <<< (i % 51) := Nat.mod_eq_of_lt (Nat.lt_trans hsm qD)
   have hto : IntKind.u64.wrap (bt : Int) = (bt : Int) := by rw [A7H, Nat.mod_eq_of_lt qO]
   refine A7 (nx (D7 0 2 3 9) (A3 (A5 (A1 (mv_ (as_ (A0 (E6 0 2 3 4 9) ?_)))))))
   refine G3 (.range 19) (zp 0 [0, 0, 0, 1, 0, 0, 0, 0, 1, 0, 0, 0, 0, 0, 0, 0, 0, 0, 0, 2]) kR kR fun hs => ?_
   refine fm_ hs ?_
   refine C2 hs rfl (A3w 51 rfl rfl rfl qD (A5a qO)) rfl ?_
   refine C2 hs rfl (F9 (e := 94) (n := 5) (sz := 1) (i := i / 51) rfl rfl kR kR rfl qO) rfl ?_
   refine H2 hs rfl (I3 (i / 51) rfl kR At.mem qO (by rw [Q3]; omega)) rfl ?_
   refine fm_ hs ?_
   refine fm_ hs ?_
   refine C2 hs rfl (A3w 8 rfl rfl rfl qD (A5a qO)) rfl ?_
   refine C2 hs rfl (B6b hp rfl rfl kR (i / 8) rfl qO) rfl ?_
   refine H2 hs rfl (A52 (hp.mono fun _ h => mA h) rfl kR qO) rfl ?_
   refine fm_ hs ?_
   refine C2 hs rfl (A3x 8 rfl rfl rfl qD) rfl ?_
   refine C2 hs rfl (T0 (i % 8) rfl rfl rfl (by show _ ≤ 8; omega)) rfl ?_
   refine C2 hs rfl (hbit ▸ N8 1 2 rfl rfl rfl rfl rfl (by show _ < 256; omega) qD) rfl ?_
   refine C2 hs rfl (K2 bt rfl kR hto) rfl ?_
   refine fm_ hs ?_
   refine C2 hs rfl (A3x 51 rfl rfl rfl qD) rfl ?_
   refine C2 hs rfl (hmo ▸ A2E rfl (i % 51) rfl rfl rfl (by show _ ≤ 64; omega)) rfl ?_
   refine C2 hs rfl (B2S rfl rfl rfl (Nat.lt_trans hpl qD) (Nat.lt_trans hsm qD)) rfl ?_
   refine C2 hs rfl (F9 (e := 94) (n := 5) (sz := 1) (i := i / 51) rfl rfl kR kR rfl qO) rfl ?_
   refine G2 rfl rfl rfl (I8 (i / 51) rfl rfl kR qO (by rw [Q3]; omega) UpC.upd ?_)
   refine P9 (nb (nx (D7 0 2 3 9) (A9 ?_)))
   refine A2 (D1 ((i + 1 : Nat) : Int) rfl rfl (E5 qO qO qO)) rfl ?_
   refine mv_ (C1 ?_)
   exact rn (i + 1) qO qO (D7 0 2 3 9) (Fit.eq (by rw [hps])) qI
  ·
   have hlt : i = 255 := by simp at hc; omega
   subst hlt
   refine D4 (te (re (be rfl (nx (D3 2 3) (A1 ?_)))))
   refine A2 (L8 (n := 5) (cs := nums .u64 (A1l 51 5 (bv p) 255)) rfl kR At.mem (by rw [nums_len, Q3])) rfl ?_
   refine A4 rfl (A8 (vs := nums .u64 (A1l 51 5 (bv p) 255)) rfl rfl rfl (by rw [nums_len, Q3]; kernel_rfl) (by rw [nums_len, Q3]; rfl) F3 UpC.upd ?_)
   refine A0 (D5 2) (B0 ?_)
   refine ⟨_, [], [], A4l rfl rfl kR At.mem (by rw [nums_len, Q3]), List.nil_sublist _, by simp, rfl, rfl, _, _, _, _, _, rfl, B0W _ _ _, B0W _ _ _, B0W _ _ _, B0W _ _ _, B0W _ _ _, ?_⟩
   rw [B6L, rdN, if_pos h32]
theorem A7j (v : Value) (x : Nat) (hx : Fe v x) (A : Mem) : FnX Tryz.prog 89 [v] [] A fun r M J => J = [] ∧ Sl 1 r 32 (nums .u8 (A1l 8 32 x 255)) M := by
 obtain ⟨a, b, c, d, e, rfl, ha, hb, hc, hd, he, rfl⟩ := hx
 refine FnX.enter (N := 80) Tryz.func89 rfl rfl rfl fun w => ?_
 refine B4 (D5 0) (A1 ?_)
 refine A4 rfl (bx_ fun b1 => ?_)
 refine as_ (A0 (D5 1) (A1 ?_))
 refine A2 (qw_ 5) rfl ?_
 refine C7 (aS rfl a0) kR (U2 _ _ _ _ _ qO qO qO qO qO _) rfl ?_
 rintro r3 M3 J3 ⟨rfl, rfl, a3, b3, c3, d3, e3, rfl, ha3, hb3, hc3, hd3, hv3, he3⟩
 refine C7 (aS rfl a0) kR (U2 _ _ _ _ _ qO qO qO qO qO _) rfl ?_
 rintro r4 M4 J4 ⟨rfl, rfl, a4, b4, c4, d4, e4, rfl, ha4, hb4, hc4, hd4, hv4, he4⟩
 have hz4 := A3N ha3 hb3 hc3 hd3 he3 ha4 hb4 hc4 hd4 hv4
 refine C7 (aS rfl a0) kR (U2 _ _ _ _ _ qO qO qO qO qO _) rfl ?_
 rintro r5 M5 J5 ⟨rfl, rfl, a5, b5, c5, d5, e5, rfl, ha5, hb5, hc5, hd5, hv5, he5⟩
 have hz5 := A3N ha4 hb4 hc4 hd4 he4 ha5 hb5 hc5 hd5 hv5
 have hx5 : fv a5 b5 c5 d5 e5 % p25 = fv a b c d e % p25 := by rw [N1 hv5, N1 hv4, N1 hv3]
 have hV5 := B8I ha5 hb5 hc5 hd5 hz5
 clear hv3 hv4 hv5 he3 he4 he5 hz4 ha3 hb3 hc3 hd3 ha4 hb4 hc4 hd4
 refine A4 rfl (A8 rfl rfl Cel.cel kR ln5 al5 UpC.upd ?_)
 refine A0 (D5 1) (A1 ?_)
 refine A2 (qi_ 0 94 5 1 0) rfl ?_
 refine A2 ql_ rfl ?_
 refine A2 (G1 18446744073709551616 (b := 19) rfl rfl rfl rfl rfl rfl) rfl ?_
 refine A2 (N7 51 2251799813685248 rfl rfl rfl rfl qD) rfl ?_
 refine as_ (A0 (D3 1 3) (A3 (A1 (as_ (A0 (D8 1 3 4) (A5 ?_))))))
 refine Z7 5 ?_
 refine H3 ?_
 refine A3 (A1 (mv_ ?_))
 refine A2 (F4 true rfl rfl (ltT qD)) rfl ?_
 refine A0 (D7 1 3 4 17) ?_
 refine C8 rfl ?_
 refine A7 (nx (D8 1 3 4) (A3 (A5 (A9 (mv_ ?_)))))
 refine A2 (qi_ 1 94 5 1 1) rfl ?_
 refine A2 ql_ rfl ?_
 refine mv_ ?_
 refine A2 (G1 18446744073709551616 rfl rfl rfl rfl rfl rfl) rfl ?_
 refine A2 (N7 51 2251799813685248 rfl rfl rfl rfl qD) rfl ?_
 refine as_ (C1 (nb (nx (D8 1 3 4) (A9 (mv_ ?_)))))
 refine A2 (D1 (2 : Int) rfl rfl (E5 qD qD qD)) rfl ?_
 refine as_ (C1 ?_)
 refine un (D8 1 3 4) ?_
 refine H3 ?_
 refine A3 (A1 (mv_ ?_))
 refine A2 (F4 true rfl rfl (ltT qD)) rfl ?_
 refine A0 (D7 1 3 4 17) ?_
 refine C8 rfl ?_
 refine A7 (nx (D8 1 3 4) (A3 (A5 (A9 (mv_ ?_)))))
 refine A2 (qi_ 2 94 5 1 2) rfl ?_
 refine A2 ql_ rfl ?_
 refine mv_ ?_
 refine A2 (G1 18446744073709551616 rfl rfl rfl rfl rfl rfl) rfl ?_
 refine A2 (N7 51 2251799813685248 rfl rfl rfl rfl qD) rfl ?_
 refine as_ (C1 (nb (nx (D8 1 3 4) (A9 (mv_ ?_)))))
 refine A2 (D1 (3 : Int) rfl rfl (E5 qD qD qD)) rfl ?_
 refine as_ (C1 ?_)
 refine un (D8 1 3 4) ?_
 refine H3 ?_
 refine A3 (A1 (mv_ ?_))
 refine A2 (F4 true rfl rfl (ltT qD)) rfl ?_
 refine A0 (D7 1 3 4 17) ?_
 refine C8 rfl ?_
 refine A7 (nx (D8 1 3 4) (A3 (A5 (A9 (mv_ ?_)))))
 refine A2 (qi_ 3 94 5 1 3) rfl ?_
 refine A2 ql_ rfl ?_
 refine mv_ ?_
 refine A2 (G1 18446744073709551616 rfl rfl rfl rfl rfl rfl) rfl ?_
 refine A2 (N7 51 2251799813685248 rfl rfl rfl rfl qD) rfl ?_
 refine as_ (C1 (nb (nx (D8 1 3 4) (A9 (mv_ ?_)))))
 refine A2 (D1 (4 : Int) rfl rfl (E5 qD qD qD)) rfl ?_
 refine as_ (C1 ?_)
 refine un (D8 1 3 4) ?_
 refine H3 ?_
 refine A3 (A1 (mv_ ?_))
 refine A2 (F4 true rfl rfl (ltT qD)) rfl ?_
 refine A0 (D7 1 3 4 17) ?_
 refine C8 rfl ?_
 refine A7 (nx (D8 1 3 4) (A3 (A5 (A9 (mv_ ?_)))))
 refine A2 (qi_ 4 94 5 1 4) rfl ?_
 refine A2 ql_ rfl ?_
 refine mv_ ?_
 refine A2 (G1 18446744073709551616 rfl rfl rfl rfl rfl rfl) rfl ?_
 refine A2 (N7 51 2251799813685248 rfl rfl rfl rfl qD) rfl ?_
 refine as_ (C1 (nb (nx (D8 1 3 4) (A9 (mv_ ?_)))))
 refine A2 (D1 (5 : Int) rfl rfl (E5 qD qD qD)) rfl ?_
 refine as_ (C1 ?_)
 refine un (D8 1 3 4) ?_
 refine H3 ?_
 refine A3 (A1 (mv_ ?_))
 refine A2 (F4 false rfl rfl (ltF qD)) rfl ?_
 refine A0 (D7 1 3 4 17) ?_
 refine C9 rfl ?_
 refine D4 (te (ue (be rfl (nx (D3 1 3) ?_))))
 obtain ⟨q, hqe, hq⟩ := B6J ha5 hb5 hc5 hd5 hz5
 rw [← hqe]
 clear hqe
 refine A1 ?_
 refine A2 (qi_ 0 94 5 1 0) rfl ?_
 refine A2 ql_ rfl ?_
 refine mv_ ?_
 refine A2 (N6 18446744073709551616 (a := 19) rfl rfl rfl rfl rfl rfl) rfl ?_
 refine A2 (G1 18446744073709551616 rfl rfl rfl rfl rfl rfl) rfl ?_
 refine A2 (qi_ 0 94 5 1 0) rfl ?_
 refine A4 rfl (E0 rfl rfl rfl kR SetC.set UpC.upd ?_)
 refine A0 (D5 1) (A3 (A1 (mv_ (A0 (D3 1 32) (A5 ?_)))))
 refine Z7 5 ?_
 refine H3 ?_
 refine A1 ?_
 refine A2 (F4 true rfl rfl (ltT qD)) rfl ?_
 refine A0 (D8 1 32 33) (A3 ?_)
 refine C8 rfl ?_
 refine A7 (nx (D3 1 32) (A3 (A5 (A1 (mv_ (as_ (A0 (D8 1 5 32) ?_)))))))
 refine D2 (.range 10) (zp 0 [0, 0, 0, 1, 0, 0, 1, 0, 0, 0, 2]) kR kR fun hs => ?_
 refine fm_ hs ?_
 refine C2 hs rfl (D1 (1 : Int) rfl rfl (E5 qD qD qD)) rfl ?_
 refine C2 hs rfl (qi_ 1 94 5 1 1) rfl ?_
 refine H2 hs rfl ql_ rfl ?_
 refine fm_ hs ?_
 refine C2 hs rfl (qi_ 0 94 5 1 0) rfl ?_
 refine H2 hs rfl ql_ rfl ?_
 refine C2 hs rfl (N7 51 2251799813685248 rfl rfl rfl rfl qD) rfl ?_
 refine C2 hs rfl (G1 18446744073709551616 rfl rfl rfl rfl rfl rfl) rfl ?_
 refine C2 hs rfl (qi_ 1 94 5 1 1) rfl ?_
 refine G2 rfl rfl rfl (E0 rfl rfl rfl kR SetC.set UpC.upd ?_)
 refine E9 (D8 1 5 32) (A9 (mv_ ?_))
 refine A2 (qi_ 0 94 5 1 0) rfl ?_
 refine A2 ql_ rfl ?_
 refine A2 (N8 51 2251799813685248 rfl rfl rfl rfl rfl (by show _ < 18446744073709551616; first | assumption | exact Nat.mod_lt _ qD | omega) qD) rfl ?_
 refine A2 (qi_ 0 94 5 1 0) rfl ?_
 refine A4 rfl (E0 rfl rfl rfl kR SetC.set UpC.upd ?_)
 refine C1 (nb (nx (D3 1 32) (A9 ?_)))
 refine A2 (D1 (1 : Int) rfl rfl (E5 qD qD qD)) rfl ?_
 refine mv_ (C1 ?_)
 refine un (D3 1 32) ?_
 refine H3 ?_
 refine A1 ?_
 refine A2 (F4 true rfl rfl (ltT qD)) rfl ?_
 refine A0 (D8 1 32 33) (A3 ?_)
 refine C8 rfl ?_
 refine A7 (nx (D3 1 32) (A3 (A5 (A1 (mv_ (as_ (A0 (D8 1 5 32) ?_)))))))
 refine D2 (.range 10) (zp 0 [0, 0, 0, 1, 0, 0, 1, 0, 0, 0, 2]) kR kR fun hs => ?_
 refine fm_ hs ?_
 refine C2 hs rfl (D1 (2 : Int) rfl rfl (E5 qD qD qD)) rfl ?_
 refine C2 hs rfl (qi_ 2 94 5 1 2) rfl ?_
 refine H2 hs rfl ql_ rfl ?_
 refine fm_ hs ?_
 refine C2 hs rfl (qi_ 1 94 5 1 1) rfl ?_
 refine H2 hs rfl ql_ rfl ?_
 refine C2 hs rfl (N7 51 2251799813685248 rfl rfl rfl rfl qD) rfl ?_
 refine C2 hs rfl (G1 18446744073709551616 rfl rfl rfl rfl rfl rfl) rfl ?_
 refine C2 hs rfl (qi_ 2 94 5 1 2) rfl ?_
 refine G2 rfl rfl rfl (E0 rfl rfl rfl kR SetC.set UpC.upd ?_)
 refine E9 (D8 1 5 32) (A9 (mv_ ?_))
 refine A2 (qi_ 1 94 5 1 1) rfl ?_
 refine A2 ql_ rfl ?_
 refine A2 (N8 51 2251799813685248 rfl rfl rfl rfl rfl (by show _ < 18446744073709551616; first | assumption | exact Nat.mod_lt _ qD | omega) qD) rfl ?_
 refine A2 (qi_ 1 94 5 1 1) rfl ?_
 refine A4 rfl (E0 rfl rfl rfl kR SetC.set UpC.upd ?_)
 refine C1 (nb (nx (D3 1 32) (A9 ?_)))
 refine A2 (D1 (2 : Int) rfl rfl (E5 qD qD qD)) rfl ?_
 refine mv_ (C1 ?_)
 refine un (D3 1 32) ?_
 refine H3 ?_
 refine A1 ?_
 refine A2 (F4 true rfl rfl (ltT qD)) rfl ?_
 refine A0 (D8 1 32 33) (A3 ?_)
 refine C8 rfl ?_
 refine A7 (nx (D3 1 32) (A3 (A5 (A1 (mv_ (as_ (A0 (D8 1 5 32) ?_)))))))
 refine D2 (.range 10) (zp 0 [0, 0, 0, 1, 0, 0, 1, 0, 0, 0, 2]) kR kR fun hs => ?_
 refine fm_ hs ?_
 refine C2 hs rfl (D1 (3 : Int) rfl rfl (E5 qD qD qD)) rfl ?_
 refine C2 hs rfl (qi_ 3 94 5 1 3) rfl ?_
 refine H2 hs rfl ql_ rfl ?_
 refine fm_ hs ?_
 refine C2 hs rfl (qi_ 2 94 5 1 2) rfl ?_
 refine H2 hs rfl ql_ rfl ?_
 refine C2 hs rfl (N7 51 2251799813685248 rfl rfl rfl rfl qD) rfl ?_
 refine C2 hs rfl (G1 18446744073709551616 rfl rfl rfl rfl rfl rfl) rfl ?_
 refine C2 hs rfl (qi_ 3 94 5 1 3) rfl ?_
 refine G2 rfl rfl rfl (E0 rfl rfl rfl kR SetC.set UpC.upd ?_)
 refine E9 (D8 1 5 32) (A9 (mv_ ?_))
 refine A2 (qi_ 2 94 5 1 2) rfl ?_
 refine A2 ql_ rfl ?_
 refine A2 (N8 51 2251799813685248 rfl rfl rfl rfl rfl (by show _ < 18446744073709551616; first | assumption | exact Nat.mod_lt _ qD | omega) qD) rfl ?_
 refine A2 (qi_ 2 94 5 1 2) rfl ?_
 refine A4 rfl (E0 rfl rfl rfl kR SetC.set UpC.upd ?_)
 refine C1 (nb (nx (D3 1 32) (A9 ?_)))
 refine A2 (D1 (3 : Int) rfl rfl (E5 qD qD qD)) rfl ?_
 refine mv_ (C1 ?_)
 refine un (D3 1 32) ?_
 refine H3 ?_
 refine A1 ?_
 refine A2 (F4 true rfl rfl (ltT qD)) rfl ?_
 refine A0 (D8 1 32 33) (A3 ?_)
 refine C8 rfl ?_
 refine A7 (nx (D3 1 32) (A3 (A5 (A1 (mv_ (as_ (A0 (D8 1 5 32) ?_)))))))
 refine D2 (.range 10) (zp 0 [0, 0, 0, 1, 0, 0, 1, 0, 0, 0, 2]) kR kR fun hs => ?_
 refine fm_ hs ?_
 refine C2 hs rfl (D1 (4 : Int) rfl rfl (E5 qD qD qD)) rfl ?_
 refine C2 hs rfl (qi_ 4 94 5 1 4) rfl ?_
 refine H2 hs rfl ql_ rfl ?_
 refine fm_ hs ?_
 refine C2 hs rfl (qi_ 3 94 5 1 3) rfl ?_
 refine H2 hs rfl ql_ rfl ?_
 refine C2 hs rfl (N7 51 2251799813685248 rfl rfl rfl rfl qD) rfl ?_
 refine C2 hs rfl (G1 18446744073709551616 rfl rfl rfl rfl rfl rfl) rfl ?_
 refine C2 hs rfl (qi_ 4 94 5 1 4) rfl ?_
 refine G2 rfl rfl rfl (E0 rfl rfl rfl kR SetC.set UpC.upd ?_)
 refine E9 (D8 1 5 32) (A9 (mv_ ?_))
 refine A2 (qi_ 3 94 5 1 3) rfl ?_
 refine A2 ql_ rfl ?_
 refine A2 (N8 51 2251799813685248 rfl rfl rfl rfl rfl (by show _ < 18446744073709551616; first | assumption | exact Nat.mod_lt _ qD | omega) qD) rfl ?_
 refine A2 (qi_ 3 94 5 1 3) rfl ?_
 refine A4 rfl (E0 rfl rfl rfl kR SetC.set UpC.upd ?_)
 refine C1 (nb (nx (D3 1 32) (A9 ?_)))
 refine A2 (D1 (4 : Int) rfl rfl (E5 qD qD qD)) rfl ?_
 refine mv_ (C1 ?_)
 refine un (D3 1 32) ?_
 refine H3 ?_
 refine A1 ?_
 refine A2 (F4 false rfl rfl (ltF qD)) rfl ?_
 refine A0 (D8 1 32 33) (A3 ?_)
 refine C9 rfl ?_
 refine D4 (te (ue (be rfl (nx (D5 1) (A1 ?_)))))
 refine A2 (qi_ 4 94 5 1 4) rfl ?_
 refine A2 ql_ rfl ?_
 refine A2 (N8 51 2251799813685248 rfl rfl rfl rfl rfl (by show _ < 18446744073709551616; first | assumption | exact Nat.mod_lt _ qD | omega) qD) rfl ?_
 refine A2 (qi_ 4 94 5 1 4) rfl ?_
 refine A4 rfl (E0 rfl rfl rfl kR SetC.set UpC.upd ?_)
 refine A0 (D5 1) (A1 ?_)
 refine A4 rfl (A0I (e := 5) (k := .u8) (by_ := 1) 32 rfl rfl kR rfl rfl qD qD rfl fun b55 => ?_)
 obtain ⟨f0, f1, f2, f3, f4, g0, g1, g2, g3, g4, k0, k1, k2, k3, k4, hF⟩ := B0P ha5 hb5 hc5 hd5 hz5 hq
 rw [← g0, ← g1, ← g2, ← g3, ← g4]
 clear g0 g1 g2 g3 g4
 rw [hx5] at hF
 refine as_ (A0 (D3 1 6) (A3 (A1 (mv_ (A0 (D8 1 6 56) (A5 ?_))))))
 refine A1S (M' := [(b55, blk (nums .u8 (A1l 8 32 (fv f0 f1 f2 f3 f4) 0)) 5), (b1, blk (nums .u64 [f0, f1, f2, f3, f4]) 153)]) (Fit.eq (by rw [A3Q]; rfl)) qI ?_
 have hN := B8J k0 k1 k2 k3 k4
 have hfl : [f0, f1, f2, f3, f4].length = 5 := rfl
 have hfb : ∀ x ∈ [f0, f1, f2, f3, f4], x < 2251799813685248 := by intro x hx; simp only [List.mem_cons, List.not_mem_nil, or_false] at hx; rcases hx with rfl | rfl | rfl | rfl | rfl <;> assumption
 generalize [f0, f1, f2, f3, f4] = fs at *
 rw [← hF]
 generalize fv f0 f1 f2 f3 f4 = X at *
 refine E1 (α := Nat) (fun i => [(1, (vP b1)), (6, .slice (some ⟨b55, 0, none⟩) 32 32), (56, .int .i64 (i : Int))]) (fun i => [(b55, blk (nums .u8 (A1l 8 32 X i)) 5), (b1, blk (nums .u64 fs) 153)]) (fun _ => []) (fun i => i ≤ 255) (fun i => 255 - i) 0 qD (D8 1 6 56) .rfl qI ?_
 rintro i hi
 refine A1 ?_
 refine A2 (D9 rfl rfl rfl) rfl ?_
 refine A0 (D7 1 6 56 57) (A3 ?_)
 refine C0 rfl ?_ ?_ <;> intro hc
 ·
  have hlt : i < 255 := by simp at hc; omega
  have hbit := hN i hlt
  rw [← Nat.shiftRight_eq_div_pow] at hbit
  have hb2 : X / 2 ^ i % 2 < 2 := Nat.mod_lt _ qD
  have hps := A3R (w := 8) (n := 32) (N := X) (i := i) qD qO
  have hpg := A27 (w := 8) (n := 32) (N := X) (i := i) (j := i / 8) qO
  have hpl := A73 8 X i (i / 8)
  have hsm := A3T (w := 8) hb2 (Nat.mod_lt i (by decide : 0 < 8))
  have hpb : fs.getD (i / 51) 0 < 2251799813685248 := getD_lt hfb qD
  have hsr := Nat.shiftRight_le (fs.getD (i / 51) 0) (i % 51)
  rw [← hpg] at hps hpl
  generalize X / 2 ^ i % 2 = bt at *
  have hmo : bt <<< (i % 8) % 2 ^ IntKind.u8.bits = bt <<< (i % 8) := Nat.mod_eq_of_lt hsm
  have hto : IntKind.u8.wrap (bt : Int) = (bt : Int) := by rw [B8f, Nat.mod_eq_of_lt qO]
  refine A7 (nx (D8 1 6 56) (A3 (A5 (A1 (mv_ (as_ (A0 (D7 1 6 7 56) ?_)))))))
  refine G3 (.range 19) (zp 0 [0, 0, 0, 0, 1, 0, 0, 0, 1, 0, 0, 0, 0, 0, 0, 0, 0, 0, 0, 2]) kR kR fun hs => ?_
  refine fm_ hs ?_
  refine fm_ hs ?_
  refine C2 hs rfl (A3w 8 rfl rfl rfl qD (A5a qO)) rfl ?_
  refine C2 hs rfl (K9 (e := 5) (sz := 1) (i := i / 8) rfl rfl kR kR rfl qO) rfl ?_
  refine H2 hs rfl (I3 (i / 8) rfl kR At.mem qO (by rw [Q3]; omega)) rfl ?_
  refine fm_ hs ?_
  refine C2 hs rfl (A3w 51 rfl rfl rfl qD (A5a qO)) rfl ?_
  refine C2 hs rfl (F9 (e := 94) (n := 5) (sz := 1) (i := i / 51) rfl rfl kR kR rfl qO) rfl ?_
  refine H2 hs rfl (I3 (i / 51) rfl kR At.mem qO qO) rfl ?_
  refine fm_ hs ?_
  refine C2 hs rfl (A3x 51 rfl rfl rfl qD) rfl ?_
  refine C2 hs rfl (T0 (i % 51) rfl rfl rfl (by show _ ≤ 64; omega)) rfl ?_
  refine C2 hs rfl (hbit ▸ N8 1 2 rfl rfl rfl rfl rfl (by show _ < 18446744073709551616; omega) qD) rfl ?_
  refine C2 hs rfl (K2 bt rfl kR hto) rfl ?_
  refine fm_ hs ?_
  refine C2 hs rfl (A3x 8 rfl rfl rfl qD) rfl ?_
  refine C2 hs rfl (hmo ▸ A2E rfl (i % 8) rfl rfl rfl (by show _ ≤ 8; omega)) rfl ?_
  refine C2 hs rfl (B2S rfl rfl rfl hpl hsm) rfl ?_
  refine C2 hs rfl (K9 (e := 5) (sz := 1) (i := i / 8) rfl rfl kR kR rfl qO) rfl ?_
  refine G2 rfl rfl rfl (I8 (i / 8) rfl rfl kR qO (by rw [Q3]; omega) UpC.upd ?_)
  refine P9 (nb (nx (D8 1 6 56) (A9 ?_)))
  refine A2 (D1 ((i + 1 : Nat) : Int) rfl rfl (E5 qO qO qO)) rfl ?_
  refine mv_ (C1 ?_)
  exact rn (i + 1) qO qO (D8 1 6 56) (Fit.eq (by rw [hps])) qI
 ·
  have hlt : i = 255 := by simp at hc; omega
  subst hlt
  refine D4 (te (re (be rfl (nx (D5 6) (A1 (mv_ (as_ (A0 (D5 2) ?_))))))))
  refine B0 ?_
  exact ⟨_, [_], [], I4 rfl rfl, List.Sublist.cons_cons _ (List.nil_sublist _), by simp, rfl, Sl.fresh (by rw [nums_len, Q3]) qD⟩

def pwE (x N i : Nat) : Nat := x ^ (N / 2 ^ i) % p25
theorem B3I (x N i : Nat) : pwE x N i = (if N / 2 ^ i % 2 = 1 then pwE x N (i + 1) * pwE x N (i + 1) % p25 * (x % p25) % p25 else pwE x N (i + 1) * pwE x N (i + 1) % p25) := by
  have h : N / 2 ^ i = 2 * (N / 2 ^ (i + 1)) + N / 2 ^ i % 2 := by
    rw [Nat.pow_succ, ← Nat.div_div_eq_div_mul]; omega
  unfold pwE
  have hb : N / 2 ^ i % 2 = 0 ∨ N / 2 ^ i % 2 = 1 := by omega
  rcases hb with hb | hb
  · rw [if_neg qO]
    conv => lhs; rw [h, hb, Nat.add_zero, Nat.two_mul, Nat.pow_add, Nat.mul_mod]
  · rw [if_pos hb]
    conv => lhs; rw [h, hb, Nat.two_mul, Nat.pow_add, Nat.pow_add, Nat.pow_one, Nat.mul_mod, Nat.mul_mod (x ^ _)]
theorem A7k (v : Value) (x : Nat) (hx : Fe v x) (es : LN) (hes : es.length = 32) (he256 : ∀ y ∈ es, y < 256) (A : Mem) : FnX Tryz.prog 108 [v, .agg (nums .u8 es).toArray] [] A fun r M J => M = [] ∧ J = [] ∧ Fe r (x ^ bv es % p25) := by
 have hx0 := hx
 have hxl := hx.lt
 obtain ⟨a, b, c, d, e, rfl, -⟩ := hx
 refine FnX.enter (N := 27) Tryz.func108 rfl rfl rfl fun w => ?_
 refine B4 (D3 0 1) (A1 ?_)
 refine A4 rfl (bx_ fun b2 => ?_)
 refine A4 rfl (bx_ fun b3 => ?_)
 refine A4 rfl (C3 (cs := [E8, E8, E8, E8, E8]) kR rfl fun b4 => ?_)
 refine A0 (D8 2 3 4) (A1 ?_)
 refine C7 (aS rfl a0) kR (A6A 1 qD _) rfl ?_
 rintro r1 M1 J1 ⟨rfl, rfl, hr1⟩
 have hr10 := hr1
 obtain ⟨o0, o1, o2, o3, o4, rfl, -⟩ := hr1
 refine A4 rfl (C3 (cs := [E8, E8, E8, E8, E8]) kR rfl fun b5 => ?_)
 refine A4 rfl (A8 rfl rfl Cel.cel kR ln5 al5 UpC.upd ?_)
 refine A0 (D7 2 3 4 5) (A3 (A1 (as_ (A0 (E6 2 3 4 5 6) (A5 ?_)))))
 refine E1 (α := Nat × Nat × Nat × Nat × Nat × Nat) (fun y => [(2, (vP b2)), (3, (vP b3)), (4, (vP b4)), (5, (vP b5)), (6, .int .i64 ((y.1 : Int) - 1))]) (fun y => [(b5, blk [.int .u64 (y.2.1 : Int), .int .u64 (y.2.2.1 : Int), .int .u64 (y.2.2.2.1 : Int), .int .u64 (y.2.2.2.2.1 : Int), .int .u64 (y.2.2.2.2.2 : Int)] 153), (b4, blk [.int .u64 0, .int .u64 0, .int .u64 0, .int .u64 0, .int .u64 0] 153), (b3, blk (nums .u8 es) 150), (b2, blk [.int .u64 (a : Int), .int .u64 (b : Int), .int .u64 (c : Int), .int .u64 (d : Int), .int .u64 (e : Int)] 153)]) (fun _ => []) (fun y => y.1 ≤ 256 ∧ Fe (el y.2.1 y.2.2.1 y.2.2.2.1 y.2.2.2.2.1 y.2.2.2.2.2) (pwE x (bv es) y.1)) (fun y => y.1) (256, o0, o1, o2, o3, o4) ⟨Nat.le_refl _, by rw [show pwE x (bv es) 256 = 1 by unfold pwE; rw [Nat.div_eq_of_lt (by have := B8O he256; rw [hes] at this; exact this)]; rfl]; exact hr10⟩ (E6 2 3 4 5 6) .rfl qI ?_
 rintro ⟨j, o0, o1, o2, o3, o4⟩ ⟨hj, ho⟩
 dsimp only at hj ho ⊢
 refine A3 (A1 (mv_ ?_))
 refine A2 (D9 rfl rfl rfl) rfl ?_
 refine A0 (H5 2 3 4 5 6 9) ?_
 refine C0 rfl ?_ ?_ <;> intro hc
 ·
  have hj0 : 0 < j := by simp at hc; omega
  obtain ⟨i, rfl⟩ : ∃ i, j = i + 1 := ⟨j - 1, by omega⟩
  have ei : ((i + 1 : Nat) : Int) - 1 = (i : Int) := by omega
  rw [ei]
  have hps := B3I x (bv es) i
  have hbit := B0T he256 i
  rw [← Nat.shiftRight_eq_div_pow] at hbit
  have hpb : es.getD (i / 8) 0 < 256 := getD_lt he256 qD
  have hsr := Nat.shiftRight_le (es.getD (i / 8) 0) (i % 8)
  have hbt : bv es / 2 ^ i % 2 < 2 := Nat.mod_lt _ qD
  generalize bv es / 2 ^ i % 2 = bt at *
  refine A7 (nx (E6 2 3 4 5 6) (A3 (A5 (A1 ?_))))
  refine A2 (qw_ 5) rfl ?_
  refine C7 (aS rfl a0) kR (A2M _ _ ho _) rfl ?_
  rintro r2 M2 J2 ⟨rfl, rfl, hr2⟩
  have hr20 := hr2
  obtain ⟨s0, s1, s2, s3, s4, rfl, -⟩ := hr2
  refine A4 rfl (A8 rfl rfl Cel.cel kR ln5 al5 UpC.upd ?_)
  refine A0 (E6 2 3 4 5 6) (A1 (mv_ ?_))
  refine A2 (A3w 8 rfl rfl rfl qD (A5a qO)) rfl ?_
  refine A2 (F9 (e := 5) (n := 32) (sz := 1) (i := i / 8) rfl rfl kR kR rfl qO) rfl ?_
  refine A2 (I3 (i / 8) rfl kR At.mem qO qO) rfl ?_
  refine mv_ ?_
  refine A2 (A3x 8 rfl rfl rfl qD) rfl ?_
  refine A2 (T0 (i % 8) rfl rfl rfl (by show _ ≤ 8; omega)) rfl ?_
  refine A2 (hbit ▸ N8 1 2 rfl rfl rfl rfl rfl (by show _ < 256; omega) qD) rfl ?_
  refine A2 (D9 rfl rfl rfl) rfl ?_
  refine A0 (H5 2 3 4 5 6 22) ?_
  refine C0 rfl ?_ ?_ <;> intro hc
  ·
   have hb1 : bt = 1 := by simp at hc; omega
   rw [if_pos hb1] at hps
   refine A9 ?_
   refine A2 (qw_ 5) rfl ?_
   refine A2 (qw_ 5) rfl ?_
   refine C7 (aS rfl (aS rfl a0)) kR (A3P _ _ _ _ hr20 hx0 _) rfl ?_
   rintro r3 M3 J3 ⟨rfl, rfl, hr3⟩
   rw [Nat.mod_eq_of_lt hxl] at hps
   rw [← hps] at hr3
   have hr30 := hr3
   obtain ⟨t0, t1, t2, t3, t4, rfl, -⟩ := hr3
   refine A4 rfl (A8 rfl rfl Cel.cel kR ln5 al5 UpC.upd ?_)
   refine C1 (nb (nx (E6 2 3 4 5 6) (A9 (mv_ ?_))))
   refine A2 (D1 ((i : Int) - 1) rfl rfl (A0q rfl qO qO)) rfl ?_
   refine as_ (C1 ?_)
   exact rn (i, t0, t1, t2, t3, t4) ⟨by dsimp only; omega, hr30⟩ (by dsimp only; omega) (E6 2 3 4 5 6) .rfl qI
  ·
   have hb1 : ¬ bt = 1 := by simp at hc; omega
   rw [if_neg hb1] at hps
   refine A7 (nb (nx (E6 2 3 4 5 6) (A9 (mv_ ?_))))
   refine A2 (D1 ((i : Int) - 1) rfl rfl (A0q rfl qO qO)) rfl ?_
   refine as_ (C1 ?_)
   exact rn (i, s0, s1, s2, s3, s4) ⟨by dsimp only; omega, by dsimp only; rw [hps]; exact hr20⟩ (by dsimp only; omega) (E6 2 3 4 5 6) .rfl qI
 ·
  have hj0 : j = 0 := by simp at hc; omega
  subst hj0
  refine D4 (te (re (be rfl (nx (D3 4 5) (A1 ?_)))))
  refine A2 (qw_ 5) rfl ?_
  refine A4 rfl (A8 rfl rfl Cel.cel kR ln5 al5 UpC.upd ?_)
  refine A0 (D5 4) (B0 ?_)
  refine ⟨_, [], [], A4l rfl rfl kR At.mem qR, List.nil_sublist _, by simp, rfl, rfl, ?_⟩
  have : pwE x (bv es) 0 = x ^ bv es % p25 := by unfold pwE; rw [Nat.pow_zero, Nat.div_one]
  rw [← this]; exact ho

theorem B3J {n i : Nat} (h : i < n) : (2 ^ n - 1) / 2 ^ i % 2 = 1 := by
  have := Nat.testBit_two_pow_sub_one n i
  rw [Nat.testBit_eq_decide_div_mod_eq] at this
  simpa [h] using this
theorem B0X {n : Nat} (h : 8 ≤ n) : (A1l 8 32 (2 ^ n - 1) n).getD 0 0 = 255 := by
  rw [A27 qD, prt, Nat.mul_zero, Nat.pow_zero, Nat.div_one]
  obtain ⟨m, rfl⟩ : ∃ m, n = m + 8 := ⟨n - 8, by omega⟩
  have h1 := Nat.two_pow_pos m
  have e : (2 ^ (m + 8) - 1) % 2 ^ (m + 8) = 2 ^ (m + 8) - 1 := Nat.mod_eq_of_lt (Nat.sub_lt (Nat.two_pow_pos _) qD)
  rw [e, Nat.pow_add]
  simp only [Nat.reducePow]
  omega
theorem B6M {p : LN} (x : Nat) (h : 0 < p.length) : bv (p.set 0 x) + p.getD 0 0 = bv p + x := by
  cases p with
  | nil => simp at h
  | cons b r => simp [bv]; omega
theorem B0Y (N n : Nat) (h : n ≤ 256) : bv (A1l 8 32 N n) = N % 2 ^ n := by
  unfold A1l prt
  rw [A3S, Nat.mod_eq_of_lt]
  exact Nat.lt_of_lt_of_le (Nat.mod_lt _ (Nat.two_pow_pos _)) (Nat.pow_le_pow_right qD qO)
theorem B0Z (n d : Nat) (hn : 8 ≤ n) (hn2 : n ≤ 256) (hd : 1 < d) (hd2 : d ≤ 256) (A : Mem) : FnX Tryz.prog 109 [.int .i64 (n : Int), .int .u16 (d : Int)] [] A fun r M J => M = [] ∧ J = [] ∧ ∃ es : LN, r = .agg (nums .u8 es).toArray ∧ es.length = 32 ∧ (∀ y ∈ es, y < 256) ∧ bv es = 2 ^ n - d := by
  refine FnX.enter (N := 47) Tryz.func109 rfl rfl rfl fun w => ?_
  refine B4 (D3 0 1) (A1 ?_)
  refine A4 rfl (C3 (cs := [zu8, zu8, zu8, zu8, zu8, zu8, zu8, zu8, zu8, zu8, zu8, zu8, zu8, zu8, zu8, zu8, zu8, zu8, zu8, zu8, zu8, zu8, zu8, zu8, zu8, zu8, zu8, zu8, zu8, zu8, zu8, zu8]) kR rfl fun b4 => ?_)
  refine A0 (D8 0 1 4) (A1 ?_)
  refine A4 rfl (C3 (cs := [zu8, zu8, zu8, zu8, zu8, zu8, zu8, zu8, zu8, zu8, zu8, zu8, zu8, zu8, zu8, zu8, zu8, zu8, zu8, zu8, zu8, zu8, zu8, zu8, zu8, zu8, zu8, zu8, zu8, zu8, zu8, zu8]) kR rfl fun b5 => ?_)
  refine A0 (D7 0 1 4 5) (A3 (A1 (mv_ (mv_ (A0 (E6 1 4 5 9 10) (A5 ?_))))))
  refine A1S (M' := [(b5, blk (nums .u8 (A1l 8 32 (2 ^ n - 1) 0)) 150), (b4, blk [.int .u8 0, .int .u8 0, .int .u8 0, .int .u8 0, .int .u8 0, .int .u8 0, .int .u8 0, .int .u8 0, .int .u8 0, .int .u8 0, .int .u8 0, .int .u8 0, .int .u8 0, .int .u8 0, .int .u8 0, .int .u8 0, .int .u8 0, .int .u8 0, .int .u8 0, .int .u8 0, .int .u8 0, .int .u8 0, .int .u8 0, .int .u8 0, .int .u8 0, .int .u8 0, .int .u8 0, .int .u8 0, .int .u8 0, .int .u8 0, .int .u8 0, .int .u8 0] 150)]) (Fit.eq (by rw [A3Q]; rfl)) qI ?_
  refine E1 (α := Nat) (fun i => [(1, .int .u16 (d : Int)), (4, (vP b4)), (5, (vP b5)), (9, .int .i64 (n : Int)), (10, .int .i64 (i : Int))]) (fun i => [(b5, blk (nums .u8 (A1l 8 32 (2 ^ n - 1) i)) 150), (b4, blk [.int .u8 0, .int .u8 0, .int .u8 0, .int .u8 0, .int .u8 0, .int .u8 0, .int .u8 0, .int .u8 0, .int .u8 0, .int .u8 0, .int .u8 0, .int .u8 0, .int .u8 0, .int .u8 0, .int .u8 0, .int .u8 0, .int .u8 0, .int .u8 0, .int .u8 0, .int .u8 0, .int .u8 0, .int .u8 0, .int .u8 0, .int .u8 0, .int .u8 0, .int .u8 0, .int .u8 0, .int .u8 0, .int .u8 0, .int .u8 0, .int .u8 0, .int .u8 0] 150)]) (fun _ => []) (fun i => i ≤ n) (fun i => n - i) 0 (Nat.zero_le _) (E6 1 4 5 9 10) .rfl qI ?_
  rintro i hi
  refine A1 ?_
  refine A2 (D9 rfl rfl rfl) rfl ?_
  refine A0 (H5 1 4 5 9 10 11) (A3 ?_)
  refine C0 rfl ?_ ?_ <;> intro hc
  ·
    have hlt : i < n := by simp at hc; omega
    have hps := A3R (w := 8) (n := 32) (N := 2 ^ n - 1) (i := i) qD qO
    have hpg := A27 (w := 8) (n := 32) (N := 2 ^ n - 1) (i := i) (j := i / 8) qO
    have hpl := A73 8 (2 ^ n - 1) i (i / 8)
    rw [B3J hlt] at hps
    rw [← hpg] at hps hpl
    have hsm := A3T (b := 1) (w := 8) qD (Nat.mod_lt i (by decide : 0 < 8))
    have hmo : 1 <<< (i % 8) % 2 ^ IntKind.u8.bits = 1 <<< (i % 8) := Nat.mod_eq_of_lt hsm
    refine A7 (nx (E6 1 4 5 9 10) (A3 (A5 (A1 (mv_ (as_ (A0 (H5 1 4 5 6 9 10) ?_)))))))
    refine G3 (.range 9) (zp 0 [0, 0, 0, 1, 0, 0, 0, 0, 0, 2]) kR kR fun hs => ?_
    refine fm_ hs ?_
    refine C2 hs rfl (A3w 8 rfl rfl rfl qD (A5a qO)) rfl ?_
    refine C2 hs rfl (F9 (e := 5) (n := 32) (sz := 1) (i := i / 8) rfl rfl kR kR rfl qO) rfl ?_
    refine H2 hs rfl (I3 (i / 8) rfl kR At.mem qO (by rw [Q3]; omega)) rfl ?_
    refine fm_ hs ?_
    refine C2 hs rfl (A3x 8 rfl rfl rfl qD) rfl ?_
    refine C2 hs rfl (hmo ▸ A2E (a := 1) rfl (i % 8) rfl rfl rfl (by show _ ≤ 8; omega)) rfl ?_
    refine C2 hs rfl (B2S rfl rfl rfl hpl hsm) rfl ?_
    refine C2 hs rfl (F9 (e := 5) (n := 32) (sz := 1) (i := i / 8) rfl rfl kR kR rfl qO) rfl ?_
    refine G2 rfl rfl rfl (I8 (i / 8) rfl rfl kR qO (by rw [Q3]; omega) UpC.upd ?_)
    refine P9 (nb (nx (E6 1 4 5 9 10) (A9 ?_)))
    refine A2 (D1 ((i + 1 : Nat) : Int) rfl rfl (E5 qO qO qO)) rfl ?_
    refine mv_ (C1 ?_)
    exact rn (i + 1) qO qO (E6 1 4 5 9 10) (Fit.eq (by rw [hps])) qI
  ·
    have hlt : i = n := by simp at hc; omega
    subst hlt
    refine D4 (te (re (be rfl (nx (D8 1 4 5) ?_))))
    have hhd := B0X (n := i) qO
    have hbn := B0Y (2 ^ i - 1) i qO
    have hpl := Q3 8 32 (2 ^ i - 1) i
    have hpw : 256 ≤ 2 ^ i := (show 256 = 2 ^ 8 from rfl) ▸ Nat.pow_le_pow_right qD qO
    refine A1 (mv_ ?_)
    refine A2 (B4P 65536 (b := 1) rfl rfl rfl rfl rfl rfl qO qO) rfl ?_
    refine as_ (A0 (D8 1 4 5) (A3 (A1 (as_ (A0 (D7 1 4 5 7) (A5 ?_))))))
    refine Z7 3 ?_
    refine H3 ?_
    refine A3 (A1 (mv_ ?_))
    refine A2 (F4 true rfl rfl (gtT qO)) rfl ?_
    refine A0 (E6 1 4 5 7 26) ?_
    refine C8 rfl ?_
    refine A7 (nx (D7 1 4 5 7) (A3 (A5 (A1 (mv_ ?_)))))
    refine A2 (qi_ 0 5 32 1 0) rfl ?_
    refine A2 (hhd ▸ I3 0 rfl kR At.mem rfl qO) rfl ?_
    refine A2 (K2 (k' := .u16) 255 rfl kR qD) rfl ?_
    refine mv_ ?_
    refine A2 (N8 8 256 rfl rfl rfl rfl rfl (by show _ < 65536; first | assumption | exact Nat.mod_lt _ qD | omega) qD) rfl ?_
    refine A2 (B4P 65536 (a := 255) rfl rfl rfl rfl rfl rfl qD qO) rfl ?_
    refine as_ (A0 (E6 1 4 5 7 8) (A1 (mv_ (mv_ ?_))))
    refine A2 (A1D rfl kR) rfl ?_
    refine A2 (qi_ 0 5 32 1 0) rfl ?_
    refine A4 rfl (I8 0 rfl rfl kR rfl qO UpC.upd ?_)
    refine A0 (E6 1 4 5 7 8) (A1 (mv_ ?_))
    refine A2 (N7 8 256 rfl rfl rfl rfl qD) rfl ?_
    refine as_ (A0 (E6 1 4 5 7 8) (A1 (mv_ ?_)))
    refine A2 (F4 false rfl rfl (gtF qO)) rfl ?_
    refine A0 (E6 1 4 5 7 43) ?_
    refine C9 rfl ?_
    refine A7 (nb (nx (D7 1 4 5 7) (A9 (mv_ ?_))))
    refine A2 (D1 (1 : Int) rfl rfl (E5 qD qD qD)) rfl ?_
    refine as_ (C1 ?_)
    refine un (D7 1 4 5 7) ?_
    refine H3 ?_
    refine A3 (A1 (mv_ ?_))
    refine A2 (F4 false rfl rfl (gtF qO)) rfl ?_
    refine A0 (E6 1 4 5 7 26) ?_
    refine C9 rfl ?_
    refine D4 (te (ue (be rfl (nx (D3 4 5) (A1 ?_)))))
    refine A2 (L8 (n := 32) (cs := nums .u8 ((A1l 8 32 (2 ^ i - 1) i).set 0 ((255 - (d - 1) % 256) % 256))) rfl kR At.mem (by rw [nums_len, List.length_set, hpl])) rfl ?_
    refine A4 rfl (A8 (vs := nums .u8 ((A1l 8 32 (2 ^ i - 1) i).set 0 ((255 - (d - 1) % 256) % 256))) rfl rfl rfl (by rw [nums_len, List.length_set, hpl]; kernel_rfl) (by rw [nums_len, List.length_set, hpl]; rfl) F3 UpC.upd ?_)
    refine A0 (D5 4) (B0 ?_)
    refine ⟨_, [], [], A4l rfl rfl kR At.mem (by rw [nums_len, List.length_set, hpl]), List.nil_sublist _, by simp, rfl, rfl, _, rfl, by rw [List.length_set, hpl], ?_, ?_⟩
    · intro y hy
      rcases List.mem_or_eq_of_mem_set hy with h | rfl
      · exact B0V _ _ y h
      · exact Nat.mod_lt _ qD
    · have h0 := B6M (p := A1l 8 32 (2 ^ i - 1) i) ((255 - (d - 1) % 256) % 256) qO
      rw [hhd, hbn, Nat.mod_eq_of_lt (a := 2 ^ i - 1) qO] at h0
      omega
theorem B00 (v : Value) (x : Nat) (hx : Fe v x) (A : Mem) : FnX Tryz.prog 91 [v] [] A fun r M J => M = [] ∧ J = [] ∧ ∃ n, n + 1 = p25 - 1 ∧ Fe r (x ^ n % p25) := by
 have hx0 := hx
 obtain ⟨a, b, c, d, e, rfl, -⟩ := hx
 refine FnX.enter (N := 6) Tryz.func91 rfl rfl rfl fun w => ?_
 refine B4 (D5 0) (A1 ?_)
 refine A4 rfl (bx_ fun b1 => ?_)
 refine A4 rfl (C3 (cs := [E8, E8, E8, E8, E8]) kR rfl fun b2 => ?_)
 refine A0 (D3 1 2) ?_
 refine D2 [0, 1, 2] [(0, 1), (1, 2), (2, 2), (3, 2)] kR kR fun hs => ?_
 refine H2 hs rfl (qw_ 5) rfl ?_
 refine T4 rfl (aS rfl (aS rfl a0)) kR (B0Z 255 21 qD qD qD qD _) rfl ?_
 rintro rn1 Mn Jn ⟨rfl, rfl, es, rfl, hel, he256, hbv⟩
 refine T4 rfl (aS rfl (aS rfl a0)) kR (A7k _ _ hx0 es hel he256 _) rfl ?_
 rintro r1 M1 J1 ⟨rfl, rfl, hr⟩
 have hbv1 : bv es + 1 = p25 - 1 := by rw [hbv]; decide
 have hr0 := hr
 obtain ⟨a1, b1, c1, d1, e1, rfl, -⟩ := hr
 refine G2 rfl rfl rfl (A8 rfl rfl Cel.cel kR ln5 al5 UpC.upd ?_)
 refine E9 (D5 2) (B0 ?_)
 exact ⟨_, [], [], A4l rfl rfl kR At.mem qR, List.nil_sublist _, by simp, rfl, rfl, _, hbv1, hr0⟩
def rtp (x n : Nat) : Nat := x ^ n % p25
def rt1 (x : Nat) : Nat := rtp x (2 ^ 252 - 2)
def rt2 (x : Nat) : Nat := rt1 x * rtp 2 (2 ^ 253 - 5) % p25
theorem B8P {x n m : Nat} (h : n = m) : x ^ n % p25 = rtp x m := by subst h; rfl
def Rt (r : Value) (x : Nat) : Prop := ∃ u b, r = .tuple #[u, .bool b] ∧ ((rt1 x * rt1 x % p25 = x ∧ b = true ∧ Fe u (rt1 x)) ∨ (rt1 x * rt1 x % p25 ≠ x ∧ rt2 x * rt2 x % p25 = x ∧ b = true ∧ Fe u (rt2 x)) ∨ (rt1 x * rt1 x % p25 ≠ x ∧ rt2 x * rt2 x % p25 ≠ x ∧ b = false ∧ Fe u 0))

end Go.Proofs.YtlilcmjbaknafaaGreatDoor
namespace Go.Px
def IsPr (p : Nat) : Prop := 2 ≤ p ∧ ∀ d, d ∣ p → d = 1 ∨ d = p
theorem IsPr.cop {p a : Nat} (h : IsPr p) (ha : ¬ p ∣ a) : Nat.Coprime p a := by
  rcases h.2 _ (Nat.gcd_dvd_left p a) with h1 | h1
  · exact h1
  · exact absurd (h1 ▸ Nat.gcd_dvd_right p a) ha
theorem IsPr.mul {p a b : Nat} (h : IsPr p) (hd : p ∣ a * b) : p ∣ a ∨ p ∣ b := by
  by_cases ha : p ∣ a
  · exact .inl ha
  · exact .inr ((h.cop ha).dvd_of_dvd_mul_left hd)
theorem exPr (n : Nat) (h : 2 ≤ n) : ∃ r, IsPr r ∧ r ∣ n := by
  induction n using Nat.strongRecOn with
  | _ n ih =>
    by_cases hp : IsPr n
    · exact ⟨n, hp, Nat.dvd_refl n⟩
    · have : ∃ d, d ∣ n ∧ d ≠ 1 ∧ d ≠ n := by
        false_or_by_contra
        rename_i hc
        refine hp ⟨h, fun d hd => ?_⟩
        by_cases h1 : d = 1
        · exact .inl h1
        · by_cases h2 : d = n
          · exact .inr h2
          · exact absurd ⟨d, hd, h1, h2⟩ hc
      obtain ⟨d, hd, h1, h2⟩ := this
      have hle := Nat.le_of_dvd (by omega) hd
      have h0 : d ≠ 0 := by rintro rfl; rw [Nat.zero_dvd] at hd; omega
      obtain ⟨r, hr, hrd⟩ := ih d (by omega) (by omega)
      exact ⟨r, hr, Nat.dvd_trans hrd hd⟩
theorem IsPr.of {n : Nat} (h2 : 2 ≤ n) (h : ∀ r, IsPr r → r ∣ n → r * r ≤ n → False) : IsPr n := by
  refine ⟨h2, fun d hd => ?_⟩
  by_cases h1 : d = 1
  · exact .inl h1
  by_cases hn : d = n
  · exact .inr hn
  exfalso
  obtain ⟨e, he⟩ := hd
  have he1 : e ≠ 1 := by rintro rfl; rw [Nat.mul_one] at he; exact hn he.symm
  have hd0 : d ≠ 0 := by rintro rfl; rw [Nat.zero_mul] at he; omega
  have he0 : e ≠ 0 := by rintro rfl; rw [Nat.mul_zero] at he; omega
  rcases Nat.le_total d e with hle | hle
  · obtain ⟨r, hr, hrd⟩ := exPr d (by omega)
    have := Nat.le_of_dvd (by omega) hrd
    refine h r hr (he ▸ Nat.dvd_trans hrd (Nat.dvd_mul_right d e)) ?_
    rw [he]; exact Nat.mul_le_mul this (Nat.le_trans this hle)
  · obtain ⟨r, hr, hrd⟩ := exPr e (by omega)
    have := Nat.le_of_dvd (by omega) hrd
    refine h r hr (he ▸ Nat.dvd_trans hrd (Nat.dvd_mul_left e d)) ?_
    rw [he]; exact Nat.mul_le_mul (Nat.le_trans this hle) this
def cho : Nat → Nat → Nat
  | _, 0 => 1
  | 0, _ + 1 => 0
  | n + 1, k + 1 => cho n k + cho n (k + 1)
theorem A74 : ∀ n k, n < k → cho n k = 0
  | 0, k + 1, _ => by rw [cho]
  | n + 1, k + 1, h => by rw [cho, A74 n k (by omega), A74 n (k + 1) (by omega)]
theorem A75 : ∀ n, cho n n = 1
  | 0 => by rw [cho]
  | n + 1 => by rw [cho, A75 n, A74 n (n + 1) (by omega)]
theorem A5D : ∀ n k, (k + 1) * cho (n + 1) (k + 1) = (n + 1) * cho n k
  | 0, 0 => by simp [cho]
  | 0, k + 1 => by simp [cho]
  | n + 1, 0 => by
    have := A5D n 0
    rw [cho]
    simp only [cho, Nat.mul_one, Nat.one_mul, Nat.zero_add] at *
    omega
  | n + 1, k + 1 => by
    have h1 := A5D n k
    have h2 := A5D n (k + 1)
    rw [cho.eq_3 (n + 1) (k + 1)]
    rw [cho.eq_3 n k] at *
    generalize cho n (k + 1 + 1) = x at *
    generalize cho (n + 1) (k + 1 + 1) = z at *
    generalize cho n (k + 1) = y at *
    generalize cho n k = u at *
    grind
def R9 (f : Nat → Nat) : Nat → Nat
  | 0 => 0
  | n + 1 => R9 f n + f n
theorem A3U {f g : Nat → Nat} : ∀ n, (∀ i, i < n → f i = g i) → R9 f n = R9 g n
  | 0, _ => rfl
  | n + 1, h => by rw [R9, R9, A3U n fun i hi => h i (by omega), h n (by omega)]
theorem A6B (f g : Nat → Nat) : ∀ n, R9 (fun i => f i + g i) n = R9 f n + R9 g n
  | 0 => rfl
  | n + 1 => by rw [R9, R9, R9, A6B f g n]; omega
theorem A6C (c : Nat) (f : Nat → Nat) : ∀ n, R9 (fun i => c * f i) n = c * R9 f n
  | 0 => rfl
  | n + 1 => by rw [R9, R9, A6C c f n, Nat.mul_add]
theorem A0R (f : Nat → Nat) : ∀ n, R9 f (n + 1) = f 0 + R9 (fun i => f (i + 1)) n
  | 0 => by simp [R9]
  | n + 1 => by rw [R9, A0R f n, R9]; omega
theorem A6D {p : Nat} {f : Nat → Nat} : ∀ n, (∀ i, i < n → p ∣ f i) → p ∣ R9 f n
  | 0, _ => Nat.dvd_zero p
  | n + 1, h => by rw [R9]; exact Nat.dvd_add (A6D n fun i hi => h i (by omega)) (h n (by omega))
theorem B8Q (a : Nat) : ∀ n, (a + 1) ^ n = R9 (fun k => cho n k * a ^ k) (n + 1)
  | 0 => by simp [R9, cho]
  | n + 1 => by
    rw [Nat.pow_succ, B8Q a n, A0R (fun k => cho (n + 1) k * a ^ k)]
    try dsimp only
    have e : R9 (fun i => cho (n + 1) (i + 1) * a ^ (i + 1)) (n + 1) = a * R9 (fun k => cho n k * a ^ k) (n + 1) + R9 (fun i => cho n (i + 1) * a ^ (i + 1)) (n + 1) := by
      rw [← A6C, ← A6B]
      refine A3U _ fun i _ => ?_
      rw [cho, Nat.add_mul, Nat.pow_succ]
      grind
    rw [e]
    have e2 : R9 (fun i => cho n (i + 1) * a ^ (i + 1)) (n + 1) = R9 (fun i => cho n (i + 1) * a ^ (i + 1)) n := by
      rw [R9, A74 n (n + 1) (by omega), Nat.zero_mul, Nat.add_zero]
    rw [e2]
    have e3 := A0R (fun k => cho n k * a ^ k) n
    have c0 : cho n 0 = 1 := by cases n <;> rfl
    have c1 : cho (n + 1) 0 = 1 := rfl
    rw [c0] at e3
    rw [c1]
    generalize R9 (fun k => cho n k * a ^ k) (n + 1) = S at *
    generalize R9 (fun i => cho n (i + 1) * a ^ (i + 1)) n = T at *
    simp only [Nat.pow_zero, Nat.mul_one] at *
    grind
theorem B8R {p k : Nat} (h : IsPr p) (h0 : 0 < k) (hk : k < p) : p ∣ cho p k := by
  have h2 := h.1
  obtain ⟨n, rfl⟩ : ∃ n, p = n + 1 := ⟨p - 1, by omega⟩
  obtain ⟨j, rfl⟩ : ∃ j, k = j + 1 := ⟨k - 1, by omega⟩
  have e := A5D n j
  have hd : (n + 1) ∣ (j + 1) * cho (n + 1) (j + 1) := by rw [e]; exact Nat.dvd_mul_right _ _
  rcases h.mul hd with h1 | h1
  · have := Nat.le_of_dvd (by omega) h1; omega
  · exact h1
theorem B8S {p : Nat} (h : IsPr p) (a : Nat) : a ^ p % p = a % p := by
  have h2 := h.1
  induction a with
  | zero => rw [Nat.zero_pow (by omega)]
  | succ a ih =>
    obtain ⟨n, rfl⟩ : ∃ n, p = n + 1 := ⟨p - 1, by omega⟩
    rw [B8Q, R9, A75, Nat.one_mul, A0R]
    obtain ⟨c, hc⟩ : (n + 1) ∣ R9 (fun i => cho (n + 1) (i + 1) * a ^ (i + 1)) n := A6D n fun i hi => Nat.dvd_trans (B8R h (by omega) (by omega)) (Nat.dvd_mul_right _ _)
    rw [hc, show cho (n + 1) 0 * a ^ 0 = 1 from rfl]
    have e : (1 + (n + 1) * c + a ^ (n + 1)) % (n + 1) = (1 + a ^ (n + 1)) % (n + 1) := by
      rw [Nat.add_right_comm, Nat.add_mul_mod_self_left]
    rw [e, Nat.add_mod, ih, ← Nat.add_mod, Nat.add_comm]
theorem A5E {p a : Nat} (h : IsPr p) (ha : ¬ p ∣ a) : a ^ (p - 1) % p = 1 := by
  have h2 := h.1
  have hf := B8S h a
  obtain ⟨n, rfl⟩ : ∃ n, p = n + 1 := ⟨p - 1, by omega⟩
  rw [Nat.add_sub_cancel]
  have h1 : 1 ≤ a ^ n := Nat.pow_pos (Nat.pos_of_ne_zero (by rintro rfl; exact ha (Nat.dvd_zero _)))
  have hd : (n + 1) ∣ a * (a ^ n - 1) := by
    rw [Nat.mul_sub, Nat.mul_one, ← Nat.pow_succ']
    have hle : a ≤ a ^ (n + 1) := Nat.le_self_pow (by omega) a
    exact Nat.dvd_of_mod_eq_zero (Nat.sub_mod_eq_zero_of_mod_eq hf)
  rcases h.mul hd with h3 | h3
  · exact absurd h3 ha
  · obtain ⟨c, hc⟩ := h3
    rw [show a ^ n = 1 + (n + 1) * c by omega, Nat.add_mul_mod_self_left]
    exact Nat.mod_eq_of_lt (by omega)
theorem B6N {r b : Nat} (m n : Nat) (hm : b ^ m % r = 1 % r) (hn : b ^ n % r = 1 % r) : b ^ (Nat.gcd m n) % r = 1 % r := by
  induction m, n using Nat.gcd.induction with
  | H0 n => rw [Nat.gcd_zero_left]; exact hn
  | H1 m n h0 ih =>
    rw [Nat.gcd_rec]
    refine ih ?_ hm
    have e : b ^ n = (b ^ m) ^ (n / m) * b ^ (n % m) := by
      rw [← Nat.pow_mul, ← Nat.pow_add, Nat.div_add_mod]
    rw [e, Nat.mul_mod, Nat.pow_mod, hm, ← Nat.pow_mod, Nat.one_pow, ← Nat.mul_mod, Nat.one_mul] at hn
    exact hn
theorem C0q {N q a r : Nat} (hN : 2 ≤ N) (hq : IsPr q) (hqd : q * ((N - 1) / q) = N - 1) (h1 : a ^ (N - 1) % N = 1) (h2 : Nat.gcd (a ^ ((N - 1) / q) % N + (N - 1)) N = 1) (hr : IsPr r) (hrN : r ∣ N) : q ∣ r - 1 := by
  have hr2 := hr.1
  generalize hb : a ^ ((N - 1) / q) = b at *
  have hbq : b ^ q % r = 1 % r := by
    rw [← hb, ← Nat.pow_mul, Nat.mul_comm, hqd, ← Nat.mod_mod_of_dvd _ hrN, h1]
  have hnb : ¬ b % r = 1 % r := by
    intro hc
    have : r ∣ b % N + (N - 1) := by
      have e : (b % N + (N - 1)) % r = 0 := by
        obtain ⟨c, rfl⟩ := hrN
        rw [Nat.add_mod, Nat.mod_mul_right_mod, hc, ← Nat.add_mod, show 1 + (r * c - 1) = r * c by omega, Nat.mul_mod_right]
      exact Nat.dvd_of_mod_eq_zero e
    have := Nat.dvd_gcd this hrN
    rw [h2, Nat.dvd_one] at this
    omega
  have hrb : ¬ r ∣ b := by
    intro hc
    have hq1 := hq.1
    have : b ^ q % r = 0 := Nat.mod_eq_zero_of_dvd (Nat.dvd_trans hc (show b ∣ b ^ q from ⟨b ^ (q - 1), by rw [← Nat.pow_succ']; congr 1; omega⟩))
    rw [this, Nat.mod_eq_of_lt (by omega)] at hbq
    omega
  have hf := A5E hr hrb
  have hg := B6N q (r - 1) hbq (by rw [hf, Nat.mod_eq_of_lt (by omega)])
  rcases hq.2 _ (Nat.gcd_dvd_left q (r - 1)) with h3 | h3
  · rw [h3, Nat.pow_one] at hg; exact absurd hg hnb
  · exact h3 ▸ Nat.gcd_dvd_right q (r - 1)
theorem A0c {p q m : Nat} (hp : IsPr p) (hq : IsPr q) (hne : p ≠ q) (h1 : p ∣ m) (h2 : q ∣ m) : p * q ∣ m := by
  obtain ⟨c, rfl⟩ := h1
  rcases hq.mul h2 with h | h
  · rcases hp.2 _ h with h3 | h3
    · have := hq.1; omega
    · exact absurd h3.symm hne
  · exact Nat.mul_dvd_mul_left p h
theorem A88 {N F : Nat} (hN : 2 ≤ N) (hF : N < (F + 1) * (F + 1)) (h : ∀ r, IsPr r → r ∣ N → F ∣ r - 1) : IsPr N := by
  refine IsPr.of hN fun r hr hd hle => ?_
  have h1 := hr.1
  have := Nat.le_of_dvd (by omega) (h r hr hd)
  have := Nat.mul_le_mul (show F + 1 ≤ r by omega) (show F + 1 ≤ r by omega)
  omega
def B3K (n : Nat) : Nat → Bool
  | 0 => true
  | k + 1 => (k < 2 || n % k != 0) && B3K n k
theorem A4V {n : Nat} : ∀ k, B3K n k = true → ∀ d, 2 ≤ d → d < k → ¬ d ∣ n
  | 0, _, d, _, h => by omega
  | k + 1, h, d, h2, hd => by
    rw [B3K, Bool.and_eq_true] at h
    by_cases e : d = k
    · subst e
      intro hc
      have := Nat.mod_eq_zero_of_dvd hc
      simp [this] at h
      omega
    · exact A4V k h.2 d h2 (by omega)
theorem A7l {n : Nat} (k : Nat) (h2 : 2 ≤ n) (hk : n < k * k) (h : B3K n k = true) : IsPr n := by
  refine IsPr.of h2 fun r hr hd hle => A4V k h r hr.1 ?_ hd
  rcases Nat.lt_or_ge r k with h1 | h1
  · exact h1
  · have := Nat.mul_le_mul h1 h1; omega
def pm (N : Nat) : Nat → Nat → Nat → Nat → Nat
  | 0, _, _, acc => acc
  | f + 1, b, e, acc => pm N f (b * b % N) (e / 2) (if e % 2 = 1 then acc * b % N else acc)
theorem B01 (N : Nat) : ∀ f b e acc, e < 2 ^ f → acc % N = acc → pm N f b e acc = acc * b ^ e % N
  | 0, b, e, acc, h, ha => by
    obtain rfl : e = 0 := by simpa using h
    rw [pm, Nat.pow_zero, Nat.mul_one, ha]
  | f + 1, b, e, acc, h, ha => by
    rw [pm, B01 N f _ _ _ (by rw [Nat.pow_succ] at h; omega) (by split <;> simp [ha])]
    have e2 : b ^ e = (b * b) ^ (e / 2) * b ^ (e % 2) := by
      rw [← Nat.pow_two, ← Nat.pow_mul, ← Nat.pow_add, Nat.div_add_mod]
    rw [e2]
    rcases Nat.mod_two_eq_zero_or_one e with h0 | h0
    · rw [h0, if_neg (by decide), Nat.mul_mod, ← Nat.pow_mod, ← Nat.mul_mod, Nat.pow_zero, Nat.mul_one]
    · rw [h0, if_pos rfl, Nat.mul_mod, ← Nat.pow_mod, Nat.mod_mod, ← Nat.mul_mod, Nat.pow_one, Nat.mul_assoc, Nat.mul_comm b]
theorem A76 {N : Nat} (hN : 2 ≤ N) (f a e : Nat) (h : e < 2 ^ f) : a ^ e % N = pm N f a e 1 := by
  rw [B01 N f a e 1 h (Nat.mod_eq_of_lt (by omega)), Nat.one_mul]
def B8T (N q a : Nat) : Bool := q * ((N - 1) / q) == N - 1 && pm N 256 a (N - 1) 1 == 1 && Nat.gcd (pm N 256 a ((N - 1) / q) 1 + (N - 1)) N == 1
theorem H9 {N q a : Nat} (hN : 2 ≤ N) (hN2 : N < 2 ^ 256) (hq : IsPr q) (h : B8T N q a = true) : ∀ r, IsPr r → r ∣ N → q ∣ r - 1 := by
  simp only [B8T, Bool.and_eq_true, beq_iff_eq] at h
  obtain ⟨⟨h1, h2⟩, h3⟩ := h
  intro r hr hd
  refine C0q (a := a) hN hq h1 ?_ ?_ hr hd
  · rw [A76 hN 256 _ _ (by omega)]; exact h2
  · rw [A76 hN 256 _ _ (Nat.lt_of_le_of_lt (Nat.div_le_self _ _) (by omega))]; exact h3
theorem B5f : IsPr 4153 := A7l 65 (by decide) (by decide) (by decide +kernel)
theorem A77 : IsPr 430751 := A7l 657 (by decide) (by decide) (by decide +kernel)
theorem A6E : IsPr 8574133 := A7l 2929 (by decide) (by decide) (by decide +kernel)
theorem B8U : IsPr 127 := A7l 12 (by decide) (by decide) (by decide +kernel)
theorem B3L : IsPr 569003 := A7l 755 (by decide) (by decide) (by decide +kernel)
theorem A6F : IsPr 2773320623 := A88 (F := 569003) (by decide) (by decide) (H9 (a := 2) (by decide) (by decide) B3L (by decide +kernel))
theorem A2c : IsPr 72106336199 := A88 (F := 2773320623) (by decide) (by decide) (H9 (a := 2) (by decide) (by decide) A6F (by decide +kernel))
theorem A0n : IsPr 1919519569386763 := A88 (F := 8574133 * 127) (by decide) (by decide) fun s hs hd => A0c A6E B8U (by decide) (H9 (a := 2) (by decide) (by decide) A6E (by decide +kernel) s hs hd) (H9 (a := 2) (by decide) (by decide) B8U (by decide +kernel) s hs hd)
theorem A0d : IsPr 31757755568855353 := A88 (F := 430751 * 4153) (by decide) (by decide) fun s hs hd => A0c A77 B5f (by decide) (H9 (a := 2) (by decide) (by decide) A77 (by decide +kernel) s hs hd) (H9 (a := 2) (by decide) (by decide) B5f (by decide +kernel) s hs hd)
theorem K7 : IsPr 75445702479781427272750846543864801 := A88 (F := 72106336199 * 1919519569386763) (by decide) (by decide) fun s hs hd => A0c A2c A0n (by decide) (H9 (a := 2) (by decide) (by decide) A2c (by decide +kernel) s hs hd) (H9 (a := 2) (by decide) (by decide) A0n (by decide +kernel) s hs hd)
theorem H4 : IsPr 74058212732561358302231226437062788676166966415465897661863160754340907 := A88 (F := 31757755568855353 * 75445702479781427272750846543864801) (by decide) (by decide) fun s hs hd => A0c A0d K7 (by decide) (H9 (a := 2) (by decide) (by decide) A0d (by decide +kernel) s hs hd) (H9 (a := 2) (by decide) (by decide) K7 (by decide +kernel) s hs hd)
theorem C0r : IsPr p25 := A88 (F := 74058212732561358302231226437062788676166966415465897661863160754340907) (by decide) (by decide) (H9 (a := 2) (by decide) (by decide) H4 (by decide +kernel))
end Go.Px

namespace Go.Proofs.YtlilcmjbaknafaaGreatDoor
open Go.Px
def fS (x y : Nat) : Nat := (x + p25 - y) % p25
def fA (x y : Nat) : Nat := (x + y) % p25
def fM (x y : Nat) : Nat := x * y % p25
def fN (x : Nat) : Nat := (p25 - x) % p25
theorem B8V (x : Nat) : ∃ y, y = rtp x (p25 - 2) := ⟨_, rfl⟩
noncomputable def fI (x : Nat) : Nat := Classical.choose (B8V x)
theorem B6O (x : Nat) : fI x = rtp x (p25 - 2) := Classical.choose_spec (B8V x)
theorem B3M {v u : Value} {x y : Nat} (hx : Fe v x) (hy : Fe u y) (A : Mem) : FnX Tryz.prog 102 [v, u] [] A fun r M J => M = [] ∧ J = [] ∧ Fe r (fS x y) := B0R v u x y hx hy A
theorem B3N {v u : Value} {x y : Nat} (hx : Fe v x) (hy : Fe u y) (A : Mem) : FnX Tryz.prog 101 [v, u] [] A fun r M J => M = [] ∧ J = [] ∧ Fe r (fA x y) := B0Q v u x y hx hy A
theorem A7m {v u : Value} {x y : Nat} (hx : Fe v x) (hy : Fe u y) (A : Mem) : FnX Tryz.prog 90 [v, u] [] A fun r M J => M = [] ∧ J = [] ∧ Fe r (fM x y) := A3P v u x y hx hy A
theorem B9T {v : Value} {x : Nat} (hx : Fe v x) (A : Mem) : FnX Tryz.prog 103 [v] [] A fun r M J => M = [] ∧ J = [] ∧ Fe r (fM x x) := A2M v x hx A
theorem B3O (n : Nat) (hn : n < 4294967296) (A : Mem) : FnX Tryz.prog 87 [.int .u32 (n : Int)] [] A fun r M J => M = [] ∧ J = [] ∧ Fe r n := A6A n hn A
theorem C0s {v : Value} {x : Nat} (hx : Fe v x) (A : Mem) : FnX Tryz.prog 91 [v] [] A fun r M J => M = [] ∧ J = [] ∧ Fe r (fI x) :=
  (B00 v x hx A).mono fun r M J ⟨h1, h2, n, h3, h4⟩ => ⟨h1, h2, by rw [B6O, ← B8P (show n = p25 - 2 by omega)]; exact h4⟩
structure Pt where
  X : Nat
  Y : Nat
  Z : Nat
  T : Nat
def FeL (xs : LN) (P : Pt) : Prop := ∃ x0 x1 x2 x3 x4 x5 x6 x7 x8 x9 x10 x11 x12 x13 x14 x15 x16 x17 x18 x19 : Nat, xs = [x0, x1, x2, x3, x4, x5, x6, x7, x8, x9, x10, x11, x12, x13, x14, x15, x16, x17, x18, x19] ∧ Fe (el x0 x1 x2 x3 x4) P.X ∧ Fe (el x5 x6 x7 x8 x9) P.Y ∧ Fe (el x10 x11 x12 x13 x14) P.Z ∧ Fe (el x15 x16 x17 x18 x19) P.T
def FeP (V : Value) (P : Pt) : Prop := ∃ xs, V = .agg (nums .u64 xs).toArray ∧ FeL xs P
def pO : Pt := ⟨0, 1, 1, 0⟩
def dN : Nat := 37095705934669439343138083508754565189542113879843219016388785533085940283555
def d2N : Nat := 16295367250680780974490674513165176452449235426866156013048779062215315747161
theorem B8W {x n : Nat} (h : n < 2 ^ 256) : rtp x n = pm p25 256 x n 1 := A76 qD 256 x n h
theorem C0t : fM 2 dN = d2N := by decide +kernel
def A89 (d2 : Nat) (P Q : Pt) : Pt :=
  let a := fM (fS P.Y P.X) (fS Q.Y Q.X)
  let b := fM (fA P.Y P.X) (fA Q.Y Q.X)
  let c := fM (fM P.T d2) Q.T
  let z := fA (fM P.Z Q.Z) (fM P.Z Q.Z)
  let e := fS b a
  let f := fS z c
  let g := fA z c
  let h := fA b a
  ⟨fM e f, fM g h, fM f g, fM e h⟩


end Go.Proofs.YtlilcmjbaknafaaGreatDoor
namespace Go.Px
structure Gv where
  i : Nat
  d : Nat
  m : Mem
  φ : Value → Mem → Mem → Prop
def B6P (G : List Gv) (vs : Nat → Value) : Env := G.map fun g => (g.d, vs g.i)
def toGM (G : List Gv) : List Gm := G.map fun g => ⟨g.i, g.d, fun _ _ => True⟩
def curM (X : List Nat) (bs : Nat → Mem) (G : List Gv) : Mem := (G.map fun g => if g.i ∈ X then bs g.i else g.m).flatten
def doneM (X : List Nat) (bs : Nat → Mem) (G : List Gv) : Mem := (G.map fun g => if g.i ∈ X then bs g.i else []).flatten
def allM (bs : Nat → Mem) (G : List Gv) : Mem := (G.map fun g => bs g.i).flatten
theorem St.widen {P : Program} {w w' : World} {F : List Nat} {A A' Mc M' J' : Mem} {n : Nat} (h : St ⟨P, w, F, A', n⟩ Mc [] w) (hs : St ⟨P, w, F, A, n⟩ M' J' w') : St ⟨P, w, F, A', n⟩ M' J' w' := by
  refine ⟨hs.os, hs.tape, hs.output, hs.size, hs.frame, fun b o hb => ?_, hs.nodup, hs.own, hs.sepJ, h.sepA, hs.old⟩
  simp only [List.mem_append] at hb
  rcases hb with hb | hb | hb
  · exact hs.mem b o (by simp [hb])
  · exact hs.mem b o (by simp [hb])
  · have h1 := h.sepA b o hb
    have h2 := hs.frame b h1.2 h1.1
    rw [h2]
    exact h.mem b o (by simp; exact .inr hb)
theorem St.less {P : Program} {w : World} {F : List Nat} {A A' Mc : Mem} {n : Nat} (h : St ⟨P, w, F, A', n⟩ Mc [] w) (hA : ∀ x ∈ A, x ∈ A') : St ⟨P, w, F, A, n⟩ Mc [] w :=
  ⟨h.os, h.tape, h.output, h.size, h.frame, fun b o hb => h.mem b o (by simp at hb ⊢; exact hb.imp id (hA _)), h.nodup, h.own, h.sepJ, fun b o hb => h.sepA b o (hA _ hb), h.old⟩
section group
variable {C : Cx} {Q : XQ} {l : Env} {M M0 J : Mem} {os : List Oper} {K : Nat → Prop} {n0 : Nat} {nd : List Nat} {plan : List (Nat × Nat)}
def OwesM (C : Cx) (os : List Oper) (l : Env) (M0 J : Mem) (G : List Gv) (g : Gv) : Prop :=
  ∃ o, nth os g.i = some o ∧ ∀ (vs : Nat → Value) (bs : Nat → Mem) (R Rj : Mem) (w : World), (∀ x ∈ M0 ++ (J ++ C.A), x ∈ R) → (∀ x ∈ J ++ C.A, x ∈ Rj) → (∀ x ∈ Rj, x ∈ R) → (∀ g' ∈ G, anc os.toArray os.toArray.size g.i g'.i = true → g'.φ (vs g'.i) (bs g'.i) Rj) →
    A8P os (B6P G vs ++ l) o ∧ OpL ⟨C.P, w, g.m.map Prod.fst, R, C.N⟩ o (B6P G vs ++ l) g.m [] (fun l' M' J' => ∃ v, l' = (g.d, v) :: (B6P G vs ++ l) ∧ g.φ v M' (J' ++ Rj))
end group
end Go.Px

