/- Part 12 of the texts of this claim, one behind the other. -/
import Derived.Test.YtoigcbkclcbmpaaGreatDoorB11
set_option linter.unusedVariables false
set_option linter.unusedSimpArgs false
set_option maxRecDepth 100000
namespace Go.Proofs.YtoigcbkclcbmpaaGreatDoor
open Go.Px
def tmN (X Y i : Nat) : Nat := X / 2 ^ i * Y % lN
theorem B1M (X Y i : Nat) : tmN X Y i = (if X / 2 ^ i % 2 = 1 then ((tmN X Y (i + 1) + tmN X Y (i + 1)) % lN + Y) % lN else (tmN X Y (i + 1) + tmN X Y (i + 1)) % lN) := by
  have h : X / 2 ^ i = 2 * (X / 2 ^ (i + 1)) + X / 2 ^ i % 2 := by
    rw [Nat.pow_succ, ← Nat.div_div_eq_div_mul]; omega
  unfold tmN
  generalize lN = L
  have hb : X / 2 ^ i % 2 = 0 ∨ X / 2 ^ i % 2 = 1 := by omega
  rcases hb with hb | hb
  · rw [if_neg qO]
    conv => lhs; rw [h, hb, Nat.add_zero, Nat.two_mul, Nat.add_mul, Nat.add_mod]
  · rw [if_pos hb]
    conv => lhs; rw [h, hb, Nat.add_mul, Nat.one_mul, Nat.two_mul, Nat.add_mul]
    rw [← Nat.add_mod, Nat.mod_add_mod]
theorem B9V : w32 [0, 0, 0, 0, 0, 0, 0, 0] := by unfold w32; decide
theorem C1P : w32 [1, 0, 0, 0, 0, 0, 0, 0] := by unfold w32; decide
theorem B6b (X Y i : Nat) : tmN X Y i < lN := Nat.mod_lt _ qD
theorem A8W {k : IntKind} {a b : LN} (h : nums k a = nums k b) : a = b := by
  unfold nums at h
  induction a generalizing b with
  | nil => cases b with
    | nil => rfl
    | cons y b => simp at h
  | cons x a ih => cases b with
    | nil => simp at h
    | cons y b =>
      simp only [List.map_cons, List.cons.injEq, Value.int.injEq, true_and] at h
      rw [ih h.2, Int.ofNat.inj h.1]
theorem B4q (v u : Value) (x y0 : Nat) (hv : Sc v x) (hu : Sc u y0) (hy : y0 < lN) (A : Mem) : FnX Tryz.prog 105 [v, u] [] A fun r M J => M = [] ∧ J = [] ∧ Sc r (x * y0 % lN) := by
 obtain ⟨a, rfl, a8, a32, av⟩ := hv
 obtain ⟨b, rfl, b8, b32, bv_⟩ := hu
 refine FnX.enter (N := 27) Tryz.func105 rfl rfl rfl fun w => ?_
 refine C4 (D5 0 1) (A3 ?_)
 refine A6 rfl (bx_ fun b2 => ?_)
 refine A6 rfl (bx_ fun b3 => ?_)
 refine A6 rfl (C5 (cs := [G4, G4, G4, G4, G4, G4, G4, G4]) kR rfl fun b4 => ?_)
 refine A0 (E2 2 3 4) (A3 ?_)
 refine A6 rfl (C5 (cs := [G4, G4, G4, G4, G4, G4, G4, G4]) kR rfl fun b5 => ?_)
 refine A0 (E7 2 3 4 5) (A5 (A3 (as_ (A0 (F5 2 3 4 5 6) (C0 ?_)))))
 refine A0p (M' := [(b5, blk (nums .u32 [0, 0, 0, 0, 0, 0, 0, 0]) 131), (b4, blk [.int .u32 0, .int .u32 0, .int .u32 0, .int .u32 0, .int .u32 0, .int .u32 0, .int .u32 0, .int .u32 0] 131), (b3, blk (nums .u32 b) 131), (b2, blk (nums .u32 a) 131)]) (Fit.eq rfl) qI ?_
 refine F2 (α := Nat × LN) (fun y => [(2, (vP b2)), (3, (vP b3)), (4, (vP b4)), (5, (vP b5)), (6, .int .i64 ((y.1 : Int) - 1))]) (fun y => [(b5, blk (nums .u32 y.2) 131), (b4, blk [.int .u32 0, .int .u32 0, .int .u32 0, .int .u32 0, .int .u32 0, .int .u32 0, .int .u32 0, .int .u32 0] 131), (b3, blk (nums .u32 b) 131), (b2, blk (nums .u32 a) 131)]) (fun _ => []) (fun y => y.1 ≤ 256 ∧ Sc (.agg (nums .u32 y.2).toArray) (tmN x y0 y.1)) (fun y => y.1) (256, [0, 0, 0, 0, 0, 0, 0, 0]) ⟨Nat.le_refl _, _, rfl, rfl, B9V, by unfold tmN; rw [Nat.div_eq_of_lt (by have := B3u a32; rw [a8, xp8] at this; rw [← av]; exact this), Nat.zero_mul, Nat.zero_mod]; rfl⟩ (F5 2 3 4 5 6) .rfl qI ?_
 rintro ⟨j, o⟩ ⟨hj, ho⟩
 dsimp only at hj ho ⊢
 have ho0 := ho
 obtain ⟨o_, e_, o8, o32, ov⟩ := ho
 obtain rfl : o = o_ := A8W (by simpa using e_)
 refine A5 (A3 (mv_ ?_))
 refine A4 (F1 rfl rfl rfl) rfl ?_
 refine A0 (I1 2 3 4 5 6 8) ?_
 refine C7 rfl ?_ ?_ <;> intro hc
 ·
  have hj0 : 0 < j := by simp at hc; omega
  obtain ⟨i, rfl⟩ : ∃ i, j = i + 1 := ⟨j - 1, by omega⟩
  rw [show (((i + 1 : Nat) : Int) - 1) = (i : Int) by omega]
  have hts := B1M x y0 i
  have hwb := B4o a32 i
  rw [av] at hwb
  have htl := B6b x y0 (i + 1)
  refine A9 (nx (F5 2 3 4 5 6) (A5 (C0 (A3 ?_))))
  refine A4 (H6 (n := 8) (cs := nums .u32 o) rfl kR At.mem (by rw [nums_len]; omega)) rfl ?_
  refine A4 (H6 (n := 8) (cs := nums .u32 o) rfl kR At.mem (by rw [nums_len]; omega)) rfl ?_
  refine C9 (aS rfl (aS rfl a0)) kR (A6V _ _ _ _ ho0 ho0 htl htl _) rfl ?_
  rintro r1 M1 J1 ⟨rfl, rfl, k1⟩
  have h1 := k1
  obtain ⟨s, rfl, s8, s32, sv⟩ := k1
  refine A6 rfl (A8 (vs := nums .u32 s) rfl rfl rfl (by rw [nums_len, s8]; kernel_rfl) (by rw [nums_len, nums_len, o8, s8]) E8 UpC.upd ?_)
  refine A0 (F5 2 3 4 5 6) (A3 (mv_ ?_))
  refine A4 (A04 32 rfl rfl rfl qD (A2r qO)) rfl ?_
  refine A4 (E5 (e := 30) (n := 8) (sz := 1) (i := i / 32) rfl rfl kR kR rfl qO) rfl ?_
  refine A4 (Q9 (i / 32) rfl kR At.mem qO qO) rfl ?_
  refine mv_ ?_
  refine A4 (A05 32 rfl rfl rfl qD) rfl ?_
  refine A4 (A2K (a := a.getD (i / 32) 0) (b := i % 32) rfl rfl rfl rfl (by show _ ≤ 32; omega)) rfl ?_
  refine A4 (hwb ▸ N4 1 2 rfl rfl rfl rfl rfl (by show _ < 4294967296; exact Nat.lt_of_le_of_lt (Nat.div_le_self _ _) (a32.get _)) qD) rfl ?_
  refine A4 (F1 rfl rfl rfl) rfl ?_
  refine A0 (I1 2 3 4 5 6 22) ?_
  refine C7 rfl ?_ ?_ <;> intro hc
  ·
   have hb1 : x / 2 ^ i % 2 = 1 := by revert hc; generalize x / 2 ^ i % 2 = z; intro hc; simp at hc; omega
   rw [if_pos hb1] at hts
   refine C2 ?_
   refine A4 (H6 (n := 8) (cs := nums .u32 s) rfl kR At.mem (by rw [nums_len]; omega)) rfl ?_
   refine A4 (H6 (n := 8) (cs := nums .u32 b) rfl kR At.mem (by rw [nums_len]; omega)) rfl ?_
   refine C9 (aS rfl (aS rfl a0)) kR (A6V _ _ _ _ h1 ⟨b, rfl, b8, b32, bv_⟩ (Nat.mod_lt _ qD) hy _) rfl ?_
   rintro r2 M2 J2 ⟨rfl, rfl, k2⟩
   rw [← hts] at k2
   have h2 := k2
   obtain ⟨t, rfl, t8, t32, tv⟩ := k2
   refine A6 rfl (A8 (vs := nums .u32 t) rfl rfl rfl (by rw [nums_len, t8]; kernel_rfl) (by rw [nums_len, nums_len, s8, t8]) E8 UpC.upd ?_)
   refine D0 (nb (nx (F5 2 3 4 5 6) (C2 (mv_ ?_))))
   refine A4 (E3 ((i : Int) - 1) rfl rfl (Z9 rfl qO qO)) rfl ?_
   refine as_ (D0 ?_)
   exact rn (i, t) ⟨by dsimp only; omega, h2⟩ (by dsimp only; omega) (F5 2 3 4 5 6) .rfl qI
  ·
   have hb1 : ¬ x / 2 ^ i % 2 = 1 := by revert hc; generalize x / 2 ^ i % 2 = z; intro hc; simp at hc; omega
   rw [if_neg hb1] at hts
   refine A9 (nb (nx (F5 2 3 4 5 6) (C2 (mv_ ?_))))
   refine A4 (E3 ((i : Int) - 1) rfl rfl (Z9 rfl qO qO)) rfl ?_
   refine as_ (D0 ?_)
   exact rn (i, s) ⟨by dsimp only; omega, by dsimp only; rw [hts]; exact h1⟩ (by dsimp only; omega) (F5 2 3 4 5 6) .rfl qI
 ·
  have hj0 : j = 0 := by simp at hc; omega
  subst hj0
  refine E6 (te (re (be rfl (nx (D5 4 5) (A3 ?_)))))
  refine A4 (H6 (n := 8) (cs := nums .u32 o) rfl kR At.mem (by rw [nums_len]; omega)) rfl ?_
  refine A6 rfl (A8 (vs := nums .u32 o) rfl rfl rfl (by rw [nums_len, o8]; kernel_rfl) (by rw [nums_len, o8]; rfl) E8 UpC.upd ?_)
  refine A0 (D8 4) (C3 ?_)
  exact ⟨_, [], [], A1x (n := 8) rfl rfl kR At.mem (by rw [nums_len]; omega), List.nil_sublist _, by simp, rfl, rfl, by rw [show x * y0 % lN = tmN x y0 0 by unfold tmN; rw [Nat.pow_zero, Nat.div_one]]; exact ho0⟩
theorem A2g (pv : Value) (p : LN) (A : Mem) (hp : Rd A 1 pv p.length (nums .u8 p)) (hp256 : ∀ x ∈ p, x < 256) (hpl : p.length ≤ 1000000) : FnX Tryz.prog 74 [pv] [] A fun r M J => M = [] ∧ J = [] ∧ Sc r (bv p % lN) := by
 haveI := hp.cel
 refine FnX.enter (N := 30) Tryz.func74 rfl rfl rfl fun w => ?_
 refine C4 (D8 0) (A3 ?_)
 refine A6 rfl (C5 (cs := [G4, G4, G4, G4, G4, G4, G4, G4]) kR rfl fun b2 => ?_)
 refine A0 (D5 0 2) (A3 ?_)
 refine A6 rfl (C5 (cs := [G4, G4, G4, G4, G4, G4, G4, G4]) kR rfl fun b3 => ?_)
 refine A0 (E2 0 2 3) (A5 (A3 (mv_ ?_)))
 refine A4 (K1 (sz := 1) rfl kR hp) rfl ?_
 refine A4 (E3 ((8 * p.length : Nat) : Int) rfl rfl (A40 qO qO qO)) rfl ?_
 refine A4 (E3 (((8 * p.length : Nat) : Int) - 1) rfl rfl (Z9 rfl qO qO)) rfl ?_
 refine as_ (A0 (E7 0 2 3 4) (C0 ?_))
 refine A0p (M' := [(b3, blk (nums .u32 [0, 0, 0, 0, 0, 0, 0, 0]) 131), (b2, blk [.int .u32 0, .int .u32 0, .int .u32 0, .int .u32 0, .int .u32 0, .int .u32 0, .int .u32 0, .int .u32 0] 131)]) (Fit.eq rfl) qI ?_
 refine F2 (α := Nat × LN) (fun y => [(0, pv), (2, (vP b2)), (3, (vP b3)), (4, .int .i64 ((y.1 : Int) - 1))]) (fun y => [(b3, blk (nums .u32 y.2) 131), (b2, blk [.int .u32 0, .int .u32 0, .int .u32 0, .int .u32 0, .int .u32 0, .int .u32 0, .int .u32 0, .int .u32 0] 131)]) (fun _ => []) (fun y => y.1 ≤ 8 * p.length ∧ Sc (.agg (nums .u32 y.2).toArray) (tmN (bv p) 1 y.1)) (fun y => y.1) (8 * p.length, [0, 0, 0, 0, 0, 0, 0, 0]) ⟨Nat.le_refl _, _, rfl, rfl, B9V, by unfold tmN; rw [Nat.div_eq_of_lt (by have := B7s hp256; rwa [show 256 ^ p.length = 2 ^ (8 * p.length) by rw [Nat.pow_mul]] at this), Nat.zero_mul, Nat.zero_mod]; rfl⟩ (E7 0 2 3 4) .rfl qI ?_
 rintro ⟨j, o⟩ ⟨hj, ho⟩
 dsimp only at hj ho ⊢
 have ho0 := ho
 obtain ⟨o_, e_, o8, o32, ov⟩ := ho
 obtain rfl : o = o_ := A8W (by simpa using e_)
 refine A5 (A3 (mv_ ?_))
 refine A4 (F1 rfl rfl rfl) rfl ?_
 refine A0 (F5 0 2 3 4 10) ?_
 refine C7 rfl ?_ ?_ <;> intro hc
 ·
  have hj0 : 0 < j := by simp at hc; omega
  obtain ⟨i, rfl⟩ : ∃ i, j = i + 1 := ⟨j - 1, by omega⟩
  rw [show (((i + 1 : Nat) : Int) - 1) = (i : Int) by omega]
  have hts := B1M (bv p) 1 i
  have hwb := A6L hp256 i
  have htl := B6b (bv p) 1 (i + 1)
  have hpb : p.getD (i / 8) 0 < 256 := getD_lt hp256 qD
  refine A9 (nx (E7 0 2 3 4) (A5 (C0 (A3 ?_))))
  refine A4 (H6 (n := 8) (cs := nums .u32 o) rfl kR At.mem (by rw [nums_len]; omega)) rfl ?_
  refine A4 (H6 (n := 8) (cs := nums .u32 o) rfl kR At.mem (by rw [nums_len]; omega)) rfl ?_
  refine C9 (aS rfl (aS rfl a0)) kR (A6V _ _ _ _ ho0 ho0 htl htl _) rfl ?_
  rintro r1 M1 J1 ⟨rfl, rfl, k1⟩
  have h1 := k1
  obtain ⟨s, rfl, s8, s32, sv⟩ := k1
  refine A6 rfl (A8 (vs := nums .u32 s) rfl rfl rfl (by rw [nums_len, s8]; kernel_rfl) (by rw [nums_len, nums_len, o8, s8]) E8 UpC.upd ?_)
  refine A0 (E7 0 2 3 4) (A3 (mv_ (mv_ ?_)))
  refine A4 (A04 8 rfl rfl rfl qD (A2r qO)) rfl ?_
  refine A4 (K0 (sz := 1) (a := i / 8) rfl rfl kR rfl hp qO) rfl ?_
  refine A4 (A00 (j := i / 8) (u := .int .u8 ((p.getD (i / 8) 0 : Nat) : Int)) (hp.mono qS) rfl kR (W6 qO)) rfl ?_
  refine mv_ ?_
  refine A4 (A05 8 rfl rfl rfl qD) rfl ?_
  refine A4 (A2K (a := p.getD (i / 8) 0) (b := i % 8) rfl rfl rfl rfl (by show _ ≤ 8; omega)) rfl ?_
  refine A4 (hwb ▸ N4 1 2 rfl rfl rfl rfl rfl (by show _ < 256; exact Nat.lt_of_le_of_lt (Nat.div_le_self _ _) hpb) qD) rfl ?_
  refine A4 (F1 rfl rfl rfl) rfl ?_
  refine A0 (F5 0 2 3 4 25) ?_
  refine C7 rfl ?_ ?_ <;> intro hc
  ·
   have hb1 : bv p / 2 ^ i % 2 = 1 := by revert hc; generalize bv p / 2 ^ i % 2 = z; intro hc; simp at hc; omega
   rw [if_pos hb1] at hts
   refine C2 ?_
   refine A4 (H6 (n := 8) (cs := nums .u32 s) rfl kR At.mem (by rw [nums_len]; omega)) rfl ?_
   refine A4 (F3 (place := fun i => some (i * 1, 1)) (z := [G4, G4, G4, G4, G4, G4, G4, G4]) (fun _ => by kernel_rfl) (eS rfl e0) (bdS 0 1 rfl qR bd0)) rfl ?_
   refine C9 (aS rfl (aS rfl a0)) kR (A6V _ _ _ 1 h1 ⟨[1, 0, 0, 0, 0, 0, 0, 0], rfl, rfl, C1P, by decide⟩ (Nat.mod_lt _ qD) qD _) rfl ?_
   rintro r2 M2 J2 ⟨rfl, rfl, k2⟩
   rw [← hts] at k2
   have h2 := k2
   obtain ⟨t, rfl, t8, t32, tv⟩ := k2
   refine A6 rfl (A8 (vs := nums .u32 t) rfl rfl rfl (by rw [nums_len, t8]; kernel_rfl) (by rw [nums_len, nums_len, s8, t8]) E8 UpC.upd ?_)
   refine D0 (nb (nx (E7 0 2 3 4) (C2 (mv_ ?_))))
   refine A4 (E3 ((i : Int) - 1) rfl rfl (Z9 rfl qO qO)) rfl ?_
   refine as_ (D0 ?_)
   exact rn (i, t) ⟨by dsimp only; omega, h2⟩ (by dsimp only; omega) (E7 0 2 3 4) .rfl qI
  ·
   have hb1 : ¬ bv p / 2 ^ i % 2 = 1 := by revert hc; generalize bv p / 2 ^ i % 2 = z; intro hc; simp at hc; omega
   rw [if_neg hb1] at hts
   refine A9 (nb (nx (E7 0 2 3 4) (C2 (mv_ ?_))))
   refine A4 (E3 ((i : Int) - 1) rfl rfl (Z9 rfl qO qO)) rfl ?_
   refine as_ (D0 ?_)
   exact rn (i, s) ⟨by dsimp only; omega, by dsimp only; rw [hts]; exact h1⟩ (by dsimp only; omega) (E7 0 2 3 4) .rfl qI
 ·
  have hj0 : j = 0 := by simp at hc; omega
  subst hj0
  refine E6 (te (re (be rfl (nx (D5 2 3) (A3 ?_)))))
  refine A4 (H6 (n := 8) (cs := nums .u32 o) rfl kR At.mem (by rw [nums_len]; omega)) rfl ?_
  refine A6 rfl (A8 (vs := nums .u32 o) rfl rfl rfl (by rw [nums_len, o8]; kernel_rfl) (by rw [nums_len, o8]; rfl) E8 UpC.upd ?_)
  refine A0 (D8 2) (C3 ?_)
  exact ⟨_, [], [], A1x (n := 8) rfl rfl kR At.mem (by rw [nums_len]; omega), List.nil_sublist _, by simp, rfl, rfl, by rw [show bv p % lN = tmN (bv p) 1 0 by unfold tmN; rw [Nat.pow_zero, Nat.div_one, Nat.mul_one]]; exact ho0⟩
theorem A2h (v : Value) (n : Nat) (hv : Sc v n) (A : Mem) : FnV Tryz.prog 70 [v] A (.agg (nums .u8 (N9 n 32)).toArray) := by
 obtain ⟨a, rfl, a8, a32, av⟩ := hv
 refine FnX.enter (N := 21) Tryz.func70 rfl rfl rfl fun w => ?_
 refine C4 (D8 0) (A3 ?_)
 refine A6 rfl (bx_ fun b1 => ?_)
 refine A6 rfl (C5 (cs := [zu8, zu8, zu8, zu8, zu8, zu8, zu8, zu8, zu8, zu8, zu8, zu8, zu8, zu8, zu8, zu8, zu8, zu8, zu8, zu8, zu8, zu8, zu8, zu8, zu8, zu8, zu8, zu8, zu8, zu8, zu8, zu8]) kR rfl fun b2 => ?_)
 refine A0 (D5 1 2) (A3 ?_)
 refine A6 rfl (C5 (cs := [zu8, zu8, zu8, zu8, zu8, zu8, zu8, zu8, zu8, zu8, zu8, zu8, zu8, zu8, zu8, zu8, zu8, zu8, zu8, zu8, zu8, zu8, zu8, zu8, zu8, zu8, zu8, zu8, zu8, zu8, zu8, zu8]) kR rfl fun b3 => ?_)
 refine A0 (E2 1 2 3) (A5 (A3 (mv_ (A0 (E7 1 2 3 5) (C0 ?_)))))
 refine A0p (M' := [(b3, blk (nums .u8 (N9 n 0 ++ (List.replicate 32 0).drop 0)) 110), (b2, blk [.int .u8 0, .int .u8 0, .int .u8 0, .int .u8 0, .int .u8 0, .int .u8 0, .int .u8 0, .int .u8 0, .int .u8 0, .int .u8 0, .int .u8 0, .int .u8 0, .int .u8 0, .int .u8 0, .int .u8 0, .int .u8 0, .int .u8 0, .int .u8 0, .int .u8 0, .int .u8 0, .int .u8 0, .int .u8 0, .int .u8 0, .int .u8 0, .int .u8 0, .int .u8 0, .int .u8 0, .int .u8 0, .int .u8 0, .int .u8 0, .int .u8 0, .int .u8 0] 110), (b1, blk (nums .u32 a) 131)]) (Fit.eq rfl) qI ?_
 refine F2 (α := Nat) (fun i => [(1, (vP b1)), (2, (vP b2)), (3, (vP b3)), (5, .int .i64 (i : Int))]) (fun i => [(b3, blk (nums .u8 (N9 n i ++ (List.replicate 32 0).drop i)) 110), (b2, blk [.int .u8 0, .int .u8 0, .int .u8 0, .int .u8 0, .int .u8 0, .int .u8 0, .int .u8 0, .int .u8 0, .int .u8 0, .int .u8 0, .int .u8 0, .int .u8 0, .int .u8 0, .int .u8 0, .int .u8 0, .int .u8 0, .int .u8 0, .int .u8 0, .int .u8 0, .int .u8 0, .int .u8 0, .int .u8 0, .int .u8 0, .int .u8 0, .int .u8 0, .int .u8 0, .int .u8 0, .int .u8 0, .int .u8 0, .int .u8 0, .int .u8 0, .int .u8 0] 110), (b1, blk (nums .u32 a) 131)]) (fun _ => []) (fun i => i ≤ 32) (fun i => 32 - i) 0 (Nat.zero_le _) (E7 1 2 3 5) .rfl qI ?_
 rintro i hi
 have hdl := L8 n i
 have hpl : (N9 n i ++ (List.replicate 32 0).drop i).length = 32 := A5E hdl qM hi
 refine A3 ?_
 refine A4 (F1 rfl rfl rfl) rfl ?_
 refine A0 (F5 1 2 3 5 6) (A5 ?_)
 refine C7 rfl ?_ ?_ <;> intro hc
 ·
  have hlt : i < 32 := by simp at hc; omega
  have hwb := B1H a32 i
  rw [av] at hwb
  refine A9 (nx (E7 1 2 3 5) (A5 (C0 (A3 (mv_ (as_ (A0 (F5 1 2 3 4 5) (C2 ?_))))))))
  refine mv_ (mv_ ?_)
  refine A4 (A04 4 rfl rfl rfl qD (A2r qO)) rfl ?_
  refine A4 (E5 (e := 30) (n := 8) (sz := 1) (i := i / 4) rfl rfl kR kR rfl qO) rfl ?_
  refine A4 (Q9 (i / 4) rfl kR At.mem qO qO) rfl ?_
  refine mv_ ?_
  refine A4 (A05 4 rfl rfl rfl qD) rfl ?_
  refine A4 (E3 ((8 * (i % 4) : Nat) : Int) rfl rfl (A40 qO qO qO)) rfl ?_
  refine A4 (A2K (a := a.getD (i / 4) 0) (b := 8 * (i % 4)) rfl rfl rfl rfl (by show _ ≤ 32; omega)) rfl ?_
  refine A4 (hwb ▸ A3o rfl kR) rfl ?_
  refine A4 (E5 (e := 5) (n := 32) (sz := 1) (i := i) rfl rfl kR kR rfl qO) rfl ?_
  refine A6 rfl (T7 i rfl rfl kR qO qO UpC.upd ?_)
  refine D0 (nb (nx (E7 1 2 3 5) (C2 ?_)))
  refine A4 (E3 ((i + 1 : Nat) : Int) rfl rfl (G3 qO qO qO)) rfl ?_
  refine mv_ (D0 ?_)
  exact rn (i + 1) qO qO (E7 1 2 3 5) (Fit.eq (by rw [A5D hdl (by simpa using hlt), B1F])) qI
 ·
  have hge : i = 32 := by simp at hc; omega
  subst hge
  rw [show (List.replicate 32 0).drop 32 = ([] : LN) from rfl, List.append_nil] at *
  refine E6 (te (re (be rfl (nx (D5 2 3) (A3 ?_)))))
  refine A4 (H6 (n := 32) (cs := nums .u8 (N9 n 32)) rfl kR At.mem (by rw [nums_len]; omega)) rfl ?_
  refine A6 rfl (A8 (vs := nums .u8 (N9 n 32)) rfl rfl rfl (by rw [nums_len, L8]; kernel_rfl) (by rw [nums_len, L8]; rfl) E8 UpC.upd ?_)
  refine A0 (D8 2) (C3 ?_)
  exact ⟨_, [], [], A1x (n := 32) rfl rfl kR At.mem (by rw [nums_len, L8]), List.nil_sublist _, by simp, rfl, rfl, rfl⟩

end Go.Proofs.YtoigcbkclcbmpaaGreatDoor
set_option maxRecDepth 10000
namespace Go.Ed
variable {n : Nat} [NeZero n]
theorem C1Q (x1 y1 x2 y2 x3 y3 d : Fin n) (h1 : y1*y1 - x1*x1 = 1 + d*x1*x1*y1*y1) (h2 : y2*y2 - x2*x2 = 1 + d*x2*x2*y2*y2) (h3 : y3*y3 - x3*x3 = 1 + d*x3*x3*y3*y3) :
    ((x1*y2+x2*y1)*(1-d*x1*x2*y1*y2)*y3 + (y1*y2+x1*x2)*(1+d*x1*x2*y1*y2)*x3) * ((1-d*x2*x3*y2*y3)*(1+d*x2*x3*y2*y3) + d*x1*y1*(x2*y3+x3*y2)*(y2*y3+x2*x3))
    = (x1*(y2*y3+x2*x3)*(1+d*x2*x3*y2*y3) + y1*(x2*y3+x3*y2)*(1-d*x2*x3*y2*y3)) * ((1-d*x1*x2*y1*y2)*(1+d*x1*x2*y1*y2) + d*(x1*y2+x2*y1)*(y1*y2+x1*x2)*x3*y3) := by
  have e1 : y1*y1 - x1*x1 - (1 + d*x1*x1*y1*y1) = 0 := by grind
  have e2 : y2*y2 - x2*x2 - (1 + d*x2*x2*y2*y2) = 0 := by grind
  have e3 : y3*y3 - x3*x3 - (1 + d*x3*x3*y3*y3) = 0 := by grind
  have e : ((x1*y2+x2*y1)*(1-d*x1*x2*y1*y2)*y3 + (y1*y2+x1*x2)*(1+d*x1*x2*y1*y2)*x3) * ((1-d*x2*x3*y2*y3)*(1+d*x2*x3*y2*y3) + d*x1*y1*(x2*y3+x3*y2)*(y2*y3+x2*x3))
    - (x1*(y2*y3+x2*x3)*(1+d*x2*x3*y2*y3) + y1*(x2*y3+x3*y2)*(1-d*x2*x3*y2*y3)) * ((1-d*x1*x2*y1*y2)*(1+d*x1*x2*y1*y2) + d*(x1*y2+x2*y1)*(y1*y2+x1*x2)*x3*y3)
    = (y1*x2*x2*x2*y2*y2*y2*y2*x3*x3*y3*d*d + y1*x2*x2*x2*x2*y2*y2*y2*x3*y3*y3*d*d - x1*x2*x2*x2*y2*y2*y2*y2*x3*y3*y3*d*d - x1*x2*x2*x2*x2*y2*y2*y2*x3*x3*y3*d*d - y1*x2*y2*y2*y2*y2*x3*x3*y3*d - y1*x2*x2*y2*y2*y2*x3*x3*x3*d + y1*x2*x2*x2*y2*y2*y3*y3*y3*d + y1*x2*x2*x2*x2*y2*x3*y3*y3*d + x1*x2*y2*y2*y2*y2*x3*y3*y3*d + x1*x2*x2*y2*y2*y2*y3*y3*y3*d - x1*x2*x2*x2*y2*y2*x3*x3*x3*d - x1*x2*x2*x2*x2*y2*x3*x3*y3*d - y1*x2*x2*y2*y2*y2*x3*d - y1*x2*x2*x2*y2*y2*y3*d - x1*x2*x2*y2*y2*y2*y3*d - x1*x2*x2*x2*y2*y2*x3*d) * (y1*y1 - x1*x1 - (1 + d*x1*x1*y1*y1)) + (x1*y1*y1*x2*y2*y2*x3*x3*x3*y3*y3*d*d - x1*y1*y1*x2*x2*y2*x3*x3*y3*y3*y3*d*d - x1*x1*y1*x2*y2*y2*x3*x3*y3*y3*y3*d*d + x1*x1*y1*x2*x2*y2*x3*x3*x3*y3*y3*d*d - y1*y1*y1*y2*x3*x3*x3*y3*y3*d - y1*y1*y1*x2*x3*x3*y3*y3*y3*d + y1*y1*y1*x2*y2*y2*x3*x3*y3*d + y1*y1*y1*x2*x2*y2*x3*y3*y3*d - x1*y1*y1*y2*x3*x3*y3*y3*y3*d - x1*y1*y1*x2*x3*x3*x3*y3*y3*d - x1*y1*y1*x2*y2*y2*x3*y3*y3*d - x1*y1*y1*x2*x2*y2*x3*x3*y3*d + x1*x1*y1*y2*x3*x3*x3*y3*y3*d + x1*x1*y1*x2*x3*x3*y3*y3*y3*d - x1*x1*y1*x2*y2*y2*x3*x3*y3*d - x1*x1*y1*x2*x2*y2*x3*y3*y3*d + x1*x1*x1*y2*x3*x3*y3*y3*y3*d + x1*x1*x1*x2*x3*x3*x3*y3*y3*d + x1*x1*x1*x2*y2*y2*x3*y3*y3*d + x1*x1*x1*x2*x2*y2*x3*x3*y3*d + y1*y2*x3*x3*x3*y3*y3*d + y1*x2*x3*x3*y3*y3*y3*d - y1*x2*y2*y2*x3*x3*y3*d - y1*x2*x2*y2*x3*y3*y3*d + x1*y2*x3*x3*y3*y3*y3*d + x1*x2*x3*x3*x3*y3*y3*d + x1*x2*y2*y2*x3*y3*y3*d + x1*x2*x2*y2*x3*x3*y3*d + y1*y1*y1*y2*x3*y3*y3 - y1*y1*y1*y2*x3*x3*x3 + y1*y1*y1*x2*y3*y3*y3 - y1*y1*y1*x2*x3*x3*y3 + x1*y1*y1*y2*y3*y3*y3 - x1*y1*y1*y2*x3*x3*y3 + x1*y1*y1*x2*x3*y3*y3 - x1*y1*y1*x2*x3*x3*x3 - x1*x1*y1*y2*x3*y3*y3 + x1*x1*y1*y2*x3*x3*x3 - x1*x1*y1*x2*y3*y3*y3 + x1*x1*y1*x2*x3*x3*y3 - x1*x1*x1*y2*y3*y3*y3 + x1*x1*x1*y2*x3*x3*y3 - x1*x1*x1*x2*x3*y3*y3 + x1*x1*x1*x2*x3*x3*x3 - y1*y2*x3*y3*y3 + y1*y2*x3*x3*x3 - y1*x2*y3*y3*y3 + y1*x2*x3*x3*y3 - y1*y1*y1*y2*x3 - y1*y1*y1*x2*y3 - x1*y2*y3*y3*y3 + x1*y2*x3*x3*y3 - x1*x2*x3*y3*y3 + x1*x2*x3*x3*x3 - x1*y1*y1*y2*y3 - x1*y1*y1*x2*x3 + x1*x1*y1*y2*x3 + x1*x1*y1*x2*y3 + x1*x1*x1*y2*y3 + x1*x1*x1*x2*x3 + y1*y2*x3 + y1*x2*y3 + x1*y2*y3 + x1*x2*x3) * (y2*y2 - x2*x2 - (1 + d*x2*x2*y2*y2)) + (-x1*y1*y1*x2*y2*y2*x3*d + x1*y1*y1*x2*x2*y2*y3*d + x1*x1*y1*x2*y2*y2*y3*d - x1*x1*y1*x2*x2*y2*x3*d - y1*y1*y1*y2*y2*y2*x3 - y1*y1*y1*x2*y2*y2*y3 + y1*y1*y1*x2*x2*y2*x3 + y1*y1*y1*x2*x2*x2*y3 - x1*y1*y1*y2*y2*y2*y3 - x1*y1*y1*x2*y2*y2*x3 + x1*y1*y1*x2*x2*y2*y3 + x1*y1*y1*x2*x2*x2*x3 + x1*x1*y1*y2*y2*y2*x3 + x1*x1*y1*x2*y2*y2*y3 - x1*x1*y1*x2*x2*y2*x3 - x1*x1*y1*x2*x2*x2*y3 + x1*x1*x1*y2*y2*y2*y3 + x1*x1*x1*x2*y2*y2*x3 - x1*x1*x1*x2*x2*y2*y3 - x1*x1*x1*x2*x2*x2*x3 + y1*y2*y2*y2*x3 + y1*x2*y2*y2*y3 - y1*x2*x2*y2*x3 - y1*x2*x2*x2*y3 + y1*y1*y1*y2*x3 + y1*y1*y1*x2*y3 + x1*y2*y2*y2*y3 + x1*x2*y2*y2*x3 - x1*x2*x2*y2*y3 - x1*x2*x2*x2*x3 + x1*y1*y1*y2*y3 + x1*y1*y1*x2*x3 - x1*x1*y1*y2*x3 - x1*x1*y1*x2*y3 - x1*x1*x1*y2*y3 - x1*x1*x1*x2*x3 - y1*y2*x3 - y1*x2*y3 - x1*y2*y3 - x1*x2*x3) * (y3*y3 - x3*x3 - (1 + d*x3*x3*y3*y3)) := by
    clear h1 h2 h3 e1 e2 e3
    grind
  rw [e1, e2, e3] at e
  clear h1 h2 h3 e1 e2 e3
  grind
theorem C1R (x1 y1 x2 y2 x3 y3 d : Fin n) (h1 : y1*y1 - x1*x1 = 1 + d*x1*x1*y1*y1) (h2 : y2*y2 - x2*x2 = 1 + d*x2*x2*y2*y2) (h3 : y3*y3 - x3*x3 = 1 + d*x3*x3*y3*y3) :
    ((y1*y2+x1*x2)*(1+d*x1*x2*y1*y2)*y3 + (x1*y2+x2*y1)*(1-d*x1*x2*y1*y2)*x3) * ((1-d*x2*x3*y2*y3)*(1+d*x2*x3*y2*y3) - d*x1*y1*(x2*y3+x3*y2)*(y2*y3+x2*x3))
    = (y1*(y2*y3+x2*x3)*(1+d*x2*x3*y2*y3) + x1*(x2*y3+x3*y2)*(1-d*x2*x3*y2*y3)) * ((1-d*x1*x2*y1*y2)*(1+d*x1*x2*y1*y2) - d*(x1*y2+x2*y1)*(y1*y2+x1*x2)*x3*y3) := by
  have e1 : y1*y1 - x1*x1 - (1 + d*x1*x1*y1*y1) = 0 := by grind
  have e2 : y2*y2 - x2*x2 - (1 + d*x2*x2*y2*y2) = 0 := by grind
  have e3 : y3*y3 - x3*x3 - (1 + d*x3*x3*y3*y3) = 0 := by grind
  have e : ((y1*y2+x1*x2)*(1+d*x1*x2*y1*y2)*y3 + (x1*y2+x2*y1)*(1-d*x1*x2*y1*y2)*x3) * ((1-d*x2*x3*y2*y3)*(1+d*x2*x3*y2*y3) - d*x1*y1*(x2*y3+x3*y2)*(y2*y3+x2*x3))
    - (y1*(y2*y3+x2*x3)*(1+d*x2*x3*y2*y3) + x1*(x2*y3+x3*y2)*(1-d*x2*x3*y2*y3)) * ((1-d*x1*x2*y1*y2)*(1+d*x1*x2*y1*y2) - d*(x1*y2+x2*y1)*(y1*y2+x1*x2)*x3*y3)
    = (-y1*x2*x2*x2*y2*y2*y2*y2*x3*y3*y3*d*d - y1*x2*x2*x2*x2*y2*y2*y2*x3*x3*y3*d*d + x1*x2*x2*x2*y2*y2*y2*y2*x3*x3*y3*d*d + x1*x2*x2*x2*x2*y2*y2*y2*x3*y3*y3*d*d + y1*x2*y2*y2*y2*y2*x3*y3*y3*d + y1*x2*x2*y2*y2*y2*y3*y3*y3*d - y1*x2*x2*x2*y2*y2*x3*x3*x3*d - y1*x2*x2*x2*x2*y2*x3*x3*y3*d - x1*x2*y2*y2*y2*y2*x3*x3*y3*d - x1*x2*x2*y2*y2*y2*x3*x3*x3*d + x1*x2*x2*x2*y2*y2*y3*y3*y3*d + x1*x2*x2*x2*x2*y2*x3*y3*y3*d - y1*x2*x2*y2*y2*y2*y3*d - y1*x2*x2*x2*y2*y2*x3*d - x1*x2*x2*y2*y2*y2*x3*d - x1*x2*x2*x2*y2*y2*y3*d) * (y1*y1 - x1*x1 - (1 + d*x1*x1*y1*y1)) + (x1*y1*y1*x2*y2*y2*x3*x3*y3*y3*y3*d*d - x1*y1*y1*x2*x2*y2*x3*x3*x3*y3*y3*d*d - x1*x1*y1*x2*y2*y2*x3*x3*x3*y3*y3*d*d + x1*x1*y1*x2*x2*y2*x3*x3*y3*y3*y3*d*d - y1*y1*y1*y2*x3*x3*y3*y3*y3*d - y1*y1*y1*x2*x3*x3*x3*y3*y3*d - y1*y1*y1*x2*y2*y2*x3*y3*y3*d - y1*y1*y1*x2*x2*y2*x3*x3*y3*d - x1*y1*y1*y2*x3*x3*x3*y3*y3*d - x1*y1*y1*x2*x3*x3*y3*y3*y3*d + x1*y1*y1*x2*y2*y2*x3*x3*y3*d + x1*y1*y1*x2*x2*y2*x3*y3*y3*d + x1*x1*y1*y2*x3*x3*y3*y3*y3*d + x1*x1*y1*x2*x3*x3*x3*y3*y3*d + x1*x1*y1*x2*y2*y2*x3*y3*y3*d + x1*x1*y1*x2*x2*y2*x3*x3*y3*d + x1*x1*x1*y2*x3*x3*x3*y3*y3*d + x1*x1*x1*x2*x3*x3*y3*y3*y3*d - x1*x1*x1*x2*y2*y2*x3*x3*y3*d - x1*x1*x1*x2*x2*y2*x3*y3*y3*d + y1*y2*x3*x3*y3*y3*y3*d + y1*x2*x3*x3*x3*y3*y3*d + y1*x2*y2*y2*x3*y3*y3*d + y1*x2*x2*y2*x3*x3*y3*d + x1*y2*x3*x3*x3*y3*y3*d + x1*x2*x3*x3*y3*y3*y3*d - x1*x2*y2*y2*x3*x3*y3*d - x1*x2*x2*y2*x3*y3*y3*d + y1*y1*y1*y2*y3*y3*y3 - y1*y1*y1*y2*x3*x3*y3 + y1*y1*y1*x2*x3*y3*y3 - y1*y1*y1*x2*x3*x3*x3 + x1*y1*y1*y2*x3*y3*y3 - x1*y1*y1*y2*x3*x3*x3 + x1*y1*y1*x2*y3*y3*y3 - x1*y1*y1*x2*x3*x3*y3 - x1*x1*y1*y2*y3*y3*y3 + x1*x1*y1*y2*x3*x3*y3 - x1*x1*y1*x2*x3*y3*y3 + x1*x1*y1*x2*x3*x3*x3 - x1*x1*x1*y2*x3*y3*y3 + x1*x1*x1*y2*x3*x3*x3 - x1*x1*x1*x2*y3*y3*y3 + x1*x1*x1*x2*x3*x3*y3 - y1*y2*y3*y3*y3 + y1*y2*x3*x3*y3 - y1*x2*x3*y3*y3 + y1*x2*x3*x3*x3 - y1*y1*y1*y2*y3 - y1*y1*y1*x2*x3 - x1*y2*x3*y3*y3 + x1*y2*x3*x3*x3 - x1*x2*y3*y3*y3 + x1*x2*x3*x3*y3 - x1*y1*y1*y2*x3 - x1*y1*y1*x2*y3 + x1*x1*y1*y2*y3 + x1*x1*y1*x2*x3 + x1*x1*x1*y2*x3 + x1*x1*x1*x2*y3 + y1*y2*y3 + y1*x2*x3 + x1*y2*x3 + x1*x2*y3) * (y2*y2 - x2*x2 - (1 + d*x2*x2*y2*y2)) + (-x1*y1*y1*x2*y2*y2*y3*d + x1*y1*y1*x2*x2*y2*x3*d + x1*x1*y1*x2*y2*y2*x3*d - x1*x1*y1*x2*x2*y2*y3*d - y1*y1*y1*y2*y2*y2*y3 - y1*y1*y1*x2*y2*y2*x3 + y1*y1*y1*x2*x2*y2*y3 + y1*y1*y1*x2*x2*x2*x3 - x1*y1*y1*y2*y2*y2*x3 - x1*y1*y1*x2*y2*y2*y3 + x1*y1*y1*x2*x2*y2*x3 + x1*y1*y1*x2*x2*x2*y3 + x1*x1*y1*y2*y2*y2*y3 + x1*x1*y1*x2*y2*y2*x3 - x1*x1*y1*x2*x2*y2*y3 - x1*x1*y1*x2*x2*x2*x3 + x1*x1*x1*y2*y2*y2*x3 + x1*x1*x1*x2*y2*y2*y3 - x1*x1*x1*x2*x2*y2*x3 - x1*x1*x1*x2*x2*x2*y3 + y1*y2*y2*y2*y3 + y1*x2*y2*y2*x3 - y1*x2*x2*y2*y3 - y1*x2*x2*x2*x3 + y1*y1*y1*y2*y3 + y1*y1*y1*x2*x3 + x1*y2*y2*y2*x3 + x1*x2*y2*y2*y3 - x1*x2*x2*y2*x3 - x1*x2*x2*x2*y3 + x1*y1*y1*y2*x3 + x1*y1*y1*x2*y3 - x1*x1*y1*y2*y3 - x1*x1*y1*x2*x3 - x1*x1*x1*y2*x3 - x1*x1*x1*x2*y3 - y1*y2*y3 - y1*x2*x3 - x1*y2*x3 - x1*x2*y3) * (y3*y3 - x3*x3 - (1 + d*x3*x3*y3*y3)) := by
    clear h1 h2 h3 e1 e2 e3
    grind
  rw [e1, e2, e3] at e
  clear h1 h2 h3 e1 e2 e3
  grind
theorem B9W (x1 y1 x2 y2 d : Fin n) (h1 : y1*y1 - x1*x1 = 1 + d*x1*x1*y1*y1) (h2 : y2*y2 - x2*x2 = 1 + d*x2*x2*y2*y2) :
    (y1*y2+x1*x2)*(y1*y2+x1*x2)*(1+d*x1*x2*y1*y2)*(1+d*x1*x2*y1*y2) - (x1*y2+x2*y1)*(x1*y2+x2*y1)*(1-d*x1*x2*y1*y2)*(1-d*x1*x2*y1*y2)
    = (1-d*x1*x2*y1*y2)*(1-d*x1*x2*y1*y2)*(1+d*x1*x2*y1*y2)*(1+d*x1*x2*y1*y2) + d*(x1*y2+x2*y1)*(x1*y2+x2*y1)*(y1*y2+x1*x2)*(y1*y2+x1*x2) := by
  have e1 : y1*y1 - x1*x1 - (1 + d*x1*x1*y1*y1) = 0 := by grind
  have e2 : y2*y2 - x2*x2 - (1 + d*x2*x2*y2*y2) = 0 := by grind
  have e : (y1*y2+x1*x2)*(y1*y2+x1*x2)*(1+d*x1*x2*y1*y2)*(1+d*x1*x2*y1*y2) - (x1*y2+x2*y1)*(x1*y2+x2*y1)*(1-d*x1*x2*y1*y2)*(1-d*x1*x2*y1*y2)
    - ((1-d*x1*x2*y1*y2)*(1-d*x1*x2*y1*y2)*(1+d*x1*x2*y1*y2)*(1+d*x1*x2*y1*y2) + d*(x1*y2+x2*y1)*(x1*y2+x2*y1)*(y1*y2+x1*x2)*(y1*y2+x1*x2))
    = (x1*x1*y1*y1*x2*x2*x2*x2*y2*y2*y2*y2*d*d*d + y1*y1*x2*x2*x2*x2*y2*y2*y2*y2*d*d - x1*x1*x2*x2*x2*x2*y2*y2*y2*y2*d*d - x2*x2*x2*x2*y2*y2*y2*y2*d*d - 2*x2*x2*x2*x2*y2*y2*y2*y2*d - y1*y1*x2*x2*y2*y2*y2*y2*d + y1*y1*x2*x2*x2*x2*y2*y2*d + x1*x1*x2*x2*y2*y2*y2*y2*d - x1*x1*x2*x2*x2*x2*y2*y2*d + 2*x2*x2*y2*y2*y2*y2 - 2*x2*x2*x2*x2*y2*y2 - 2*x2*x2*y2*y2*d + y2*y2*y2*y2 - 4*x2*x2*y2*y2 + x2*x2*x2*x2) * (y1*y1 - x1*x1 - (1 + d*x1*x1*y1*y1)) + (y1*y1*y1*y1*x2*x2*y2*y2*d + x1*x1*x1*x1*x2*x2*y2*y2*d - 2*y1*y1*x2*x2*y2*y2*d + 2*x1*x1*x2*x2*y2*y2*d - 2*y1*y1*x2*x2*y2*y2 + 2*x1*x1*x2*x2*y2*y2 + x2*x2*y2*y2*d + 2*x2*x2*y2*y2 - y1*y1*y2*y2 + y1*y1*x2*x2 + x1*x1*y2*y2 - x1*x1*x2*x2 + y2*y2 - x2*x2 + 1) * (y2*y2 - x2*x2 - (1 + d*x2*x2*y2*y2)) := by
    clear h1 h2 e1 e2
    grind
  rw [e1, e2] at e
  clear h1 h2 e1 e2
  grind
structure Fld (n : Nat) [NeZero n] (d : Fin n) where
  inv : Fin n → Fin n
  ii : Fin n
  mul0 : ∀ a b : Fin n, a * b = 0 → a = 0 ∨ b = 0
  one : (1 : Fin n) ≠ 0
  two : (2 : Fin n) ≠ 0
  hinv : ∀ a : Fin n, a ≠ 0 → a * inv a = 1
  hii : ii * ii = -1
  hd : ∀ s t : Fin n, s * s = d * (t * t) → t = 0
variable {d : Fin n} (F : Fld n d)
structure On (d : Fin n) (P : Fin n × Fin n) : Prop where
  eq : P.2*P.2 - P.1*P.1 = 1 + d*P.1*P.1*P.2*P.2
include F
theorem Fld.cancel {a b c : Fin n} (ha : a ≠ 0) (h : a * b = a * c) : b = c := by
  have : a * (b - c) = 0 := by grind
  rcases F.mul0 _ _ this with h1 | h1
  · exact absurd h1 ha
  · grind
theorem Fld.mul_ne {a b : Fin n} (ha : a ≠ 0) (hb : b ≠ 0) : a * b ≠ 0 := fun h => (F.mul0 _ _ h).elim ha hb
theorem Fld.complete {P Q : Fin n × Fin n} (hP : On d P) (hQ : On d Q) : 1 + d*P.1*Q.1*P.2*Q.2 ≠ 0 ∧ 1 - d*P.1*Q.1*P.2*Q.2 ≠ 0 := by
  obtain ⟨x1, y1⟩ := P
  obtain ⟨x2, y2⟩ := Q
  have h1 := hP.eq
  have h2 := hQ.eq
  dsimp only at h1 h2 ⊢
  have hii := F.hii
  have hd := F.hd
  have key : ∀ e : Fin n, d*x1*x2*y1*y2 = e → e * e = 1 → False := by
    intro e he hee
    have he0 : e ≠ 0 := fun h => F.one (by rw [h] at hee; grind)
    generalize F.ii = i at *
    have q1 : (i*x1 + e*y1) * (i*x1 + e*y1) = d * ((x1*y1*(i*x2+y2)) * (x1*y1*(i*x2+y2))) := by
      have a1 : x2*x2 = y2*y2 - 1 - d*x2*x2*y2*y2 := by grind
      have a2 : y1*y1 - x1*x1 = 1 + d*x1*x1*y1*y1 := h1
      have a3 : (d*x1*x2*y1*y2) * (d*x1*x2*y1*y2) = 1 := by rw [he]; exact hee
      grind
    have q2 : (i*x1 - e*y1) * (i*x1 - e*y1) = d * ((x1*y1*(i*x2-y2)) * (x1*y1*(i*x2-y2))) := by
      have a3 : (d*x1*x2*y1*y2) * (d*x1*x2*y1*y2) = 1 := by rw [he]; exact hee
      grind
    have z1 := hd _ _ q1
    have z2 := hd _ _ q2
    have hx1 : x1 ≠ 0 := fun h => he0 (by rw [← he, h]; grind)
    have hy1 : y1 ≠ 0 := fun h => he0 (by rw [← he, h]; grind)
    have hx2 : x2 ≠ 0 := fun h => he0 (by rw [← he, h]; grind)
    have hxy := F.mul_ne hx1 hy1
    have w1 : i*x2+y2 = 0 := (F.mul0 _ _ z1).resolve_left hxy
    have w2 : i*x2-y2 = 0 := (F.mul0 _ _ z2).resolve_left hxy
    have w3 : 2 * (i * x2) = 0 := by grind
    have w4 : i * x2 = 0 := (F.mul0 _ _ w3).resolve_left F.two
    have w5 : i = 0 := (F.mul0 _ _ w4).resolve_right hx2
    rw [w5] at hii
    exact F.one (by grind)
  refine ⟨fun h => key (-1) (by grind) (by grind), fun h => key 1 (by grind) (by grind)⟩
omit F in
theorem On.o : On d ((0 : Fin n), (1 : Fin n)) := ⟨by grind⟩
def Fld.add (P Q : Fin n × Fin n) : Fin n × Fin n :=
  ((P.1*Q.2 + Q.1*P.2) * F.inv (1 + d*P.1*Q.1*P.2*Q.2), (P.2*Q.2 + P.1*Q.1) * F.inv (1 - d*P.1*Q.1*P.2*Q.2))
theorem Fld.add_spec {P Q : Fin n × Fin n} (hP : On d P) (hQ : On d Q) : (F.add P Q).1 * (1 + d*P.1*Q.1*P.2*Q.2) = P.1*Q.2 + Q.1*P.2 ∧ (F.add P Q).2 * (1 - d*P.1*Q.1*P.2*Q.2) = P.2*Q.2 + P.1*Q.1 := by
  obtain ⟨h1, h2⟩ := F.complete hP hQ
  have i1 := F.hinv _ h1
  have i2 := F.hinv _ h2
  unfold Fld.add
  dsimp only
  generalize F.inv (1 + d*P.1*Q.1*P.2*Q.2) = a at *
  generalize F.inv (1 - d*P.1*Q.1*P.2*Q.2) = b at *
  generalize P.1*Q.2 + Q.1*P.2 = u
  generalize P.2*Q.2 + P.1*Q.1 = v
  generalize 1 + d*P.1*Q.1*P.2*Q.2 = w at *
  generalize 1 - d*P.1*Q.1*P.2*Q.2 = z at *
  exact ⟨by grind, by grind⟩
theorem Fld.add_on {P Q : Fin n × Fin n} (hP : On d P) (hQ : On d Q) : On d (F.add P Q) := by
  obtain ⟨h1, h2⟩ := F.complete hP hQ
  obtain ⟨s1, s2⟩ := F.add_spec hP hQ
  have hs := B9W P.1 P.2 Q.1 Q.2 d hP.eq hQ.eq
  constructor
  generalize F.add P Q = R at *
  generalize 1 + d*P.1*Q.1*P.2*Q.2 = H at *
  generalize 1 - d*P.1*Q.1*P.2*Q.2 = G at *
  refine F.cancel (F.mul_ne (F.mul_ne h1 h1) (F.mul_ne h2 h2)) ?_
  rw [← s1, ← s2] at hs
  grind
theorem Fld.add_comm (P Q : Fin n × Fin n) : F.add P Q = F.add Q P := by
  unfold Fld.add
  have e1 : d*P.1*Q.1*P.2*Q.2 = d*Q.1*P.1*Q.2*P.2 := by grind
  have e2 : P.1*Q.2 + Q.1*P.2 = Q.1*P.2 + P.1*Q.2 := by grind
  have e3 : P.2*Q.2 + P.1*Q.1 = Q.2*P.2 + Q.1*P.1 := by grind
  rw [e1, e2, e3]
theorem Fld.inv1 : F.inv 1 = 1 := by
  have := F.hinv 1 F.one
  grind
theorem Fld.add_o (P : Fin n × Fin n) : F.add P ((0 : Fin n), (1 : Fin n)) = P := by
  unfold Fld.add
  have e1 : 1 + d*P.1*0*P.2*1 = 1 := by grind
  have e2 : 1 - d*P.1*0*P.2*1 = 1 := by grind
  dsimp only
  rw [e1, e2, F.inv1]
  obtain ⟨x, y⟩ := P
  dsimp only
  have e3 : (x * 1 + 0 * y) * 1 = x := by grind
  have e4 : (y * 1 + x * 0) * 1 = y := by grind
  rw [e3, e4]
theorem Fld.add_eq {P Q R : Fin n × Fin n} (hP : On d P) (hQ : On d Q) (h1 : R.1 * (1 + d*P.1*Q.1*P.2*Q.2) = P.1*Q.2 + Q.1*P.2) (h2 : R.2 * (1 - d*P.1*Q.1*P.2*Q.2) = P.2*Q.2 + P.1*Q.1) : F.add P Q = R := by
  obtain ⟨c1, c2⟩ := F.complete hP hQ
  obtain ⟨s1, s2⟩ := F.add_spec hP hQ
  refine Prod.ext (F.cancel c1 ?_) (F.cancel c2 ?_)
  · grind
  · grind
omit F in
theorem cx1 {u v u' v' x1 y1 x3 y3 G H G' H' : Fin n}
    (hx : (u * H * G * y3 + v * G * H * x3) * (G' * H' + d * x1 * y1 * (u' * H') * (v' * G')) = (x1 * (v' * G') * H' + y1 * (u' * H') * G') * (G * H + d * (u * H) * (v * G) * x3 * y3)) :
    G * H * (G' * H') * ((u*y3 + x3*v) * (1 + d*x1*u'*y1*v')) = G * H * (G' * H') * ((x1*v' + u'*y1) * (1 + d*u*x3*v*y3)) := by
  have a : G * H * (G' * H') * ((u*y3 + x3*v) * (1 + d*x1*u'*y1*v')) = (u * H * G * y3 + v * G * H * x3) * (G' * H' + d * x1 * y1 * (u' * H') * (v' * G')) := by clear hx; grind
  have b : G * H * (G' * H') * ((x1*v' + u'*y1) * (1 + d*u*x3*v*y3)) = (x1 * (v' * G') * H' + y1 * (u' * H') * G') * (G * H + d * (u * H) * (v * G) * x3 * y3) := by clear hx; grind
  rw [a, b, hx]
omit F in
theorem cy1 {u v u' v' x1 y1 x3 y3 G H G' H' : Fin n}
    (hy : (v * G * H * y3 + u * H * G * x3) * (G' * H' - d * x1 * y1 * (u' * H') * (v' * G')) = (y1 * (v' * G') * H' + x1 * (u' * H') * G') * (G * H - d * (u * H) * (v * G) * x3 * y3)) :
    G * H * (G' * H') * ((v*y3 + u*x3) * (1 - d*x1*u'*y1*v')) = G * H * (G' * H') * ((y1*v' + x1*u') * (1 - d*u*x3*v*y3)) := by
  have a : G * H * (G' * H') * ((v*y3 + u*x3) * (1 - d*x1*u'*y1*v')) = (v * G * H * y3 + u * H * G * x3) * (G' * H' - d * x1 * y1 * (u' * H') * (v' * G')) := by clear hy; grind
  have b : G * H * (G' * H') * ((y1*v' + x1*u') * (1 - d*u*x3*v*y3)) = (y1 * (v' * G') * H' + x1 * (u' * H') * G') * (G * H - d * (u * H) * (v * G) * x3 * y3) := by clear hy; grind
  rw [a, b, hy]
omit F in
theorem c3r {a b p q : Fin n} (h : a * p * q = b * q * p) : p * q * a = p * q * b := by
  have e1 : p * q * a = a * p * q := by clear h; grind
  have e2 : p * q * b = b * q * p := by clear h; grind
  rw [e1, e2, h]
theorem Fld.add_assoc {P Q R : Fin n × Fin n} (hP : On d P) (hQ : On d Q) (hR : On d R) : F.add (F.add P Q) R = F.add P (F.add Q R) := by
  have hPQ := F.add_on hP hQ
  have hQR := F.add_on hQ hR
  obtain ⟨c1, c2⟩ := F.complete hP hQ
  obtain ⟨c3, c4⟩ := F.complete hQ hR
  obtain ⟨c5, c6⟩ := F.complete hPQ hR
  obtain ⟨c7, c8⟩ := F.complete hP hQR
  obtain ⟨s1, s2⟩ := F.add_spec hP hQ
  obtain ⟨s3, s4⟩ := F.add_spec hQ hR
  obtain ⟨s5, s6⟩ := F.add_spec hPQ hR
  obtain ⟨s7, s8⟩ := F.add_spec hP hQR
  have hx := C1Q P.1 P.2 Q.1 Q.2 R.1 R.2 d hP.eq hQ.eq hR.eq
  have hy := C1R P.1 P.2 Q.1 Q.2 R.1 R.2 d hP.eq hQ.eq hR.eq
  generalize F.add (F.add P Q) R = L at *
  generalize F.add P (F.add Q R) = L' at *
  generalize F.add P Q = U at *
  generalize F.add Q R = V at *
  obtain ⟨x1, y1⟩ := P
  obtain ⟨x2, y2⟩ := Q
  obtain ⟨x3, y3⟩ := R
  obtain ⟨u, v⟩ := U
  obtain ⟨u', v'⟩ := V
  obtain ⟨l1, l2⟩ := L
  obtain ⟨m1, m2⟩ := L'
  dsimp only at *
  have f1 : x1*y2+x2*y1 = u * (1 + d*x1*x2*y1*y2) := s1.symm
  have f2 : y1*y2+x1*x2 = v * (1 - d*x1*x2*y1*y2) := s2.symm
  have f3 : x2*y3+x3*y2 = u' * (1 + d*x2*x3*y2*y3) := s3.symm
  have f4 : y2*y3+x2*x3 = v' * (1 - d*x2*x3*y2*y3) := s4.symm
  rw [f1, f2, f3, f4] at hx hy
  generalize 1 + d*x1*x2*y1*y2 = H at *
  generalize 1 - d*x1*x2*y1*y2 = G at *
  generalize 1 + d*x2*x3*y2*y3 = H' at *
  generalize 1 - d*x2*x3*y2*y3 = G' at *
  clear s1 s2 s3 s4 f1 f2 f3 f4 hP hQ hR hPQ hQR
  have hz : G * H * (G' * H') ≠ 0 := F.mul_ne (F.mul_ne c2 c1) (F.mul_ne c4 c3)
  have hx' : (u*y3 + x3*v) * (1 + d*x1*u'*y1*v') = (x1*v' + u'*y1) * (1 + d*u*x3*v*y3) := F.cancel hz (cx1 hx)
  have hy' : (v*y3 + u*x3) * (1 - d*x1*u'*y1*v') = (y1*v' + x1*u') * (1 - d*u*x3*v*y3) := F.cancel hz (cy1 hy)
  rw [← s5, ← s7] at hx'
  rw [← s6, ← s8] at hy'
  generalize 1 + d*x1*u'*y1*v' = p at *
  generalize 1 + d*u*x3*v*y3 = q at *
  generalize 1 - d*x1*u'*y1*v' = r at *
  generalize 1 - d*u*x3*v*y3 = s at *
  have ex : l1 = m1 := F.cancel (F.mul_ne c5 c7) (c3r hx')
  have ey : l2 = m2 := F.cancel (F.mul_ne c6 c8) (c3r hy')
  rw [ex, ey]
def Fld.nsm (k : Nat) (P : Fin n × Fin n) : Fin n × Fin n := Nat.rec ((0 : Fin n), (1 : Fin n)) (fun _ Q => F.add Q P) k
theorem Fld.nsm_succ (k : Nat) (P : Fin n × Fin n) : F.nsm (k + 1) P = F.add (F.nsm k P) P := rfl
theorem Fld.nsm_on {P : Fin n × Fin n} (hP : On d P) (k : Nat) : On d (F.nsm k P) := by
  induction k with
  | zero => exact On.o
  | succ k ih => exact F.add_on ih hP
theorem Fld.nsm_add {P : Fin n × Fin n} (hP : On d P) (j k : Nat) : F.nsm (j + k) P = F.add (F.nsm j P) (F.nsm k P) := by
  induction k with
  | zero => exact (F.add_o _).symm
  | succ k ih => rw [← Nat.add_assoc, F.nsm_succ, ih, F.nsm_succ, F.add_assoc (F.nsm_on hP _) (F.nsm_on hP _) hP]
theorem Fld.nsm_mul {P : Fin n × Fin n} (hP : On d P) (j k : Nat) : F.nsm (j * k) P = F.nsm j (F.nsm k P) := by
  induction j with
  | zero => rw [Nat.zero_mul]; rfl
  | succ j ih => rw [Nat.succ_mul, F.nsm_add hP, ih, F.nsm_succ]
theorem Fld.nsm_o (k : Nat) : F.nsm k ((0 : Fin n), (1 : Fin n)) = ((0 : Fin n), (1 : Fin n)) := by
  induction k with
  | zero => rfl
  | succ k ih => rw [F.nsm_succ, ih, F.add_o]
theorem Fld.nsm_mod {P : Fin n × Fin n} (hP : On d P) {L : Nat} (hL : F.nsm L P = ((0 : Fin n), (1 : Fin n))) (k : Nat) : F.nsm (k % L) P = F.nsm k P := by
  conv => rhs; rw [← Nat.mod_add_div k L, F.nsm_add hP, Nat.mul_comm, F.nsm_mul hP, hL, F.nsm_o, F.add_o]
structure Rep (X Y Z T : Fin n) (P : Fin n × Fin n) : Prop where
  z : Z ≠ 0
  x : X = P.1 * Z
  y : Y = P.2 * Z
  t : T = P.1 * P.2 * Z
theorem Fld.rep_add {X1 Y1 Z1 T1 X2 Y2 Z2 T2 : Fin n} {P Q : Fin n × Fin n} (hP : On d P) (hQ : On d Q) (h1 : Rep X1 Y1 Z1 T1 P) (h2 : Rep X2 Y2 Z2 T2 Q) {a b c z e f g h : Fin n}
    (ha : a = (Y1 - X1) * (Y2 - X2)) (hb : b = (Y1 + X1) * (Y2 + X2)) (hc : c = T1 * (2 * d) * T2) (hz : z = Z1 * Z2 + Z1 * Z2) (he : e = b - a) (hf : f = z - c) (hg : g = z + c) (hh : h = b + a) :
    Rep (e * f) (g * h) (f * g) (e * h) (F.add P Q) := by
  obtain ⟨c1, c2⟩ := F.complete hP hQ
  obtain ⟨s1, s2⟩ := F.add_spec hP hQ
  obtain ⟨z1, rfl, rfl, rfl⟩ := h1
  obtain ⟨z2, rfl, rfl, rfl⟩ := h2
  generalize F.add P Q = R at *
  obtain ⟨x1, y1⟩ := P
  obtain ⟨x2, y2⟩ := Q
  obtain ⟨u, v⟩ := R
  dsimp only at *
  have hzz := F.mul_ne z1 z2
  have e1 : e = 2 * (Z1 * Z2) * (u * (1 + d*x1*x2*y1*y2)) := by rw [s1, he, hb, ha]; grind
  have e2 : h = 2 * (Z1 * Z2) * (v * (1 - d*x1*x2*y1*y2)) := by rw [s2, hh, hb, ha]; grind
  have e3 : f = 2 * (Z1 * Z2) * (1 - d*x1*x2*y1*y2) := by rw [hf, hz, hc]; grind
  have e4 : g = 2 * (Z1 * Z2) * (1 + d*x1*x2*y1*y2) := by rw [hg, hz, hc]; grind
  clear he hf hg hh ha hb hc hz s1 s2
  generalize 1 + d*x1*x2*y1*y2 = H at *
  generalize 1 - d*x1*x2*y1*y2 = G at *
  subst e1 e2 e3 e4
  exact ⟨F.mul_ne (F.mul_ne (F.mul_ne F.two hzz) c2) (F.mul_ne (F.mul_ne F.two hzz) c1), by grind, by grind, by grind⟩
theorem Fld.rep_same {X1 Y1 Z1 T1 X2 Y2 Z2 T2 : Fin n} {P Q : Fin n × Fin n} (h1 : Rep X1 Y1 Z1 T1 P) (h2 : Rep X2 Y2 Z2 T2 Q) : (X1 * Z2 = X2 * Z1 ∧ Y1 * Z2 = Y2 * Z1) ↔ P = Q := by
  obtain ⟨z1, rfl, rfl, -⟩ := h1
  obtain ⟨z2, rfl, rfl, -⟩ := h2
  constructor
  · rintro ⟨a, b⟩
    refine Prod.ext (F.cancel (F.mul_ne z1 z2) (by grind)) (F.cancel (F.mul_ne z1 z2) (by grind))
  · rintro rfl
    exact ⟨by grind, by grind⟩
theorem Fld.dy_ne {y : Fin n} : d * (y * y) + 1 ≠ 0 := fun h => by
  have h2 := F.hii
  have h1 : F.ii * F.ii = d * (y * y) := by grind
  have h3 := F.hd _ _ h1
  rw [h3] at h
  exact F.one (by grind)
end Go.Ed

namespace Go.Proofs.YtoigcbkclcbmpaaGreatDoor
open Go.Px Go.Ed
instance : NeZero p25 := ⟨by decide⟩
theorem W3 : 0 < p25 := by decide
def fF (x : Nat) : Fin p25 := ⟨x % p25, Nat.mod_lt _ W3⟩
theorem A0j (x : Nat) : (fF x).val = x % p25 := rfl
theorem B0e (x y : Nat) : fF (fA x y) = fF x + fF y := by
  apply Fin.ext
  rw [Fin.val_add, A0j, A0j, A0j]
  unfold fA
  rw [Nat.mod_mod, Nat.add_mod]
theorem A0k (x y : Nat) : fF (fM x y) = fF x * fF y := by
  apply Fin.ext
  rw [Fin.val_mul, A0j, A0j, A0j]
  unfold fM
  rw [Nat.mod_mod, Nat.mul_mod]
theorem B0f {x y : Nat} (hy : y < p25) : fF (fS x y) = fF x - fF y := by
  apply Fin.ext
  rw [Fin.sub_def, A0j]
  show fS x y % p25 = (p25 - y % p25 + x % p25) % p25
  unfold fS
  rw [Nat.mod_mod, Nat.mod_eq_of_lt hy, Nat.add_mod_mod]
  congr 1; omega
theorem fF_N {x : Nat} (hx : x < p25) : fF (fN x) = -fF x := by
  have h0 : fN x = fS 0 x := by unfold fN fS; rw [Nat.zero_add]
  rw [h0, B0f hx]
  have : fF 0 = 0 := rfl
  rw [this]; grind
theorem A4I {x y : Nat} (hx : x < p25) (hy : y < p25) (h : fF x = fF y) : x = y := by
  have := congrArg Fin.val h
  rwa [A0j, A0j, Nat.mod_eq_of_lt hx, Nat.mod_eq_of_lt hy] at this
theorem B7L {x : Nat} : fF x = 0 ↔ x % p25 = 0 := by
  constructor
  · intro h; exact congrArg Fin.val h
  · intro h; exact Fin.ext h
theorem A0b (x y : Nat) : fM x y < p25 := Nat.mod_lt _ W3
theorem C1S (x : Nat) : fN x < p25 := Nat.mod_lt _ W3
theorem B1N (x n : Nat) : rtp x n < p25 := Nat.mod_lt _ W3
theorem B6c {x : Nat} (h : x % p25 ≠ 0) : fM x (fI x) = 1 := by
  have h1 := A3U C03 (a := x) (fun hd => h (Nat.mod_eq_zero_of_dvd hd))
  rw [A5w]
  unfold fM rtp
  rw [Nat.mul_mod, Nat.mod_mod, ← Nat.mul_mod, ← Nat.pow_succ']
  exact h1
theorem C04 {x : Nat} (h : fF x ≠ 0) : fF x * fF (fI x) = 1 := by
  rw [← A0k, B6c (fun h0 => h (B7L.2 h0))]
  rfl
def B9X : Nat := 37095705934669439343138083508754565189542113879843219016388785533085940283555
def iLit : Nat := 19681161376707505956807079304988542015446066515923890162744021073123829784752
theorem B6d : dN = B9X := rfl
theorem B9Y : B9X ^ ((p25 - 1) / 2) % p25 = p25 - 1 := by
  rw [A6Q qD 256 _ _ qD]
  decide +kernel
theorem C1T (a b : Fin p25) (h : a * b = 0) : a = 0 ∨ b = 0 := by
  have h1 := congrArg Fin.val h
  rw [Fin.val_mul] at h1
  have h2 : p25 ∣ a.val * b.val := Nat.dvd_of_mod_eq_zero h1
  rcases C03.mul h2 with h3 | h3
  · exact .inl (Fin.ext (Nat.eq_zero_of_dvd_of_lt h3 a.isLt))
  · exact .inr (Fin.ext (Nat.eq_zero_of_dvd_of_lt h3 b.isLt))
theorem A2S (a : Fin p25) : fF a.val = a := Fin.ext (Nat.mod_eq_of_lt a.isLt)
theorem C1U (s t : Fin p25) (h : s * s = fF dN * (t * t)) : t = 0 := by
  rw [B6d] at h
  apply Decidable.byContradiction
  intro ht
  have h1 := congrArg Fin.val h
  rw [Fin.val_mul, Fin.val_mul, Fin.val_mul, A0j, Nat.mod_eq_of_lt (show B9X < p25 by decide)] at h1
  rw [Nat.mul_mod_mod] at h1
  have ht' : ¬ p25 ∣ t.val := fun hd => ht (Fin.ext (Nat.eq_zero_of_dvd_of_lt hd t.isLt))
  have e2 : (p25 - 1) / 2 * 2 = p25 - 1 := by decide
  have key : ∀ m : Nat, (s.val * s.val) ^ m % p25 = (B9X * (t.val * t.val)) ^ m % p25 := fun m => by
    rw [Nat.pow_mod, h1, ← Nat.pow_mod]
  have k1 := key ((p25 - 1) / 2)
  generalize hm : (p25 - 1) / 2 = m at *
  have hd := B9Y
  rw [hm] at hd
  have hft := A3U C03 ht'
  have q1 : ∀ x : Nat, (x * x) ^ m = x ^ (p25 - 1) := fun x => by rw [← Nat.pow_two, ← Nat.pow_mul, Nat.mul_comm 2 m, e2]
  rw [q1, Nat.mul_pow, q1, Nat.mul_mod, hd, hft, Nat.mul_one] at k1
  by_cases hs : p25 ∣ s.val
  · have : s.val = 0 := Nat.eq_zero_of_dvd_of_lt hs s.isLt
    rw [this] at h1
    have hz : p25 ∣ B9X * (t.val * t.val) := Nat.dvd_of_mod_eq_zero (by rw [← h1]; rfl)
    rcases C03.mul hz with h3 | h3
    · exact absurd h3 qD
    · rcases C03.mul h3 with h4 | h4 <;> exact ht' h4
  · rw [A3U C03 hs] at k1
    exact absurd k1 qD
noncomputable def FF : Fld p25 (fF dN) where
  inv a := fF (fI a.val)
  ii := fF iLit
  mul0 := C1T
  one := by decide
  two := by decide
  hinv a ha := by
    have h := C04 (x := a.val) (by rw [A2S]; exact ha)
    rwa [A2S] at h
  hii := by decide +kernel
  hd := C1U
structure PR (P : Pt) (Q : Fin p25 × Fin p25) : Prop where
  rep : Rep (fF P.X) (fF P.Y) (fF P.Z) (fF P.T) Q
  x : P.X < p25
  y : P.Y < p25
  z : P.Z < p25
  t : P.T < p25
theorem PR.o : PR pO ((0 : Fin p25), (1 : Fin p25)) := ⟨⟨by decide, by decide, by decide, by decide⟩, by decide, by decide, by decide, by decide⟩
theorem B9Z : fF d2N = 2 * fF dN := by rw [← B7x, A0k]; rfl
theorem PR.add {P1 P2 : Pt} {Q1 Q2 : Fin p25 × Fin p25} (h1 : PR P1 Q1) (h2 : PR P2 Q2) (o1 : On (fF dN) Q1) (o2 : On (fF dN) Q2) : PR (A56 d2N P1 P2) (FF.add Q1 Q2) := by
  refine ⟨?_, A0b _ _, A0b _ _, A0b _ _, A0b _ _⟩
  unfold A56
  dsimp only
  rw [A0k, A0k, A0k, A0k]
  exact FF.rep_add o1 o2 h1.rep h2.rep (a := fF (fM (fS P1.Y P1.X) (fS P2.Y P2.X))) (b := fF (fM (fA P1.Y P1.X) (fA P2.Y P2.X))) (c := fF (fM (fM P1.T d2N) P2.T)) (z := fF (fA (fM P1.Z P2.Z) (fM P1.Z P2.Z)))
    (by rw [A0k, B0f h1.x, B0f h2.x]) (by rw [A0k, B0e, B0e]) (by rw [A0k, A0k, B9Z]) (by rw [B0e, A0k])
    (by rw [B0f (A0b _ _)]) (by rw [B0f (A0b _ _)]) (by rw [B0e]) (by rw [B0e])
theorem PR.timesK {P : Pt} {Q : Fin p25 × Fin p25} (h : PR P Q) (o : On (fF dN) Q) (n : Nat) : ∀ k, k ≤ 256 → PR (pTk P n k) (FF.nsm (n / 2 ^ (256 - k) % 2 ^ k) Q)
  | 0, _ => by
    rw [Nat.pow_zero, Nat.mod_one]; exact PR.o
  | k + 1, hk => by
    have ih := PR.timesK h o n k qO
    have e1 : 256 - (k + 1) = 255 - k := by omega
    have e2 : n / 2 ^ (255 - k) % 2 ^ (k + 1) = 2 * (n / 2 ^ (256 - k) % 2 ^ k) + n / 2 ^ (255 - k) % 2 := by
      have e3 : n / 2 ^ (256 - k) = n / 2 ^ (255 - k) / 2 := by rw [Nat.div_div_eq_div_mul, ← Nat.pow_succ]; congr 2; omega
      rw [e3]
      generalize n / 2 ^ (255 - k) = m
      rw [Nat.pow_succ', Nat.mod_mul]; omega
    rw [e1, e2]
    generalize n / 2 ^ (256 - k) % 2 ^ k = m at *
    have hd := ih.add ih (FF.nsm_on o m) (FF.nsm_on o m)
    rw [← FF.nsm_add o, ← Nat.two_mul] at hd
    rw [A8T]
    by_cases hb : n / 2 ^ (255 - k) % 2 = 1
    · rw [A7T hb, hb]
      exact hd.add h (FF.nsm_on o _) o
    · rw [A7U hb, show n / 2 ^ (255 - k) % 2 = 0 by omega]
      exact hd
theorem PR.times {P : Pt} {Q : Fin p25 × Fin p25} (h : PR P Q) (o : On (fF dN) Q) {n : Nat} (hn : n < 2 ^ 256) : PR (V9 P n) (FF.nsm n Q) := by
  have := h.timesK o n 256 (Nat.le_refl _)
  rwa [Nat.sub_self, Nat.pow_zero, Nat.div_one, Nat.mod_eq_of_lt hn] at this

theorem B1O {a b p : Nat} (h : a % p = b % p) (hle : b ≤ a) : p ∣ a - b := Nat.dvd_of_mod_eq_zero (Nat.sub_mod_eq_zero_of_mod_eq h)
theorem A8X {s x : Nat} (hs : s < p25) (hx : x < p25) (h : s * s % p25 = x * x % p25) : s = x ∨ s + x = p25 := by
  have key : p25 ∣ (s + x) * (s + (p25 - x)) := by
    have e : (s + x) * (s + (p25 - x)) + x * x = s * s + p25 * (s + x) := by
      obtain ⟨d, hd⟩ : ∃ d, p25 = x + d := ⟨p25 - x, by omega⟩
      rw [hd, Nat.add_sub_cancel_left]
      grind
    have e2 : ((s + x) * (s + (p25 - x)) + x * x) % p25 = (x * x) % p25 := by rw [e, Nat.add_mul_mod_self_left, h]
    have := B1O e2 (Nat.le_add_left _ _)
    rwa [Nat.add_sub_cancel] at this
  rcases C03.mul key with ⟨c, hc⟩ | ⟨c, hc⟩
  · have : c < 2 := by
      rcases Nat.lt_or_ge c 2 with h | h
      · exact h
      · have := Nat.mul_le_mul_left p25 h; omega
    rcases (show c = 0 ∨ c = 1 by omega) with rfl | rfl
    · left; omega
    · right; omega
  · have : c < 2 := by
      rcases Nat.lt_or_ge c 2 with h | h
      · exact h
      · have := Nat.mul_le_mul_left p25 h; omega
    rcases (show c = 0 ∨ c = 1 by omega) with rfl | rfl
    · left; omega
    · left; omega
theorem B1P (x n : Nat) : x ^ n % p25 * (x ^ n % p25) % p25 = x ^ (2 * n) % p25 := by rw [← Nat.mul_mod, ← Nat.pow_add, Nat.two_mul]
theorem i_sq : rtp 2 (2 ^ 253 - 5) * rtp 2 (2 ^ 253 - 5) % p25 = p25 - 1 := by
  have h : ∀ n, n = 2 ^ 253 - 5 → rtp 2 n * rtp 2 n % p25 = p25 - 1 := by
    intro n hn
    unfold rtp
    rw [B1P, A6Q qD 256 2 (2 * n) qO]
    subst hn
    decide +kernel
  exact h _ rfl
theorem B7M (x : Nat) : ∃ n, 2 * n = p25 - 1 ∧ rt1 x * rt1 x % p25 * (rt1 x * rt1 x % p25) % p25 = x ^ n * (x * x) % p25 := by
  obtain ⟨m, hm⟩ : ∃ m, m = 2 ^ 252 - 2 := ⟨_, rfl⟩
  refine ⟨4 * m - 2, by unfold p25; omega, ?_⟩
  rw [← B5W hm, B1P, B1P, ← Nat.pow_two, ← Nat.pow_add]
  congr 2
  omega
theorem A8Y {y n : Nat} (hn : 2 * n = p25 - 1) (hy : ¬ p25 ∣ y) : (y * y % p25) ^ n % p25 = 1 := by
  rw [← Nat.pow_mod, ← Nat.pow_two, ← Nat.pow_mul, hn]
  exact A3U C03 hy
theorem B90 {r : Value} {x n : Nat} (hx : x < p25) (hn : 2 * n = p25 - 1) (h : Rt r x) : ∃ u b y, r = .tuple #[u, .bool b] ∧ Fe u y ∧ b = decide (x = 0 ∨ x ^ n % p25 = 1) ∧ (b = true → y * y % p25 = x) := by
  have conv : ∀ y, y * y % p25 = x → (x = 0 ∨ x ^ n % p25 = 1) := by
    intro y hy
    by_cases h0 : x = 0
    · exact .inl h0
    · right
      rw [← hy]
      refine A8Y hn fun hd => h0 ?_
      obtain ⟨c, rfl⟩ := hd
      rw [← hy, Nat.mul_assoc, Nat.mul_mod_right]
  obtain ⟨u, b, rfl, h⟩ := h
  rcases h with ⟨h1, rfl, hu⟩ | ⟨h1, h2, rfl, hu⟩ | ⟨h1, h2, rfl, hu⟩
  · exact ⟨u, true, _, rfl, hu, by rw [decide_eq_true (conv _ h1)], fun _ => h1⟩
  · exact ⟨u, true, _, rfl, hu, by rw [decide_eq_true (conv _ h2)], fun _ => h2⟩
  · refine ⟨u, false, 0, rfl, hu, ?_, fun h => by cases h⟩
    symm
    rw [decide_eq_false_iff_not]
    intro hc
    obtain ⟨m, hm, h4⟩ := B7M x
    obtain rfl : m = n := by omega
    have h5 : rt1 x * rt1 x % p25 * (rt1 x * rt1 x % p25) % p25 = x * x % p25 := by
      rw [h4]
      rcases hc with rfl | hc
      · rw [Nat.mul_zero, Nat.mul_zero]
      · rw [Nat.mul_mod, hc, Nat.one_mul, Nat.mod_mod]
    rcases A8X (Nat.mod_lt _ qD) hx h5 with h6 | h6
    · exact h1 h6
    · apply h2
      unfold rt2
      rw [← Nat.mul_mod, show rt1 x * rtp 2 (2 ^ 253 - 5) * (rt1 x * rtp 2 (2 ^ 253 - 5)) = (rt1 x * rt1 x) * (rtp 2 (2 ^ 253 - 5) * rtp 2 (2 ^ 253 - 5)) by generalize rtp 2 (2 ^ 253 - 5) = i; grind, Nat.mul_mod, i_sq]
      generalize rt1 x * rt1 x % p25 = s at *
      have e : s * (p25 - 1) = x + p25 * (s - 1) := by
        obtain rfl : x = p25 - s := by omega
        rw [Nat.mul_sub, Nat.mul_sub, Nat.mul_one, Nat.mul_one, Nat.mul_comm]
        have : p25 ≤ p25 * s := Nat.le_mul_of_pos_right _ qO
        omega
      rw [e, Nat.add_mul_mod_self_left, Nat.mod_eq_of_lt hx]
theorem B91 {a n : Nat} (hn : 2 * n = p25 - 1) : (a * a % p25 = 0 ∨ (a * a % p25) ^ n % p25 = 1) := by
  by_cases h : p25 ∣ a
  · obtain ⟨c, rfl⟩ := h
    exact .inl (by rw [Nat.mul_assoc, Nat.mul_mod_right])
  · exact .inr (A8Y hn h)

open Go.Px Go.Ed
theorem B6e : ∀ (l : LN) (i x : Nat), i < l.length → bv (l.set i x) + 256 ^ i * l.getD i 0 = bv l + 256 ^ i * x
  | [], i, x, h => by simp at h
  | b :: r, 0, x, _ => by simp only [List.set_cons_zero, bv, List.getD_cons_zero, Nat.pow_zero]; omega
  | b :: r, i + 1, x, h => by
    have ih := B6e r i x (by simpa using h)
    simp only [List.set_cons_succ, bv, List.getD_cons_succ]
    rw [Nat.pow_succ]
    generalize r.getD i 0 = g at *
    have e1 : 256 ^ i * 256 * g = 256 * (256 ^ i * g) := by rw [Nat.mul_comm (256 ^ i), Nat.mul_assoc]
    have e2 : 256 ^ i * 256 * x = 256 * (256 ^ i * x) := by rw [Nat.mul_comm (256 ^ i), Nat.mul_assoc]
    rw [e1, e2]; omega
def B3d (x y : Nat) : LN := if x % 2 = 1 then (X3 8 32 y 255).set 31 ((X3 8 32 y 255).getD 31 0 ||| 128) else X3 8 32 y 255
theorem B92 (P : Pt) : pB P = B3d (fM P.X (fI P.Z)) (fM P.Y (fI P.Z)) := rfl
theorem A8Z (x y : Nat) : (B3d x y).length = 32 := by unfold B3d; split <;> simp [L4]
theorem B7N (y : Nat) : (X3 8 32 y 255).getD 31 0 < 128 := by
  rw [A1i qD]
  unfold prt
  have h : y % 2 ^ 255 < 128 * 2 ^ (8 * 31) := Nat.lt_of_lt_of_le (Nat.mod_lt _ (Nat.two_pow_pos _)) qD
  exact Nat.lt_of_le_of_lt (Nat.mod_le _ _) ((Nat.div_lt_iff_lt_mul (Nat.two_pow_pos _)).2 h)
theorem B1Q {v : Nat} (h : v < 128) : v ||| 128 = v + 128 := by
  have h2 : 128 + v = 128 ||| v := Nat.two_pow_add_eq_or_of_lt (i := 7) h 1
  rw [Nat.or_comm, ← h2]; omega
theorem B7O {x y : Nat} (hy : y < p25) : bv (B3d x y) = y + 2 ^ 255 * (x % 2) := by
  have h1 := A5u y
  rw [Nat.mod_eq_of_lt (Nat.lt_trans hy qD)] at h1
  unfold B3d
  split
  · rename_i hx
    have h2 := B6e (X3 8 32 y 255) 31 ((X3 8 32 y 255).getD 31 0 ||| 128) (by rw [L4]; decide)
    rw [h1, B1Q (B7N y), Nat.mul_add] at h2
    rw [B1Q (B7N y), hx]
    generalize (X3 8 32 y 255).getD 31 0 = v at *
    generalize 256 ^ 31 * v = q at *
    generalize bv ((X3 8 32 y 255).set 31 (v + 128)) = z at *
    have e : (256 : Nat) ^ 31 * 128 = 2 ^ 255 * 1 := by decide
    omega
  · rename_i hx
    rw [h1, show x % 2 = 0 by omega, Nat.mul_zero, Nat.add_zero]
theorem B4r {x y : Nat} : decide (128 ≤ (B3d x y).getD 31 0) = decide (x % 2 = 1) := by
  have ht := B7N y
  unfold B3d
  split
  · rename_i hx
    rw [decide_eq_true hx, B1Q ht]
    apply decide_eq_true
    rw [List.getD_eq_getElem?_getD, List.getElem?_set_self (by rw [L4]; decide)]
    show 128 ≤ _ + 128
    omega
  · rename_i hx
    rw [decide_eq_false hx]
    apply decide_eq_false
    omega
theorem B7P {x y : Nat} (hy : y < p25) : rdN (B3d x y) = y := by
  unfold rdN
  rw [if_pos (A8Z _ _), B7O hy]
  have e : (2 : Nat) ^ 255 = 57896044618658097711785492504343953926634992332820282019728792003956564819968 := by decide
  have h2 : y < 57896044618658097711785492504343953926634992332820282019728792003956564819968 := Nat.lt_trans hy qD
  rw [e, Nat.add_mul_mod_self_left, Nat.mod_eq_of_lt h2, Nat.mod_eq_of_lt hy]
theorem fe_z : ∃ u, Fe u 0 := ⟨_, K8⟩
theorem B93 {a : Nat} (ha : a < p25) : ∃ n, rtN (a * a % p25) = some n ∧ (n = a ∨ n + a = p25) := by
  have hv : a * a % p25 < p25 := Nat.mod_lt _ W3
  have hh := fun n hn => B91 (a := a) (n := n) hn
  have fin : ∀ n, n < p25 → n * n % p25 = a * a % p25 → n = a ∨ n + a = p25 := fun n hn h => A8X hn ha h
  generalize a * a % p25 = v at *
  rw [A6T]
  unfold B7B
  split
  · rename_i h; exact ⟨_, rfl, fin _ (B1N _ _) h⟩
  · rename_i h1
    split
    · rename_i h; exact ⟨_, rfl, fin _ (Nat.mod_lt _ W3) h⟩
    · rename_i h2
      exfalso
      obtain ⟨u, hu⟩ := fe_z
      have hn : 2 * ((p25 - 1) / 2) = p25 - 1 := by decide
      obtain ⟨u', b', y', e1, -, e3, -⟩ := B90 (r := .tuple #[u, .bool false]) hv hn ⟨u, false, rfl, .inr (.inr ⟨h1, h2, rfl, hu⟩)⟩
      rw [decide_eq_true (hh _ hn)] at e3
      subst e3
      simp at e1
theorem C1V {Q : Fin p25 × Fin p25} (o : On (fF dN) Q) : xxN Q.2.val = Q.1.val * Q.1.val % p25 := by
  apply A4I (A0b _ _) (Nat.mod_lt _ W3)
  have e0 : fF (Q.1.val * Q.1.val % p25) = Q.1 * Q.1 := by
    have := A0k Q.1.val Q.1.val
    rwa [A2S] at this
  have hD : fF (fA (fM dN (fM Q.2.val Q.2.val)) 1) = fF dN * (Q.2 * Q.2) + 1 := by rw [B0e, A0k, A0k, A2S]; rfl
  have hne : fF dN * (Q.2 * Q.2) + 1 ≠ 0 := FF.dy_ne
  rw [← hD] at hne
  have hi := C04 hne
  rw [hD] at hi
  rw [e0]
  rw [A0k, B0f qD, A0k, A2S]
  have ho := o.eq
  generalize fF (fI (fA (fM dN (fM Q.2.val Q.2.val)) 1)) = j at *
  generalize fF dN = d at *
  rw [show fF 1 = 1 from rfl]
  obtain ⟨x, y⟩ := Q
  dsimp only at *
  grind
theorem C1W {Q : Fin p25 × Fin p25} (o : On (fF dN) Q) : atN Q.2.val (decide (Q.1.val % 2 = 1)) = some Q.1.val := by
  have hx := C1V o
  have hlt := Q.1.isLt
  obtain ⟨n, h1, h2⟩ := B93 hlt
  rw [← hx] at h1
  generalize Q.1.val = x at *
  have hp : p25 % 2 = 1 := by decide
  unfold atN
  rw [h1]
  unfold atO
  dsimp only
  rcases h2 with rfl | h2
  · by_cases h0 : n = 0
    · subst h0; rfl
    · rw [decide_eq_false h0, Bool.and_false]
      simp
  · by_cases h0 : x = 0
    · subst h0
      obtain rfl : n = p25 := by omega
      exfalso
      rw [A6T] at h1
      unfold B7B at h1
      split at h1
      · have := Option.some.inj h1; have h3 := B1N (xxN Q.2.val) (2 ^ 252 - 2); unfold rt1 at this; omega
      · split at h1
        · have := Option.some.inj h1; have h3 : rt2 (xxN Q.2.val) < p25 := Nat.mod_lt _ W3; omega
        · cases h1
    · have hn0 : n ≠ 0 := by omega
      rw [decide_eq_false hn0, Bool.and_false]
      have hpar : (n % 2 = 1) ↔ ¬ (x % 2 = 1) := by omega
      have e : (!(decide (n % 2 = 1) == decide (x % 2 = 1))) = true := by
        by_cases hx1 : x % 2 = 1
        · rw [decide_eq_true hx1, decide_eq_false (fun h => hpar.1 h hx1)]; rfl
        · rw [decide_eq_false hx1, decide_eq_true (hpar.2 hx1)]; rfl
      rw [e]
      have : fN n = x := by
        unfold fN
        rw [show p25 - n = x by omega, Nat.mod_eq_of_lt hlt]
      simp [this]
noncomputable def P8 (b : LN) : Option Pt := if b.length = 32 then (match atN (rdN b) (decide (128 ≤ b.getD 31 0)) with
  | some x => if pB (pAt x (rdN b)) = b then some (pAt x (rdN b)) else none
  | none => none) else none
theorem PR.at {Q : Fin p25 × Fin p25} : PR (pAt Q.1.val Q.2.val) Q := by
  refine ⟨⟨?_, ?_, ?_, ?_⟩, Q.1.isLt, Q.2.isLt, show 1 < p25 by decide, A0b _ _⟩
  · exact FF.one
  · show fF Q.1.val = Q.1 * fF 1
    rw [A2S, show fF 1 = 1 from rfl]; grind
  · show fF Q.2.val = Q.2 * fF 1
    rw [A2S, show fF 1 = 1 from rfl]; grind
  · show fF (fM Q.1.val Q.2.val) = Q.1 * Q.2 * fF 1
    rw [A0k, A2S, A2S, show fF 1 = 1 from rfl]; grind
theorem PR.aff {P : Pt} {Q : Fin p25 × Fin p25} (h : PR P Q) : fM P.X (fI P.Z) = Q.1.val ∧ fM P.Y (fI P.Z) = Q.2.val := by
  have hi := C04 h.rep.z
  have hx := h.rep.x
  have hy := h.rep.y
  constructor
  · apply A4I (A0b _ _) Q.1.isLt
    rw [A0k, A2S, hx]; grind
  · apply A4I (A0b _ _) Q.2.isLt
    rw [A0k, A2S, hy]; grind
theorem PR.bytes {P : Pt} {Q : Fin p25 × Fin p25} (h : PR P Q) : pB P = B3d Q.1.val Q.2.val := by rw [B92, h.aff.1, h.aff.2]
theorem B4s {Q : Fin p25 × Fin p25} (o : On (fF dN) Q) : P8 (B3d Q.1.val Q.2.val) = some (pAt Q.1.val Q.2.val) := by
  unfold P8
  rw [if_pos (A8Z _ _), B4r, B7P Q.2.isLt, C1W o]
  dsimp only
  rw [if_pos (PR.at.bytes)]
theorem A5G {P : Pt} {Q : Fin p25 × Fin p25} (h : PR P Q) (o : On (fF dN) Q) : P8 (pB P) = some (pAt Q.1.val Q.2.val) := by rw [h.bytes, B4s o]
def A5H (P Q : Pt) : Bool := decide (fM P.X Q.Z = fM Q.X P.Z) && decide (fM P.Y Q.Z = fM Q.Y P.Z)
theorem PR.same {P P' : Pt} {Q : Fin p25 × Fin p25} (h : PR P Q) (h' : PR P' Q) : A5H P P' = true := by
  have hr := (FF.rep_same h.rep h'.rep).2 rfl
  unfold A5H
  rw [decide_eq_true (A4I (A0b _ _) (A0b _ _) (by rw [A0k, A0k, hr.1])), decide_eq_true (A4I (A0b _ _) (A0b _ _) (by rw [A0k, A0k, hr.2]))]
  rfl

end Go.Proofs.YtoigcbkclcbmpaaGreatDoor
namespace Go.Px
noncomputable def F8 {α : Type} (x : Nat) (f : Nat → α) : α := Nat.rec (motive := fun _ => α) (f 0) (fun n _ => f (Nat.succ n)) x
theorem G9 {α : Type} (x : Nat) (f : Nat → α) : F8 x f = f x := by cases x <;> rfl
def B3e (x n m : Nat) : Nat := Nat.lor (Nat.shiftRight x n) (Nat.mod (Nat.shiftLeft x m) 4294967296)
def rF : List Nat → List Nat → S8 → S8
  | k :: ks, w :: ws, s => rF ks ws (s.step k w)
  | _, _, s => s
theorem B7Q (ks ws : List Nat) (h : ks.length = ws.length) (k w : Nat) (s : S8) : rF (ks ++ [k]) (ws ++ [w]) s = (rF ks ws s).step k w := by
  induction ks generalizing ws s with
  | nil =>
    cases ws with
    | nil => rfl
    | cons w ws => simp at h
  | cons k' ks ih =>
    cases ws with
    | nil => simp at h
    | cons w' ws => exact ih ws (by simpa using h) (s.step k' w')
theorem A6W (ks ws : List Nat) (s : S8) (n : Nat) (h1 : n ≤ ks.length) (h2 : n ≤ ws.length) : rounds ks ws s n = rF (ks.take n) (ws.take n) s := by
  induction n with
  | zero => rfl
  | succ n ih =>
    rw [rounds, ih (by omega) (by omega), List.take_add_one, List.take_add_one, List.getElem?_eq_getElem (by omega), List.getElem?_eq_getElem (by omega)]
    simp only [Option.toList_some]
    rw [B7Q _ _ (by simp; omega), List.getD_eq_getElem?_getD, List.getD_eq_getElem?_getD, List.getElem?_eq_getElem (by omega), List.getElem?_eq_getElem (by omega)]
    rfl
def t1F (e f g h k w : Nat) : Nat :=
  Nat.mod (Nat.add (Nat.mod (Nat.add (Nat.mod (Nat.add (Nat.mod (Nat.add h (Nat.xor (Nat.xor (B3e e 6 26) (B3e e 11 21)) (B3e e 25 7))) 4294967296) (Nat.xor (Nat.land e f) (Nat.land (Nat.xor 4294967295 e) g))) 4294967296) k) 4294967296) w) 4294967296
def aF (t a b c : Nat) : Nat :=
  Nat.mod (Nat.add (Nat.mod (Nat.add t (Nat.xor (Nat.xor (B3e a 2 30) (B3e a 13 19)) (B3e a 22 10))) 4294967296) (Nat.xor (Nat.xor (Nat.land a b) (Nat.land a c)) (Nat.land b c))) 4294967296
noncomputable def rFF (ks : List Nat) : List Nat → Nat → Nat → Nat → Nat → Nat → Nat → Nat → Nat → S8 :=
  List.rec (motive := fun _ => List Nat → Nat → Nat → Nat → Nat → Nat → Nat → Nat → Nat → S8) (fun _ a b c d e f g h => ⟨a, b, c, d, e, f, g, h⟩)
    (fun k _ ih ws => List.rec (motive := fun _ => Nat → Nat → Nat → Nat → Nat → Nat → Nat → Nat → S8) (fun a b c d e f g h => ⟨a, b, c, d, e, f, g, h⟩)
      (fun w ws _ a b c d e f g h => F8 (t1F e f g h k w) fun t => F8 (aF t a b c) fun a' => F8 (Nat.mod (Nat.add d t) 4294967296) fun e' => ih ws a' a b c e' e f g) ws) ks
theorem B94 (ks ws : List Nat) (s : S8) : rFF ks ws s.a s.b s.c s.d s.e s.f s.g s.h = rF ks ws s := by
  induction ks generalizing ws s with
  | nil => cases ws <;> rfl
  | cons k ks ih =>
    cases ws with
    | nil => rfl
    | cons w ws =>
      have e : rFF (k :: ks) (w :: ws) s.a s.b s.c s.d s.e s.f s.g s.h = F8 (t1F s.e s.f s.g s.h k w) fun t => F8 (aF t s.a s.b s.c) fun a' => F8 (Nat.mod (Nat.add s.d t) 4294967296) fun e' => rFF ks ws a' s.a s.b s.c e' s.e s.f s.g := rfl
      rw [e, G9, G9, G9]
      exact ih ws (s.step k w)
noncomputable def Q5 : Nat → List Nat → Nat := fun n => Nat.rec (motive := fun _ => List Nat → Nat) (fun l => List.rec (motive := fun _ => Nat) 0 (fun x _ _ => x) l) (fun _ ih l => List.rec (motive := fun _ => Nat) 0 (fun _ r _ => ih r) l) n
theorem A5I (n : Nat) (l : List Nat) : Q5 n l = l.getD n 0 := by
  induction n generalizing l with
  | zero => cases l <;> rfl
  | succ n ih =>
    cases l with
    | nil => rfl
    | cons x r => exact ih r
def wnF (w16 w15 w7 w2 : Nat) : Nat :=
  Nat.mod (Nat.add (Nat.mod (Nat.add (Nat.mod (Nat.add w16 (Nat.xor (Nat.xor (B3e w15 7 25) (B3e w15 18 14)) (Nat.shiftRight w15 3))) 4294967296) w7) 4294967296) (Nat.xor (Nat.xor (B3e w2 17 15) (B3e w2 19 13)) (Nat.shiftRight w2 10))) 4294967296
noncomputable def wF (n : Nat) : List Nat → List Nat :=
  Nat.rec (motive := fun _ => List Nat → List Nat) (fun r => r) (fun _ ih r => F8 (wnF (Q5 15 r) (Q5 14 r) (Q5 6 r) (Q5 1 r)) fun x => ih (x :: r)) n
theorem A3g {l : List Nat} {k : Nat} (h : k < l.length) : l.reverse.getD k 0 = l.getD (l.length - 1 - k) 0 := by
  rw [List.getD_eq_getElem?_getD, List.getD_eq_getElem?_getD, List.getElem?_reverse h]
theorem B95 (w : List Nat) (hw : 16 ≤ w.length) (n m : Nat) : wF n (wx w m).reverse = (wx w (m + n)).reverse := by
  induction n generalizing m with
  | zero => rfl
  | succ n ih =>
    have e : wF (n + 1) (wx w m).reverse = F8 (wnF (Q5 15 (wx w m).reverse) (Q5 14 (wx w m).reverse) (Q5 6 (wx w m).reverse) (Q5 1 (wx w m).reverse)) fun x => wF n (x :: (wx w m).reverse) := rfl
    have hl := A4p w m
    rw [e, G9, A5I, A5I, A5I, A5I, A3g (by omega), A3g (by omega), A3g (by omega), A3g (by omega), hl]
    have e2 : wnF ((wx w m).getD (w.length + m - 1 - 15) 0) ((wx w m).getD (w.length + m - 1 - 14) 0) ((wx w m).getD (w.length + m - 1 - 6) 0) ((wx w m).getD (w.length + m - 1 - 1) 0) = B3o (wx w m) (w.length + m) := by
      rw [show w.length + m - 1 - 15 = w.length + m - 16 by omega, show w.length + m - 1 - 14 = w.length + m - 15 by omega, show w.length + m - 1 - 6 = w.length + m - 7 by omega, show w.length + m - 1 - 1 = w.length + m - 2 by omega]
      rfl
    rw [e2, show B3o (wx w m) (w.length + m) :: (wx w m).reverse = (wx w (m + 1)).reverse by rw [wx, List.reverse_append]; rfl, ih (m + 1), show m + 1 + n = m + (n + 1) by omega]
def C1X (a b c d : Nat) : Nat := Nat.add (Nat.mul (Nat.add (Nat.mul (Nat.add (Nat.mul a 256) b) 256) c) 256) d
noncomputable def A4J : Nat → List Nat → List Nat → List Nat
  | 0, _, r => r
  | n + 1, a :: b :: c :: d :: p, r => F8 (C1X a b c d) fun x => A4J n p (x :: r)
  | _ + 1, _, r => r
theorem B1R (n : Nat) (p : List Nat) (i : Nat) (h : 4 * (i + n) ≤ p.length) (r : List Nat) : A4J n (p.drop (4 * i)) r = ((List.range' i n).map (A44 p)).reverse ++ r := by
  induction n generalizing i r with
  | zero => rfl
  | succ n ih =>
    have e : p.drop (4 * i) = p.getD (4 * i) 0 :: p.getD (4 * i + 1) 0 :: p.getD (4 * i + 2) 0 :: p.getD (4 * i + 3) 0 :: p.drop (4 * (i + 1)) := by
      rw [List.drop_eq_getElem_cons (by omega), List.drop_eq_getElem_cons (by omega), List.drop_eq_getElem_cons (by omega), List.drop_eq_getElem_cons (by omega)]
      simp only [List.getD_eq_getElem?_getD]
      rw [List.getElem?_eq_getElem (by omega), List.getElem?_eq_getElem (by omega), List.getElem?_eq_getElem (by omega), List.getElem?_eq_getElem (by omega)]
      rfl
    rw [e]
    show F8 _ _ = _
    rw [G9, ih (i + 1) (by omega), List.range'_succ, List.map_cons, List.reverse_cons, List.append_assoc]
    rfl
noncomputable def C1Y (a b c d e f g h : Nat) (p : List Nat) (k : Nat → Nat → Nat → Nat → Nat → Nat → Nat → Nat → List Nat) : List Nat :=
  match rFF A0V (wF 48 (A4J 16 p [])).reverse a b c d e f g h with
  | ⟨a1, b1, c1, d1, e1, f1, g1, h1⟩ =>
    F8 (Nat.mod (Nat.add a a1) 4294967296) fun a => F8 (Nat.mod (Nat.add b b1) 4294967296) fun b => F8 (Nat.mod (Nat.add c c1) 4294967296) fun c => F8 (Nat.mod (Nat.add d d1) 4294967296) fun d =>
    F8 (Nat.mod (Nat.add e e1) 4294967296) fun e => F8 (Nat.mod (Nat.add f f1) 4294967296) fun f => F8 (Nat.mod (Nat.add g g1) 4294967296) fun g => F8 (Nat.mod (Nat.add h h1) 4294967296) fun h => k a b c d e f g h
theorem B7R (s : S8) (p : List Nat) (hp : 64 ≤ p.length) (k : Nat → Nat → Nat → Nat → Nat → Nat → Nat → Nat → List Nat) : C1Y s.a s.b s.c s.d s.e s.f s.g s.h p k = (fun t : S8 => k t.a t.b t.c t.d t.e t.f t.g t.h) (N3 A0V s p) := by
  have h1 : A4J 16 p [] = (P3 p 16).reverse := by
    have := B1R 16 p 0 (by omega) []
    rw [List.append_nil] at this
    rw [show p = p.drop (4 * 0) from rfl, this, P3, List.range_eq_range']
    rfl
  have hw : (P3 p 16).length = 16 := by simp [P3]
  have h2 : (wF 48 (A4J 16 p [])).reverse = wx (P3 p 16) 48 := by
    have := B95 (P3 p 16) (by omega) 48 0
    rw [h1, show (P3 p 16).reverse = (wx (P3 p 16) 0).reverse from rfl, this, List.reverse_reverse]
  have h3 : rFF A0V (wF 48 (A4J 16 p [])).reverse s.a s.b s.c s.d s.e s.f s.g s.h = rounds A0V (wx (P3 p 16) 48) s 64 := by
    have hl := A4p (P3 p 16) 48
    rw [h2, B94, A6W _ _ _ _ (by decide) (by omega), List.take_of_length_le (show A0V.length ≤ 64 by decide), List.take_of_length_le (by omega)]
  unfold C1Y N3
  rw [h3]
  generalize rounds A0V (wx (P3 p 16) 48) s 64 = r
  obtain ⟨a1, b1, c1, d1, e1, f1, g1, h1⟩ := r
  simp only [G9]
  rfl
noncomputable def B4t : Nat → Nat → Nat → Nat → Nat → Nat → Nat → Nat → Nat → List Nat → List Nat
  | 0, a, b, c, d, e, f, g, h, _ => [a, b, c, d, e, f, g, h].flatMap A7h
  | n + 1, a, b, c, d, e, f, g, h, p => C1Y a b c d e f g h p fun a b c d e f g h => B4t n a b c d e f g h (p.drop 64)
theorem B4u (n : Nat) (s : S8) (p : List Nat) (hp : 64 * n ≤ p.length) : B4t n s.a s.b s.c s.d s.e s.f s.g s.h p = (A1R A0V n s p).bytes := by
  induction n generalizing s p with
  | zero => rfl
  | succ n ih =>
    have e : N3 A0V s (p.take 64) = N3 A0V s p := by
      unfold N3
      have : P3 (p.take 64) 16 = P3 p 16 := by
        unfold P3
        refine List.map_congr_left fun i hi => ?_
        have hi := List.mem_range.1 hi
        unfold A44
        have g : ∀ j, j < 64 → (p.take 64).getD j 0 = p.getD j 0 := fun j hj => by
          rw [List.getD_eq_getElem?_getD, List.getD_eq_getElem?_getD, List.getElem?_take_of_lt hj]
        rw [g _ (by omega), g _ (by omega), g _ (by omega), g _ (by omega)]
      rw [this]
    rw [B4t, B7R s p (by omega), A1R, e]
    exact ih _ _ (by rw [List.length_drop]; omega)
noncomputable def A1I (p : List Nat) : List Nat := B4t ((G6 p).length / 64) 1779033703 3144134277 1013904242 2773480762 1359893119 2600822924 528734635 1541459225 (G6 p)
theorem P6 (p : List Nat) : A1I p = U1 p := B4u _ A0M (G6 p) (by omega)
noncomputable def A1J (key p : List Nat) : List Nat := A1I (A2H (if 64 < key.length then A1I key else key) 92 ++ A1I (A2H (if 64 < key.length then A1I key else key) 54 ++ p))
theorem A80 (key p : List Nat) : A1J key p = A7i key p := by
  unfold A1J A7i A0N
  simp only [P6]
theorem B4v (key info : List Nat) : W4 key info 32 = A1J key (info ++ [1]) := by
  have h : (A7i key ([] ++ (info ++ [1]))).length = 32 := A2s _
  rw [A80]
  show ([] ++ A7i key ([] ++ (info ++ [1]))).take 32 = _
  rw [List.nil_append, List.nil_append, List.take_of_length_le (by rw [← List.nil_append (info ++ [1])]; omega)]
end Go.Px

namespace Go.Proofs.YtoigcbkclcbmpaaGreatDoor
open Go.Px Go.Ed
def A9W : Nat := bxN
def A9X : Nat := s45
def C1Z : Nat := d2N
def bPt : Fin p25 × Fin p25 := (fF A9W, fF A9X)
theorem A4i : On (fF dN) bPt := by rw [B6d]; exact ⟨by decide +kernel⟩
theorem B96 : bPt.1.val = A9W := by decide +kernel
theorem B97 : bPt.2.val = A9X := by decide +kernel
theorem A6X : pS = pAt A9W A9X := rfl
theorem PR.s : PR pS bPt := by
  have h := PR.at (Q := bPt)
  rw [B96, B97] at h
  rw [A6X]; exact h
theorem B98 : d2N = C1Z := rfl
def kM (x y : Nat) : Nat := Nat.mod (Nat.mul x y) 57896044618658097711785492504343953926634992332820282019728792003956564819949
def kA (x y : Nat) : Nat := Nat.mod (Nat.add x y) 57896044618658097711785492504343953926634992332820282019728792003956564819949
def kS (x y : Nat) : Nat := Nat.mod (Nat.sub (Nat.add x 57896044618658097711785492504343953926634992332820282019728792003956564819949) y) 57896044618658097711785492504343953926634992332820282019728792003956564819949
noncomputable def B1S {α : Type} (X1 Y1 Z1 T1 X2 Y2 Z2 T2 : Nat) (k : Nat → Nat → Nat → Nat → α) : α :=
  F8 (kM (kS Y1 X1) (kS Y2 X2)) fun a => F8 (kM (kA Y1 X1) (kA Y2 X2)) fun b => F8 (kM (kM T1 16295367250680780974490674513165176452449235426866156013048779062215315747161) T2) fun c => F8 (kM Z1 Z2) fun z0 => F8 (kA z0 z0) fun z =>
  F8 (kS b a) fun e => F8 (kS z c) fun f => F8 (kA z c) fun g => F8 (kA b a) fun h => F8 (kM e f) fun x => F8 (kM g h) fun y => F8 (kM f g) fun z => F8 (kM e h) fun t => k x y z t
theorem A5J {α : Type} (P Q : Pt) (k : Nat → Nat → Nat → Nat → α) : B1S P.X P.Y P.Z P.T Q.X Q.Y Q.Z Q.T k = k (A56 d2N P Q).X (A56 d2N P Q).Y (A56 d2N P Q).Z (A56 d2N P Q).T := by
  rw [B98]
  unfold B1S
  simp only [G9]
  rfl
noncomputable def tF (n : Nat) (P : Pt) : Nat → Nat → Nat → Nat → Nat → Pt := fun k =>
  Nat.rec (motive := fun _ => Nat → Nat → Nat → Nat → Pt) (fun X Y Z T => ⟨X, Y, Z, T⟩)
    (fun i ih X Y Z T => B1S X Y Z T X Y Z T fun X Y Z T => Nat.rec (motive := fun _ => Pt) (ih X Y Z T) (fun _ _ => B1S X Y Z T P.X P.Y P.Z P.T fun X Y Z T => ih X Y Z T) (Nat.mod (Nat.shiftRight n i) 2)) k
theorem B7S (n i : Nat) (P Q : Pt) : tF n P (i + 1) Q.X Q.Y Q.Z Q.T = tF n P i (pSt P n i Q).X (pSt P n i Q).Y (pSt P n i Q).Z (pSt P n i Q).T := by
  have e : tF n P (i + 1) Q.X Q.Y Q.Z Q.T = B1S Q.X Q.Y Q.Z Q.T Q.X Q.Y Q.Z Q.T fun X Y Z T => Nat.rec (motive := fun _ => Pt) (tF n P i X Y Z T) (fun _ _ => B1S X Y Z T P.X P.Y P.Z P.T fun X Y Z T => tF n P i X Y Z T) (Nat.mod (Nat.shiftRight n i) 2) := rfl
  rw [e, A5J, show Nat.mod (Nat.shiftRight n i) 2 = n / 2 ^ i % 2 by rw [← Nat.shiftRight_eq_div_pow]; rfl]
  have h2 : n / 2 ^ i % 2 < 2 := Nat.mod_lt _ qD
  rcases (show n / 2 ^ i % 2 = 0 ∨ n / 2 ^ i % 2 = 1 by omega) with h | h
  · rw [A7U qO, h]
    show tF n P i _ _ _ _ = _
    rfl
  · rw [A7T h, h]
    show B1S _ _ _ _ P.X P.Y P.Z P.T _ = _
    rw [A5J]
theorem B6f (n : Nat) (P : Pt) : ∀ i, i ≤ 256 → tF n P i (pTk P n (256 - i)).X (pTk P n (256 - i)).Y (pTk P n (256 - i)).Z (pTk P n (256 - i)).T = V9 P n
  | 0, _ => rfl
  | i + 1, h => by rw [B7S, ← A8U qO]; exact B6f n P i qO
theorem A5K (n : Nat) (P : Pt) : V9 P n = tF n P 256 0 1 1 0 := (B6f n P 256 (Nat.le_refl _)).symm
theorem B7T : (tF lN (pAt A9W A9X) 256 0 1 1 0).X = 0 ∧ (tF lN (pAt A9W A9X) 256 0 1 1 0).Y = (tF lN (pAt A9W A9X) 256 0 1 1 0).Z := by decide +kernel
theorem A5L : FF.nsm lN bPt = ((0 : Fin p25), (1 : Fin p25)) := by
  have h := PR.s.times A4i (n := lN) qD
  have hb := B7T
  rw [← A5K, ← A6X] at hb
  have hx := h.rep.x
  have hy := h.rep.y
  rw [hb.1] at hx
  rw [hb.2] at hy
  have hz := h.rep.z
  generalize fF (V9 pS lN).Z = z at *
  generalize FF.nsm lN bPt = Q at *
  obtain ⟨x, y⟩ := Q
  dsimp only at *
  have e1 : x = 0 := (FF.mul0 _ _ hx.symm).resolve_right hz
  have e2 : y = 1 := by
    have : z * y = z * 1 := by grind
    exact FF.cancel hz this
  rw [e1, e2]

open Go.Px Go.Ed
def A5M (seed : LN) : Nat := bv (A9y ([115, 101, 99, 114, 101, 116] ++ seed)) % lN
def B1T (seed msg : LN) : Nat := bv (A9y ([110, 111, 110, 99, 101] ++ seed ++ msg)) % lN
def A1N (r p msg : LN) : Nat := bv (A9y ([99, 104, 97, 108, 108, 101, 110, 103, 101] ++ r ++ p ++ msg)) % lN
noncomputable def A2T (seed : LN) : LN := pB (V9 pS (A5M seed))
noncomputable def rB (seed msg : LN) : LN := pB (V9 pS (B1T seed msg))
noncomputable def sN (seed msg : LN) : Nat := (A1N (rB seed msg) (A2T seed) msg * A5M seed % lN + B1T seed msg) % lN
noncomputable def A4a (seed msg : LN) : LN := rB seed msg ++ N9 (sN seed msg) 32
def C05 (oa ob : Option Pt) (f : Pt → Pt → Bool) : Bool := match oa, ob with
  | some a, some r => f a r
  | _, _ => false
theorem A2i (a r : Pt) (f : Pt → Pt → Bool) : C05 (some a) (some r) f = f a r := rfl
theorem B4w (o : Option Pt) (f : Pt → Pt → Bool) : C05 none o f = false := by cases o <;> rfl
theorem A81 (o : Option Pt) (f : Pt → Pt → Bool) : C05 o none f = false := by cases o <;> rfl
noncomputable def A2U (p msg sig : LN) : Bool := decide (sig.length = 64) && C05 (P8 p) (P8 (sig.take 32)) fun a r => decide (N9 (bv (sig.drop 32) % lN) 32 = sig.drop 32) && A5H (V9 pS (bv (sig.drop 32) % lN)) (A56 d2N r (V9 a (A1N (sig.take 32) p msg)))
theorem A1u : 0 < lN := by decide
theorem A82 : lN < 2 ^ 256 := by decide
theorem A5N (s : LN) : A5M s < lN := Nat.mod_lt _ A1u
theorem A7V (s m : LN) : B1T s m < lN := Nat.mod_lt _ A1u
theorem A7W (r p m : LN) : A1N r p m < lN := Nat.mod_lt _ A1u
theorem C10 (s m : LN) : sN s m < lN := Nat.mod_lt _ A1u
theorem A83 (s : LN) : (A2T s).length = 32 := B51 _
theorem A3X (s m : LN) : (rB s m).length = 32 := B51 _
theorem A5O (s m : LN) : (A4a s m).length = 64 := by simp [A4a, A3X, L8]
theorem B4x (s m : LN) : (A4a s m).take 32 = rB s m := by unfold A4a; rw [List.take_append_of_le_length (by rw [A3X]; decide), List.take_of_length_le (by rw [A3X]; decide)]
theorem B4y (s m : LN) : (A4a s m).drop 32 = N9 (sN s m) 32 := by
  unfold A4a
  rw [List.drop_append, List.drop_of_length_le (by rw [A3X]; decide), A3X, Nat.sub_self, List.drop_zero, List.nil_append]
theorem A84 {n : Nat} (h : n < lN) : PR (V9 pS n) (FF.nsm n bPt) ∧ On (fF dN) (FF.nsm n bPt) := ⟨PR.s.times A4i (Nat.lt_trans h A82), FF.nsm_on A4i n⟩
theorem B7U (seed msg : LN) : A2U (A2T seed) msg (A4a seed msg) = true := by
  have ha := A5N seed
  have hk := A7V seed msg
  have hs := C10 seed msg
  have hh := A7W (rB seed msg) (A2T seed) msg
  have hd : bv (N9 (sN seed msg) 32) % lN = sN seed msg := by
    rw [B1G, Nat.mod_eq_of_lt (Nat.lt_trans hs qD), Nat.mod_eq_of_lt hs]
  unfold A2U
  rw [B4x, B4y, hd, decide_eq_true (A5O _ _)]
  obtain ⟨A1, A2⟩ := A84 ha
  obtain ⟨R1, R2⟩ := A84 hk
  obtain ⟨S1, S2⟩ := A84 hs
  have eA : P8 (A2T seed) = _ := A5G A1 A2
  have eR : P8 (rB seed msg) = _ := A5G R1 R2
  rw [eA, eR, A2i, decide_eq_true rfl, Bool.true_and, Bool.true_and]
  have T := (PR.at (Q := FF.nsm (A5M seed) bPt)).times A2 (Nat.lt_trans hh A82)
  have U := (PR.at (Q := FF.nsm (B1T seed msg) bPt)).add T R2 (FF.nsm_on A2 _)
  refine S1.same ?_
  have e : FF.nsm (sN seed msg) bPt = FF.add (FF.nsm (B1T seed msg) bPt) (FF.nsm (A1N (rB seed msg) (A2T seed) msg) (FF.nsm (A5M seed) bPt)) := by
    show FF.nsm ((A1N (rB seed msg) (A2T seed) msg * A5M seed % lN + B1T seed msg) % lN) bPt = _
    rw [FF.nsm_mod A4i A5L, FF.nsm_add A4i, FF.nsm_mod A4i A5L, FF.nsm_mul A4i, FF.add_comm]
  rw [e]; exact U
def kLit : Nat := 4928719331454755403606303759647346995543222500395151019611105437466400029446
def rLit : LN := [158, 126, 43, 192, 36, 223, 93, 133, 238, 222, 103, 118, 108, 52, 17, 7, 171, 37, 142, 21, 42, 169, 185, 35, 17, 77, 225, 83, 3, 28, 151, 170]
end Go.Proofs.YtoigcbkclcbmpaaGreatDoor
