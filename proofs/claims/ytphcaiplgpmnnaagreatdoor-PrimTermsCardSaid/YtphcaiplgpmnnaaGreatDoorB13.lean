/- Part 13 of the texts of this claim, one behind the other. -/
import Derived.Test.YtphcaiplgpmnnaaGreatDoorB12
import Derived.Test.YtphcaiplgpmnnaaGreatDoorRows
set_option linter.unusedVariables false
set_option linter.unusedSimpArgs false
set_option maxRecDepth 100000
namespace Go.Proofs.YtphcaiplgpmnnaaGreatDoor
open Go.Px
/-- A point so many times: behind so many of a number's 256 bits, the highest first. -/
def pSt (P : Pt) (n i : Nat) (Q : Pt) : Pt := if n / 2 ^ i % 2 = 1 then pAdd d2N (pAdd d2N Q Q) P else pAdd d2N Q Q
def itr (f : Nat → Pt → Pt) (z : Pt) : Nat → Pt
  | 0 => z
  | k + 1 => f k (itr f z k)
theorem itr_succ (f : Nat → Pt → Pt) (z : Pt) (k : Nat) : itr f z (k + 1) = f k (itr f z k) := rfl
def pTk (P : Pt) (n : Nat) (k : Nat) : Pt := itr (fun k Q => pSt P n (255 - k) Q) pO k
theorem pTk_zero (P : Pt) (n : Nat) : pTk P n 0 = pO := rfl
theorem pTk_succ (P : Pt) (n k : Nat) : pTk P n (k + 1) = pSt P n (255 - k) (pTk P n k) := itr_succ _ _ _
def pTimes (P : Pt) (n : Nat) : Pt := pTk P n 256
theorem pSt_pos {P Q : Pt} {n i : Nat} (h : n / 2 ^ i % 2 = 1) : pSt P n i Q = pAdd d2N (pAdd d2N Q Q) P := if_pos h
theorem pSt_neg {P Q : Pt} {n i : Nat} (h : ¬ n / 2 ^ i % 2 = 1) : pSt P n i Q = pAdd d2N Q Q := if_neg h
theorem tk1 {i : Nat} (h : i < 256) : 256 - i = (256 - (i + 1)) + 1 := by omega
theorem tk2 {i : Nat} (h : i < 256) : 255 - (256 - (i + 1)) = i := by omega
theorem tk3 {P : Pt} {n i : Nat} (h : i < 256) : pTk P n (256 - i) = pTk P n ((256 - (i + 1)) + 1) := congrArg (pTk P n) (tk1 h)
theorem tk4 {P : Pt} {n i : Nat} : pTk P n ((256 - (i + 1)) + 1) = pSt P n (255 - (256 - (i + 1))) (pTk P n (256 - (i + 1))) := pTk_succ P n _
theorem tk5 {P : Pt} {n i : Nat} (h : i < 256) : pSt P n (255 - (256 - (i + 1))) (pTk P n (256 - (i + 1))) = pSt P n i (pTk P n (256 - (i + 1))) := congrArg (fun j => pSt P n j (pTk P n (256 - (i + 1)))) (tk2 h)
theorem pTk_step {P : Pt} {n i : Nat} (h : i < 256) : pTk P n (256 - i) = pSt P n i (pTk P n (256 - (i + 1))) := (tk3 h).trans (tk4.trans (tk5 h))
/-- A point's bytes. -/
noncomputable def pB (P : Pt) : List Nat :=
  if fM P.X (fI P.Z) % 2 = 1 then (prts 8 32 (fM P.Y (fI P.Z)) 255).set 31 ((prts 8 32 (fM P.Y (fI P.Z)) 255).getD 31 0 ||| 128) else prts 8 32 (fM P.Y (fI P.Z)) 255
theorem pB_len (P : Pt) : (pB P).length = 32 := by unfold pB; split <;> simp [prts_len]
theorem or128 {x : Nat} (h : x < 256) : (x ||| 128) < 256 := Nat.or_lt_two_pow (n := 8) h (by decide)
theorem pB_lt (P : Pt) : ∀ x ∈ pB P, x < 256 := by
  intro x hx
  unfold pB at hx
  split at hx
  · rcases List.mem_or_eq_of_mem_set hx with h | rfl
    · exact prts_lt _ _ x h
    · exact or128 (getD_lt (prts_lt _ _) (by decide))
  · exact prts_lt _ _ x hx

theorem nums_inj' {k : IntKind} {a b : List Nat} (h : nums k a = nums k b) : a = b := by
  unfold nums at h
  induction a generalizing b with
  | nil => cases b with
    | nil => rfl
    | cons y b => simp at h
  | cons x a ih => cases b with
    | nil => simp at h
    | cons y b =>
      simp only [List.map_cons, List.cons.injEq, Value.int.injEq, true_and] at h
      rw [ih h.2, Int.ofNat.inj h.1]

theorem nums_inj20 {a b : List Nat} (h : Value.agg (nums .u64 a).toArray = .agg (nums .u64 b).toArray) : b = a := by
  have h1 : nums .u64 a = nums .u64 b := by simpa using h
  exact (nums_inj' h1).symm

theorem ptimes_f (V : Value) (P : Pt) (es : List Nat) (hP : FeP V P) (hes : es.length = 32) (he256 : ∀ y ∈ es, y < 256) (A : Mem) : FnX Tryz.prog 109 [V, .agg (nums .u8 es).toArray] [] A fun r M J => M = [] ∧ J = [] ∧ FeP r (pTimes P (bv es)) := by
 have hP0 := hP
 obtain ⟨xsp, rfl, p0, p1, p2, p3, p4, p5, p6, p7, p8, p9, p10, p11, p12, p13, p14, p15, p16, p17, p18, p19, rfl, hpX, hpY, hpZ, hpT⟩ := hP
 dsimp only [nums, List.map]
 refine FnX.enter (N := 34) Tryz.func109 rfl rfl rfl fun w => ?_
 refine XC.keep (kq 0 (kq 1 kn)) ?_
 refine XC.reg ?_
 refine XL.lo rfl (bx_ fun b2 => ?_)
 refine XL.lo rfl (bx_ fun b3 => ?_)
 refine XL.lo rfl (l_alloc (cs := [.int .u64 0, .int .u64 0, .int .u64 0, .int .u64 0, .int .u64 0, .int .u64 0, .int .u64 0, .int .u64 0, .int .u64 0, .int .u64 0, .int .u64 0, .int .u64 0, .int .u64 0, .int .u64 0, .int .u64 0, .int .u64 0, .int .u64 0, .int .u64 0, .int .u64 0, .int .u64 0]) (by kernel_rfl) rfl fun b4 => ?_)
 refine XL.fin (kq 2 (kq 3 (kq 4 kn))) ?_
 refine XC.reg ?_
 refine XL.call a0 (by kernel_rfl) (origin_f _) rfl ?_
 rintro r1 M1 J1 ⟨rfl, rfl, hO⟩
 have hO0 := hO
 obtain ⟨xso, rfl, o0, o1, o2, o3, o4, o5, o6, o7, o8, o9, o10, o11, o12, o13, o14, o15, o16, o17, o18, o19, rfl, hoX, hoY, hoZ, hoT⟩ := hO
 dsimp only [nums, List.map]
 refine XL.call (aS rfl a0) (by kernel_rfl) (num_f 2 (by decide) _) rfl ?_
 rintro rw2 Mw2 Jw2 ⟨rfl, rfl, kw2⟩
 have hw2 := kw2
 obtain ⟨aw2, bw2, cw2, dw2, ew2, rfl, -⟩ := kw2
 refine XL.call a0 (by kernel_rfl) (curve_f _) rfl ?_
 rintro rw3 Mw3 Jw3 ⟨rfl, rfl, kw3⟩
 have hw3 := kw3
 obtain ⟨aw3, bw3, cw3, dw3, ew3, rfl, -⟩ := kw3
 refine XL.call (aS rfl (aS rfl a0)) (by kernel_rfl) (mul_f hw2 hw3 _) rfl ?_
 rintro rd Md Jd ⟨rfl, rfl, kd⟩
 rw [d2_eq] at kd
 have hd := kd
 obtain ⟨ad, bd, cd, dd, ed, rfl, -⟩ := kd
 refine XL.lo rfl (l_alloc (cs := [.int .u64 0, .int .u64 0, .int .u64 0, .int .u64 0, .int .u64 0, .int .u64 0, .int .u64 0, .int .u64 0, .int .u64 0, .int .u64 0, .int .u64 0, .int .u64 0, .int .u64 0, .int .u64 0, .int .u64 0, .int .u64 0, .int .u64 0, .int .u64 0, .int .u64 0, .int .u64 0]) (by kernel_rfl) rfl fun b5 => ?_)
 refine XL.lo rfl (l_alloc (cs := [.int .u64 0, .int .u64 0, .int .u64 0, .int .u64 0, .int .u64 0]) (by kernel_rfl) rfl fun b6 => ?_)
 refine XL.lo rfl (l_storeW rfl rfl Cel.cel (by kernel_rfl) (lnS (lnS (lnS (lnS (lnS (lnS (lnS (lnS (lnS (lnS (lnS (lnS (lnS (lnS (lnS (lnS (lnS (lnS (lnS (lnS (ln0))))))))))))))))))))) (allS rfl (allS rfl (allS rfl (allS rfl (allS rfl (allS rfl (allS rfl (allS rfl (allS rfl (allS rfl (allS rfl (allS rfl (allS rfl (allS rfl (allS rfl (allS rfl (allS rfl (allS rfl (allS rfl (allS rfl (all0))))))))))))))))))))) UpC.upd ?_)
 refine XL.lo rfl (l_storeW rfl rfl Cel.cel (by kernel_rfl) (lnS (lnS (lnS (lnS (lnS (ln0)))))) (allS rfl (allS rfl (allS rfl (allS rfl (allS rfl (all0)))))) UpC.upd ?_)
 refine XL.fin (kq 2 (kq 3 (kq 4 (kq 5 (kq 6 kn))))) ?_
 refine XC.seq ?_
 refine XC.reg ?_
 refine as_ ?_
 refine XL.fin (kq 2 (kq 3 (kq 4 (kq 5 (kq 6 (kq 7 kn)))))) ?_
 refine XC.block ?_
 refine XC.fit (M' := [(b6, blk [.int .u64 (ad : Int), .int .u64 (bd : Int), .int .u64 (cd : Int), .int .u64 (dd : Int), .int .u64 (ed : Int)] 152), (b5, blk (nums .u64 [o0, o1, o2, o3, o4, o5, o6, o7, o8, o9, o10, o11, o12, o13, o14, o15, o16, o17, o18, o19]) 154), (b4, blk [.int .u64 0, .int .u64 0, .int .u64 0, .int .u64 0, .int .u64 0, .int .u64 0, .int .u64 0, .int .u64 0, .int .u64 0, .int .u64 0, .int .u64 0, .int .u64 0, .int .u64 0, .int .u64 0, .int .u64 0, .int .u64 0, .int .u64 0, .int .u64 0, .int .u64 0, .int .u64 0] 154), (b3, blk (nums .u8 es) 157), (b2, blk [.int .u64 (p0 : Int), .int .u64 (p1 : Int), .int .u64 (p2 : Int), .int .u64 (p3 : Int), .int .u64 (p4 : Int), .int .u64 (p5 : Int), .int .u64 (p6 : Int), .int .u64 (p7 : Int), .int .u64 (p8 : Int), .int .u64 (p9 : Int), .int .u64 (p10 : Int), .int .u64 (p11 : Int), .int .u64 (p12 : Int), .int .u64 (p13 : Int), .int .u64 (p14 : Int), .int .u64 (p15 : Int), .int .u64 (p16 : Int), .int .u64 (p17 : Int), .int .u64 (p18 : Int), .int .u64 (p19 : Int)] 154)]) (Fit.eq rfl) (fun _ h => h) ?_
 refine XC.loop (α := Nat × List Nat) (fun y => [(2, .pointer (some ⟨b2, 0, none⟩)), (3, .pointer (some ⟨b3, 0, none⟩)), (4, .pointer (some ⟨b4, 0, none⟩)), (5, .pointer (some ⟨b5, 0, none⟩)), (6, .pointer (some ⟨b6, 0, none⟩)), (7, .int .i64 ((y.1 : Int) - 1))]) (fun y => [(b6, blk [.int .u64 (ad : Int), .int .u64 (bd : Int), .int .u64 (cd : Int), .int .u64 (dd : Int), .int .u64 (ed : Int)] 152), (b5, blk (nums .u64 y.2) 154), (b4, blk [.int .u64 0, .int .u64 0, .int .u64 0, .int .u64 0, .int .u64 0, .int .u64 0, .int .u64 0, .int .u64 0, .int .u64 0, .int .u64 0, .int .u64 0, .int .u64 0, .int .u64 0, .int .u64 0, .int .u64 0, .int .u64 0, .int .u64 0, .int .u64 0, .int .u64 0, .int .u64 0] 154), (b3, blk (nums .u8 es) 157), (b2, blk [.int .u64 (p0 : Int), .int .u64 (p1 : Int), .int .u64 (p2 : Int), .int .u64 (p3 : Int), .int .u64 (p4 : Int), .int .u64 (p5 : Int), .int .u64 (p6 : Int), .int .u64 (p7 : Int), .int .u64 (p8 : Int), .int .u64 (p9 : Int), .int .u64 (p10 : Int), .int .u64 (p11 : Int), .int .u64 (p12 : Int), .int .u64 (p13 : Int), .int .u64 (p14 : Int), .int .u64 (p15 : Int), .int .u64 (p16 : Int), .int .u64 (p17 : Int), .int .u64 (p18 : Int), .int .u64 (p19 : Int)] 154)]) (fun _ => []) (fun y => y.1 ≤ 256 ∧ FeP (.agg (nums .u64 y.2).toArray) (pTk P (bv es) (256 - y.1))) (fun y => y.1) (256, [o0, o1, o2, o3, o4, o5, o6, o7, o8, o9, o10, o11, o12, o13, o14, o15, o16, o17, o18, o19]) ⟨Nat.le_refl _, by show FeP _ (pTk P (bv es) (256 - 256)); rw [Nat.sub_self, pTk_zero]; exact hO0⟩ (kq 2 (kq 3 (kq 4 (kq 5 (kq 6 (kq 7 kn)))))) .rfl (fun _ h => h) ?_
 clear hO0 hoX hoY hoZ hoT
 rintro ⟨j, zs⟩ ⟨hj, ho⟩
 dsimp only at hj ho ⊢
 have ho0 := ho
 obtain ⟨zs_, e_, z0, z1, z2, z3, z4, z5, z6, z7, z8, z9, z10, z11, z12, z13, z14, z15, z16, z17, z18, z19, rfl, hzX, hzY, hzZ, hzT⟩ := ho
 obtain rfl := nums_inj20 e_
 refine XC.seq ?_
 refine XC.reg ?_
 refine mv_ ?_
 refine XL.q (q_bin rfl rfl rfl) rfl ?_
 refine XL.fin (kq 2 (kq 3 (kq 4 (kq 5 (kq 6 (kq 7 (kq 13 kn))))))) ?_
 refine XC.cond rfl (fun hc => ?_) (fun hc => ?_)
 ·
  have hj0 : 0 < j := by simp at hc; omega
  obtain ⟨i, rfl⟩ : ∃ i, j = i + 1 := ⟨j - 1, by omega⟩
  rw [show (((i + 1 : Nat) : Int) - 1) = (i : Int) by omega]
  have hts := pTk_step (P := P) (n := bv es) (show i < 256 by omega)
  have hbit := bv_bit he256 i
  have hpb : es.getD (i / 8) 0 < 256 := getD_lt he256 (by decide)
  refine XC.skip ?_
  refine nx (kq 2 (kq 3 (kq 4 (kq 5 (kq 6 (kq 7 kn)))))) ?_
  refine XC.seq ?_
  refine XC.block ?_
  refine XC.reg ?_
  refine XL.q (qw_ 20) rfl ?_
  refine XL.q (qw_ 20) rfl ?_
  refine XL.q (qw_ 5) rfl ?_
  refine XL.call (aS rfl (aS rfl (aS rfl a0))) (by kernel_rfl) (padd_f _ _ _ _ _ d2N ho0 ho0 hd _) rfl ?_
  rintro r5 M5 J5 ⟨rfl, rfl, k5⟩
  have h5 := k5
  obtain ⟨xss, rfl, s0, s1, s2, s3, s4, s5, s6, s7, s8, s9, s10, s11, s12, s13, s14, s15, s16, s17, s18, s19, rfl, hsX, hsY, hsZ, hsT⟩ := k5
  dsimp only [nums, List.map]
  refine XL.lo rfl (l_storeW rfl rfl Cel.cel (by kernel_rfl) (lnS (lnS (lnS (lnS (lnS (lnS (lnS (lnS (lnS (lnS (lnS (lnS (lnS (lnS (lnS (lnS (lnS (lnS (lnS (lnS (ln0))))))))))))))))))))) (allS rfl (allS rfl (allS rfl (allS rfl (allS rfl (allS rfl (allS rfl (allS rfl (allS rfl (allS rfl (allS rfl (allS rfl (allS rfl (allS rfl (allS rfl (allS rfl (allS rfl (allS rfl (allS rfl (allS rfl (all0))))))))))))))))))))) UpC.upd ?_)
  refine XL.fin (kq 2 (kq 3 (kq 4 (kq 5 (kq 6 (kq 7 kn)))))) ?_
  refine XC.reg ?_
  refine mv_ ?_
  refine XL.q (q_quoD 8 rfl rfl rfl (by decide) (wrapI (by omega))) rfl ?_
  refine XL.q (q_idxA (e := 5) (n := 32) (sz := 1) (i := i / 8) rfl rfl (by kernel_rfl) (by kernel_rfl) rfl (by omega)) rfl ?_
  refine XL.q (q_ldN (i / 8) rfl (by kernel_rfl) At.mem (by omega) (by omega)) rfl ?_
  refine mv_ ?_
  refine XL.q (q_remD 8 rfl rfl rfl (by decide)) rfl ?_
  refine XL.q (q_shrI (a := es.getD (i / 8) 0) (b := i % 8) rfl rfl rfl rfl (by show _ ≤ 8; omega)) rfl ?_
  refine XL.q (hbit ▸ q_andD 1 2 rfl rfl rfl rfl rfl (by show _ < 256; exact Nat.lt_of_le_of_lt (Nat.div_le_self _ _) hpb) (by decide)) rfl ?_
  refine XL.q (q_bin rfl rfl rfl) rfl ?_
  refine XL.fin (kq 2 (kq 3 (kq 4 (kq 5 (kq 6 (kq 7 (kq 28 kn))))))) ?_
  refine XC.cond rfl (fun hc => ?_) (fun hc => ?_)
  ·
   have hb1 : bv es / 2 ^ i % 2 = 1 := by revert hc; generalize bv es / 2 ^ i % 2 = z; intro hc; simp at hc; omega
   rw [pSt_pos hb1] at hts
   refine XC.reg1 ?_
   refine XL.q (qw_ 20) rfl ?_
   refine XL.q (qw_ 20) rfl ?_
   refine XL.q (qw_ 5) rfl ?_
   refine XL.call (aS rfl (aS rfl (aS rfl a0))) (by kernel_rfl) (padd_f _ _ _ _ _ d2N h5 hP0 hd _) rfl ?_
   rintro r7 M7 J7 ⟨rfl, rfl, k7⟩
   rw [← hts] at k7
   have h7 := k7
   obtain ⟨xst, rfl, t0, t1, t2, t3, t4, t5, t6, t7, t8, t9, t10, t11, t12, t13, t14, t15, t16, t17, t18, t19, rfl, htX, htY, htZ, htT⟩ := k7
   dsimp only [nums, List.map]
   refine XL.lo rfl (l_storeW rfl rfl Cel.cel (by kernel_rfl) (lnS (lnS (lnS (lnS (lnS (lnS (lnS (lnS (lnS (lnS (lnS (lnS (lnS (lnS (lnS (lnS (lnS (lnS (lnS (lnS (ln0))))))))))))))))))))) (allS rfl (allS rfl (allS rfl (allS rfl (allS rfl (allS rfl (allS rfl (allS rfl (allS rfl (allS rfl (allS rfl (allS rfl (allS rfl (allS rfl (allS rfl (allS rfl (allS rfl (allS rfl (allS rfl (allS rfl (all0))))))))))))))))))))) UpC.upd ?_)
   refine XL.nil ?_
   refine nb ?_
   refine nx (kq 2 (kq 3 (kq 4 (kq 5 (kq 6 (kq 7 kn)))))) ?_
   refine XC.reg1 ?_
   refine mv_ ?_
   refine XL.q (q_num ((i : Int) - 1) rfl rfl (sub64 rfl (by omega) (by omega))) rfl ?_
   refine as_ ?_
   refine XL.nil ?_
   exact rn (i, [t0, t1, t2, t3, t4, t5, t6, t7, t8, t9, t10, t11, t12, t13, t14, t15, t16, t17, t18, t19]) ⟨by dsimp only; omega, h7⟩ (by dsimp only; omega) (kq 2 (kq 3 (kq 4 (kq 5 (kq 6 (kq 7 kn)))))) (Fit.eq rfl) (fun _ h => h)
  ·
   have hb1 : ¬ bv es / 2 ^ i % 2 = 1 := by revert hc; generalize bv es / 2 ^ i % 2 = z; intro hc; simp at hc; omega
   rw [pSt_neg hb1] at hts
   refine XC.skip ?_
   refine nb ?_
   refine nx (kq 2 (kq 3 (kq 4 (kq 5 (kq 6 (kq 7 kn)))))) ?_
   refine XC.reg1 ?_
   refine mv_ ?_
   refine XL.q (q_num ((i : Int) - 1) rfl rfl (sub64 rfl (by omega) (by omega))) rfl ?_
   refine as_ ?_
   refine XL.nil ?_
   exact rn (i, [s0, s1, s2, s3, s4, s5, s6, s7, s8, s9, s10, s11, s12, s13, s14, s15, s16, s17, s18, s19]) ⟨by dsimp only; omega, by dsimp only; rw [hts]; exact h5⟩ (by dsimp only; omega) (kq 2 (kq 3 (kq 4 (kq 5 (kq 6 (kq 7 kn)))))) (Fit.eq rfl) (fun _ h => h)
 ·
  have hj0 : j = 0 := by simp at hc; omega
  subst hj0
  refine XC.exit ?_
  refine te ?_
  refine re ?_
  refine be rfl ?_
  refine nx (kq 4 (kq 5 kn)) ?_
  refine XC.reg ?_
  refine XL.q (qw_ 20) rfl ?_
  refine XL.lo rfl (l_storeW rfl rfl Cel.cel (by kernel_rfl) (lnS (lnS (lnS (lnS (lnS (lnS (lnS (lnS (lnS (lnS (lnS (lnS (lnS (lnS (lnS (lnS (lnS (lnS (lnS (lnS (ln0))))))))))))))))))))) (allS rfl (allS rfl (allS rfl (allS rfl (allS rfl (allS rfl (allS rfl (allS rfl (allS rfl (allS rfl (allS rfl (allS rfl (allS rfl (allS rfl (allS rfl (allS rfl (allS rfl (allS rfl (allS rfl (allS rfl (all0))))))))))))))))))))) UpC.upd ?_)
  refine XL.fin (kq 4 kn) ?_
  refine XC.ret ?_
  exact ⟨_, [], [], resC rfl rfl (by kernel_rfl) At.mem (by rfl), List.nil_sublist _, by simp, rfl, rfl, ho0⟩

theorem pbytes_f (V : Value) (P : Pt) (hP : FeP V P) (A : Mem) : FnX Tryz.prog 108 [V] [] A fun r M J => J = [] ∧ Sl 1 r 32 (nums .u8 (pB P)) M := by
 obtain ⟨xsp, rfl, p0, p1, p2, p3, p4, p5, p6, p7, p8, p9, p10, p11, p12, p13, p14, p15, p16, p17, p18, p19, rfl, hpX, hpY, hpZ, hpT⟩ := hP
 dsimp only [nums, List.map]
 refine FnX.enter (N := 24) Tryz.func108 rfl rfl rfl fun w => ?_
 refine XC.keep (kq 0 kn) ?_
 refine XC.reg ?_
 refine XL.lo rfl (bx_ fun b1 => ?_)
 refine as_ ?_
 refine XL.fin (kq 1 kn) ?_
 refine XC.reg ?_
 refine XL.q (qf_ 10 10) rfl ?_
 refine XL.q (q_loadT (n := 5) rfl (by kernel_rfl) (by first | exact At.mem | exact mA (by assumption)) TakeC.take) rfl ?_
 refine XL.call (aS rfl a0) (by kernel_rfl) (inv_f hpZ _) rfl ?_
 rintro r3 M3 J3 ⟨rfl, rfl, k3⟩
 have h3 := k3
 obtain ⟨a3, b3, c3, d3, e3, rfl, -⟩ := k3
 refine XL.lo rfl (l_alloc (cs := [.int .u64 0, .int .u64 0, .int .u64 0, .int .u64 0, .int .u64 0]) (by kernel_rfl) rfl fun b3 => ?_)
 refine XL.lo rfl (l_storeW rfl rfl Cel.cel (by kernel_rfl) (lnS (lnS (lnS (lnS (lnS (ln0)))))) (allS rfl (allS rfl (allS rfl (allS rfl (allS rfl (all0)))))) UpC.upd ?_)
 refine XL.fin (kq 1 (kq 3 kn)) ?_
 refine XC.reg ?_
 refine XL.q (qf_ 5 5) rfl ?_
 refine XL.q (q_loadT (n := 5) rfl (by kernel_rfl) (by first | exact At.mem | exact mA (by assumption)) TakeC.take) rfl ?_
 refine XL.q (qw_ 5) rfl ?_
 refine XL.call (aS rfl (aS rfl a0)) (by kernel_rfl) (mul_f hpY h3 _) rfl ?_
 rintro r4 M4 J4 ⟨rfl, rfl, k4⟩
 have h4 := k4
 obtain ⟨a4, b4, c4, d4, e4, rfl, -⟩ := k4
 refine XL.call (aS rfl a0) (by kernel_rfl) (fbytes_spec _ _ h4 _) rfl ?_
 rintro v12 M12 J12 ⟨rfl, hs12⟩
 haveI := hs12.cel
 have hpl := prts_len 8 32 (fM P.Y (fI P.Z)) 255
 have hpt := prts_lt (fM P.Y (fI P.Z)) 255
 refine as_ ?_
 refine XL.fin (kq 1 (kq 3 (kq 4 kn))) ?_
 refine XC.seq ?_
 refine XC.reg ?_
 refine XL.q (qf_ 0 0) rfl ?_
 refine XL.q (q_loadT (n := 5) rfl (by kernel_rfl) (by first | exact At.mem | exact mA (by assumption)) TakeC.take) rfl ?_
 refine XL.q (qw_ 5) rfl ?_
 refine XL.call (aS rfl (aS rfl a0)) (by kernel_rfl) (mul_f hpX h3 _) rfl ?_
 rintro r5 M5 J5 ⟨rfl, rfl, k5⟩
 have h5 := k5
 obtain ⟨a5, b5, c5, d5, e5, rfl, -⟩ := k5
 refine XL.callV (aS rfl a0) (by kernel_rfl) (fodd_spec _ _ h5 _) rfl ?_
 refine XL.fin (kq 4 (kq 17 kn)) ?_
 refine XC.cond rfl (fun hc => ?_) (fun hc => ?_)
 ·
  have ho : fM P.X (fI P.Z) % 2 = 1 := by simpa using hc
  refine XC.reg1 ?_
  refine mv_ ?_
  refine XL.q (q_atV2 (sz := 1) (a := 31) rfl rfl (by kernel_rfl) rfl (hs12.rd (R := M12) fun _ h => h) (by decide)) rfl ?_
  refine XL.q (q_ldV (j := 31) (u := .int .u8 (((prts 8 32 (fM P.Y (fI P.Z)) 255).getD 31 0 : Nat) : Int)) (hs12.rd SubC.sub) rfl (by kernel_rfl) (nums_get (by rw [hpl]; decide))) rfl ?_
  refine XL.q (q_or (b := 128) rfl rfl rfl (by show _ < 256; exact getD_lt hpt (by decide)) (by decide)) rfl ?_
  refine XL.q (q_atV2 (sz := 1) (a := 31) rfl rfl (by kernel_rfl) rfl (hs12.rd (R := M12) fun _ h => h) (by decide)) rfl ?_
  refine XL.lo rfl (l_stE hs12 rfl rfl rfl (by kernel_rfl) (by decide) PickC.perm fun B9 hs9 => ?_)
  refine XL.fin (kq 4 kn) ?_
  refine XC.reg ?_
  refine mv_ (as_ ?_)
  refine XL.fin (kq 2 kn) ?_
  refine XC.ret ?_
  exact ⟨_, B9, [], res1 rfl rfl, List.sublist_append_left _ _, by simp, rfl, by unfold pB; rw [if_pos ho]; show Sl 1 v12 32 (nums .u8 _) B9; rw [nums_set]; exact hs9⟩
 ·
  have ho : ¬ fM P.X (fI P.Z) % 2 = 1 := by simpa using hc
  refine XC.skip ?_
  refine nx (kq 4 kn) ?_
  refine XC.reg ?_
  refine mv_ (as_ ?_)
  refine XL.fin (kq 2 kn) ?_
  refine XC.ret ?_
  exact ⟨_, M12, [], res1 rfl rfl, List.sublist_append_left _ _, by simp, rfl, by unfold pB; rw [if_neg ho]; exact hs12⟩

end Go.Proofs.YtphcaiplgpmnnaaGreatDoor
/-
  Results of several cells.
-/
namespace Go.Px
open Go Go.ChangeShapes Go.WideShapes Go.RowKit
section results
variable {P : Program} {fn : Func} {l : Env} {R : Mem}
theorem resC4 {t0 t1 t2 t3 b0 b1 b2 b3 n : Nat} {ty : TypeId} {c0 c1 c2 c3 : List Value} {e0 e1 e2 e3 : TypeId} {f0 f1 f2 f3 : Nat × Nat} (h : fn.results = #[.cell t0 ty, .cell t1 ty, .cell t2 ty, .cell t3 ty])
    (h0 : lk l t0 = some (.pointer (some ⟨b0, 0, none⟩))) (h1 : lk l t1 = some (.pointer (some ⟨b1, 0, none⟩))) (h2 : lk l t2 = some (.pointer (some ⟨b2, 0, none⟩))) (h3 : lk l t3 = some (.pointer (some ⟨b3, 0, none⟩))) (ht : rowT P ty = some n)
    (m0 : (b0, Obj.cells c0.toArray e0 f0) ∈ R) (m1 : (b1, Obj.cells c1.toArray e1 f1) ∈ R) (m2 : (b2, Obj.cells c2.toArray e2 f2) ∈ R) (m3 : (b3, Obj.cells c3.toArray e3 f3) ∈ R) (n0 : c0.length = n) (n1 : c1.length = n) (n2 : c2.length = n) (n3 : c3.length = n) : Res P fn l R (.tuple #[.agg c0.toArray, .agg c1.toArray, .agg c2.toArray, .agg c3.toArray]) := fun N a w ha hw => by
  obtain ⟨dsc, g1, g2, g3⟩ := rowT_spec ht
  have hk : ∀ (b : Nat) (cs : List Value) (e : TypeId) (fr : Nat × Nat), (b, Obj.cells cs.toArray e fr) ∈ R → cs.length = n → _ := fun b cs e fr hb hn => run_loadVar_row (P := P) w b e ty cs.toArray fr dsc (hw b _ hb) g1 (by cases dsc <;> simp_all [TypeDesc.isRow]) (by rw [g3, ← hn]; simp)
  have k0 := hk _ _ _ _ m0 n0
  have k1 := hk _ _ _ _ m1 n1
  have k2 := hk _ _ _ _ m2 n2
  have k3 := hk _ _ _ _ m3 n3
  simp [results, h, ha.slot t0 _ h0, ha.slot t1 _ h1, ha.slot t2 _ h2, ha.slot t3 _ h3, asAddr, k0, k1, k2, k3]
end results
end Go.Px

/-
  Rows of words and rows of bytes as numbers: what Low, Bytes, Bit, Plus, Less and Down do. No program in sight.
-/
namespace Go.Px
theorem xp_two (n : Nat) : xp n = 2 ^ (32 * n) := by rw [xp, Nat.pow_mul]
theorem nv_word {ws : List Nat} (h : w32 ws) (i : Nat) : nv ws / xp i % 4294967296 = ws.getD i 0 := by
  induction ws generalizing i with
  | nil => simp [nv]
  | cons b r ih =>
    have h1 := h b (by simp)
    cases i with
    | zero => simp only [nv, xp0, Nat.div_one, List.getD_cons_zero]; omega
    | succ i =>
      rw [List.getD_cons_succ, ← ih (fun x hx => h x (by simp [hx])) i, xpS, Nat.mul_comm, ← Nat.div_div_eq_div_mul]
      congr 2
      simp only [nv]; omega
/-- So many bytes of a number, the lowest first. -/
def digs (x n : Nat) : List Nat := (List.range n).map fun i => x / 256 ^ i % 256
theorem digs_len (x n : Nat) : (digs x n).length = n := by simp [digs]
theorem digs_lt (x n : Nat) : ∀ y ∈ digs x n, y < 256 := fun y hy => by
  simp only [digs, List.mem_map] at hy
  obtain ⟨i, _, rfl⟩ := hy
  exact Nat.mod_lt _ (by decide)
theorem digs_succ (x n : Nat) : digs x (n + 1) = digs x n ++ [x / 256 ^ n % 256] := by simp [digs, List.range_succ]
theorem bv_digs (x n : Nat) : bv (digs x n) = x % 256 ^ n := by
  have := bv_digits x n
  rw [show (256 : Nat) ^ n = 2 ^ (8 * n) by rw [Nat.pow_mul], ← this]
  congr 1
  unfold digs
  apply List.map_congr_left
  intro j _
  rw [Nat.pow_mul]
theorem word_byte {ws : List Nat} (h : w32 ws) (i : Nat) : ws.getD (i / 4) 0 / 2 ^ (8 * (i % 4)) % 256 = nv ws / 256 ^ i % 256 := by
  rw [← nv_word h, show (256 : Nat) ^ i = 2 ^ (8 * i) by rw [Nat.pow_mul], xp_two, show (4294967296 : Nat) = 2 ^ (8 * (i % 4)) * 2 ^ (32 - 8 * (i % 4)) by rw [← Nat.pow_add, show 8 * (i % 4) + (32 - 8 * (i % 4)) = 32 by omega], Nat.mod_mul_right_div_self,
    show (2 : Nat) ^ (32 - 8 * (i % 4)) = 256 * 2 ^ (24 - 8 * (i % 4)) by rw [show (256 : Nat) = 2 ^ 8 from rfl, ← Nat.pow_add]; congr 1; omega, Nat.mod_mul_right_mod, Nat.div_div_eq_div_mul, ← Nat.pow_add]
  congr 3; omega
theorem word_bit {ws : List Nat} (h : w32 ws) (i : Nat) : ws.getD (i / 32) 0 / 2 ^ (i % 32) % 2 = nv ws / 2 ^ i % 2 := by
  rw [← nv_word h, xp_two, show (4294967296 : Nat) = 2 ^ (i % 32) * 2 ^ (32 - i % 32) by rw [← Nat.pow_add, show i % 32 + (32 - i % 32) = 32 by omega], Nat.mod_mul_right_div_self,
    show (2 : Nat) ^ (32 - i % 32) = 2 * 2 ^ (31 - i % 32) by rw [← Nat.pow_succ']; congr 1; omega, Nat.mod_mul_right_mod, Nat.div_div_eq_div_mul, ← Nat.pow_add]
  congr 3; omega
theorem getD_high {ws : List Nat} {i : Nat} (h : ws.length ≤ i) : ws.getD i 0 = 0 := by simp [List.getD, List.getElem?_eq_none h]
theorem nv_take_succ' (ws : List Nat) (j : Nat) : nv (ws.take (j + 1)) = nv (ws.take j) + xp j * ws.getD j 0 := by
  by_cases h : j < ws.length
  · exact nv_take_succ h
  · rw [getD_high (by omega), List.take_of_length_le (by omega), List.take_of_length_le (by omega), Nat.mul_zero, Nat.add_zero]
theorem plus_step {o a b : List Nat} {i c x : Nat} (hl : o.length = i) (h : nv o + xp i * c = nv (a.take i) + nv (b.take i)) (hx : x = c + a.getD i 0 + b.getD i 0) :
    nv (o ++ [x % 4294967296]) + xp (i + 1) * (x / 4294967296) = nv (a.take (i + 1)) + nv (b.take (i + 1)) := by
  rw [nv_append, hl, nv_take_succ', nv_take_succ', xpS]
  have e : xp i * (x % 4294967296) + xp i * 4294967296 * (x / 4294967296) = xp i * x := by
    rw [Nat.mul_assoc, ← Nat.mul_add, Nat.mod_add_div]
  have e2 : xp i * x = xp i * c + xp i * a.getD i 0 + xp i * b.getD i 0 := by rw [hx, Nat.mul_add, Nat.mul_add]
  simp only [nv, Nat.mul_zero, Nat.add_zero]
  omega
theorem nv_take_le (ws : List Nat) (n : Nat) : nv (ws.take n) ≤ nv ws := by
  by_cases h : n ≤ ws.length
  · rw [nv_split ws n h]; omega
  · rw [List.take_of_length_le (by omega)]; exact Nat.le_refl _
theorem less_next {o a b : List Nat} {i c c' d : Nat} (hl : o.length = i) (h : nv o + nv (b.take i) = nv (a.take i) + xp i * c) (hd : d + b.getD i 0 + c = a.getD i 0 + 4294967296 * c') :
    nv (o ++ [d]) + nv (b.take (i + 1)) = nv (a.take (i + 1)) + xp (i + 1) * c' := by
  rw [nv_append, hl, nv_take_succ', nv_take_succ', xpS]
  have e : xp i * d + xp i * b.getD i 0 + xp i * c = xp i * a.getD i 0 + xp i * 4294967296 * c' := by
    rw [← Nat.mul_add, ← Nat.mul_add, hd, Nat.mul_add, Nat.mul_assoc]
  simp only [nv, Nat.mul_zero, Nat.add_zero]
  omega
theorem less_end {o a b : List Nat} {c : Nat} (hl : o.length = a.length) (ho : w32 o) (ha : w32 a) (h : nv o + nv (b.take a.length) = nv (a.take a.length) + xp a.length * c) (hle : nv b ≤ nv a) : nv o = nv a - nv b := by
  have h1 := nv_lt ho
  have h2 := nv_lt ha
  have h3 := nv_take_le b a.length
  rw [List.take_length] at h
  rw [hl] at h1
  have hc : c = 0 := by
    rcases Nat.eq_zero_or_pos c with h0 | h0
    · exact h0
    · have := Nat.le_mul_of_pos_right (xp a.length) h0
      omega
  subst hc
  have h4 : nv (b.take a.length) = nv b := by
    by_cases hb : a.length ≤ b.length
    · have h5 := nv_split b a.length hb
      have h6 : nv (b.drop a.length) = 0 := by
        rcases Nat.eq_zero_or_pos (nv (b.drop a.length)) with h0 | h0
        · exact h0
        · have := Nat.le_mul_of_pos_right (xp a.length) h0
          omega
      rw [h6] at h5; omega
    · rw [List.take_of_length_le (by omega)]
  omega
/-- So many words of a number. -/
def wrds (x n : Nat) : List Nat := (List.range n).map fun i => x / xp i % 4294967296
end Go.Px

/- The walks of package sign: order, less, add. -/
namespace Go.Proofs.YtphcaiplgpmnnaaGreatDoor
open Go.Px
/-- How often the first point is added till it is the origin. -/
def ordW : List Nat := [1559614445, 1477600026, 2734136534, 350157278, 0, 0, 0, 268435456]
def lN : Nat := 7237005577332262213973186563042994240857116359379907606001950938285454250989
theorem ord_nv : nv ordW = lN := by decide +kernel
theorem ord_32 : w32 ordW := by unfold w32 ordW; decide
/-- The value of a scalar. -/
def Sc (v : Value) (n : Nat) : Prop := ∃ ws, v = .agg (nums .u32 ws).toArray ∧ ws.length = 8 ∧ w32 ws ∧ nv ws = n
theorem xp8 : xp 8 = 115792089237316195423570985008687907853269984665640564039457584007913129639936 := by decide +kernel
theorem top_eq {a b : List Nat} {i : Nat} (h1 : a.drop (i + 1) = b.drop (i + 1)) (hi : i < a.length) (hj : i < b.length) (h2 : a.getD i 0 = b.getD i 0) : a.drop i = b.drop i := by
  rw [List.getD_eq_getElem?_getD, List.getElem?_eq_getElem hi, List.getD_eq_getElem?_getD, List.getElem?_eq_getElem hj] at h2
  rw [List.drop_eq_getElem_cons hi, List.drop_eq_getElem_cons hj, h1]
  exact congrArg (· :: _) h2
theorem part_get {o a : List Nat} {i : Nat} (hl : o.length = i) : (o ++ a.drop i).getD i 0 = a.getD i 0 := by
  rw [List.getD_eq_getElem?_getD, List.getElem?_append_right (by omega), List.getElem?_drop, List.getD_eq_getElem?_getD]
  congr 2; omega
theorem part_set {o a : List Nat} {i x : Nat} (hl : o.length = i) (hi : i < a.length) : (o ++ a.drop i).set i x = (o ++ [x]) ++ a.drop (i + 1) := by
  rw [List.set_append_right _ _ (by omega), hl, Nat.sub_self, List.drop_eq_getElem_cons hi, List.set_cons_zero, List.append_assoc]; rfl
theorem part_len {o a : List Nat} {i n : Nat} (hl : o.length = i) (ha : a.length = n) (hi : i ≤ n) : (o ++ a.drop i).length = n := by
  rw [List.length_append, List.length_drop]; omega
theorem add_low {a b c : Nat} (ha : a < lN) (hb : b < lN) (h : c * xp 8 ≤ a + b) : c = 0 := by
  rcases Nat.eq_zero_or_pos c with h0 | h0
  · exact h0
  · have h1 := Nat.le_mul_of_pos_left (xp 8) h0
    rw [xp8] at h1 h
    unfold lN at ha hb
    omega
theorem sub_borrow {x y c d e : Nat} (hx : x < 4294967296) (hy : y < 4294967296) (hc : c ≤ 1) (hd : d = (x + (18446744073709551616 - y)) % 18446744073709551616) (he : e = (d + (18446744073709551616 - c)) % 18446744073709551616) :
    e % 4294967296 + y + c = x + 4294967296 * (e / 9223372036854775808) ∧ e / 9223372036854775808 ≤ 1 := by
  by_cases h : y + c ≤ x
  · have e1 : e = x - y - c := by omega
    have e2 : e < 4294967296 := by omega
    rw [Nat.mod_eq_of_lt e2, Nat.div_eq_of_lt (by omega)]
    omega
  · have e1 : e = 18446744073709551616 - (y + c - x) := by omega
    omega

theorem cmp_lss {k : IntKind} (x y : Nat) : arith .lss k (x : Int) (y : Int) = some (.bool (decide (x < y))) := by
  by_cases h : x < y
  · rw [decide_eq_true h]; exact ltT (by omega)
  · rw [decide_eq_false h]; exact ltF (by omega)
theorem less_at {a b : List Nat} (ha : w32 a) (hb : w32 b) {i : Nat} (hi : i < a.length) (hl : a.length = b.length) (hd : a.drop (i + 1) = b.drop (i + 1)) (hne : a.getD i 0 ≠ b.getD i 0) : nv a < nv b ↔ a.getD i 0 < b.getD i 0 := by
  constructor
  · intro h
    rcases Nat.lt_or_gt_of_ne hne with h1 | h1
    · exact h1
    · have := nv_lt_at hb (by omega) hl.symm h1 hd.symm; omega
  · intro h; exact nv_lt_at ha hi hl h hd
theorem wrap64n {n : Nat} (h : n < 18446744073709551616) : IntKind.u64.wrap (n : Int) = (n : Int) := wrap_u64 (by omega) (by omega)

theorem order_f (A : Mem) : FnV Tryz.prog 147 [] A (.agg (nums .u32 ordW).toArray) := by
 refine FnX.enter (N := 2) Tryz.func147 rfl rfl rfl fun w => ?_
 refine XC.keep kn ?_
 refine XC.reg ?_
 refine XL.lo rfl (l_alloc (cs := [.int .u32 0, .int .u32 0, .int .u32 0, .int .u32 0, .int .u32 0, .int .u32 0, .int .u32 0, .int .u32 0]) (by kernel_rfl) rfl fun b0 => ?_)
 refine XL.fin (kq 0 kn) ?_
 refine XC.reg ?_
 refine XL.q (q_build (place := fun i => some (i * 1, 1)) (z := [.int .u32 0, .int .u32 0, .int .u32 0, .int .u32 0, .int .u32 0, .int .u32 0, .int .u32 0, .int .u32 0]) (fun _ => by kernel_rfl) (eS rfl (eS rfl (eS rfl (eS rfl (eS rfl (eS rfl (eS rfl (eS rfl e0)))))))) (bdS 0 1 rfl (by rfl) (bdS 1 1 rfl (by rfl) (bdS 2 1 rfl (by rfl) (bdS 3 1 rfl (by rfl) (bdS 4 1 rfl (by rfl) (bdS 5 1 rfl (by rfl) (bdS 6 1 rfl (by rfl) (bdS 7 1 rfl (by rfl) bd0))))))))) rfl ?_
 refine XL.lo rfl (l_storeW rfl rfl Cel.cel (by kernel_rfl) (lnS (lnS (lnS (lnS (lnS (lnS (lnS (lnS (ln0))))))))) (allS rfl (allS rfl (allS rfl (allS rfl (allS rfl (allS rfl (allS rfl (allS rfl (all0))))))))) UpC.upd ?_)
 refine XL.fin (kq 0 kn) ?_
 refine XC.ret ?_
 exact ⟨_, [], [], resC rfl rfl (by kernel_rfl) At.mem (by rfl), List.nil_sublist _, by simp, rfl, rfl, rfl⟩

theorem less_f (v u : Value) (x y : Nat) (hv : Sc v x) (hu : Sc u y) (A : Mem) : FnV Tryz.prog 148 [v, u] A (.bool (decide (x < y))) := by
 obtain ⟨a, rfl, a8, a32, rfl⟩ := hv
 obtain ⟨b, rfl, b8, b32, rfl⟩ := hu
 refine FnX.enter (N := 24) Tryz.func148 rfl rfl rfl fun w => ?_
 refine XC.keep (kq 0 (kq 1 kn)) ?_
 refine XC.reg ?_
 refine XL.lo rfl (bx_ fun b2 => ?_)
 refine XL.lo rfl (bx_ fun b3 => ?_)
 refine as_ ?_
 refine XL.fin (kq 2 (kq 3 kn)) ?_
 refine XC.seq ?_
 refine XC.reg ?_
 refine as_ ?_
 refine XL.fin (kq 2 (kq 3 (kq 5 kn))) ?_
 refine XC.block ?_
 refine XC.loop (α := Nat) (fun j => [(2, .pointer (some ⟨b2, 0, none⟩)), (3, .pointer (some ⟨b3, 0, none⟩)), (5, .int .i64 ((j : Int) - 1))]) (fun _ => [(b3, blk (nums .u32 b) 160), (b2, blk (nums .u32 a) 160)]) (fun _ => []) (fun j => j ≤ 8 ∧ a.drop j = b.drop j) (fun j => j) 8 ⟨Nat.le_refl _, by rw [List.drop_of_length_le (by omega), List.drop_of_length_le (by omega)]⟩ (kq 2 (kq 3 (kq 5 kn))) .rfl (fun _ h => h) ?_
 rintro j ⟨hj, hd⟩
 refine XC.seq ?_
 refine XC.reg ?_
 refine mv_ ?_
 refine XL.q (q_bin rfl rfl rfl) rfl ?_
 refine XL.fin (kq 2 (kq 3 (kq 5 (kq 7 kn)))) ?_
 refine XC.cond rfl (fun hc => ?_) (fun hc => ?_)
 ·
  have hj0 : 0 < j := by simp at hc; omega
  obtain ⟨i, rfl⟩ : ∃ i, j = i + 1 := ⟨j - 1, by omega⟩
  rw [show (((i + 1 : Nat) : Int) - 1) = (i : Int) by omega]
  refine XC.skip ?_
  refine nx (kq 2 (kq 3 (kq 5 kn))) ?_
  refine XC.seq ?_
  refine XC.block ?_
  refine XC.drawF [0, 1, 2, 3, 4, 5, 6] [(0, 0), (1, 0), (2, 1), (3, 0), (4, 0), (5, 1), (6, 0)] (by kernel_rfl) (by kernel_rfl) fun hs => ?_
  refine XF.q hs rfl qm_ rfl ?_
  refine XF.q hs rfl (q_idxA (e := 22) (n := 8) (sz := 1) (i := i) rfl rfl (by kernel_rfl) (by kernel_rfl) rfl (by omega)) rfl ?_
  refine XF.r hs rfl (q_ldN (i) rfl (by kernel_rfl) At.mem (by omega) (by first | omega | (rw [a8]; omega))) rfl ?_
  refine XF.q hs rfl qm_ rfl ?_
  refine XF.q hs rfl (q_idxA (e := 22) (n := 8) (sz := 1) (i := i) rfl rfl (by kernel_rfl) (by kernel_rfl) rfl (by omega)) rfl ?_
  refine XF.r hs rfl (q_ldN (i) rfl (by kernel_rfl) At.mem (by omega) (by first | omega | (rw [b8]; omega))) rfl ?_
  refine XF.q hs rfl (q_bin rfl rfl rfl) rfl ?_
  refine XF.fin (kq 2 (kq 3 (kq 5 (kq 16 kn)))) ?_
  refine XC.cond rfl (fun hc => ?_) (fun hc => ?_)
  ·
   have hne : a.getD i 0 ≠ b.getD i 0 := by simp at hc ⊢; omega
   refine XC.drawF [0, 1, 2, 3, 4, 5, 6, 7] [(0, 0), (1, 0), (2, 1), (3, 0), (4, 0), (5, 1), (6, 0), (7, 0)] (by kernel_rfl) (by kernel_rfl) fun hs => ?_
   refine XF.q hs rfl qm_ rfl ?_
   refine XF.q hs rfl (q_idxA (e := 22) (n := 8) (sz := 1) (i := i) rfl rfl (by kernel_rfl) (by kernel_rfl) rfl (by omega)) rfl ?_
   refine XF.r hs rfl (q_ldN (i) rfl (by kernel_rfl) At.mem (by omega) (by first | omega | (rw [a8]; omega))) rfl ?_
   refine XF.q hs rfl qm_ rfl ?_
   refine XF.q hs rfl (q_idxA (e := 22) (n := 8) (sz := 1) (i := i) rfl rfl (by kernel_rfl) (by kernel_rfl) rfl (by omega)) rfl ?_
   refine XF.r hs rfl (q_ldN (i) rfl (by kernel_rfl) At.mem (by omega) (by first | omega | (rw [b8]; omega))) rfl ?_
   refine XF.q hs rfl (q_cmp (decide (a.getD i 0 < b.getD i 0)) rfl rfl (cmp_lss _ _)) rfl ?_
   refine XF.q hs rfl (q_assign rfl) rfl ?_
   refine XF.fin (kq 4 kn) ?_
   refine XC.ret ?_
   refine br ?_
   refine tr ?_
   refine rr ?_
   refine br ?_
   refine tr ?_
   exact ⟨_, [], [], res1 rfl rfl, List.nil_sublist _, by simp, by rw [show decide (nv a < nv b) = decide (a.getD i 0 < b.getD i 0) from decide_eq_decide.2 (less_at a32 b32 (by omega) (by omega) hd hne)], rfl, rfl⟩
  ·
   have hne : a.getD i 0 = b.getD i 0 := by simp at hc ⊢; omega
   refine XC.skip ?_
   refine nb ?_
   refine nx (kq 2 (kq 3 (kq 5 kn))) ?_
   refine XC.reg1 ?_
   refine mv_ ?_
   refine XL.q (q_num ((i : Int) - 1) rfl rfl (sub64 rfl (by omega) (by omega))) rfl ?_
   refine as_ ?_
   refine XL.nil ?_
   exact rn i ⟨by omega, top_eq hd (by omega) (by omega) hne⟩ (by omega) (kq 2 (kq 3 (kq 5 kn))) .rfl (fun _ h => h)
 ·
  have hj0 : j = 0 := by simp at hc; omega
  subst hj0
  rw [List.drop_zero, List.drop_zero] at hd
  refine XC.exit ?_
  refine te ?_
  refine re ?_
  refine be rfl ?_
  refine nx kn ?_
  refine XC.reg ?_
  refine as_ ?_
  refine XL.fin (kq 4 kn) ?_
  refine XC.ret ?_
  exact ⟨_, [], [], res1 rfl rfl, List.nil_sublist _, by simp, by rw [hd, decide_eq_false (Nat.lt_irrefl _)], rfl, rfl⟩

theorem sadd_f (v u : Value) (x y : Nat) (hv : Sc v x) (hu : Sc u y) (hx : x < lN) (hy : y < lN) (A : Mem) : FnX Tryz.prog 125 [v, u] [] A fun r M J => M = [] ∧ J = [] ∧ Sc r ((x + y) % lN) := by
 obtain ⟨a, rfl, a8, a32, rfl⟩ := hv
 obtain ⟨b, rfl, b8, b32, rfl⟩ := hu
 refine FnX.enter (N := 58) Tryz.func125 rfl rfl rfl fun w => ?_
 refine XC.keep (kq 0 (kq 1 kn)) ?_
 refine XC.reg ?_
 refine XL.lo rfl (bx_ fun b2 => ?_)
 refine XL.lo rfl (bx_ fun b3 => ?_)
 refine XL.lo rfl (l_alloc (cs := [.int .u32 0, .int .u32 0, .int .u32 0, .int .u32 0, .int .u32 0, .int .u32 0, .int .u32 0, .int .u32 0]) (by kernel_rfl) rfl fun b4 => ?_)
 refine XL.fin (kq 2 (kq 3 (kq 4 kn))) ?_
 refine XC.reg ?_
 refine as_ ?_
 refine XL.fin (kq 2 (kq 3 (kq 4 (kq 5 kn)))) ?_
 refine XC.seq ?_
 refine XC.reg ?_
 refine mv_ ?_
 refine XL.fin (kq 2 (kq 3 (kq 4 (kq 5 (kq 10 kn))))) ?_
 refine XC.block ?_
 refine XC.loop (α := Nat × List Nat × Nat) (fun x => [(2, .pointer (some ⟨b2, 0, none⟩)), (3, .pointer (some ⟨b3, 0, none⟩)), (4, .pointer (some ⟨b4, 0, none⟩)), (5, .int .u64 (x.2.2 : Int)), (10, .int .i64 (x.1 : Int))]) (fun x => [(b4, blk [.int .u32 0, .int .u32 0, .int .u32 0, .int .u32 0, .int .u32 0, .int .u32 0, .int .u32 0, .int .u32 0] 160), (b3, blk (nums .u32 b) 160), (b2, blk (nums .u32 (x.2.1 ++ a.drop x.1)) 160)]) (fun _ => []) (fun x => x.1 ≤ 8 ∧ x.2.1.length = x.1 ∧ w32 x.2.1 ∧ x.2.2 ≤ 1 ∧ nv x.2.1 + xp x.1 * x.2.2 = nv (a.take x.1) + nv (b.take x.1)) (fun x => 8 - x.1) ⟨0, [], 0⟩ ⟨Nat.zero_le _, rfl, (fun x hx => by cases hx), by decide, rfl⟩ (kq 2 (kq 3 (kq 4 (kq 5 (kq 10 kn))))) .rfl (fun _ h => h) ?_
 rintro ⟨i, o, c⟩ ⟨hi, hol, ho32, hc1, hnv⟩
 dsimp only at hi hol ho32 hc1 hnv ⊢
 refine XC.reg ?_
 refine XL.q (q_bin rfl rfl rfl) rfl ?_
 refine XL.fin (kq 2 (kq 3 (kq 4 (kq 5 (kq 10 (kq 11 kn)))))) ?_
 refine XC.seq ?_
 refine XC.cond rfl (fun hc => ?_) (fun hc => ?_)
 ·
  have hlt : i < 8 := by simp at hc; omega
  have hpl := part_len (o := o) (a := a) hol a8 hi
  have hpg := part_get (a := a) hol
  have hps := fun x => part_set (x := x) hol (show i < a.length by omega)
  have hst := plus_step (x := c + (a.getD i 0 + b.getD i 0)) hol hnv (by omega)
  have ha0 := a32.get i
  have hb0 := b32.get i
  refine XC.skip ?_
  refine nx (kq 2 (kq 3 (kq 4 (kq 5 (kq 10 kn))))) ?_
  refine XC.seq ?_
  refine XC.block ?_
  refine XC.reg ?_
  refine mv_ (as_ ?_)
  refine XL.fin (kq 2 (kq 3 (kq 4 (kq 5 (kq 6 (kq 10 kn)))))) ?_
  refine XC.drawF [0, 1, 2, 3, 4, 5, 6, 7, 8, 9, 10, 11] [(0, 0), (1, 0), (2, 0), (3, 1), (4, 0), (5, 0), (6, 0), (7, 1), (8, 0), (9, 0), (10, 0), (11, 0)] (by kernel_rfl) (by kernel_rfl) fun hs => ?_
  refine XF.q hs rfl qm_ rfl ?_
  refine XF.q hs rfl qm_ rfl ?_
  refine XF.q hs rfl (q_idxA (e := 22) (n := 8) (sz := 1) (i := i) rfl rfl (by kernel_rfl) (by kernel_rfl) rfl (by omega)) rfl ?_
  refine XF.r hs rfl (hpg ▸ q_ldN i rfl (by kernel_rfl) At.mem (by omega) (by omega)) rfl ?_
  refine XF.q hs rfl (q_convN (k' := .u64) (a.getD i 0) rfl (by kernel_rfl) (wrap64n (by omega))) rfl ?_
  refine XF.q hs rfl qm_ rfl ?_
  refine XF.q hs rfl (q_idxA (e := 22) (n := 8) (sz := 1) (i := i) rfl rfl (by kernel_rfl) (by kernel_rfl) rfl (by omega)) rfl ?_
  refine XF.r hs rfl (q_ldN (i) rfl (by kernel_rfl) At.mem (by omega) (by first | omega | (rw [b8]; omega))) rfl ?_
  refine XF.q hs rfl (q_convN (k' := .u64) (b.getD i 0) rfl (by kernel_rfl) (wrap64n (by omega))) rfl ?_
  refine XF.q hs rfl (q_addS 18446744073709551616 (a := a.getD i 0) (b := b.getD i 0) rfl rfl rfl rfl rfl rfl (by omega)) rfl ?_
  refine XF.q hs rfl (q_addS 18446744073709551616 (a := c) (b := a.getD i 0 + b.getD i 0) rfl rfl rfl rfl rfl rfl (by omega)) rfl ?_
  refine XF.q hs rfl (q_assign rfl) rfl ?_
  refine XF.fin (kq 2 (kq 3 (kq 4 (kq 5 (kq 6 (kq 10 kn)))))) ?_
  refine XC.reg ?_
  refine mv_ (mv_ ?_)
  refine XL.q (q_to32 rfl (by kernel_rfl)) rfl ?_
  refine XL.q (q_idxA (e := 22) (n := 8) (sz := 1) (i := i) rfl rfl (by kernel_rfl) (by kernel_rfl) rfl (by omega)) rfl ?_
  refine XL.lo rfl (l_stN i rfl rfl (by kernel_rfl) (by omega) (by omega) UpC.upd ?_)
  refine XL.fin (kq 2 (kq 3 (kq 4 (kq 5 (kq 10 kn))))) ?_
  refine XC.reg1 ?_
  refine mv_ ?_
  refine XL.q (q_shrD 32 4294967296 rfl rfl rfl rfl (by decide)) rfl ?_
  refine as_ ?_
  refine XL.nil ?_
  refine nb ?_
  refine nx (kq 2 (kq 3 (kq 4 (kq 5 (kq 10 kn))))) ?_
  refine XC.reg1 ?_
  refine XL.q (q_num ((i + 1 : Nat) : Int) rfl rfl (add64 (by omega) (by omega) (by omega))) rfl ?_
  refine mv_ ?_
  refine XL.nil ?_
  exact rn ⟨i + 1, o ++ [(c + (a.getD i 0 + b.getD i 0)) % 4294967296], (c + (a.getD i 0 + b.getD i 0)) / 4294967296⟩ ⟨by dsimp only; omega, by simp [hol], ho32.app (fun x hx => by rw [List.mem_singleton.1 hx]; exact Nat.mod_lt _ (by decide)), by dsimp only; omega, hst⟩ (by dsimp only; omega) (kq 2 (kq 3 (kq 4 (kq 5 (kq 10 kn))))) (Fit.eq (by rw [hps])) (fun _ h => h)
 ·
  have hge : i = 8 := by simp at hc; omega
  subst hge
  rw [List.take_of_length_le (by omega), List.take_of_length_le (by omega)] at hnv
  have hc0 := add_low hx hy (c := c) (by rw [Nat.mul_comm]; omega)
  subst hc0
  rw [Nat.mul_zero, Nat.add_zero] at hnv
  rw [List.drop_of_length_le (by omega), List.append_nil]
  refine XC.exit ?_
  refine te ?_
  refine re ?_
  refine be rfl ?_
  refine nx (kq 2 (kq 4 kn)) ?_
  refine XC.reg ?_
  refine XL.callV a0 (by kernel_rfl) (order_f _) rfl ?_
  refine XL.lo rfl (l_alloc (cs := [.int .u32 0, .int .u32 0, .int .u32 0, .int .u32 0, .int .u32 0, .int .u32 0, .int .u32 0, .int .u32 0]) (by kernel_rfl) rfl fun b7 => ?_)
  refine XL.lo rfl (l_storeW rfl rfl Cel.cel (by kernel_rfl) (lnS (lnS (lnS (lnS (lnS (lnS (lnS (lnS (ln0))))))))) (allS rfl (allS rfl (allS rfl (allS rfl (allS rfl (allS rfl (allS rfl (allS rfl (all0))))))))) UpC.upd ?_)
  refine XL.fin (kq 2 (kq 4 (kq 7 kn))) ?_
  refine XC.seq ?_
  refine XC.reg ?_
  refine XL.q (q_loadW (n := 8) (cs := nums .u32 o) rfl (by kernel_rfl) At.mem (by rw [nums_len]; omega)) rfl ?_
  refine XL.q (q_loadW (n := 8) (cs := nums .u32 ordW) rfl (by kernel_rfl) At.mem (by rfl)) rfl ?_
  refine XL.callV (aS rfl (aS rfl a0)) (by kernel_rfl) (less_f _ _ (nv o) lN ⟨o, rfl, hol, ho32, rfl⟩ ⟨ordW, rfl, rfl, ord_32, ord_nv⟩ _) rfl ?_
  refine XL.fin (kq 2 (kq 4 (kq 7 (kq 34 kn)))) ?_
  refine XC.cond rfl (fun hc => ?_) (fun hc => ?_)
  ·
   have hlt : nv o < lN := by simpa using hc
   refine XC.reg ?_
   refine XL.q (q_loadW (n := 8) (cs := nums .u32 o) rfl (by kernel_rfl) At.mem (by rw [nums_len]; omega)) rfl ?_
   refine XL.lo rfl (l_storeW (vs := nums .u32 o) rfl rfl rfl (by rw [nums_len, hol]; kernel_rfl) (by rw [nums_len, hol]; rfl) nums_one UpC.upd ?_)
   refine XL.fin (kq 4 kn) ?_
   refine XC.ret ?_
   refine tr ?_
   exact ⟨_, [], [], resC (n := 8) rfl rfl (by kernel_rfl) At.mem (by rw [nums_len]; omega), List.nil_sublist _, by simp, rfl, rfl, o, rfl, hol, ho32, by rw [hnv, Nat.mod_eq_of_lt (by omega)]⟩
  ·
   have hge : lN ≤ nv o := by simpa using hc
   refine XC.skip ?_
   refine nx (kq 2 (kq 4 (kq 7 kn))) ?_
   refine XC.reg ?_
   refine as_ ?_
   refine XL.fin (kq 2 (kq 4 (kq 5 (kq 7 kn)))) ?_
   refine XC.seq ?_
   refine XC.reg ?_
   refine mv_ ?_
   refine XL.fin (kq 2 (kq 4 (kq 5 (kq 7 (kq 36 kn))))) ?_
   refine XC.block ?_
   refine XC.loop (α := Nat × List Nat × Nat) (fun x => [(2, .pointer (some ⟨b2, 0, none⟩)), (4, .pointer (some ⟨b4, 0, none⟩)), (5, .int .u64 (x.2.2 : Int)), (7, .pointer (some ⟨b7, 0, none⟩)), (36, .int .i64 (x.1 : Int))]) (fun x => (b7, blk (nums .u32 ordW) 160) :: [(b4, blk [.int .u32 0, .int .u32 0, .int .u32 0, .int .u32 0, .int .u32 0, .int .u32 0, .int .u32 0, .int .u32 0] 160), (b3, blk (nums .u32 b) 160), (b2, blk (nums .u32 (x.2.1 ++ o.drop x.1)) 160)]) (fun _ => []) (fun x => x.1 ≤ 8 ∧ x.2.1.length = x.1 ∧ w32 x.2.1 ∧ x.2.2 ≤ 1 ∧ nv x.2.1 + nv (ordW.take x.1) = nv (o.take x.1) + xp x.1 * x.2.2) (fun x => 8 - x.1) ⟨0, [], 0⟩ ⟨Nat.zero_le _, rfl, (fun x hx => by cases hx), by decide, rfl⟩ (kq 2 (kq 4 (kq 5 (kq 7 (kq 36 kn))))) .rfl (fun _ h => h) ?_
   rintro ⟨i, q, c⟩ ⟨hi, hql, hq32, hc1, hnw⟩
   dsimp only at hi hql hq32 hc1 hnw ⊢
   refine XC.reg ?_
   refine XL.q (q_bin rfl rfl rfl) rfl ?_
   refine XL.fin (kq 2 (kq 4 (kq 5 (kq 7 (kq 36 (kq 37 kn)))))) ?_
   refine XC.seq ?_
   refine XC.cond rfl (fun hc => ?_) (fun hc => ?_)
   ·
    have hlt : i < 8 := by simp at hc; omega
    have hpl := part_len (o := q) (a := o) hql hol hi
    have hpg := part_get (a := o) hql
    have hps := fun x => part_set (x := x) hql (show i < o.length by omega)
    have ha0 := ho32.get i
    have hb0 := ord_32.get i
    have ho8 : ordW.length = 8 := rfl
    have hsb := sub_borrow (c := c) ha0 hb0 hc1 rfl rfl
    generalize hdd : (o.getD i 0 + (18446744073709551616 - ordW.getD i 0)) % 18446744073709551616 = dd at *
    generalize hee : (dd + (18446744073709551616 - c)) % 18446744073709551616 = ee at *
    have hst := less_next hql hnw hsb.1
    refine XC.skip ?_
    refine nx (kq 2 (kq 4 (kq 5 (kq 7 (kq 36 kn))))) ?_
    refine XC.seq ?_
    refine XC.block ?_
    refine XC.reg ?_
    refine mv_ (as_ ?_)
    refine XL.fin (kq 2 (kq 4 (kq 5 (kq 7 (kq 8 (kq 36 kn)))))) ?_
    refine XC.drawF [0, 1, 2, 3, 4, 5, 6, 7, 8, 9, 10, 11] [(0, 0), (1, 0), (2, 1), (3, 0), (4, 0), (5, 0), (6, 1), (7, 0), (8, 0), (9, 0), (10, 0), (11, 0)] (by kernel_rfl) (by kernel_rfl) fun hs => ?_
    refine XF.q hs rfl qm_ rfl ?_
    refine XF.q hs rfl (q_idxA (e := 22) (n := 8) (sz := 1) (i := i) rfl rfl (by kernel_rfl) (by kernel_rfl) rfl (by omega)) rfl ?_
    refine XF.r hs rfl (hpg ▸ q_ldN i rfl (by kernel_rfl) At.mem (by omega) (by omega)) rfl ?_
    refine XF.q hs rfl (q_convN (k' := .u64) (o.getD i 0) rfl (by kernel_rfl) (wrap64n (by omega))) rfl ?_
    refine XF.q hs rfl qm_ rfl ?_
    refine XF.q hs rfl (q_idxA (e := 22) (n := 8) (sz := 1) (i := i) rfl rfl (by kernel_rfl) (by kernel_rfl) rfl (by omega)) rfl ?_
    refine XF.r hs rfl (q_ldN i rfl (by kernel_rfl) At.mem (by omega) (by omega)) rfl ?_
    refine XF.q hs rfl (q_convN (k' := .u64) (ordW.getD i 0) rfl (by kernel_rfl) (wrap64n (by omega))) rfl ?_
    refine XF.q hs rfl (hdd ▸ q_subM 18446744073709551616 (a := o.getD i 0) (b := ordW.getD i 0) rfl rfl rfl rfl rfl rfl (by omega)) rfl ?_
    refine XF.q hs rfl qm_ rfl ?_
    refine XF.q hs rfl (hee ▸ q_subM 18446744073709551616 (a := dd) (b := c) rfl rfl rfl rfl rfl rfl (by omega)) rfl ?_
    refine XF.q hs rfl (q_assign rfl) rfl ?_
    refine XF.fin (kq 2 (kq 4 (kq 7 (kq 8 (kq 9 (kq 36 kn)))))) ?_
    refine XC.reg ?_
    refine mv_ (mv_ ?_)
    refine XL.q (q_to32 rfl (by kernel_rfl)) rfl ?_
    refine XL.q (q_idxA (e := 22) (n := 8) (sz := 1) (i := i) rfl rfl (by kernel_rfl) (by kernel_rfl) rfl (by omega)) rfl ?_
    refine XL.lo rfl (l_stN i rfl rfl (by kernel_rfl) (by omega) (by omega) UpC.upd ?_)
    refine XL.fin (kq 2 (kq 4 (kq 7 (kq 9 (kq 36 kn))))) ?_
    refine XC.reg1 ?_
    refine mv_ ?_
    refine XL.q (q_shrD 63 9223372036854775808 rfl rfl rfl rfl (by decide)) rfl ?_
    refine as_ ?_
    refine XL.nil ?_
    refine nb ?_
    refine nx (kq 2 (kq 4 (kq 5 (kq 7 (kq 36 kn))))) ?_
    refine XC.reg1 ?_
    refine XL.q (q_num ((i + 1 : Nat) : Int) rfl rfl (add64 (by omega) (by omega) (by omega))) rfl ?_
    refine mv_ ?_
    refine XL.nil ?_
    exact rn ⟨i + 1, q ++ [ee % 4294967296], ee / 9223372036854775808⟩ ⟨by dsimp only; omega, by simp [hql], hq32.app (fun x hx => by rw [List.mem_singleton.1 hx]; exact Nat.mod_lt _ (by decide)), hsb.2, hst⟩ (by dsimp only; omega) (kq 2 (kq 4 (kq 5 (kq 7 (kq 36 kn))))) (Fit.eq (by rw [hps])) (fun _ h => h)
   ·
    have hge8 : i = 8 := by simp at hc; omega
    subst hge8
    have hfin := less_end (o := q) (a := o) (b := ordW) (c := c) (by omega) hq32 ho32 (by rw [hol]; exact hnw) (by rw [ord_nv]; exact hge)
    rw [List.drop_of_length_le (by omega), List.append_nil]
    refine XC.exit ?_
    refine te ?_
    refine re ?_
    refine be rfl ?_
    refine nx (kq 2 (kq 4 kn)) ?_
    refine XC.reg ?_
    refine XL.q (q_loadW (n := 8) (cs := nums .u32 q) rfl (by kernel_rfl) At.mem (by rw [nums_len]; omega)) rfl ?_
    refine XL.lo rfl (l_storeW (vs := nums .u32 q) rfl rfl rfl (by rw [nums_len, hql]; kernel_rfl) (by rw [nums_len, hql]; rfl) nums_one UpC.upd ?_)
    refine XL.fin (kq 4 kn) ?_
    refine XC.ret ?_
    exact ⟨_, [], [], resC (n := 8) rfl rfl (by kernel_rfl) At.mem (by rw [nums_len]; omega), List.nil_sublist _, by simp, rfl, rfl, q, rfl, hql, hq32, by rw [hfin, hnv, ord_nv, Nat.mod_eq_sub_mod (by omega), Nat.mod_eq_of_lt (by omega)]⟩

end Go.Proofs.YtphcaiplgpmnnaaGreatDoor
/- The walks of package sign: times, number, bytes. -/
namespace Go.Proofs.YtphcaiplgpmnnaaGreatDoor
open Go.Px
/-- So many times a number, as told by the bits from i on. -/
def tmN (X Y i : Nat) : Nat := X / 2 ^ i * Y % lN
theorem tm_step (X Y i : Nat) : tmN X Y i = (if X / 2 ^ i % 2 = 1 then ((tmN X Y (i + 1) + tmN X Y (i + 1)) % lN + Y) % lN else (tmN X Y (i + 1) + tmN X Y (i + 1)) % lN) := by
  have h : X / 2 ^ i = 2 * (X / 2 ^ (i + 1)) + X / 2 ^ i % 2 := by
    rw [Nat.pow_succ, ← Nat.div_div_eq_div_mul]; omega
  unfold tmN
  generalize lN = L
  have hb : X / 2 ^ i % 2 = 0 ∨ X / 2 ^ i % 2 = 1 := by omega
  rcases hb with hb | hb
  · rw [if_neg (by omega)]
    conv => lhs; rw [h, hb, Nat.add_zero, Nat.two_mul, Nat.add_mul, Nat.add_mod]
  · rw [if_pos hb]
    conv => lhs; rw [h, hb, Nat.add_mul, Nat.one_mul, Nat.two_mul, Nat.add_mul]
    rw [← Nat.add_mod, Nat.mod_add_mod]
theorem w32_z : w32 [0, 0, 0, 0, 0, 0, 0, 0] := by unfold w32; decide
theorem w32_o : w32 [1, 0, 0, 0, 0, 0, 0, 0] := by unfold w32; decide
theorem tmN_lt (X Y i : Nat) : tmN X Y i < lN := Nat.mod_lt _ (by decide)
theorem nums_inj {k : IntKind} {a b : List Nat} (h : nums k a = nums k b) : a = b := by
  unfold nums at h
  induction a generalizing b with
  | nil => cases b with
    | nil => rfl
    | cons y b => simp at h
  | cons x a ih => cases b with
    | nil => simp at h
    | cons y b =>
      simp only [List.map_cons, List.cons.injEq, Value.int.injEq, true_and] at h
      rw [ih h.2, Int.ofNat.inj h.1]

theorem stimes_f (v u : Value) (x y0 : Nat) (hv : Sc v x) (hu : Sc u y0) (hy : y0 < lN) (A : Mem) : FnX Tryz.prog 124 [v, u] [] A fun r M J => M = [] ∧ J = [] ∧ Sc r (x * y0 % lN) := by
 obtain ⟨a, rfl, a8, a32, av⟩ := hv
 obtain ⟨b, rfl, b8, b32, bv_⟩ := hu
 refine FnX.enter (N := 27) Tryz.func124 rfl rfl rfl fun w => ?_
 refine XC.keep (kq 0 (kq 1 kn)) ?_
 refine XC.reg ?_
 refine XL.lo rfl (bx_ fun b2 => ?_)
 refine XL.lo rfl (bx_ fun b3 => ?_)
 refine XL.lo rfl (l_alloc (cs := [.int .u32 0, .int .u32 0, .int .u32 0, .int .u32 0, .int .u32 0, .int .u32 0, .int .u32 0, .int .u32 0]) (by kernel_rfl) rfl fun b4 => ?_)
 refine XL.fin (kq 2 (kq 3 (kq 4 kn))) ?_
 refine XC.reg ?_
 refine XL.lo rfl (l_alloc (cs := [.int .u32 0, .int .u32 0, .int .u32 0, .int .u32 0, .int .u32 0, .int .u32 0, .int .u32 0, .int .u32 0]) (by kernel_rfl) rfl fun b5 => ?_)
 refine XL.fin (kq 2 (kq 3 (kq 4 (kq 5 kn)))) ?_
 refine XC.seq ?_
 refine XC.reg ?_
 refine as_ ?_
 refine XL.fin (kq 2 (kq 3 (kq 4 (kq 5 (kq 6 kn))))) ?_
 refine XC.block ?_
 refine XC.fit (M' := [(b5, blk (nums .u32 [0, 0, 0, 0, 0, 0, 0, 0]) 160), (b4, blk [.int .u32 0, .int .u32 0, .int .u32 0, .int .u32 0, .int .u32 0, .int .u32 0, .int .u32 0, .int .u32 0] 160), (b3, blk (nums .u32 b) 160), (b2, blk (nums .u32 a) 160)]) (Fit.eq rfl) (fun _ h => h) ?_
 refine XC.loop (α := Nat × List Nat) (fun y => [(2, .pointer (some ⟨b2, 0, none⟩)), (3, .pointer (some ⟨b3, 0, none⟩)), (4, .pointer (some ⟨b4, 0, none⟩)), (5, .pointer (some ⟨b5, 0, none⟩)), (6, .int .i64 ((y.1 : Int) - 1))]) (fun y => [(b5, blk (nums .u32 y.2) 160), (b4, blk [.int .u32 0, .int .u32 0, .int .u32 0, .int .u32 0, .int .u32 0, .int .u32 0, .int .u32 0, .int .u32 0] 160), (b3, blk (nums .u32 b) 160), (b2, blk (nums .u32 a) 160)]) (fun _ => []) (fun y => y.1 ≤ 256 ∧ Sc (.agg (nums .u32 y.2).toArray) (tmN x y0 y.1)) (fun y => y.1) (256, [0, 0, 0, 0, 0, 0, 0, 0]) ⟨Nat.le_refl _, _, rfl, rfl, w32_z, by unfold tmN; rw [Nat.div_eq_of_lt (by have := nv_lt a32; rw [a8, xp8] at this; rw [← av]; exact this), Nat.zero_mul, Nat.zero_mod]; rfl⟩ (kq 2 (kq 3 (kq 4 (kq 5 (kq 6 kn))))) .rfl (fun _ h => h) ?_
 rintro ⟨j, o⟩ ⟨hj, ho⟩
 dsimp only at hj ho ⊢
 have ho0 := ho
 obtain ⟨o_, e_, o8, o32, ov⟩ := ho
 obtain rfl : o = o_ := nums_inj (by simpa using e_)
 refine XC.seq ?_
 refine XC.reg ?_
 refine mv_ ?_
 refine XL.q (q_bin rfl rfl rfl) rfl ?_
 refine XL.fin (kq 2 (kq 3 (kq 4 (kq 5 (kq 6 (kq 8 kn)))))) ?_
 refine XC.cond rfl (fun hc => ?_) (fun hc => ?_)
 ·
  have hj0 : 0 < j := by simp at hc; omega
  obtain ⟨i, rfl⟩ : ∃ i, j = i + 1 := ⟨j - 1, by omega⟩
  rw [show (((i + 1 : Nat) : Int) - 1) = (i : Int) by omega]
  have hts := tm_step x y0 i
  have hwb := word_bit a32 i
  rw [av] at hwb
  have htl := tmN_lt x y0 (i + 1)
  refine XC.skip ?_
  refine nx (kq 2 (kq 3 (kq 4 (kq 5 (kq 6 kn))))) ?_
  refine XC.seq ?_
  refine XC.block ?_
  refine XC.reg ?_
  refine XL.q (q_loadW (n := 8) (cs := nums .u32 o) rfl (by kernel_rfl) At.mem (by rw [nums_len]; omega)) rfl ?_
  refine XL.q (q_loadW (n := 8) (cs := nums .u32 o) rfl (by kernel_rfl) At.mem (by rw [nums_len]; omega)) rfl ?_
  refine XL.call (aS rfl (aS rfl a0)) (by kernel_rfl) (sadd_f _ _ _ _ ho0 ho0 htl htl _) rfl ?_
  rintro r1 M1 J1 ⟨rfl, rfl, k1⟩
  have h1 := k1
  obtain ⟨s, rfl, s8, s32, sv⟩ := k1
  refine XL.lo rfl (l_storeW (vs := nums .u32 s) rfl rfl rfl (by rw [nums_len, s8]; kernel_rfl) (by rw [nums_len, nums_len, o8, s8]) nums_one UpC.upd ?_)
  refine XL.fin (kq 2 (kq 3 (kq 4 (kq 5 (kq 6 kn))))) ?_
  refine XC.reg ?_
  refine mv_ ?_
  refine XL.q (q_quoD 32 rfl rfl rfl (by decide) (wrapI (by omega))) rfl ?_
  refine XL.q (q_idxA (e := 22) (n := 8) (sz := 1) (i := i / 32) rfl rfl (by kernel_rfl) (by kernel_rfl) rfl (by omega)) rfl ?_
  refine XL.q (q_ldN (i / 32) rfl (by kernel_rfl) At.mem (by omega) (by omega)) rfl ?_
  refine mv_ ?_
  refine XL.q (q_remD 32 rfl rfl rfl (by decide)) rfl ?_
  refine XL.q (q_shrI (a := a.getD (i / 32) 0) (b := i % 32) rfl rfl rfl rfl (by show _ ≤ 32; omega)) rfl ?_
  refine XL.q (hwb ▸ q_andD 1 2 rfl rfl rfl rfl rfl (by show _ < 4294967296; exact Nat.lt_of_le_of_lt (Nat.div_le_self _ _) (a32.get _)) (by decide)) rfl ?_
  refine XL.q (q_bin rfl rfl rfl) rfl ?_
  refine XL.fin (kq 2 (kq 3 (kq 4 (kq 5 (kq 6 (kq 22 kn)))))) ?_
  refine XC.cond rfl (fun hc => ?_) (fun hc => ?_)
  ·
   have hb1 : x / 2 ^ i % 2 = 1 := by revert hc; generalize x / 2 ^ i % 2 = z; intro hc; simp at hc; omega
   rw [if_pos hb1] at hts
   refine XC.reg1 ?_
   refine XL.q (q_loadW (n := 8) (cs := nums .u32 s) rfl (by kernel_rfl) At.mem (by rw [nums_len]; omega)) rfl ?_
   refine XL.q (q_loadW (n := 8) (cs := nums .u32 b) rfl (by kernel_rfl) At.mem (by rw [nums_len]; omega)) rfl ?_
   refine XL.call (aS rfl (aS rfl a0)) (by kernel_rfl) (sadd_f _ _ _ _ h1 ⟨b, rfl, b8, b32, bv_⟩ (Nat.mod_lt _ (by decide)) hy _) rfl ?_
   rintro r2 M2 J2 ⟨rfl, rfl, k2⟩
   rw [← hts] at k2
   have h2 := k2
   obtain ⟨t, rfl, t8, t32, tv⟩ := k2
   refine XL.lo rfl (l_storeW (vs := nums .u32 t) rfl rfl rfl (by rw [nums_len, t8]; kernel_rfl) (by rw [nums_len, nums_len, s8, t8]) nums_one UpC.upd ?_)
   refine XL.nil ?_
   refine nb ?_
   refine nx (kq 2 (kq 3 (kq 4 (kq 5 (kq 6 kn))))) ?_
   refine XC.reg1 ?_
   refine mv_ ?_
   refine XL.q (q_num ((i : Int) - 1) rfl rfl (sub64 rfl (by omega) (by omega))) rfl ?_
   refine as_ ?_
   refine XL.nil ?_
   exact rn (i, t) ⟨by dsimp only; omega, h2⟩ (by dsimp only; omega) (kq 2 (kq 3 (kq 4 (kq 5 (kq 6 kn))))) .rfl (fun _ h => h)
  ·
   have hb1 : ¬ x / 2 ^ i % 2 = 1 := by revert hc; generalize x / 2 ^ i % 2 = z; intro hc; simp at hc; omega
   rw [if_neg hb1] at hts
   refine XC.skip ?_
   refine nb ?_
   refine nx (kq 2 (kq 3 (kq 4 (kq 5 (kq 6 kn))))) ?_
   refine XC.reg1 ?_
   refine mv_ ?_
   refine XL.q (q_num ((i : Int) - 1) rfl rfl (sub64 rfl (by omega) (by omega))) rfl ?_
   refine as_ ?_
   refine XL.nil ?_
   exact rn (i, s) ⟨by dsimp only; omega, by dsimp only; rw [hts]; exact h1⟩ (by dsimp only; omega) (kq 2 (kq 3 (kq 4 (kq 5 (kq 6 kn))))) .rfl (fun _ h => h)
 ·
  have hj0 : j = 0 := by simp at hc; omega
  subst hj0
  refine XC.exit ?_
  refine te ?_
  refine re ?_
  refine be rfl ?_
  refine nx (kq 4 (kq 5 kn)) ?_
  refine XC.reg ?_
  refine XL.q (q_loadW (n := 8) (cs := nums .u32 o) rfl (by kernel_rfl) At.mem (by rw [nums_len]; omega)) rfl ?_
  refine XL.lo rfl (l_storeW (vs := nums .u32 o) rfl rfl rfl (by rw [nums_len, o8]; kernel_rfl) (by rw [nums_len, o8]; rfl) nums_one UpC.upd ?_)
  refine XL.fin (kq 4 kn) ?_
  refine XC.ret ?_
  exact ⟨_, [], [], resC (n := 8) rfl rfl (by kernel_rfl) At.mem (by rw [nums_len]; omega), List.nil_sublist _, by simp, rfl, rfl, by rw [show x * y0 % lN = tmN x y0 0 by unfold tmN; rw [Nat.pow_zero, Nat.div_one]]; exact ho0⟩

theorem snumber_f (pv : Value) (p : List Nat) (A : Mem) (hp : Rd A 1 pv p.length (nums .u8 p)) (hp256 : ∀ x ∈ p, x < 256) (hpl : p.length ≤ 1000000) : FnX Tryz.prog 114 [pv] [] A fun r M J => M = [] ∧ J = [] ∧ Sc r (bv p % lN) := by
 haveI := hp.cel
 refine FnX.enter (N := 30) Tryz.func114 rfl rfl rfl fun w => ?_
 refine XC.keep (kq 0 kn) ?_
 refine XC.reg ?_
 refine XL.lo rfl (l_alloc (cs := [.int .u32 0, .int .u32 0, .int .u32 0, .int .u32 0, .int .u32 0, .int .u32 0, .int .u32 0, .int .u32 0]) (by kernel_rfl) rfl fun b2 => ?_)
 refine XL.fin (kq 0 (kq 2 kn)) ?_
 refine XC.reg ?_
 refine XL.lo rfl (l_alloc (cs := [.int .u32 0, .int .u32 0, .int .u32 0, .int .u32 0, .int .u32 0, .int .u32 0, .int .u32 0, .int .u32 0]) (by kernel_rfl) rfl fun b3 => ?_)
 refine XL.fin (kq 0 (kq 2 (kq 3 kn))) ?_
 refine XC.seq ?_
 refine XC.reg ?_
 refine mv_ ?_
 refine XL.q (q_lenV2 (sz := 1) rfl (by kernel_rfl) hp) rfl ?_
 refine XL.q (q_num ((8 * p.length : Nat) : Int) rfl rfl (mul64 (by omega) (by omega) (by omega))) rfl ?_
 refine XL.q (q_num (((8 * p.length : Nat) : Int) - 1) rfl rfl (sub64 rfl (by omega) (by omega))) rfl ?_
 refine as_ ?_
 refine XL.fin (kq 0 (kq 2 (kq 3 (kq 4 kn)))) ?_
 refine XC.block ?_
 refine XC.fit (M' := [(b3, blk (nums .u32 [0, 0, 0, 0, 0, 0, 0, 0]) 160), (b2, blk [.int .u32 0, .int .u32 0, .int .u32 0, .int .u32 0, .int .u32 0, .int .u32 0, .int .u32 0, .int .u32 0] 160)]) (Fit.eq rfl) (fun _ h => h) ?_
 refine XC.loop (α := Nat × List Nat) (fun y => [(0, pv), (2, .pointer (some ⟨b2, 0, none⟩)), (3, .pointer (some ⟨b3, 0, none⟩)), (4, .int .i64 ((y.1 : Int) - 1))]) (fun y => [(b3, blk (nums .u32 y.2) 160), (b2, blk [.int .u32 0, .int .u32 0, .int .u32 0, .int .u32 0, .int .u32 0, .int .u32 0, .int .u32 0, .int .u32 0] 160)]) (fun _ => []) (fun y => y.1 ≤ 8 * p.length ∧ Sc (.agg (nums .u32 y.2).toArray) (tmN (bv p) 1 y.1)) (fun y => y.1) (8 * p.length, [0, 0, 0, 0, 0, 0, 0, 0]) ⟨Nat.le_refl _, _, rfl, rfl, w32_z, by unfold tmN; rw [Nat.div_eq_of_lt (by have := bv_lt hp256; rwa [show 256 ^ p.length = 2 ^ (8 * p.length) by rw [Nat.pow_mul]] at this), Nat.zero_mul, Nat.zero_mod]; rfl⟩ (kq 0 (kq 2 (kq 3 (kq 4 kn)))) .rfl (fun _ h => h) ?_
 rintro ⟨j, o⟩ ⟨hj, ho⟩
 dsimp only at hj ho ⊢
 have ho0 := ho
 obtain ⟨o_, e_, o8, o32, ov⟩ := ho
 obtain rfl : o = o_ := nums_inj (by simpa using e_)
 refine XC.seq ?_
 refine XC.reg ?_
 refine mv_ ?_
 refine XL.q (q_bin rfl rfl rfl) rfl ?_
 refine XL.fin (kq 0 (kq 2 (kq 3 (kq 4 (kq 10 kn))))) ?_
 refine XC.cond rfl (fun hc => ?_) (fun hc => ?_)
 ·
  have hj0 : 0 < j := by simp at hc; omega
  obtain ⟨i, rfl⟩ : ∃ i, j = i + 1 := ⟨j - 1, by omega⟩
  rw [show (((i + 1 : Nat) : Int) - 1) = (i : Int) by omega]
  have hts := tm_step (bv p) 1 i
  have hwb := bv_bit hp256 i
  have htl := tmN_lt (bv p) 1 (i + 1)
  have hpb : p.getD (i / 8) 0 < 256 := getD_lt hp256 (by decide)
  refine XC.skip ?_
  refine nx (kq 0 (kq 2 (kq 3 (kq 4 kn)))) ?_
  refine XC.seq ?_
  refine XC.block ?_
  refine XC.reg ?_
  refine XL.q (q_loadW (n := 8) (cs := nums .u32 o) rfl (by kernel_rfl) At.mem (by rw [nums_len]; omega)) rfl ?_
  refine XL.q (q_loadW (n := 8) (cs := nums .u32 o) rfl (by kernel_rfl) At.mem (by rw [nums_len]; omega)) rfl ?_
  refine XL.call (aS rfl (aS rfl a0)) (by kernel_rfl) (sadd_f _ _ _ _ ho0 ho0 htl htl _) rfl ?_
  rintro r1 M1 J1 ⟨rfl, rfl, k1⟩
  have h1 := k1
  obtain ⟨s, rfl, s8, s32, sv⟩ := k1
  refine XL.lo rfl (l_storeW (vs := nums .u32 s) rfl rfl rfl (by rw [nums_len, s8]; kernel_rfl) (by rw [nums_len, nums_len, o8, s8]) nums_one UpC.upd ?_)
  refine XL.fin (kq 0 (kq 2 (kq 3 (kq 4 kn)))) ?_
  refine XC.reg ?_
  refine mv_ (mv_ ?_)
  refine XL.q (q_quoD 8 rfl rfl rfl (by decide) (wrapI (by omega))) rfl ?_
  refine XL.q (q_atV2 (sz := 1) (a := i / 8) rfl rfl (by kernel_rfl) rfl hp (by omega)) rfl ?_
  refine XL.q (q_ldV (j := i / 8) (u := .int .u8 ((p.getD (i / 8) 0 : Nat) : Int)) (hp.mono SubC.sub) rfl (by kernel_rfl) (nums_get (by omega))) rfl ?_
  refine mv_ ?_
  refine XL.q (q_remD 8 rfl rfl rfl (by decide)) rfl ?_
  refine XL.q (q_shrI (a := p.getD (i / 8) 0) (b := i % 8) rfl rfl rfl rfl (by show _ ≤ 8; omega)) rfl ?_
  refine XL.q (hwb ▸ q_andD 1 2 rfl rfl rfl rfl rfl (by show _ < 256; exact Nat.lt_of_le_of_lt (Nat.div_le_self _ _) hpb) (by decide)) rfl ?_
  refine XL.q (q_bin rfl rfl rfl) rfl ?_
  refine XL.fin (kq 0 (kq 2 (kq 3 (kq 4 (kq 25 kn))))) ?_
  refine XC.cond rfl (fun hc => ?_) (fun hc => ?_)
  ·
   have hb1 : bv p / 2 ^ i % 2 = 1 := by revert hc; generalize bv p / 2 ^ i % 2 = z; intro hc; simp at hc; omega
   rw [if_pos hb1] at hts
   refine XC.reg1 ?_
   refine XL.q (q_loadW (n := 8) (cs := nums .u32 s) rfl (by kernel_rfl) At.mem (by rw [nums_len]; omega)) rfl ?_
   refine XL.q (q_build (place := fun i => some (i * 1, 1)) (z := [.int .u32 0, .int .u32 0, .int .u32 0, .int .u32 0, .int .u32 0, .int .u32 0, .int .u32 0, .int .u32 0]) (fun _ => by kernel_rfl) (eS rfl e0) (bdS 0 1 rfl (by rfl) bd0)) rfl ?_
   refine XL.call (aS rfl (aS rfl a0)) (by kernel_rfl) (sadd_f _ _ _ 1 h1 ⟨[1, 0, 0, 0, 0, 0, 0, 0], rfl, rfl, w32_o, by decide⟩ (Nat.mod_lt _ (by decide)) (by decide) _) rfl ?_
   rintro r2 M2 J2 ⟨rfl, rfl, k2⟩
   rw [← hts] at k2
   have h2 := k2
   obtain ⟨t, rfl, t8, t32, tv⟩ := k2
   refine XL.lo rfl (l_storeW (vs := nums .u32 t) rfl rfl rfl (by rw [nums_len, t8]; kernel_rfl) (by rw [nums_len, nums_len, s8, t8]) nums_one UpC.upd ?_)
   refine XL.nil ?_
   refine nb ?_
   refine nx (kq 0 (kq 2 (kq 3 (kq 4 kn)))) ?_
   refine XC.reg1 ?_
   refine mv_ ?_
   refine XL.q (q_num ((i : Int) - 1) rfl rfl (sub64 rfl (by omega) (by omega))) rfl ?_
   refine as_ ?_
   refine XL.nil ?_
   exact rn (i, t) ⟨by dsimp only; omega, h2⟩ (by dsimp only; omega) (kq 0 (kq 2 (kq 3 (kq 4 kn)))) .rfl (fun _ h => h)
  ·
   have hb1 : ¬ bv p / 2 ^ i % 2 = 1 := by revert hc; generalize bv p / 2 ^ i % 2 = z; intro hc; simp at hc; omega
   rw [if_neg hb1] at hts
   refine XC.skip ?_
   refine nb ?_
   refine nx (kq 0 (kq 2 (kq 3 (kq 4 kn)))) ?_
   refine XC.reg1 ?_
   refine mv_ ?_
   refine XL.q (q_num ((i : Int) - 1) rfl rfl (sub64 rfl (by omega) (by omega))) rfl ?_
   refine as_ ?_
   refine XL.nil ?_
   exact rn (i, s) ⟨by dsimp only; omega, by dsimp only; rw [hts]; exact h1⟩ (by dsimp only; omega) (kq 0 (kq 2 (kq 3 (kq 4 kn)))) .rfl (fun _ h => h)
 ·
  have hj0 : j = 0 := by simp at hc; omega
  subst hj0
  refine XC.exit ?_
  refine te ?_
  refine re ?_
  refine be rfl ?_
  refine nx (kq 2 (kq 3 kn)) ?_
  refine XC.reg ?_
  refine XL.q (q_loadW (n := 8) (cs := nums .u32 o) rfl (by kernel_rfl) At.mem (by rw [nums_len]; omega)) rfl ?_
  refine XL.lo rfl (l_storeW (vs := nums .u32 o) rfl rfl rfl (by rw [nums_len, o8]; kernel_rfl) (by rw [nums_len, o8]; rfl) nums_one UpC.upd ?_)
  refine XL.fin (kq 2 kn) ?_
  refine XC.ret ?_
  exact ⟨_, [], [], resC (n := 8) rfl rfl (by kernel_rfl) At.mem (by rw [nums_len]; omega), List.nil_sublist _, by simp, rfl, rfl, by rw [show bv p % lN = tmN (bv p) 1 0 by unfold tmN; rw [Nat.pow_zero, Nat.div_one, Nat.mul_one]]; exact ho0⟩

theorem sbytes_f (v : Value) (n : Nat) (hv : Sc v n) (A : Mem) : FnV Tryz.prog 111 [v] A (.agg (nums .u8 (digs n 32)).toArray) := by
 obtain ⟨a, rfl, a8, a32, av⟩ := hv
 refine FnX.enter (N := 21) Tryz.func111 rfl rfl rfl fun w => ?_
 refine XC.keep (kq 0 kn) ?_
 refine XC.reg ?_
 refine XL.lo rfl (bx_ fun b1 => ?_)
 refine XL.lo rfl (l_alloc (cs := [.int .u8 0, .int .u8 0, .int .u8 0, .int .u8 0, .int .u8 0, .int .u8 0, .int .u8 0, .int .u8 0, .int .u8 0, .int .u8 0, .int .u8 0, .int .u8 0, .int .u8 0, .int .u8 0, .int .u8 0, .int .u8 0, .int .u8 0, .int .u8 0, .int .u8 0, .int .u8 0, .int .u8 0, .int .u8 0, .int .u8 0, .int .u8 0, .int .u8 0, .int .u8 0, .int .u8 0, .int .u8 0, .int .u8 0, .int .u8 0, .int .u8 0, .int .u8 0]) (by kernel_rfl) rfl fun b2 => ?_)
 refine XL.fin (kq 1 (kq 2 kn)) ?_
 refine XC.reg ?_
 refine XL.lo rfl (l_alloc (cs := [.int .u8 0, .int .u8 0, .int .u8 0, .int .u8 0, .int .u8 0, .int .u8 0, .int .u8 0, .int .u8 0, .int .u8 0, .int .u8 0, .int .u8 0, .int .u8 0, .int .u8 0, .int .u8 0, .int .u8 0, .int .u8 0, .int .u8 0, .int .u8 0, .int .u8 0, .int .u8 0, .int .u8 0, .int .u8 0, .int .u8 0, .int .u8 0, .int .u8 0, .int .u8 0, .int .u8 0, .int .u8 0, .int .u8 0, .int .u8 0, .int .u8 0, .int .u8 0]) (by kernel_rfl) rfl fun b3 => ?_)
 refine XL.fin (kq 1 (kq 2 (kq 3 kn))) ?_
 refine XC.seq ?_
 refine XC.reg ?_
 refine mv_ ?_
 refine XL.fin (kq 1 (kq 2 (kq 3 (kq 5 kn)))) ?_
 refine XC.block ?_
 refine XC.fit (M' := [(b3, blk (nums .u8 (digs n 0 ++ (List.replicate 32 0).drop 0)) 157), (b2, blk [.int .u8 0, .int .u8 0, .int .u8 0, .int .u8 0, .int .u8 0, .int .u8 0, .int .u8 0, .int .u8 0, .int .u8 0, .int .u8 0, .int .u8 0, .int .u8 0, .int .u8 0, .int .u8 0, .int .u8 0, .int .u8 0, .int .u8 0, .int .u8 0, .int .u8 0, .int .u8 0, .int .u8 0, .int .u8 0, .int .u8 0, .int .u8 0, .int .u8 0, .int .u8 0, .int .u8 0, .int .u8 0, .int .u8 0, .int .u8 0, .int .u8 0, .int .u8 0] 157), (b1, blk (nums .u32 a) 160)]) (Fit.eq rfl) (fun _ h => h) ?_
 refine XC.loop (α := Nat) (fun i => [(1, .pointer (some ⟨b1, 0, none⟩)), (2, .pointer (some ⟨b2, 0, none⟩)), (3, .pointer (some ⟨b3, 0, none⟩)), (5, .int .i64 (i : Int))]) (fun i => [(b3, blk (nums .u8 (digs n i ++ (List.replicate 32 0).drop i)) 157), (b2, blk [.int .u8 0, .int .u8 0, .int .u8 0, .int .u8 0, .int .u8 0, .int .u8 0, .int .u8 0, .int .u8 0, .int .u8 0, .int .u8 0, .int .u8 0, .int .u8 0, .int .u8 0, .int .u8 0, .int .u8 0, .int .u8 0, .int .u8 0, .int .u8 0, .int .u8 0, .int .u8 0, .int .u8 0, .int .u8 0, .int .u8 0, .int .u8 0, .int .u8 0, .int .u8 0, .int .u8 0, .int .u8 0, .int .u8 0, .int .u8 0, .int .u8 0, .int .u8 0] 157), (b1, blk (nums .u32 a) 160)]) (fun _ => []) (fun i => i ≤ 32) (fun i => 32 - i) 0 (Nat.zero_le _) (kq 1 (kq 2 (kq 3 (kq 5 kn)))) .rfl (fun _ h => h) ?_
 rintro i hi
 have hdl := digs_len n i
 have hpl : (digs n i ++ (List.replicate 32 0).drop i).length = 32 := part_len hdl (by simp) hi
 refine XC.reg ?_
 refine XL.q (q_bin rfl rfl rfl) rfl ?_
 refine XL.fin (kq 1 (kq 2 (kq 3 (kq 5 (kq 6 kn))))) ?_
 refine XC.seq ?_
 refine XC.cond rfl (fun hc => ?_) (fun hc => ?_)
 ·
  have hlt : i < 32 := by simp at hc; omega
  have hwb := word_byte a32 i
  rw [av] at hwb
  refine XC.skip ?_
  refine nx (kq 1 (kq 2 (kq 3 (kq 5 kn)))) ?_
  refine XC.seq ?_
  refine XC.block ?_
  refine XC.reg ?_
  refine mv_ (as_ ?_)
  refine XL.fin (kq 1 (kq 2 (kq 3 (kq 4 (kq 5 kn))))) ?_
  refine XC.reg1 ?_
  refine mv_ (mv_ ?_)
  refine XL.q (q_quoD 4 rfl rfl rfl (by decide) (wrapI (by omega))) rfl ?_
  refine XL.q (q_idxA (e := 22) (n := 8) (sz := 1) (i := i / 4) rfl rfl (by kernel_rfl) (by kernel_rfl) rfl (by omega)) rfl ?_
  refine XL.q (q_ldN (i / 4) rfl (by kernel_rfl) At.mem (by omega) (by omega)) rfl ?_
  refine mv_ ?_
  refine XL.q (q_remD 4 rfl rfl rfl (by decide)) rfl ?_
  refine XL.q (q_num ((8 * (i % 4) : Nat) : Int) rfl rfl (mul64 (by omega) (by omega) (by omega))) rfl ?_
  refine XL.q (q_shrI (a := a.getD (i / 4) 0) (b := 8 * (i % 4)) rfl rfl rfl rfl (by show _ ≤ 32; omega)) rfl ?_
  refine XL.q (hwb ▸ q_to8 rfl (by kernel_rfl)) rfl ?_
  refine XL.q (q_idxA (e := 5) (n := 32) (sz := 1) (i := i) rfl rfl (by kernel_rfl) (by kernel_rfl) rfl (by omega)) rfl ?_
  refine XL.lo rfl (l_stN i rfl rfl (by kernel_rfl) (by omega) (by omega) UpC.upd ?_)
  refine XL.nil ?_
  refine nb ?_
  refine nx (kq 1 (kq 2 (kq 3 (kq 5 kn)))) ?_
  refine XC.reg1 ?_
  refine XL.q (q_num ((i + 1 : Nat) : Int) rfl rfl (add64 (by omega) (by omega) (by omega))) rfl ?_
  refine mv_ ?_
  refine XL.nil ?_
  exact rn (i + 1) (by omega) (by omega) (kq 1 (kq 2 (kq 3 (kq 5 kn)))) (Fit.eq (by rw [part_set hdl (by simpa using hlt), digs_succ])) (fun _ h => h)
 ·
  have hge : i = 32 := by simp at hc; omega
  subst hge
  rw [show (List.replicate 32 0).drop 32 = ([] : List Nat) from rfl, List.append_nil] at *
  refine XC.exit ?_
  refine te ?_
  refine re ?_
  refine be rfl ?_
  refine nx (kq 2 (kq 3 kn)) ?_
  refine XC.reg ?_
  refine XL.q (q_loadW (n := 32) (cs := nums .u8 (digs n 32)) rfl (by kernel_rfl) At.mem (by rw [nums_len]; omega)) rfl ?_
  refine XL.lo rfl (l_storeW (vs := nums .u8 (digs n 32)) rfl rfl rfl (by rw [nums_len, digs_len]; kernel_rfl) (by rw [nums_len, digs_len]; rfl) nums_one UpC.upd ?_)
  refine XL.fin (kq 2 kn) ?_
  refine XC.ret ?_
  exact ⟨_, [], [], resC (n := 32) rfl rfl (by kernel_rfl) At.mem (by rw [nums_len, digs_len]), List.nil_sublist _, by simp, rfl, rfl, rfl⟩

end Go.Proofs.YtphcaiplgpmnnaaGreatDoor
